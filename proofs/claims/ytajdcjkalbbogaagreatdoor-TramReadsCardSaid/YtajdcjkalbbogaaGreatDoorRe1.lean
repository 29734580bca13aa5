/- A part of the proof. -/
import Derived.Test.YtajdcjkalbbogaaGreatDoorX1
import Derived.Test.YtajdcjkalbbogaaGreatDoorX2
import Derived.Test.YtajdcjkalbbogaaGreatDoorX3
import Derived.Test.YtajdcjkalbbogaaGreatDoorShelf
set_option maxRecDepth 100000
set_option maxHeartbeats 8000000
set_option linter.all false
namespace Go.Proofs.Tram
def fy(seen:Nat->Bool)(s:Nat×List (Nat×Nat))(i:Nat):Nat×List (Nat×Nat):=if seen i=true then s else(i+1,if s.1<i then s.2++[(s.1,i-1)]else s.2)
def ic(seen:Nat->Bool)(n:Nat):List (Nat×Nat):=((List.range (n+1)).foldl (fy seen) (0,[])).2
def Ai(seen:Nat->Bool)(out:List (Nat×Nat))(c:Nat):List (Nat×Nat):=
 if seen c=true then(if 0<c/\seen (c-1)=true then out.dropLast++[((out.getLast?.getD (0,0)).1,c)]else out++[(c,c)])else out
def uw (seen:Nat→Bool) (n:Nat) :
  ((List.range n).foldl (fy seen) (0,[])).1<=n/\(((List.range n).foldl (fy seen) (0,[])).1<n↔0<n/\seen (n-1)=true)/\
   (List.range n).foldl (Ai seen) []=((List.range n).foldl (fy seen) (0,[])).2++(if((List.range n).foldl (fy seen) (0,[])).1<n then[(((List.range n).foldl (fy seen) (0,[])).1,n-1)]else[]):=by
 induction n with
 |zero=>simp
 |succ n ih=>
  rw[afs,aff,aff]
  generalize(List.range n).foldl (fy seen) (0,[])=s at*
  generalize(List.range n).foldl (Ai seen) []=r at*
  obtain⟨h1,h2,h3⟩:=ih;simp only[List.foldl_cons,List.foldl_nil,afS]
  cases hs:seen n with
  |true=>
   have e1:fy seen s n=s:=by simp[fy,hs]
   rw[e1];refine⟨zo,⟨λ_=>⟨zo,by first|exact hs|rfl⟩,λ_=>zo⟩,?_⟩;rw[if_pos (by omega:s.1<n+1)];unfold Ai;rw[if_pos hs]
   by_cases aN:s.1<n
   .rw[if_pos (h2.1 aN),h3,if_pos aN];simp
   .have:s.1=n:=zo
    rw[if_neg (λh=>aN (h2.2 h)),h3,if_neg aN,afe,this]
  |false=>
   have e1:fy seen s n=(n+1,if s.1<n then s.2++[(s.1,n-1)]else s.2):=by simp[fy,hs]
   have e2:Ai seen r n=r:=by simp[Ai,hs]
   rw[e1,e2];refine⟨aed _,ah7,?_⟩;simp only[ah4,aeA,afe];rw[h3]
   split<;>simp
def eZ:List Int->Int->Nat×Int
 |[],t=>(0,t)
 |x::l,t=>if x<=t then((eZ l (t-x)).1+1,(eZ l (t-x)).2)else(0,t)
def wQ:∀(l:List Int)(t:Int),(eZ l t).1<=l.length
 |[],_=>aed _
 |x::l,t=>by
  unfold eZ;split
  .simpa using wQ l (t-x)
  .simp
def AS:∀(l:List Int)(t:Int),0<=t->0<=(eZ l t).2
 |[],_,h=>h
 |x::l,t,h=>by
  unfold eZ;split
  .exact AS l (t-x) zo
  .exact h
def GU:∀(l:List Int)(t:Int)(x:Int),l[(eZ l t).1]?=some x->(eZ l t).2<x
 |[],_,_,h=>by simp at h
 |y::l,t,x,h=>by
  unfold eZ at h⊢;split at h
  .rename_i hy;rw[if_pos hy];simp only[List.getElem?_cons_succ]at h;exact GU l (t-y) x h
  .rename_i hy;rw[if_neg hy];simp only[List.getElem?_cons_zero,aeJ]at h;simp only;omega
def ME:∀(l:List Int)(a b:Int),0<=b->eZ l (a+b)=((eZ l a).1+(eZ (l.drop (eZ l a).1) ((eZ l a).2+b)).1,(eZ (l.drop (eZ l a).1) ((eZ l a).2+b)).2)
 |[],a,b,_=>by simp[eZ]
 |x::l,a,b,hb=>by
  by_cases h:x<=a
  .have e:eZ (x::l) a=((eZ l (a-x)).1+1,(eZ l (a-x)).2):=by rw[eZ];rw[if_pos h]
   rw[e]
   have e2:eZ (x::l) (a+b)=((eZ l (a+b-x)).1+1,(eZ l (a+b-x)).2):=by
    rw[eZ];rw[if_pos zo]
   rw[e2,show a+b-x=(a-x)+b by omega,ME l (a-x) b hb];simp only[ah_]
   ext<;>simp<;>omega
  .have e:eZ (x::l) a=(0,a):=by rw[eZ];rw[if_neg h]
   rw[e];simp
def yS:∀(l:List Int)(t:Int)(k:Nat),k<=(eZ l t).1->eZ l t=(k+(eZ (l.drop k) (t-(l.take k).sum)).1,(eZ (l.drop k) (t-(l.take k).sum)).2)
 |_,_,0,_=>ah7
 |[],t,k+1,h=>by simp[eZ]at h
 |x::l,t,k+1,h=>by
  by_cases hx:x<=t
  .have e:eZ (x::l) t=((eZ l (t-x)).1+1,(eZ l (t-x)).2):=by rw[eZ];rw[if_pos hx]
   rw[e]at h⊢;have:=yS l (t-x) k (by simpa using h);rw[this];simp only[ah_,List.take_succ_cons,List.sum_cons];rw[show t-x-(l.take k).sum=t-(x+(l.take k).sum) by omega]
   ext<;>simp<;>omega
  .rw[eZ,if_neg hx]at h;simp at h
def nw(dK:Nat->Int)(a b:Nat):Int:=((List.range' a (b-a)).map dK).sum
def ym(dK:Nat->Int){a b:Nat}(h:a<=b):nw dK a (b+1)=nw dK a b+dK b:=by
 unfold nw;rw[show b+1-a=(b-a)+1 by omega,agO,aeB,afz];simp
 congr 1;omega
def DI(dK:Nat->Int)(a:Nat):nw dK a a=0:=by simp[nw]
def gX(ba:List Int)(dK:Nat->Int)(vs:List (Nat×Nat)):Nat:=vs.foldl (λn v=>n+(eZ (ba.drop n) (nw dK v.1 (v.2+1))).1) 0
def pd(ba:List Int)(dK:Nat->Int)(seen:Nat->Bool)(s:Nat×Int)(i:Nat):Nat×Int:=
 if seen i=true then(s.1+(eZ (ba.drop s.1) (s.2+dK i)).1,(eZ (ba.drop s.1) (s.2+dK i)).2)else(s.1,0)
def nj(ba:List Int)(dK:Nat->Int)(seen:Nat->Bool)(n:Nat):Nat×Int:=(List.range n).foldl (pd ba dK seen) (0,0)
def sU(ba:List Int)(dK:Nat->Int)(l:List (Nat×Nat))(v:Nat×Nat):gX ba dK (l++[v])=gX ba dK l+(eZ (ba.drop (gX ba dK l)) (nw dK v.1 (v.2+1))).1:=by
 unfold gX;rw[aff];rfl
def EF(ba:List Int)(dK:Nat->Int)(s:Nat×List (Nat×Nat))(n:Nat):Nat×Int:=
 if s.1<n then(gX ba dK s.2+(eZ (ba.drop (gX ba dK s.2)) (nw dK s.1 n)).1,(eZ (ba.drop (gX ba dK s.2)) (nw dK s.1 n)).2)else(gX ba dK s.2,0)
def OF(ba:List Int){dK:Nat->Int}(hr:∀i,0<=dK i)(seen:Nat->Bool)(s:Nat×List (Nat×Nat)){n:Nat}(hle:s.1<=n):pd ba dK seen (EF ba dK s n) n=EF ba dK (fy seen s n) (n+1):=by
 cases hs:seen n with
 |true=>
  have e1:fy seen s n=s:=by simp[fy,hs]
  rw[e1];unfold pd EF;rw[if_pos hs,if_pos (by omega:s.1<n+1),ym dK hle]
  by_cases aN:s.1<n
  .rw[if_pos aN];simp only;rw[ME _ (nw dK s.1 n) (dK n) (hr n),agA]
   ext<;>simp<;>omega
  .have:s.1=n:=zo
   rw[if_neg aN,this,DI]
 |false=>
  have e1:fy seen s n=(n+1,if s.1<n then s.2++[(s.1,n-1)]else s.2):=by simp[fy,hs]
  rw[e1];unfold pd EF;rw[if_neg (by simp[hs])];simp only[ah4,aeA]
  by_cases aN:s.1<n
  .rw[if_pos aN,if_pos aN,sU];simp only;rw[show n-1+1=n by omega]
  .rw[if_neg aN,if_neg aN]
def Hj(ba:List Int){dK:Nat->Int}(hr:∀i,0<=dK i)(seen:Nat->Bool):∀n,nj ba dK seen n=EF ba dK ((List.range n).foldl (fy seen) (0,[])) n
 |0=>by simp[nj,gX,EF]
 |n+1=>by
  have e1:nj ba dK seen (n+1)=pd ba dK seen (nj ba dK seen n) n:=by
   unfold nj;rw[afs,aff];rfl
  have e2:(List.range (n+1)).foldl (fy seen) (0,[])=fy seen ((List.range n).foldl (fy seen) (0,[])) n:=by
   rw[afs,aff];rfl
  rw[e1,e2,Hj ba hr seen n];exact OF ba hr seen _ (uw seen n).1
def CB{ba:List Int}{dK:Nat->Int}(hr:∀i,0<=dK i){seen:Nat->Bool}{n:Nat}(hn:seen n=false):gX ba dK (ic seen n)=(nj ba dK seen n).1:=by
 have h:=Hj ba hr seen (n+1);have hv:=uw seen (n+1)
 have h2:¬((List.range (n+1)).foldl (fy seen) (0,[])).1<n+1:=λhl=>by
  have:=(hv.2.1.1 hl).2;rw[afS,hn]at this;cases this
 unfold EF at h;rw[if_neg h2]at h
 have e:nj ba dK seen (n+1)=pd ba dK seen (nj ba dK seen n) n:=by
  unfold nj;rw[afs,aff];rfl
 rw[e]at h;unfold pd at h;rw[if_neg (by simp[hn])]at h;exact(congrArg Prod.fst h).symm
def AF(a b:Nat×Int):Prop:=a.1<b.1\/(a.1=b.1/\a.2<=b.2)
def HF:∀(la lb:List Int)(ta tb:Int),la.length=lb.length->(∀j (h:j<la.length)(h':j<lb.length),lb[j]<=la[j])->ta<=tb->AF (eZ la ta) (eZ lb tb)
 |[],[],ta,tb,_,_,ht=>.inr ⟨rfl,ht⟩
 |[],_::_,_,_,h,_,_=>by simp at h
 |_::_,[],_,_,h,_,_=>by simp at h
 |x::la,y::lb,ta,tb,hl,h,ht=>by
  have h0:=h 0 ah7 ah7;simp only[List.getElem_cons_zero]at h0
  by_cases hx:x<=ta
  .have e1:eZ (x::la) ta=((eZ la (ta-x)).1+1,(eZ la (ta-x)).2):=by rw[eZ];rw[if_pos hx]
   have e2:eZ (y::lb) tb=((eZ lb (tb-y)).1+1,(eZ lb (tb-y)).2):=by rw[eZ];rw[if_pos zo]
   rw[e1,e2]
   rcases HF la lb (ta-x) (tb-y) (by simpa using hl) (λj hj eX=>h (j+1) (ag7 hj) (ag7 eX)) zo with hm|⟨hm,hm2⟩
   .exact .inl (by simp only;omega)
   .exact .inr ⟨by simp only;omega,hm2⟩
  .have e1:eZ (x::la) ta=(0,ta):=by rw[eZ];rw[if_neg hx]
   rw[e1]
   by_cases hy:y<=tb
   .have e2:eZ (y::lb) tb=((eZ lb (tb-y)).1+1,(eZ lb (tb-y)).2):=by rw[eZ];rw[if_pos hy]
    rw[e2];exact .inl ah7
   .have e2:eZ (y::lb) tb=(0,tb):=by rw[eZ];rw[if_neg hy]
    rw[e2];exact .inr ⟨rfl,ht⟩
structure Calm(ba:List Int)(s:Nat×Int):Prop where
 left:0<=s.2
 next:∀x,ba[s.1]?=some x->s.2<x
def CS{ba:List Int}(hp:∀x∈ba,0<x){dK:Nat->Int}(hr:∀i,0<=dK i)(seen:Nat->Bool){s:Nat×Int}(h:Calm ba s)(i:Nat):Calm ba (pd ba dK seen s i):=by
 unfold pd;split
 .refine⟨AS _ _ (by have:=h.left;have:=hr i;omega),λx hx=>?_⟩;refine GU (ba.drop s.1) (s.2+dK i) x ?_;rw[agr];exact hx
 .exact⟨af5 _,λx hx=>hp x (afk hx)⟩
def Ls {na nb:List Int} (hl:na.length=nb.length) (hn:∀ j (h:j < na.length) (h':j < nb.length),nb[j]≤na[j]) (hp:∀ x∈nb,0 < x) {ra rb:Nat→Int} (L6:∀ i,0≤ra i) {sa sb:Nat→Bool} {i:Nat} (hs:sa i=true→sb i=true) (hr:sa i=true→ra i≤rb i) (zu:∀ i,0≤rb i)
  {a b:Nat×Int} (ha:Calm na a) (hb:Calm nb b) (h:AF a b):AF (pd na ra sa a i) (pd nb rb sb b i):=by
 have UE:∀x∈na,0<x:=λx hx=>by
  obtain⟨j,hj,rfl⟩:=ae5 hx;have:=hn j hj zo;have:=hp _ (ad2 (by omega:j<nb.length));omega
 have lift:∀k ta tb,ta<=tb->AF (k+(eZ (na.drop k) ta).1,(eZ (na.drop k) ta).2) (k+(eZ (nb.drop k) tb).1,(eZ (nb.drop k) tb).2):=λk ta tb ht=>by
  rcases HF (na.drop k) (nb.drop k) ta tb (by simp;omega) (λj hj eX=>by simpa using hn (k+j) (by simp at hj;omega) (by simp at eX;omega)) ht with hm|⟨hm,hm2⟩
  .exact .inl (by simp only;omega)
  .exact .inr ⟨by simp only;omega,hm2⟩
 have hla:=ha.left;have Fc:=hb.left;have adZ:=L6 i;have adW:=zu i;unfold pd
 cases hsa:sa i with
 |false=>
  simp only[aek,aeA];split
  .have:=AS (nb.drop b.1) (b.2+rb i) zo
   rcases h with h|⟨h,_⟩
   .exact .inl (by simp only;omega)
   .by_cases h0:(eZ (nb.drop b.1) (b.2+rb i)).1=0
    .exact .inr ⟨by simp only;omega,this⟩
    .exact .inl (by simp only;omega)
  .rcases h with h|⟨h,_⟩
   .exact .inl h
   .exact .inr ⟨h,af5 _⟩
 |true=>
  have hr:=hr hsa;rw[if_pos rfl,if_pos (hs hsa)]
  rcases h with h|⟨h1,h2⟩
  .by_cases hk:b.1-a.1<=(eZ (na.drop a.1) (a.2+ra i)).1
   .rw[yS (na.drop a.1) (a.2+ra i) (b.1-a.1) hk,agA,show a.1+(b.1-a.1)=b.1 by omega];simp only;rw[show a.1+(b.1-a.1+(eZ (na.drop b.1) (a.2+ra i-((na.drop a.1).take (b.1-a.1)).sum)).1)=b.1+(eZ (na.drop b.1) (a.2+ra i-((na.drop a.1).take (b.1-a.1)).sum)).1 by omega];refine lift b.1 _ _ ?_
    have aN:a.1<na.length:=by
     have:=wQ (na.drop a.1) (a.2+ra i);rw[aeM]at this;omega
    have WH:=ha.next na[a.1] (ad_ aN)
    have xE:na[a.1]<=((na.drop a.1).take (b.1-a.1)).sum:=by
     rw[afT aN,show b.1-a.1=(b.1-a.1-1)+1 by omega,List.take_succ_cons,List.sum_cons]
     have:0<=(((na.drop (a.1+1)).take (b.1-a.1-1))).sum:=by
      have ky:∀l:List Int,(∀x∈l,0<x)->0<=l.sum:=by
       intro l
       induction l with
       |nil=>simp
       |cons x l ih=>
        intro hx;have:=hx x ah7
        have:=ih λy hy=>hx y (aei _ hy)
        simp;omega
      exact ky _ λx hx=>UE x (agf (aeL hx))
     omega
    omega
   .exact .inl (by simp only;omega)
  .rw[h1];exact lift b.1 _ _ zo
def B_{na nb:List Int}(hl:na.length=nb.length)(hn:∀j (h:j<na.length)(h':j<nb.length),nb[j]<=na[j])(hp:∀x∈nb,0<x){ra rb:Nat->Int}(L6:∀i,0<=ra i)(zu:∀i,0<=rb i){sa sb:Nat->Bool}:∀n,(∀i,i<n->sa i=true->sb i=true/\ra i<=rb i)->AF (nj na ra sa n) (nj nb rb sb n)/\Calm na (nj na ra sa n)/\Calm nb (nj nb rb sb n)
 |0,_=>by
  have UE:∀x∈na,0<x:=λx hx=>by
   obtain⟨j,hj,rfl⟩:=ae5 hx;have:=hn j hj zo;have:=hp _ (ad2 (by omega:j<nb.length));omega
  exact⟨.inr ⟨rfl,af5 _⟩,⟨af5 _,λx hx=>UE x (afk hx)⟩,⟨af5 _,λx hx=>hp x (afk hx)⟩⟩
 |n+1,h=>by
  obtain⟨h1,h2,h3⟩:=B_ hl hn hp L6 zu n (λi hi=>h i zo)
  have UE:∀x∈na,0<x:=λx hx=>by
   obtain⟨j,hj,rfl⟩:=ae5 hx;have:=hn j hj zo;have:=hp _ (ad2 (by omega:j<nb.length));omega
  have e:∀(q:List Int)(r:Nat->Int)(s:Nat->Bool),nj q r s (n+1)=pd q r s (nj q r s n) n:=λq r s=>by
   unfold nj;rw[afs,aff];rfl
  rw[e,e];exact⟨Ls hl hn hp L6 (λhs=>(h n zo hs).1) (λhs=>(h n zo hs).2) zu h2 h3 h1,CS UE L6 sa h2 n,CS hp zu sb h3 n⟩
def Pw {na nb:List Int} (hl:na.length=nb.length) (hn:∀ j (h:j < na.length) (h':j < nb.length),nb[j]≤na[j]) (hp:∀ x∈nb,0 < x) {ra rb:Nat→Int} (L6:∀ i,0≤ra i) (zu:∀ i,0≤rb i) {sa sb:Nat→Bool} {n:Nat} (ha:sa n=false) (hb:sb n=false)
  (h:∀i,i<n->sa i=true->sb i=true/\ra i<=rb i):gX na ra (ic sa n)<=gX nb rb (ic sb n):=by
 rw[CB L6 ha,CB zu hb]
 rcases(B_ hl hn hp L6 zu n h).1 with h|⟨h,_⟩
 .omega
 .omega
def Lu (seen:Nat→Bool) (n:Nat) :
  (∀v∈((List.range n).foldl (fy seen) (0,[])).2,v.1<=v.2/\v.2+2<=((List.range n).foldl (fy seen) (0,[])).1)/\(((List.range n).foldl (fy seen) (0,[])).2).Pairwise (λu v=>u.2+1<v.1)/\
   ∀c,c<n->(seen c=true↔(∃v∈((List.range n).foldl (fy seen) (0,[])).2,v.1<=c/\c<=v.2)\/((List.range n).foldl (fy seen) (0,[])).1<=c):=by
 induction n with
 |zero=>simp
 |succ n ih=>
  have hle:=(uw seen n).1;rw[afs,aff]
  generalize(List.range n).foldl (fy seen) (0,[])=s at*
  simp only[List.foldl_cons,List.foldl_nil];obtain⟨h1,h2,h3⟩:=ih
  cases hs:seen n with
  |true=>
   have e1:fy seen s n=s:=by simp[fy,hs]
   rw[e1];refine⟨h1,h2,λc hc=>?_⟩
   by_cases C5:c=n
   .subst C5;exact⟨λ_=>.inr hle,λ_=>hs⟩
   .exact h3 c zo
  |false=>
   have e1:fy seen s n=(n+1,if s.1<n then s.2++[(s.1,n-1)]else s.2):=by simp[fy,hs]
   rw[e1];simp only
   by_cases aN:s.1<n
   .rw[if_pos aN];refine⟨λv hv=>?_,?_,λc hc=>?_⟩
    .rcases aeg.1 hv with hv|hv
     .have:=h1 v hv;omega
     .simp only[aev]at hv;subst hv;simp only;omega
    .rw[agE];refine⟨h2,ah7,λu hu v hv=>?_⟩;simp only[aev]at hv;subst hv;have:=h1 u hu;simp only;omega
    .by_cases C5:c=n
     .subst C5;rw[hs];refine⟨λh=>by(cases h),λh=>?_⟩;rcases h with⟨v,hv,gm,fM⟩|h
      .rcases aeg.1 hv with hv|hv
       .have:=h1 v hv;omega
       .simp only[aev]at hv;subst hv;simp only at fM;omega
      .omega
     .rw[h3 c zo];refine⟨λh=>.inl ?_,λh=>?_⟩
      .rcases h with⟨v,hv,hvc⟩|h
       .exact⟨v,age _ hv,hvc⟩
       .exact⟨(s.1,n-1),ah7,h,by simp only;omega⟩
      .rcases h with⟨v,hv,gm,fM⟩|h
       .rcases aeg.1 hv with hv|hv
        .exact .inl ⟨v,hv,gm,fM⟩
        .simp only[aev]at hv;subst hv;exact .inr gm
       .omega
   .rw[if_neg aN];refine⟨λv hv=>?_,h2,λc hc=>?_⟩
    .have:=h1 v hv;omega
    .by_cases C5:c=n
     .subst C5;rw[hs];refine⟨λh=>by(cases h),λh=>?_⟩;rcases h with⟨v,hv,gm,fM⟩|h
      .have:=h1 v hv;omega
      .omega
     .rw[h3 c zo];refine⟨λh=>?_,λh=>?_⟩
      .rcases h with h|h
       .exact .inl h
       .omega
      .rcases h with h|h
       .exact .inl h
       .omega
def GQ{seen:Nat->Bool}{n:Nat}(hn:seen n=false):(∀v∈ic seen n,v.1<=v.2/\v.2<n)/\(ic seen n).Pairwise (λu v=>u.2+1<v.1)/\∀c,c<n->(seen c=true↔∃v∈ic seen n,v.1<=c/\c<=v.2):=by
 obtain⟨h1,h2,h3⟩:=Lu seen (n+1);have hv:=uw seen (n+1)
 have h4:¬((List.range (n+1)).foldl (fy seen) (0,[])).1<n+1:=λhl=>by
  have:=(hv.2.1.1 hl).2;rw[afS,hn]at this;cases this
 have h5:=hv.1;unfold ic
 generalize(List.range (n+1)).foldl (fy seen) (0,[])=s at*
 refine⟨λv hv=>?_,h2,λc hc=>?_⟩
 .have:=h1 v hv;omega
 .rw[h3 c zo];refine⟨λh=>?_,λh=>.inl h⟩;rcases h with h|h
  .exact h
  .omega
def Bc(ba:List Int)(dK:Nat->Int)(vs:List (Nat×Nat)):gX ba dK vs<=ba.length:=by
 have main:∀(r:List (Nat×Nat)),gX ba dK r.reverse<=ba.length:=by
  intro r
  induction r with
  |nil=>simp[gX]
  |cons v r ih=>
   rw[List.reverse_cons,sU];have:=wQ (ba.drop (gX ba dK r.reverse)) (nw dK v.1 (v.2+1));rw[aeM]at this;omega
 have:=main vs.reverse;rwa [List.reverse_reverse]at this
structure J_(f:Nat->Nat)(m a w:Nat):Prop where
 place:1<=a/\a<=m
 words:w=f a
 most:∀n,1<=n->n<=m->f n<=w/\(f n=w->a<=n)
def J_.unique{f:Nat->Nat}{m a w a' w':Nat}(h:J_ f m a w)(h':J_ f m a' w'):a=a'/\w=w':=by
 have h1:=h.most a' h'.place.1 h'.place.2;have h2:=h'.most a h.place.1 h.place.2;have e1:=h.words;have e2:=h'.words
 have hw:w=w':=zo
 have:=h1.2 zo;have:=h2.2 zo;exact⟨zo,hw⟩
def tD(x:Nat×Nat)(l:List (Nat×Nat)):Nat×Nat:=l.foldl (λo y=>if o.2<y.2 then y else o) x
def jN(f:Nat->Nat)(a m:Nat):List (Nat×Nat):=(List.range' a m).map λn=>(n,f n)
def rU(p:Nat->Bool)(k n:Nat):Prop:=n<=k/\(∀x,x<n->p x=false)/\(n<k->p n=true)
def rU.unique{p:Nat->Bool}{k m n:Nat}(h:rU p k m)(h':rU p k n):m=n:=by
 rcases Nat.lt_trichotomy m n with aN|rfl|aN
 .have h1:=h.2.2 (by have:=h'.1;omega);have h2:=h'.2.1 m aN;rw[h1]at h2;cases h2
 .rfl
 .have h1:=h'.2.2 (by have:=h.1;omega);have h2:=h.2.1 n aN;rw[h1]at h2;cases h2
def W2{p:Nat->Bool}(hm:∀x y,x<=y->p x=true->p y=true){i j:Nat}(th:i<j)(vv:∀x,x<i->p x=false):i<=(i+j)/2/\(i+j)/2<j/\(p ((i+j)/2)=false->∀x,x<(i+j)/2+1->p x=false):=by
 refine⟨zo,zo,λh x hx=>?_⟩
 cases hp:p x with
 |false=>rfl
 |true=>
  have:=hm x _ (by omega:x<=(i+j)/2) hp;rw[h]at this;cases this
structure Jc(p:Nat->Nat->Bool)(m c t:Nat):Prop where
 cell:c<m
 Yy:p c t=true
 less:∀c' n,c'<m->p c' n=true->t<=n/\(n=t->c<=c')
def Jc.unique{p:Nat->Nat->Bool}{m c t c' t':Nat}(h:Jc p m c t)(h':Jc p m c' t'):c=c'/\t=t':=by
 have h1:=h.less c' t' h'.cell h'.Yy;have h2:=h'.less c t h.cell h.Yy
 have ht:t=t':=zo
 subst ht;have:=h1.2 rfl;have:=h2.2 rfl;exact⟨zo,rfl⟩
def tC(x:Nat×Nat)(l:List (Nat×Nat)):Nat×Nat:=l.foldl (λo y=>if y.2<o.2 then y else o) x
def iC(f:Nat->Nat)(most:Nat)(m:Nat):List (Nat×Nat):=(List.range m).filterMap λi=>if f i<=most then some (i,f i)else none
def Is(f:Nat->Nat)(most m:Nat):iC f most (m+1)=iC f most m++(if f m<=most then[(m,f m)]else[]):=by
 unfold iC;rw[afs,List.filterMap_append]
 congr 1
 by_cases h:f m<=most<;>simp[h]
def KH{f:Nat->Nat}{most m:Nat}{x:Nat×Nat}:x∈iC f most m↔x.1<m/\x.2=f x.1/\f x.1<=most:=by
 unfold iC;rw[af7]
 constructor
 .rintro⟨i,hi,he⟩;split at he
  .cases he;exact⟨aeI.1 hi,rfl,by assumption⟩
  .cases he
 .rintro⟨h1,h2,h3⟩;refine⟨x.1,aeI.2 h1,?_⟩;rw[if_pos h3,<-h2]
def Pl{p:Nat->Nat->Bool}{f:Nat->Nat}{most m:Nat}(hf:∀i,i<m->rU (p i) (most+1) (f i)){c n:Nat}(hc:c<m)(hn:n<=most)(hp:p c n=true):∃x l,iC f most m=x::l:=by
 cases hs:iC f most m with
 |cons x l=>exact⟨x,l,rfl⟩
 |nil=>
  have hle:f c<=n:=by
   rcases afB n (f c)with h|h
   .have:=(hf c hc).2.1 n h;rw[hp]at this;cases this
   .exact h
  have:(c,f c)∈iC f most m:=KH.2 ⟨hc,rfl,by show f c<=most;omega⟩;rw[hs]at this;cases this
def nY:∀{l:List Int},(∀x∈l,0<x)->0<=l.sum
 |[],_=>ah7
 |x::l,h=>by
  have:=h x ah7
  have:=nY (l:=l) λy hy=>h y (aei _ hy)
  simp only[List.sum_cons];omega
def Nb:∀{l:List Int}{t:Int},(∀x∈l,0<x)->0<=t->((eZ l t).1=l.length↔l.sum<=t)
 |[],t,_,ht=>by simp[eZ,ht]
 |x::l,t,h,ht=>by
  have h0:=h x ah7
  have hl:=λy hy=>h y (aei _ hy)
  have hs:=nY hl
  by_cases hx:x<=t
  .have e:eZ (x::l) t=((eZ l (t-x)).1+1,(eZ l (t-x)).2):=by rw[eZ];rw[if_pos hx]
   rw[e];have:=Nb (l:=l) (t:=t-x) hl zo;simp only[List.length_cons,List.sum_cons]
   constructor
   .intro h1;have:=this.1 zo;omega
   .intro h1;have:=this.2 zo;omega
  .have e:eZ (x::l) t=(0,t):=by rw[eZ];rw[if_neg hx]
   rw[e];simp only[List.length_cons,List.sum_cons]
   constructor
   .intro h1;omega
   .intro h1;omega
end Go.Proofs.Tram
namespace Go.Proofs.Tryz
open Go.AL
variable{GI:World->Prop}
def d_:prog.follows .mixedOrders=true:=by kernel_rfl
def dF{GI:World->Prop}(hG:aQ GI){f:Nat}{fn:Func}{c:Code}{args:List AV}{out:jr}{n:Nat}(hf:prog.funcs[f]?=some fn)(hn:fn.ntmps=n)(ac:ah)(h:cW prog GI ac (post prog n fn.results.toList out) (AL.start args) (λ_=>none))(hl:args.length<=n:=by simp)(hb:fn.body=some c:=by rfl)(hc:ez prog n c=ac:=by kernel_rfl):AC prog GI f args out:=AC.T4 hG d_ hf hb hn hl hc h
def Yb (hG:aQ GI) (es:List AV) (df:br 1 es=true) (hl:es.length < 1048576) :
  AC prog GI 74 [.slice .view es] (.ret (.slice (if es.isEmpty then .nil else .own 3) es)):=by
 refine dF hG func74 ntmps74 c74 ?_
 cases es with
 |nil=>simp[c74,cW,cQ,an,cy,ar,ev,aM.S,aM.H,bj,bD,aF,bl,AL.start,AV.bC,br,post,bQ,bG,bH,AV.out,AV.aX]
 |cons x es=>
  have pk:es.length+1<1048576:=hl;simp[c74,cW,cQ,an,cy,ar,ev,aM.S,aM.H,bj,bD,aF,bl,AL.start,AV.bC,df,pk,post,bQ,bG,bH,AV.out,AV.aX]
def ZQ (hG:aQ GI) (es:List AV) (df:br 2 es=true) (hl:es.length < 1048576) :
  AC prog GI 168 [.slice .view es] (.ret (.slice (if es.isEmpty then .nil else .own 180) es)):=by
 refine dF hG func168 ntmps168 c168 ?_
 cases es with
 |nil=>simp[c168,cW,cQ,an,cy,ar,ev,aM.S,aM.H,bj,bD,aF,bl,AL.start,AV.bC,br,post,bQ,bG,bH,AV.out,AV.aX]
 |cons x es=>
  have pk:es.length+1<1048576:=hl;simp[c168,cW,cQ,an,cy,ar,ev,aM.S,aM.H,bj,bD,aF,bl,AL.start,AV.bC,df,pk,post,bQ,bG,bH,AV.out,AV.aX]
end Go.Proofs.Tryz
namespace Go.Proofs.Tryz
open Go Go.AL Go.RowKit Go.Proofs Go.Proofs.Tram
abbrev End:=Int×Int
def dz(e:End):AV:=.agg [.int .i64 e.1,.int .i64 e.2]
def ct(l:List End):List AV:=l.map dz
def cU(out:List Int)(es:List End):AV:=.agg [.slice .view (ints out),.slice .view (ct es)]
def lp:List End->List End->Nat->List (List End)
 |_,[],_=>[]
 |now,a::r,m=>(if r=[]then[now++[a]]else match m with|0=>[]|m+1=>lp (now++[a]) r m)++lp now r m
def ch(now l:List End)(m:Nat):List (List End):=if l=[]then[now]else match m with|0=>[]|m+1=>lp now l m
variable{GI:World->Prop}{l:Nat}{xs:List AV}
structure Fx(C:Cons prog GI l xs)(all:List End)(out:List Int)(fA:List AV)(rows:Nat) where
 bN:Nat
 cA:Value
 cY:Value
 cO:Value
 cF:Value
 cR:Value
 MI:Nat->Prop
 wI:World
 bA:Nat
 GF:Value
 R9:cA=.pointer (some ⟨bA,0,none⟩)
 Xa:MI bA/\bA<bN
 hA2:∃ty,wI.heap[bA]?=some (.cells #[GF] ty (0,0))
 hY:RV (λb _=>MI b) dW wI (.ref [.val (.func (.yield l) #[] #[])]) cY
 hR:RV (λb _=>MI b) dW wI (.ref [.val (.func (.func 167) #[] #[cA,cY,cO,.pointer (some ⟨bN,0,none⟩),cF,cR])]) cR
 f9:fA[9]?=some (.int .i64 rows)
variable{C:Cons prog GI l xs}{all:List End}{out:List Int}{fA:List AV}{rows:Nat}
structure St(X:Fx C all out fA rows)(k:Nat)(M:Nat->Prop)(Pr:Nat->Nat->Prop)(es:List End)(w:World):Prop where
 j:C.J k M Pr w
 lt:∀b,M b->b<w.heap.size
 mi:∀b,X.MI b->M b/\b≠X.bN/\w.heap[b]?=X.wI.heap[b]?
 now:∃v ty xx,w.heap[X.bN]?=some (.cells #[v] ty (0,0))/\M X.bN/\w.ownsRow (X.bN+1) 180 2 v es.length xx/\jS (λ_ _=>False) w 2 (ct es) xx/\∀b,v.ownBlock=some b->M b/\¬X.MI b
 f:RV Pr dW w (.ref fA) X.cF
 o:RV Pr dW w (.ref [.slice .view (ints out)]) X.cO
 e:RD (λb k=>b<X.bN/\(X.MI b\/Pr b k)) w (.slice .view (ct all)) X.GF
def Dj{MI:Nat->Prop}{bN:Nat}{Pr fE:Nat->Nat->Prop}{w w':World}(hm:∀b,MI b->w'.heap[b]?=w.heap[b]?)(hk:cC Pr fE w w'):cC (λb k=>b<bN/\(MI b\/Pr b k)) (λb k=>b<bN/\(MI b\/fE b k)) w w':={
 cell b k hp u hu:=by
  rcases hp.2 with h|h
  .exact⟨⟨hp.1,.inl h⟩,by rw[afX (w:=w) (hm b h)];exact hu⟩
  .obtain⟨h1,h2⟩:=hk.cell b k h u hu;exact⟨⟨hp.1,.inr h1⟩,h2⟩
 map b hp es c vy:=by
  rcases hp.2 with h|h
  .exact⟨⟨hp.1,.inl h⟩,by rw[hm b h];exact vy⟩
  .obtain⟨h1,h2⟩:=hk.map b h es c vy
   exact⟨⟨hp.1,.inr h1⟩,h2⟩ }
def St.Yf{X:Fx C all out fA rows}{k:Nat}{M:Nat->Prop}{Pr:Nat->Nat->Prop}{es:List End}{w:World}(s:St X k M Pr es w):RV (λb k=>b<X.bN/\(X.MI b\/Pr b k)) dW w (.ref [.slice .view (ct all)]) X.cA:=by
 obtain⟨ty,h2⟩:=X.hA2;rw[X.R9];have hb:w.heap[X.bA]?=some (.cells #[X.GF] ty (0,0)):=(s.mi _ X.Xa.1).2.2.trans h2;refine .data _ _ (.ref _ _ _ (λ_=>X.GF) (λi hi=>?_) (λk hk=>⟨⟨X.Xa.2,.inl X.Xa.1⟩,?_⟩) (λk hk=>?_))
 .have:i=0:=by simpa using hi
  subst this;rfl
 .have:k=0:=by simpa using hk
  subst this;simp[World.cell?,hb]
 .have:k=0:=by simpa using hk
  subst this;exact s.e
structure Fr(X:Fx C all out fA rows)(n:Int)(a:Act):Prop where
 size:a.tmps.size=53
 defers:a.defers=[]
 t0:a.tmps.getD 0 undef=.int .i64 n
 t1:a.tmps.getD 1 undef=X.cA
 t2:a.tmps.getD 2 undef=X.cY
 t3:a.tmps.getD 3 undef=X.cO
 t4:a.tmps.getD 4 undef=.pointer (some ⟨X.bN,0,none⟩)
 t5:a.tmps.getD 5 undef=X.cF
 t6:a.tmps.getD 6 undef=X.cR
def jP(l:Nat)(all es:List End)(out:List Int)(fA:List AV)(fv:Value)(n:Int)(v9:AV):au:=λt=>match t with
 |0=>.int .i64 n
 |1=>.ref [.slice .view (ct all)]
 |2=>.ref [.val (.func (.yield l) #[] #[])]
 |3=>.ref [.slice .view (ints out)]
 |4=>.ref [.slice .view (ct es)]
 |5=>.ref fA
 |6=>.ref [.val fv]
 |9=>v9
 |_=>.cT
def Fx.fv(X:Fx C all out fA rows):Value:=.func (.func 167) #[] #[X.cA,X.cY,X.cO,.pointer (some ⟨X.bN,0,none⟩),X.cF,X.cR]
def St.im {X:Fx C all out fA rows} {k:Nat} {M:Nat→Prop} {Pr:Nat→Nat→Prop} {es:List End} {w:World} (s:St X k M Pr es w) {n:Int} {a:Act} (fr:Fr X n a) {v9:AV} (h9:v9.bC=v9∧RV (fun _ _=>True) dW w v9 (a.tmps.getD 9 undef)) :
  ∀t,t<53->(jP l all es out fA X.fv n v9 t).bC=jP l all es out fA X.fv n v9 t/\RV (λ_ _=>True) dW w (jP l all es out fA X.fv n v9 t) (a.tmps.getD t undef):=by
 intro t ht
 have hmi:∀{P':Nat->Nat->Prop},(∀b k,P' b k->X.MI b)->cC P' (λ_ _=>True) X.wI w:=λh=>cC.of_eq λb k hp=>⟨trivial,(s.mi b (h b k hp)).2.2⟩
 unfold jP;split
 .rw[fr.t0];exact⟨rfl,.data _ _ (.int _ _)⟩
 .rw[fr.t1];exact⟨rfl,s.Yf.mono (cC.same λ_ _ _ _=>trivial) λ_ _ h=>h⟩
 .rw[fr.t2];exact⟨rfl,X.hY.mono (hmi λb k h=>h) λ_ _ h=>h⟩
 .rw[fr.t3];exact⟨rfl,s.o.mono (cC.same λ_ _ _ _=>trivial) λ_ _ h=>h⟩
 .rw[fr.t4];obtain⟨v,ty,xx,h1,h2,h3,h4,h5⟩:=s.now;refine⟨rfl,.data _ _ (.ref _ _ _ (λ_=>v) (λi hi=>?_) (λk hk=>⟨trivial,?_⟩) (λk hk=>?_))⟩
  .have:i=0:=by simpa using hi
   subst this;rfl
  .have:k=0:=by simpa using hk
   subst this;simp[World.cell?,h1]
  .have:k=0:=by simpa using hk
   subst this
   exact RD.ofRow (size:=2) (es:=ct es) (by simpa[ct]using h3) (h4.mono (cC.same λ_ _ _ h=>h.elim)) λ_ _ _ _=>trivial
 .rw[fr.t5];exact⟨rfl,s.f.mono (cC.same λ_ _ _ _=>trivial) λ_ _ h=>h⟩
 .rw[fr.t6];exact⟨rfl,X.hR.mono (hmi λb k h=>h) λ_ _ h=>h⟩
 .exact h9
 .exact⟨rfl,.cT _⟩
def St.grow{X:Fx C all out fA rows}{k:Nat}{M:Nat->Prop}{Pr:Nat->Nat->Prop}{es:List End}{w w':World}(s:St X k M Pr es w)(hb:Below w.heap.size w w'):St X k M Pr es w':=by
 have hM:=s.lt
 have cP:∀b,M b->w'.heap[b]?=w.heap[b]?:=λb h=>hb.block b (hM b h)
 have hk:cC Pr Pr w w':=cC.jK (λb h=>hb.block b h) λ_ _ _ h=>h
 obtain⟨v,ty,xx,h1,h2,h3,h4,h5⟩:=s.now;refine⟨C.eF s.j (mY.wV hb) λb h=>⟨ae4 (hM b h) hb.size,.inl h⟩,λb h=>ae4 (hM b h) hb.size,λb h=>⟨(s.mi b h).1,(s.mi b h).2.1,(cP b (s.mi b h).1).trans (s.mi b h).2.2⟩,⟨v,ty,xx,(cP _ h2).trans h1,h2,?_,h4.mono (cC.of_eq λ_ _ h=>h.elim),h5⟩,s.f.mono hk λ_ _ h=>h,s.o.mono hk λ_ _ h=>h,s.e.mono (Dj (λb h=>cP b (s.mi b h).1) hk)⟩;refine⟨h3.1,?_⟩
 rcases h3.2 with h|⟨gg,cap,cur,rfl,pL,Gm,rest⟩
 .exact .inl h
 .exact .inr ⟨gg,cap,cur,rfl,pL,(cP gg (h5 gg rfl).1).trans Gm,rest⟩
def _root_.Go.AL.ah.qa:ah->ah
 |.seq x _=>x
 |.cond _ x _=>x
 |c=>c
def _root_.Go.AL.ah.qb:ah->ah
 |.seq _ y=>y
 |.cond _ _ y=>y
 |.block _ c=>c
 |.loop c=>c
 |c=>c
def _root_.Go.AL.ah.dl:ah->List db
 |.dT l|.ops l=>l
 |_=>[]
def F7:Nat->Bool:=λt=>decide (36<=t)
def W7:Nat->Bool:=λt=>decide (7<=t)
noncomputable def yL:ah:=ah.qb c167.qb.qb.qa.qb.qb
def Fr.step{X:Fx C all out fA rows}{n:Int}{a a':Act}(fr:Fr X n a)(cM:a'.tmps.size=53)(fq:a'.defers=[])(h:fj W7 a a'):Fr X n a':=
 ⟨cM,fq,(h 0 rfl).trans fr.t0,(h 1 rfl).trans fr.t1,(h 2 rfl).trans fr.t2,(h 3 rfl).trans fr.t3,(h 4 rfl).trans fr.t4,(h 5 rfl).trans fr.t5,(h 6 rfl).trans fr.t6⟩
def dQ(args:Array Value)(k t:Nat)(h:t<args.size):(args++Array.replicate k undef).getD t undef=args[t]:=by
 simp[af_,h]
def rR(l:List Int):br 1 (ints l)=true:=by
 simp[br,ints,AV.storable,AV.cells]
def vW(l:List End):br 2 (ct l)=true:=by
 simp[br,ct,dz,AV.storable,AV.cells]
def wZ(es:List End):∀x∈ct es,x.cells.length=2/\x.storable=true/\∀c∈x.cells,c.one=true:=by
 intro x hx;obtain⟨e,_,rfl⟩:=aew.1 hx;refine⟨rfl,rfl,λc hc=>?_⟩;simp[dz,AV.cells]at hc
 rcases hc with rfl|rfl<;>rfl
def E'(es:List End):∀x∈ct es,∀c∈x.cells,jl c=true:=by
 intro x hx c hc;obtain⟨e,_,rfl⟩:=aew.1 hx;simp[dz,AV.cells]at hc
 rcases hc with rfl|rfl<;>rfl
def ER{P:Program}{t:TypeId}{s:Nat}(h:(P.info? t).map (·.size)=some s):∃i,P.info? t=some i/\i.size=s:=by
 cases hi:P.info? t with
 |none=>rw[hi]at h;cases h
 |some i=>rw[hi]at h;exact⟨i,rfl,aeE h⟩
def iZ(t:TypeId)(s:Nat)(h:(prog.info? t).map (·.size)=some s:=by kernel_rfl):∃i,prog.info? t=some i/\i.size=s:=ER h
def tv {P:Program} {a:Act} {o:Oper} {cl:Call} {f x:Operand} {l:Nat} (w:World) (ho:o.op = .call cl) (hc:cl.callee = .value f) (ha:cl.args = #[x]) (hf:a.eval f = .func (.yield l) #[] #[]) :
  (execOp a.eval o).run P w=(Instr.yield l #[a.eval x]).run P w:=by
 unfold execOp;simp[ho,fQ hc,hf,Deferred.ofValue,invoke,ha]
def vi {P:Program} {a:Act} {o:Oper} {cl:Call} {f x:Operand} {k:Nat} {cap:Array Value} (w:World) (ho:o.op = .call cl) (hc:cl.callee = .value f) (ha:cl.args = #[x]) (hf:a.eval f = .func (.func k) #[] cap) (hk:eU P k=true) :
  (execOp a.eval o).run P w=.ok (.enter k (#[a.eval x]++cap)) w:=by
 unfold execOp;simp[ho,fQ hc,hf,Deferred.ofValue,invoke,ha,hZ hk]
def Rs{P:Program}{a:Act}{o:Oper}{x:Operand}{t:TypeId}{b:Bool}(w:World)(ho:o.op=.unOp .not t x)(hx:a.eval x=.bool b):(execOp a.eval o).run P w=.ok (.value (.bool !b)) w:=by
 unfold execOp;simp[ho,hx,Op.unary]
def fj.weaken{W W':Nat->Bool}{a a':Act}(h:fj W a a')(hw:∀t,W' t=false->W t=false):fj W' a a':=λt ht=>h t (hw t ht)
def ahR{P:Program}{fn:Func}{tmps:Array Value}{t:Tmp}{v:Value}{w:World}(hr:fn.results=#[.tmp t])(h:tmps.getD t undef=v):(results fn tmps).run P w=.ok v w:=by
 rw[<-h];simp[results,hr]
def run_assign{P:Program}{a:Act}{o:Oper}{x:Operand}(w:World)(ho:o.op=.assign x):(execOp a.eval o).run P w=.ok (.value (a.eval x)) w:=by
 unfold execOp;simp only[ho]
 rfl
def St.after {X:Fx C all out fA rows} {k k':Nat} {M G:Nat→Prop} {Pr fE:Nat→Nat→Prop} {es:List End} {w w':World} (s:St X k M Pr es w) (hj:C.J k' (fun b=>(M b∨G b)∧¬ G b) fE w') (hG:∀ b,G b→¬ M b)
  (hs:∀b,M b\/G b->¬G b->w'.heap[b]?=w.heap[b]?) (hk:cC Pr fE w w'):St X k' (λb=>(M b\/G b)/\¬G b) fE es w':=by
 have Pk:∀b,M b->¬G b:=λb hb hg=>hG b hg hb
 have cP:∀b,M b->w'.heap[b]?=w.heap[b]?:=λb hb=>hs b (.inl hb) (Pk b hb)
 obtain⟨v,ty,xx,h1,h2,h3,h4,h5⟩:=s.now;refine⟨hj,λb hb=>?_,λb h=>⟨⟨.inl (s.mi b h).1,Pk b (s.mi b h).1⟩,(s.mi b h).2.1,(cP b (s.mi b h).1).trans (s.mi b h).2.2⟩,⟨v,ty,xx,(cP _ h2).trans h1,⟨.inl h2,Pk _ h2⟩,?_,h4.mono (cC.of_eq λ_ _ h=>h.elim),λb hb=>⟨⟨.inl (h5 b hb).1,Pk b (h5 b hb).1⟩,(h5 b hb).2⟩⟩,s.f.mono hk λ_ _ h=>h,s.o.mono hk λ_ _ h=>h,s.e.mono (Dj (λb h=>cP b (s.mi b h).1) hk)⟩
 .have pn:M b:=hb.1.resolve_right hb.2;have:=s.lt b pn;have h2:=cP b pn;rw[aeC this]at h2;exact(aea.1 h2).1
 .refine⟨h3.1,?_⟩
  rcases h3.2 with h|⟨gg,cap,cur,rfl,pL,Gm,rest⟩
  .exact .inl h
  .exact .inr ⟨gg,cap,cur,rfl,pL,(cP gg (h5 gg rfl).1).trans Gm,rest⟩
def Gv {P:Program} {ρ:Operand→Value} {o:Oper} {t:TypeId} {ps:Array (Nat×Operand)} (ho:o.op = .build t ps) (w:World) (N:Value→Prop)
  (h:∀v w',(execOp ρ o).run P w=.ok (.value v) w'->N v):match(execOp ρ o).run P w with|.ok (.value v) _=>N v|.ok _ _=>False|.halt _ _=>True:=by
 have key:∀r,(execOp ρ o).run P w=r->match r with|.ok (.value v) _=>N v|.ok _ _=>False|.halt _ _=>True:=by
  intro r hr;have h0:=hr;unfold execOp at hr;simp only[ho,ael]at hr
  cases hb:(Instr.build t (ps.map λ(i,x)=>(i,ρ x))).run P w with
  |ok v w'=>
   rw[hb]at hr
   have:r=.ok (.value v) w':=by rw[<-hr];rfl
   subst this;exact h v w' h0
  |halt x w'=>
   rw[hb]at hr
   have:r=.halt x w':=by rw[<-hr];rfl
   subst this;trivial
 exact key _ rfl
def xL{c:Value}(h:c.oneCell'=true):c.cells=#[c]:=by cases c<;>first|rfl|cases h
def Vd{u v:Value}(hu:u.oneCell'=true)(hv:v.oneCell'=true):prog.built 176 [(0,u),(1,v)]=some #[u,v]:=by
 have e:∀u v:Value,prog.built 176 [(0,u),(1,v)]=Instr.fill (λx=>#[(0,1),(1,1)][x]?) #[.slice none 0 0,.slice none 0 0] [(0,u),(1,v)]:=by intro u v;kernel_rfl
 rw[e];simp[Instr.fill,xL hu,xL hv]
def U2(es r:List End)(x:End)(m:Nat):lp es (x::r) m=ch (es++[x]) r m++lp es r m:=by
 cases m<;>rfl
def XN(es:List End)(m:Nat):ch es [] m=[es]:=by simp[ch]
def U0 (hG:aQ GI) (X:Fx C all out fA rows) (eu:all.length≤1000) (Wj:rows≤1000) (kl:out.length≤1000) :
  ∀(d n:Nat)(es:List End)(k:Nat)(M:Nat->Prop)(Pr:Nat->Nat->Prop)(w:World)(tail:List AV),n+d=all.length->es.length<=n->St X k M Pr es w->
   xs.drop k=(ch es (all.drop n) (rows-es.length)).map (cU out)++tail->
   Calls prog 167 #[.int .i64 n,X.cA,X.cY,X.cO,.pointer (some ⟨X.bN,0,none⟩),X.cF,X.cR] w λe w'=>∃M' fE,
    (e=.returned (.bool true)/\St X (k+(ch es (all.drop n) (rows-es.length)).length) M' fE es w')\/(e=.returned (.bool false)/\C.X M' fE w'):=by
 intro d
 induction d using Nat.strongRecOn with
 |_ d ih=>
 intro n es k M Pr w tail eK oI st rE;refine(jD (ro:=none) (m:=0)).1 (aht func167 rfl trivial ?_)
 have fr:Fr X n { tmps:=#[.int .i64 n,X.cA,X.cY,X.cO,.pointer (some ⟨X.bN,0,none⟩),X.cF,X.cR]++Array.replicate (f167.ntmps-7) undef,defers:=[] }:=by
  refine⟨by simp[ntmps167],rfl,dQ _ _ 0 ah7,dQ _ _ 1 ah7,dQ _ _ 2 ah7,dQ _ _ 3 ah7,dQ _ _ 4 ah7,dQ _ _ 5 ah7,dQ _ _ 6 ah7⟩
 generalize hc:(λe w'=>∃M' fE,(e=Ending.returned (.bool true)/\St X (k+(ch es (all.drop n) (rows-es.length)).length) M' fE es w')\/(e=.returned (.bool false)/\C.X M' fE w'))=R
 have h9:∀(a:Act)(w:World),(AV.cT).bC=AV.cT/\RV (λ_ _=>True) dW w AV.cT (a.tmps.getD 9 undef):=λa w=>⟨rfl,.cT _⟩
 refine aeq ?_;refine dS hG d_ (ac:=ah.qa c167) (W:=W7) zk zk zk (C.gi st.j) (λ_ _=>True) (jP l all es out fA X.fv n .cT) fr.size fr.defers (st.im fr (h9 _ _)) (K:=λ_ _=>True) ?_ ?_
 .simp[c167,ah.qa,cW,cQ,an,cy,ar,aq]
 intro g S' H' a w1 hg R1 _ cP;have fr:=fr.step R1.size (by rw[R1.defers,hg];rfl) cP;have st:=st.grow (by have:=R1.below;rwa [R1.base]at this);clear cP R1 hg g S' H';show Code.wpIn _ _ _ _ _ a w1;refine aeq (aeq ?_);refine dS hG d_ (ac:=ah.qa c167.qb.qa) (W:=W7) zk zk zk (C.gi st.j) (λ_ _=>True) (jP l all es out fA X.fv n .cT) fr.size fr.defers (st.im fr (h9 _ _)) (K:=λS' _=>∃b,S' 13=.bool b/\(b=true↔n=all.length)) ?_ ?_
 .simp[c167,ah.qa,ah.qb,cW,cQ,an,cy,ar,aq,aM.S,aM.H,ev,aF,bl,jP,bu,AV.bC,bV,ct];omega
 rintro g S' H' a w2 hg R1 ⟨b,hb,D2⟩ cP;have fr:=fr.step R1.size (by rw[R1.defers,hg];rfl) cP;have st:=st.grow (by have:=R1.below;rwa [R1.base]at this);have ht:=R1.slot 13 zd (λh=>h);rw[hb]at ht;have vt:=ht.gK;clear ht cP;show Code.wpIn _ _ _ _ _ a w2;refine ae7 (t:=b) vt ?_
 cases b with
 |true=>
  have hn:n=all.length:=D2.1 rfl
  have hch:ch es (all.drop n) (rows-es.length)=[es]:=by rw[hn,ahF];exact XN _ _
  rw[hch]at rE hc;simp only[aeH];refine aeq ?_
  refine Sn hG d_ (n:=53) (p:=6) (j:=5) (d:=19) (T:=[16,18]) (W:=W7) (l:=(c167.qb.qa.qb.qa.qa.dl).take 6) zk zk zk zk zk zk (C.gi st.j) (λ_ _=>True) (jP l all es out fA X.fv n .cT) (oj:=⟨some 19,.build 176 #[(0,.tmp 16),(1,.tmp 18)],176, "name.go:18",#[⟨2,.data⟩,⟨4,.data⟩],none⟩) ?_ rfl rfl
   (λa=>(a.tmps.getD 16 undef).oneCell'=true->(a.tmps.getD 18 undef).oneCell'=true->a.tmps.getD 19 undef=.agg #[a.tmps.getD 16 undef,a.tmps.getD 18 undef]) ?_ ?_ zk zk fr.size fr.defers (st.im fr (h9 _ _)) (K:=λS' _=>S' 14=.val (.func (.yield l) #[] #[])/\S' 16=.slice (if(ints out).isEmpty then .nil else .own 3) (ints out)/\S' 18=.slice (if(ct es).isEmpty then .nil else .own 180) (ct es)/\
    ∃o1 o2,S' 19=.agg [.slice o1 (ints out),.slice o2 (ct es)]) ?_ ?_
  .rfl
  .intro a a' h1 h2 hN g16 g18;rw[h2 16 ah7]at g16⊢;rw[h2 18 ah7]at g18⊢;rw[h1];exact hN g16 g18
  .intro a w cM;refine Gv rfl w _ ?_;intro v w' hr
   have Ga:(a.put (some 19) v).tmps.getD 16 undef=a.tmps.getD 16 undef:=by simp[Act.put,aem]
   have e18:(a.put (some 19) v).tmps.getD 18 undef=a.tmps.getD 18 undef:=by simp[Act.put,aem]
   have e19:(a.put (some 19) v).tmps.getD 19 undef=v:=by simp[Act.put,cM]
   show(((a.put (some 19) v).tmps.getD 16 undef).oneCell'=true->_->(a.put (some 19) v).tmps.getD 19 undef=_);rw[Ga,e18,e19];intro g16 g18;have hb:=aic (P:=prog) w 176 #[(0,a.tmps.getD 16 undef),(1,a.tmps.getD 18 undef)] _ (Vd g16 g18);unfold execOp at hr;simp only[ael,Act.eval,aeN,aer,aeF]at hr;rw[hb]at hr;simp only[Result.andThen_ok,Sem.run_pure]at hr;cases hr
   rfl
  .simp[c167,ah.qa,ah.qb,ah.dl,bZ,bI,aI,dT,an,j8,ar,cy,aM.S,aM.H,ev,aF,bl,jP,bu,AV.bC,AV.vw,AV.cells,AV.storable,AV.dE,fz,cL,mB,fB,cD,aP];refine⟨rfl,zk,_,Yb hG _ (rR out) (by rw[aG];omega),by simp[bT],?_⟩;refine⟨rfl,zk,_,ZQ hG _ (vW es) (by simp[ct];omega),by simp[bT],?_⟩
   by_cases ho:ints out=[]<;>by_cases he:ct es=[]<;>simp[ho,he,aF]
  .intro g' S' H' a w3 hg R3 ⟨hy,xz,h18,o1,o2,LJ⟩ cP hN
   have nh:Below w2.heap.size w2 w3:=by have:=R3.below;rwa [R3.base]at this
   have fr:=fr.step R3.size (by rw[R3.defers,hg];rfl) cP;have W_:=st.grow nh
   have Xf:=(R3.slot 14 zd (λh=>h))
   rw[hy]at Xf;have Xf:=Xf.jT;obtain⟨i3,Fu,vr⟩:=iZ 3 1;obtain⟨i116,Jf,sP⟩:=iZ 180 2;have UI:=R3.C0 (t:=16) zd (e:=3) Fu (es:=ints out) xz (λx hx=>by obtain⟨k,_,rfl⟩:=aew.1 hx;exact⟨vr.symm,rfl,λc hc=>by simp[AV.cells]at hc;subst hc;rfl⟩) (λx hx c hc=>by obtain⟨k,_,rfl⟩:=aew.1 hx;simp[AV.cells]at hc;subst hc;rfl);have UH:=R3.C0 (t:=18) zd (e:=180) Jf (es:=ct es) h18 (by rw[sP];exact wZ es) (E' es);rw[R3.base]at UI UH
   let G:Nat->Prop:=λb=>w2.heap.size<=b/\b<w3.heap.size
   have hj:C.J k (λb=>M b\/G b) Pr w3:=C.eF st.j (mY.wV nh) λb hb=>by
    rcases hb with hb|hb
    .exact⟨W_.lt b hb,.inl hb⟩
    .exact⟨hb.2,.inr hb.1⟩
   have K8:k<xs.length:=by
    have:=congrArg List.length rE;simp at this;omega
   have Kx:xs[k]=cU out es:=by
    have:=congrArg (·[0]?) rE;simp at this;rw[ad_ K8]at this;exact aeE this
   have px:∀{u:Value}{es:List AV}{p:Nat->Nat->Prop},RD p w3 (.slice .view es) u->u.oneCell'=true:=λh=>h.one rfl
   have LJ:=hN (px UI) (px UH)
   have hx:RD (λb j=>Pr b j\/(G b/\j<g'.hi b)) w3 xs[k] (a.tmps.getD 19 undef):=by
    rw[Kx,LJ];refine .agg _ _ rfl (λi hi=>?_) (λi hi eJ=>?_)
    .match i,hi with
     |0,_=>rfl
     |1,_=>rfl
    .match i,hi with
     |0,_=>exact UI.mono (cC.same λb j _ h=>.inr h)
     |1,_=>exact UH.mono (cC.same λb j _ h=>.inr h)
   obtain⟨ff,tmps,Xk,bd,JZ,As⟩:=C.round K8 G g'.hi _ hj (λb hb=>.inr hb) hx;show wpOpsIn _ _ _ _ _ [6,7] a w3;refine KM rfl rfl zr ?_ As ?_
   .exact(tv (f:=.tmp 14) (x:=.tmp 19) w3 rfl rfl rfl Xf).trans JZ
   .rintro e w4 ⟨Tm,fE,IN,zm⟩
    have eB:∀{k'},C.J k' (λb=>(M b\/G b)/\¬G b) fE w4->St X k' (λb=>(M b\/G b)/\¬G b) fE es w4:=λhj=>W_.after hj (λb hg hm=>by have:=st.lt b hm;have:=hg.1;omega) Tm IN
    obtain⟨b,rfl,hR⟩:∃b:Bool,e=.returned (.bool b)/\R (.returned (.bool b)) w4:=by
     rcases zm with⟨rfl,eX⟩|⟨rfl,IH⟩
     .exact⟨true,rfl,by rw[<-hc];exact⟨_,_,.inl ⟨rfl,eB eX⟩⟩⟩
     .exact⟨false,rfl,by rw[<-hc];exact⟨_,_,.inr ⟨rfl,IH⟩⟩⟩
    refine⟨_,rfl,?_⟩
    have Qe:(a.put (some 20) (.bool b)).tmps.getD 20 undef=.bool b:=by simp[Act.put,fr.size]
    refine cI rfl rfl zr (v:=.bool b) (w':=w4) ((run_assign (x:=.tmp 20) w4 rfl).trans (congrArg (λv=>Result.ok (Next.value v) w4) Qe)) ?_;show Code.wpIn _ _ _ _ _ _ _;refine aga ⟨fr.defers,.bool b,?_,hR⟩
    have h8:((a.put (some 20) (.bool b)).put (some 8) (.bool b)).tmps.getD 8 undef=.bool b:=by simp[Act.put,fr.size]
    show(results f167 ((a.put (some 20) (.bool b)).put (some 8) (.bool b)).tmps).run prog w4=_;exact ahR results167 h8
 |false=>
  have hn:n<all.length:=by
   have:¬n=all.length:=λh=>by have:=D2.2 h;cases this
   omega
  simp only[aek,aeA];refine afG ?_;show Code.wpIn _ _ _ _ _ a w2;refine aeq (aeq ?_);refine dS hG d_ (ac:=ah.qa c167.qb.qb.qa) (W:=W7) zk zk zk (C.gi st.j) (λ_ _=>True) (jP l all es out fA X.fv n .cT) fr.size fr.defers (st.im fr (h9 _ _)) (K:=λS' _=>S' 9=.int .i64 n) ?_ ?_
  .simp[c167,ah.qa,ah.qb,cW,cQ,an,cy,ar,aq,aM.S,aM.H,ev,aF,bl,jP,bu,AV.bC,bV,ct]
  rintro g S' H' a w3 hg R1 hb9 cP;have fr:=fr.step R1.size (by rw[R1.defers,hg];rfl) cP;have st:=st.grow (by have:=R1.below;rwa [R1.base]at this);have OU:=R1.slot 9 zd (λh=>h);rw[hb9]at OU;have YM:=OU.int_eq;clear OU cP;show Code.wpIn _ _ _ _ _ a w3
  obtain⟨rem,We⟩:∃rem:Nat->List (List End),rem=λi=>if es.length<rows then lp es (all.drop i) (rows-es.length-1)else[]:=⟨_,rfl⟩
  have hch:ch es (all.drop n) (rows-es.length)=rem n:=by
   have dR:all.drop n≠[]:=by intro h;have:=congrArg List.length h;simp at this;omega
   rw[We];unfold ch;rw[if_neg dR]
   by_cases aN:es.length<rows
   .simp only[if_pos aN]
    obtain⟨m,hm⟩:∃m,rows-es.length=m+1:=⟨rows-es.length-1,zo⟩
    rw[hm];rfl
   .simp only[if_neg aN]
    have:rows-es.length=0:=zo
    rw[this]
  rw[hch]at rE hc
  refine afD (ahM (λa w=>∃i k' M' fE,Fr X n a/\a.tmps.getD 9 undef=.int .i64 (i:Nat)/\n<=i/\i<=all.length/\St X k' M' fE es w/\xs.drop k'=(rem i).map (cU out)++tail/\k'+(rem i).length=k+(rem n).length)
   (λa _=>match a.tmps.getD 9 undef with|.int _ i=>all.length-i.toNat|_=>0) ⟨n,k,M,Pr,fr,YM,aed _,zo,st,rE,rfl⟩ ?_)
  clear hb9 YM R1 hg rE st fr;rintro a w ⟨i,k',M,Pr,fr,h9i,DB,dV,st,rE,G_⟩
  have h9':(AV.int .i64 (i:Int)).bC=.int .i64 (i:Int)/\RV (λ_ _=>True) dW w (.int .i64 (i:Int)) (a.tmps.getD 9 undef):=⟨rfl,by rw[h9i];exact .data _ _ (.int _ _)⟩
  refine aeq (aeq ?_);refine dS hG d_ (ac:=ah.qa c167.qb.qb.qa.qb.qb.qb.qa) (W:=W7) zk zk zk (C.gi st.j) (λ_ _=>True) (jP l all es out fA X.fv n (.int .i64 (i:Int))) fr.size fr.defers (st.im fr h9') (K:=λS' _=>S' 9=.int .i64 i/\∃b,S' 33=.bool b/\(b=true↔i<all.length/\es.length<rows)) ?_ ?_
  .by_cases aN:i<all.length
   .have od:(i:Int)<all.length:=zo
    simp[c167,ah.qa,ah.qb,cW,cQ,an,cy,ar,aq,aM.S,aM.H,ev,aF,bl,jP,bu,AV.bC,bV,ct,aN,X.f9,a_];omega
   .have od:¬(i:Int)<all.length:=zo
    simp[c167,ah.qa,ah.qb,cW,cQ,an,cy,ar,aq,aM.S,aM.H,ev,aF,bl,jP,bu,AV.bC,bV,ct,aN,X.f9,a_]
  rintro g S' H' a' w' hg R1 ⟨SS,b,hb,hbi⟩ cP;have Mn:=fr.step R1.size (by rw[R1.defers,hg];rfl) cP;have td:=st.grow (by have:=R1.below;rwa [R1.base]at this);have OU:=R1.slot 9 zd (λh=>h);rw[SS]at OU;have YK:=OU.int_eq;have Vl:=R1.slot 33 zd (λh=>h);rw[hb]at Vl;have VC:=Vl.gK;show Code.wpIn _ _ _ _ _ a' w';refine ae7 (t:=b) VC ?_
  cases b with
  |false=>
   simp only[aek,aeA];refine ags ?_
   have iX:¬(i<all.length/\es.length<rows):=λh=>by have:=hbi.2 h;cases this
   have Y2:rem i=[]:=by
    rw[We]
    by_cases aN:es.length<rows
    .have:i=all.length:=by
      rcases afB i all.length with h|h
      .exact absurd ⟨h,aN⟩ iX
      .omega
     simp only[if_pos aN,this,ahF]
     rfl
    .simp only[if_neg aN]
   rw[Y2]at G_;simp only[Exit.then,Exit.inBlock,aeH];refine aeq ?_;refine aeG ?_;show wpOpsIn _ _ _ _ _ [0] a' w';refine cI rfl rfl zr (v:=.bool true) (w':=w') (run_assign (x:=.const (.bool true)) w' rfl) ?_;show Code.wpIn _ _ _ _ _ _ _;refine aga ⟨Mn.defers,.bool true,?_,?_⟩
   .have h8:(a'.put (some 8) (.bool true)).tmps.getD 8 undef=.bool true:=by simp[Act.put,Mn.size]
    show(results f167 (a'.put (some 8) (.bool true)).tmps).run prog w'=_;exact ahR results167 h8
   .rw[<-hc];refine⟨M,Pr,.inl ⟨rfl,?_⟩⟩;rw[<-G_];exact td
  |true=>
   obtain⟨aN,T1⟩:=hbi.1 rfl;simp only[aeH];refine afG ?_;show Code.wpIn _ _ _ _ _ a' w';clear Vl VC OU hb SS R1 hg cP;refine aeq (afD (aeq ?_));obtain⟨v,ty,xx,hN,hMN,dX,pJ,ZB⟩:=td.now;obtain⟨i116,Jf,sP⟩:=iZ 180 2
   have Zr:(ct es).length=es.length:=by simp[ct]
   refine xQ d_ (n:=53) (ac:=ah.qa yL.qb.qa.qb) zk zk zk (W:=F7) zk (λb k=>X.MI b\/Pr b k)
    (λt=>match t with|1=>.ref [.slice .view (ct all)]|4=>.box 4 0|9=>.int .i64 (i:Int)|_=>.cT) (nm:=4) (tp:=4) (es:=ct es) (es':=ct (es++[all[i]])) zd rfl Mn.t4 Mn.size Mn.defers hN Jf (by rw[sP,Zr];exact dX) (by rw[sP];exact pJ.mono (cC.same λ_ _ _ h=>h.elim)) ?_ ?_ (by rw[sP];exact wZ _) (E' _) ?_
   .intro t ht;split
    .exact⟨rfl,.inr (by rw[Mn.t1];exact td.Yf)⟩
    .exact⟨rfl,.inl ⟨rfl,Mn.t4⟩⟩
    .exact⟨rfl,.inr (by rw[YK];exact .data _ _ (.int _ _))⟩
    .exact⟨rfl,.inr (.cT _)⟩
   .have dR:¬(i:Int)<0:=zo
    have pq:es.length+1<1048576:=zo
    cases Dw:v.ownBlock with
    |none=>
     have he:es=[]:=by
      rcases dX.2 with⟨_,h⟩|⟨gg,cap,cur,rfl,_⟩
      .exact aeT h
      .cases Dw
     subst he;simp[c167,yL,ah.qa,ah.qb,cW,bZ,bI,aI,dT,an,j8,ar,cy,aM.S,aM.H,ev,aF,bl,bu,AV.bC,AV.vw,AV.cells,AV.storable,AV.dE,aq,oQ,Dw,HR.okB,bj,ct,dz,aN,br,aP,AV.aZ,dR]
    |some bv=>
     simp[c167,yL,ah.qa,ah.qb,cW,bZ,bI,aI,dT,an,j8,ar,cy,aM.S,aM.H,ev,aF,bl,bu,AV.bC,AV.vw,AV.cells,AV.storable,AV.dE,aq,oQ,Dw,HR.okB,bj,ct,dz,aN,br,aP,AV.aZ,dR,pq]
   .intro a2 w2 v' Dc xs2 LC Va lG hN2 Kb U8 ka QD;have Xs:=Mn.step LC Va (fj.weaken lG λt ht=>by simp[W7]at ht;simp[F7];omega);have Ko:a2.tmps.getD 9 undef=.int .i64 (i:Int):=(lG 9 rfl).trans YK
    have XF:∀b,(b=X.bN\/v.ownBlock=some b)->M b/\¬X.MI b:=by
     rintro b (rfl|hb)
     .exact⟨hMN,λh=>(td.mi _ h).2.1 rfl⟩
     .exact ZB b hb
    have lI:cC Pr Pr w' w2:=cC.rA λb k aN hp=>ka.block b aN λhm=>C.apart td.j b k (XF b hm).1 hp
    have U1:∀b,X.MI b->w2.heap[b]?=w'.heap[b]?:=λb h=>ka.block b (td.lt b (td.mi b h).1) λhm=>(XF b hm).2 h
    have ab1:(ct (es++[all[i]])).length=(es++[all[i]]).length:=by simp[ct]
    have st2:St X k' (λb=>M b\/(w'.heap.size<=b/\b<w2.heap.size)) Pr (es++[all[i]]) w2:=by
     refine⟨C.eF td.j (M':=λb=>M b\/(w'.heap.size<=b/\b<w2.heap.size)) ⟨ka.os,ka.tape,ka.output,ka.size,λb hb hm=>ka.block b hb λh=>hm (XF b h).1⟩ λb hb=>?_,λb hb=>?_,λb h=>⟨.inl (td.mi b h).1,(td.mi b h).2.1,(U1 b h).trans (td.mi b h).2.2⟩,⟨v',Dc,xs2,hN2,.inl hMN,?_,?_,λb hb=>?_⟩,td.f.mono lI λ_ _ h=>h,td.o.mono lI λ_ _ h=>h,td.e.mono (Dj U1 lI)⟩
     .rcases hb with hb|hb
      .exact⟨ae4 (td.lt b hb) ka.size,.inl hb⟩
      .exact⟨hb.2,.inr hb.1⟩
     .rcases hb with hb|hb
      .exact ae4 (td.lt b hb) ka.size
      .exact hb.2
     .rw[sP,ab1]at Kb;exact Kb
     .rw[sP]at U8;exact U8
     .rcases QD b hb with h|h
      .exact⟨.inl (ZB b h).1,(ZB b h).2⟩
      .refine⟨.inr ⟨h,(Kb.lt b hb).2⟩,λhm=>?_⟩;have:=td.lt b (td.mi b hm).1;omega
    clear XF lI U1 QD Kb U8 hN2 ka;show Code.wpIn _ _ _ _ _ a2 w2
    have adG:(AV.int .i64 (i:Int)).bC=.int .i64 (i:Int)/\RV (λ_ _=>True) dW w2 (.int .i64 (i:Int)) (a2.tmps.getD 9 undef):=⟨rfl,by rw[Ko];exact .data _ _ (.int _ _)⟩
    refine aeq (aeq ?_);refine my hG (p:=3) (l2:=[3,4]) rfl zk zk (l:=(yL.qb.qa.qb.qb.qa.qa.dl).take 3) zk zd (W:=F7) zk (C.gi st2.j) (λ_ _=>True) (jP l all (es++[all[i]]) out fA X.fv n (.int .i64 (i:Int))) Xs.size Xs.defers (st2.im Xs adG) (K:=λS' _=>S' 43=.val X.fv/\S' 45=.int .i64 ((i+1:Nat):Int)) ?_ ?_
    .have qU:IntKind.i64.wrap ((i:Int)+1)=i+1:=bU zo;simp[c167,yL,ah.qa,ah.qb,ah.dl,cQ,an,cy,ar,aM.S,aM.H,ev,aF,bl,jP,bu,AV.bC,bV,qU]
    rintro g S' H' a3 w3 hg R1 ⟨h43,Ur⟩ IG;have UY:=Xs.step R1.size (by rw[R1.defers,hg];rfl) (fj.weaken IG λt ht=>by simp[W7]at ht;simp[F7];omega);have W_:=st2.grow (by have:=R1.below;rwa [R1.base]at this);have h93:a3.tmps.getD 9 undef=.int .i64 (i:Int):=(IG 9 rfl).trans Ko;have FU:=R1.slot 43 zd (λh=>h);rw[h43]at FU;have FU:=FU.jT;have XX:=R1.slot 45 zd (λh=>h);rw[Ur]at XX;have XX:=XX.int_eq;clear R1 hg IG;have aaO:all.drop i=all[i]::all.drop (i+1):=afT aN
    have Y2:rem i=ch (es++[all[i]]) (all.drop (i+1)) (rows-(es++[all[i]]).length)++rem (i+1):=by
     rw[We];simp only[if_pos T1,aaO,U2]
     congr 2
     simp;omega
    rw[Y2]at rE G_;rw[aeB,aeU]at rE;have nq:=ih (all.length-(i+1)) zo (i+1) (es++[all[i]]) k' _ Pr w3 _ zo (by simp;omega) W_ rE;refine il rfl rfl zr (vi (f:=.tmp 43) (x:=.tmp 45) w3 rfl rfl rfl FU zk) (R:=λe w'=>∃M' fE,(e=.returned (.bool true)/\St X (k'+(ch (es++[all[i]]) (all.drop (i+1)) (rows-(es++[all[i]]).length)).length) M' fE (es++[all[i]]) w')\/(e=.returned (.bool false)/\C.X M' fE w')) ?_ ?_
    .have : #[a3.eval (.tmp 45)] ++ #[X.cA,X.cY,X.cO,.pointer (some ⟨X.bN,0,none⟩),X.cF,X.cR] = #[.int .i64 ((i+1:Nat):Int),X.cA,X.cY,X.cO,.pointer (some ⟨X.bN,0,none⟩),X.cF,X.cR]:=by
      show #[a3.tmps.getD 45 undef]++_=_;rw[XX];rfl
     rw[this];exact nq
    rintro e w4 ⟨M4,PN,zm⟩
    obtain⟨b,rfl⟩:∃b:Bool,e=.returned (.bool b):=by rcases zm with⟨rfl,_⟩|⟨rfl,_⟩<;>exact⟨_,rfl⟩
    refine⟨_,rfl,?_⟩
    have h46:(a3.put (some 46) (.bool b)).tmps.getD 46 undef=.bool b:=by simp[Act.put,UY.size]
    refine cI rfl rfl zr (v:=.bool !b) (w':=w4) (Rs (x:=.tmp 46) w4 rfl h46) ?_;show Code.wpIn _ _ _ _ _ ((a3.put (some 46) (.bool b)).put (some 47) (.bool !b)) w4
    obtain⟨a4,nf⟩:∃a4,(a3.put (some 46) (.bool b)).put (some 47) (.bool !b)=a4:=⟨_,rfl⟩
    rw[nf]
    have f_:∀(a:Act)(d t:Nat)(c:Value),t≠d->(a.put (some d) c).tmps.getD t undef=a.tmps.getD t undef:=λa d t c h=>by
     simp[Act.put,aem (ae0 h)]
    have Tm:fj F7 a3 a4:=λt ht=>by
     have:t<36:=by simp[F7]at ht;omega
     rw[<-nf,f_ _ _ _ _ zo,f_ _ _ _ _ zo]
    have MY:a4.tmps.size=53:=by rw[<-nf];simp[Act.put,UY.size]
    have ab5:a4.defers=[]:=by rw[<-nf];exact UY.defers
    have Ro:=UY.step MY ab5 (fj.weaken Tm λt ht=>by simp[W7]at ht;simp[F7];omega);have h94:a4.tmps.getD 9 undef=.int .i64 (i:Int):=(Tm 9 rfl).trans h93
    have h47:a4.tmps.getD 47 undef=.bool !b:=by rw[<-nf];simp[Act.put,UY.size]
    refine ae7 (t:=!b) h47 ?_
    cases b with
    |false=>
     have hX:C.X M4 PN w4:=by
      rcases zm with⟨h,_⟩|⟨_,h⟩
      .cases h
      .exact h
     simp only[ahn,aeH];refine aeq ?_;refine aeG ?_;show wpOpsIn _ _ _ _ _ [0] a4 w4;refine cI rfl rfl zr (v:=.bool false) (w':=w4) (run_assign (x:=.const (.bool false)) w4 rfl) ?_;show Code.wpIn _ _ _ _ _ _ _;refine aga ⟨Ro.defers,.bool false,?_,?_⟩
     .have h8:(a4.put (some 8) (.bool false)).tmps.getD 8 undef=.bool false:=by simp[Act.put,Ro.size]
      show(results f167 (a4.put (some 8) (.bool false)).tmps).run prog w4=_;exact ahR results167 h8
     .rw[<-hc];exact⟨M4,PN,.inr ⟨rfl,hX⟩⟩
    |true=>
     have BC:St X (k'+(ch (es++[all[i]]) (all.drop (i+1)) (rows-(es++[all[i]]).length)).length) M4 PN (es++[all[i]]) w4:=by
      rcases zm with⟨_,h⟩|⟨h,_⟩
      .exact h
      .cases h
     simp only[ah3,aek,aeA];refine afG ?_;show Code.wpIn _ _ _ _ _ a4 w4;obtain⟨v4,ZP,Xi,hN4,VX,Vz,acK,acU⟩:=BC.now
     have ZR:Xi.length=(es.length+1)*2:=by have:=Vz.1;simpa using this
     obtain⟨i29,abi,adr⟩:=iZ 174 1;refine aeG ?_;show wpOpsIn _ _ _ _ _ [0,1,2,3,4,5] a4 w4
     refine Mh (P:=prog) (n:=53) (T:=174) (el:=180) (p:=4) (t1:=48) (t2:=49) (t3:=50) (t4:=51) (t5:=52) (bN:=X.bN) (i:=i116) (iT:=i29) (v:=v4) (ty:=ZP) (k:=es.length) (xs:=Xi.take (es.length*2)) (last:=Xi.drop (es.length*2))
      rfl rfl rfl rfl rfl rfl ⟨rfl,rfl,rfl⟩ ⟨rfl,rfl,rfl⟩ ⟨rfl,rfl,rfl⟩ ⟨rfl,rfl,rfl⟩ ⟨rfl,rfl,rfl⟩ ⟨rfl,rfl,rfl⟩ rfl rfl rfl zk abi adr Jf zd Ro.size zd Ro.t4 hN4 (by rw[afa,sP];simpa using Vz) (by rw[sP,aes,ZR];omega) zo ?_
     intro a5 v5 HH abk hs5 SU acM Ke
     have Gm:∀b,v5.ownBlock=some b->M4 b/\¬X.MI b:=λb hb=>acU b (by rw[<-SU];exact hb)
     have mT:∀b,b≠X.bN->(w4.setRow X.bN #[v5]).heap[b]?=w4.heap[b]?:=λb hb=>afm w4 X.bN b #[v5] hb
     have Kp:(w4.setRow X.bN #[v5]).heap.size=w4.heap.size:=ah7
     have XD:cC PN PN w4 (w4.setRow X.bN #[v5]):=cC.rA λb k _ hp=>mT b (by rintro rfl;exact C.apart BC.j _ k VX hp)
     have KF:St X (k'+(ch (es++[all[i]]) (all.drop (i+1)) (rows-(es++[all[i]]).length)).length) M4 PN es (w4.setRow X.bN #[v5]):=by
      refine⟨C.eF BC.j ⟨rfl,rfl,rfl,by rw[Kp];exact aed _,λb _ hm=>mT b (by rintro rfl;exact hm VX)⟩ λb hb=>⟨by rw[Kp];exact BC.lt b hb,.inl hb⟩,λb hb=>by rw[Kp];exact BC.lt b hb,λb h=>⟨(BC.mi b h).1,(BC.mi b h).2.1,(mT b (BC.mi b h).2.1).trans (BC.mi b h).2.2⟩,
       ⟨v5,ZP,Xi.take (es.length*2),afV w4 X.bN _ #[v5] ZP (0,0) hN4,VX,?_,?_,Gm⟩,BC.f.mono XD λ_ _ h=>h,BC.o.mono XD λ_ _ h=>h,BC.e.mono (Dj (λb h=>mT b (BC.mi b h).2.1) XD)⟩
      .rw[sP]at Ke;refine⟨Ke.1,?_⟩
       rcases Ke.2 with h|⟨gg,cap,cur,rfl,pL,adp,rest⟩
       .exact .inl h
       .exact .inr ⟨gg,cap,cur,rfl,pL,(mT gg zo).trans adp,rest⟩
      .refine⟨wZ es,λj hj k hk=>?_⟩
       have OQ:j<es.length:=by simpa[ct]using hj
       have eX:j<(ct (es++[all[i]])).length:=by simp[ct];omega
       have jL:(ct (es++[all[i]]))[j]=(ct es)[j]:=by
        simp only[ct,aeB,aer,aeF];exact aeV (by simpa using OQ)
       obtain⟨u,u1,u2⟩:=acK.2 j eX k (by rw[jL];exact hk);refine⟨u,?_,?_⟩
       .have lI:k < 2:=by
         have:=wZ es _ (ad2 hj);rw[this.1]at hk;exact hk
        rw[agP zo];exact u1
       .simp only[jL]at u2;exact u2.mono (cC.of_eq λ_ _ h=>h.elim)
     have T5:fj F7 a4 a5:=λt ht=>by
      have:t<36:=by simp[F7]at ht;omega
      exact hs5 t zo zo zo zo zo
     have JM:=Ro.step HH (abk.trans Ro.defers) (fj.weaken T5 λt ht=>by simp[W7]at ht;simp[F7];omega);have h95:a5.tmps.getD 9 undef=.int .i64 (i:Int):=(T5 9 rfl).trans h94;clear mT Gm XD Ke T5 hs5 Kp;generalize w4.setRow X.bN #[v5]=w5 at KF⊢;simp only[Exit.then,Exit.inBlock]
     have abb:(AV.int .i64 (i:Int)).bC=.int .i64 (i:Int)/\RV (λ_ _=>True) dW w5 (.int .i64 (i:Int)) (a5.tmps.getD 9 undef):=⟨rfl,by rw[h95];exact .data _ _ (.int _ _)⟩
     refine dS hG d_ (ac:=ah.qb yL.qb) (W:=W7) zk zk zk (C.gi KF.j) (λ_ _=>True) (jP l all es out fA X.fv n (.int .i64 (i:Int))) JM.size JM.defers (KF.im JM abb) (K:=λS' _=>S' 9=.int .i64 ((i+1:Nat):Int)) ?_ ?_
     .have qU:IntKind.i64.wrap ((i:Int)+1)=i+1:=bU zo;simp[c167,yL,ah.qa,ah.qb,cW,cQ,an,cy,ar,aq,aM.S,aM.H,ev,aF,bl,jP,AV.bC,bV,qU]
     intro g S' H' a6 w6 hg R1 TQ wW;have LO:=JM.step R1.size (by rw[R1.defers,hg];rfl) wW;have O':=KF.grow (by have:=R1.below;rwa [R1.base]at this);have US:=R1.slot 9 zd (λh=>h);rw[TQ]at US;have US:=US.int_eq;refine⟨⟨i+1,_,M4,PN,LO,US,zo,zo,O',?_,?_⟩,?_⟩
     .rw[<-agA,rE,af2 ah7];simp
     .have e:=@aeu _ (ch (es++[all[i]]) (all.drop (i+1)) (rows-(es++[all[i]]).length)) (rem (i+1));omega
     .rw[US,h9i];show all.length-((i+1:Nat):Int).toNat<all.length-(i:Int).toNat;rw[Int.toNat_natCast,Int.toNat_natCast];omega
end Go.Proofs.Tryz
namespace Go.Proofs.Tryz
open Go Go.AL Go.RowKit Go.Proofs Go.Proofs.Tram
variable{GI:World->Prop}
def tg{vs:Array Value}(h:vs.size=1):∃v,vs=#[v]:=⟨vs[0],by
 apply afH
 .simpa using h
 .intro i h1 h2
  have:i=0:=by simpa using h2
  subst this;rfl⟩
def Pq{P:Program}{t:TypeId}(h:(P.underlying t).map ef=some false):∃d,P.underlying t=some d/\ef d=false:=by
 cases hi:P.underlying t with
 |none=>rw[hi]at h;cases h
 |some i=>rw[hi]at h;exact⟨i,rfl,aeE h⟩
def vZ(t:TypeId)(h:(prog.underlying t).map ef=some false:=by kernel_rfl):∃d,prog.underlying t=some d/\ef d=false:=Pq h
def p9:AV.dE∘AV.bC=AV.dE:=by
 funext v
 cases v<;>try rfl
 rename_i o es;cases o<;>rfl
def RD.LP{Pr:Nat->Nat->Prop}{w:World}{o:Ow}{es:List AV}{c:Value}(h:RD Pr w (.slice o es) c):RD Pr w (.slice .view es) c:=by
 cases h with
 |jm=>exact .jm _
 |slice _ _ b off cap size cs gq hn cM h1 hc hr=>exact .slice _ _ b off cap size cs gq (λh=>by cases h) cM h1 hc hr
 |kj _ a=>exact .kj _ a
def aa7 (hG:aQ GI) {oE:Ow} {all:List End} {out:List Int} {fA:List AV} {rows:Nat} (eu:all.length≤1000) (Wj:rows≤1000) (kl:out.length≤1000) (pJ:fA.length=11) (hf1:∀ x∈fA.take 10,x.storable=true∧x.one=true∧x.bC=x) (h9:fA[9]? = some (.int .i64 rows))
  (Z8:AC prog GI 166 [.agg ((fA.take 10).map AV.dE),vI out] (.ret (.slice oE (ct all)))):
  yT prog GI 165 [.ref fA,.ref [vI out]] ((ch [] all rows).map (cU out)):=by
 intro l C w Pr dn hJ hlen hr
 obtain⟨cF,cO,rfl⟩:∃cF cO,dn=#[cF,cO]:=by
  have:dn.size=2:=by simpa using hlen.symm
  exact⟨dn[0],dn[1],by
   apply afH
   .simpa using this
   .intro i h1 h2
    match i,h2 with
    |0,_=>rfl
    |1,_=>rfl⟩
 have hrF:=hr 0 ah7 ah7;have hrO:=hr 1 ah7 ah7;simp only[List.getElem_cons_zero,List.getElem_cons_succ,List.getElem_toArray]at hrF hrO;refine(jD (ro:=none) (m:=0)).1 (aht func165 rfl trivial ?_);have dI:=C.gi hJ
 have R:Rel prog w 14 dh _ (AL.start [.val (.func (.yield l) #[] #[]),.ref fA,.ref [vI out]]) (λ_=>none) { tmps:=(#[.func (.yield l) #[] #[]]++#[cF,cO])++Array.replicate (f165.ntmps-(#[Value.func (.yield l) #[] #[]]++#[cF,cO]).size) undef,defers:=[] } w:=Rel.begin (args:=[.val (.func (.yield l) #[] #[]),.ref fA,.ref [vI out]]) (old:=Pr) ntmps165 ah7 rfl (λi h h'=>by
  match i,h with
  |0,_=>exact .data _ _ (.val _ rfl)
  |1,_=>exact hrF
  |2,_=>exact hrO)
 have e1:({ tmps:=(#[Value.func (.yield l) #[] #[]]++#[cF,cO])++Array.replicate (f165.ntmps-(#[Value.func (.yield l) #[] #[]]++#[cF,cO]).size) undef,defers:=[] }:Act).tmps.getD 1 undef=cF:=dQ _ _ 1 ah7;have e2:({ tmps:=(#[Value.func (.yield l) #[] #[]]++#[cF,cO])++Array.replicate (f165.ntmps-(#[Value.func (.yield l) #[] #[]]++#[cF,cO]).size) undef,defers:=[] }:Act).tmps.getD 2 undef=cO:=dQ _ _ 2 ah7
 have W3:∃W:Nat->Bool,W=λt=>decide (3<=t):=⟨_,rfl⟩
 refine aeq ?_;refine ku R hG dI d_ (ac:=ah.qa c165) (W:=λt=>decide (3<=t)) zk zk zk (λ_ h=>h) (K:=λS' H'=>S' 1=.ref fA/\S' 2=.ref [vI out]/\S' 3=.box 3 0/\H' 3=some [.val (.func (.yield l) #[] #[])]) ?_ ?_
 .simp[c165,ah.qa,cW,cQ,an,cy,aq,ev,AL.start,AV.bC,AV.cells,AV.storable,aF,bt,vI]
 rintro g1 S1 H1 a1 w1 BD R1 ⟨s1,s2,s3,h3⟩ yf;refine aeq ?_;refine ku R1 hG dI d_ (ac:=ah.qa c165.qb) (W:=λt=>decide (3<=t)) zk zk zk (by rw[BD];exact λ_ h=>h) (K:=λS' H'=>S' 3=.box 3 0/\S' 4=.box 4 0/\H' 3=some [.val (.func (.yield l) #[] #[])]/\H' 4=some [.slice oE (ct all)]) ?_ ?_
 .simp[c165,ah.qa,ah.qb,cW,cQ,an,cy,aq,ev,ar,aM.S,aM.H,bl,bu,s1,s2,s3,h3,aF,AV.bC,vI,pJ,mB]
  have e8:fz H1 (.agg (List.take 10 (List.map AV.bC fA)))=.agg ((fA.take 10).map AV.dE):=by
   simp only[fz,cL,AV.vw,<-af1,aft,p9]
  have e9:fz H1 (.slice .view (ints out))=vI out:=rfl;rw[e8,e9];refine⟨zk,_,Z8,by simp[bT],?_⟩
  cases oE<;>simp[fB,bt,AV.cells,AV.storable,HR.okB,bj,aP,AV.aZ,aF,AV.bC,s3,h3]
 rintro g2 S2 H2 a2 w2 SD R2 ⟨t3,t4,k3,k4⟩ zc;have iA:g2.base=w.heap.size:=R2.base
 have nh:Below w.heap.size w w2:=by have:=R2.below;rwa [iA]at this
 obtain⟨bY,hY⟩:∃b,g2.al 3=some b/\a2.tmps.getD 3 undef=.pointer (some ⟨b,0,none⟩):=by
  have h:=R2.slot 3 zd (λh=>h);rw[t3]at h;generalize a2.tmps.getD 3 undef=c at h
  cases h with
  |data _ _ h=>cases h
  |box _ _ b h=>exact⟨b,h,rfl⟩
 obtain⟨bA,hA⟩:∃b,g2.al 4=some b/\a2.tmps.getD 4 undef=.pointer (some ⟨b,0,none⟩):=by
  have h:=R2.slot 4 zd (λh=>h);rw[t4]at h;generalize a2.tmps.getD 4 undef=c at h
  cases h with
  |data _ _ h=>cases h
  |box _ _ b h=>exact⟨b,h,rfl⟩
 obtain⟨csY,vsY,tyY,q1,q2,q3,q4,q5,q6,q7,q8,q9⟩:=R2.box 3 bY hY.1;rw[k3]at q1;cases q1
 have hvY:vsY=#[.func (.yield l) #[] #[]]:=by
  have h0:=q7 0 ah7 (by rw[<-q6];simp);simp only[List.getElem_cons_zero]at h0;apply afH
  .rw[<-q6];rfl
  .intro i h1 h2
   have:i=0:=by simpa using h2
   subst this;exact(RV.data (al:=dW) _ _ h0).jT
 subst hvY;obtain⟨csA,vsA,tyA,r1,r2,r3,r4,r5,r6,r7,r8,r9⟩:=R2.box 4 bA hA.1;rw[k4]at r1;cases r1;obtain⟨GF,rfl⟩:=tg (vs:=vsA) (by rw[<-r6];rfl);have R9:=r7 0 ah7 ah7;have hO0:=r8 0 ah7 ah7;simp only[List.getElem_cons_zero,List.getElem_toArray]at R9 hO0
 have pT:RD (λb k=>(b<w.heap.size/\Pr b k)\/(w.heap.size<=b/\b<w2.heap.size)) w2 (.slice .view (ct all)) GF:=by
  have hd:=R9.bC
  have hd:RD g2.Pr w2 (.slice .view (ct all)) GF:=by
   have e:RD g2.Pr w2 (.slice oE (ct all)) GF:=R9;exact RD.LP e
  refine hd.mono (cC.of_eq λb k hp=>⟨?_,rfl⟩)
  rcases hp with⟨h1,h2⟩|⟨h1,h2⟩
  .rw[SD,BD]at h2;exact .inl ⟨by rw[<-iA];exact h1,h2⟩
  .refine .inr ⟨by rw[<-iA];exact h1,?_⟩
   by_cases aN:b<w2.heap.size
   .exact aN
   .rw[(R2.fresh b zo).1]at h2;omega
 have hbY:w.heap.size<=bY/\bY<w2.heap.size:=⟨by rw[<-iA];exact q2,(aea.1 q3).1⟩
 have hbA:w.heap.size<=bA/\bA<w2.heap.size:=⟨by rw[<-iA];exact r2,(aea.1 r3).1⟩
 have e1:a2.tmps.getD 1 undef=cF:=((yf.trans zc) 1 rfl).trans e1;have e2:a2.tmps.getD 2 undef=cO:=((yf.trans zc) 2 rfl).trans e2;have LC:a2.tmps.size=14:=R2.size
 have Va:a2.defers=[]:=by rw[R2.defers,SD,BD];rfl
 obtain⟨bN,Vg⟩:∃bN,w2.heap.size=bN:=⟨_,rfl⟩
 have f_:∀(a:Act)(d t:Nat)(c:Value),t≠d->(a.put (some d) c).tmps.getD t undef=a.tmps.getD t undef:=λa d t c h=>by
  simp[Act.put,aem (ae0 h)]
 have jj:∀(a:Act)(d:Nat)(c:Value),a.tmps.size=14->d<14->(a.put (some d) c).tmps.getD d undef=c:=λa d c h hd=>by
  simp[Act.put,h,hd]
 have ld:∀(a:Act)(d:Option Nat)(c:Value),(a.put d c).tmps.size=a.tmps.size:=λa d c=>by cases d<;>simp[Act.put]
 have tu:∀(a:Act)(d:Option Nat)(c:Value),(a.put d c).defers=a.defers:=λa d c=>by cases d<;>rfl
 refine aeq (aeG ?_);show wpOpsIn _ _ _ _ _ [0] a2 w2;refine cI rfl rfl zr (mz (t:=174) (z:=.slice none 0 0) rfl zk) ?_;show Code.wpIn _ _ _ _ _ (a2.put (some 5) (.pointer (some ⟨w2.heap.size,0,none⟩))) (w2.alloc (.cells #[.slice none 0 0] 174))
 obtain⟨a3,tE⟩:∃a3,a2.put (some 5) (.pointer (some ⟨w2.heap.size,0,none⟩))=a3:=⟨_,rfl⟩
 obtain⟨w3,pB⟩:∃w3,w2.alloc (.cells #[.slice none 0 0] 174)=w3:=⟨_,rfl⟩
 have BO:w3.heap.size=bN+1:=by rw[<-pB,<-Vg];simp
 have QF:w3.heap[bN]?=some (.cells #[.slice none 0 0] 174 (0,0)):=by rw[<-pB,<-Vg];exact ae8 w2 _
 have NO:∀b,b<bN->w3.heap[b]?=w2.heap[b]?:=λb hb=>by rw[<-pB];exact ahD _ _ _ zo
 rw[tE,pB];refine aeq (aeG ?_);show wpOpsIn _ _ _ _ _ [0] a3 w3;refine cI rfl rfl zr (mz (t:=69) (z:=.nilFunc) rfl zk) ?_;show Code.wpIn _ _ _ _ _ (a3.put (some 6) (.pointer (some ⟨w3.heap.size,0,none⟩))) (w3.alloc (.cells #[.nilFunc] 69))
 obtain⟨a4,nf⟩:∃a4,a3.put (some 6) (.pointer (some ⟨w3.heap.size,0,none⟩))=a4:=⟨_,rfl⟩
 obtain⟨w4,oz⟩:∃w4,w3.alloc (.cells #[.nilFunc] 69)=w4:=⟨_,rfl⟩
 have Qz:w4.heap.size=bN+2:=by rw[<-oz];simp[BO]
 have G9:w4.heap[bN+1]?=some (.cells #[.nilFunc] 69 (0,0)):=by rw[<-oz,<-BO];exact ae8 w3 _
 have EI:∀b,b<bN+1->w4.heap[b]?=w3.heap[b]?:=λb hb=>by rw[<-oz];exact ahD _ _ _ zo
 rw[nf,oz]
 have z3:a3.tmps.size=14:=by rw[<-tE,ld];exact LC
 have z4:a4.tmps.size=14:=by rw[<-nf,ld];exact z3
 have u5:a4.tmps.getD 5 undef=.pointer (some ⟨bN,0,none⟩):=by rw[<-nf,f_ _ _ _ _ zd,<-tE,jj _ _ _ LC zd,Vg]
 have u6:a4.tmps.getD 6 undef=.pointer (some ⟨bN+1,0,none⟩):=by rw[<-nf,jj _ _ _ z3 zd,BO]
 have u:∀t,t<5->a4.tmps.getD t undef=a2.tmps.getD t undef:=λt ht=>by rw[<-nf,f_ _ _ _ _ zo,<-tE,f_ _ _ _ _ zo]
 refine aeq (aeG ?_);show wpOpsIn _ _ _ _ _ [0,1] a4 w4;refine cI rfl rfl zr (nt (fn:=.func 167) (c:=#[.tmp 4,.tmp 3,.tmp 2,.tmp 5,.tmp 1,.tmp 6]) rfl) ?_
 have gq:(#[Operand.tmp 4,.tmp 3,.tmp 2,.tmp 5,.tmp 1,.tmp 6].map a4.eval)=#[.pointer (some ⟨bA,0,none⟩),.pointer (some ⟨bY,0,none⟩),cO,.pointer (some ⟨bN,0,none⟩),cF,.pointer (some ⟨bN+1,0,none⟩)]:=by
  simp only[aeN,aer,aeF,Act.eval];rw[u 4 zo,u 3 zo,u 2 zo,u5,u 1 zo,u6,hA.2,hY.2,e2,e1]
 rw[gq]
 obtain⟨fv,mK⟩:∃fv:Value,fv=.func (.func 167) #[] #[.pointer (some ⟨bA,0,none⟩),.pointer (some ⟨bY,0,none⟩),cO,.pointer (some ⟨bN,0,none⟩),cF,.pointer (some ⟨bN+1,0,none⟩)]:=⟨_,rfl⟩
 rw[<-mK]
 obtain⟨a5,r_⟩:∃a5,a4.put (some 11) fv=a5:=⟨_,rfl⟩
 show wpOpsIn _ _ _ _ _ [1] (a4.put (some 11) fv) w4;rw[r_]
 have z5:a5.tmps.size=14:=by rw[<-r_,ld];exact z4
 have Xw:a5.tmps.getD 11 undef=fv:=by rw[<-r_];exact jj _ _ _ z4 zd
 have u65:a5.tmps.getD 6 undef=.pointer (some ⟨bN+1,0,none⟩):=by rw[<-r_,f_ _ _ _ _ zd];exact u6
 obtain⟨i33,Tu,UD⟩:=iZ 69 1;refine fD rfl rfl zr (jC (x:=.tmp 6) (y:=.tmp 11) rfl u65 Tu UD G9 Xw (by rw[mK];rfl)) ?_
 obtain⟨w5,OS⟩:∃w5,w4.setRow (bN+1) #[fv]=w5:=⟨_,rfl⟩
 show Code.wpIn _ _ _ _ _ (a5.put none undef) (w4.setRow (bN+1) #[fv]);rw[OS]
 have adV:w5.heap.size=bN+2:=by rw[<-OS];simpa using Qz
 have X2:w5.heap[bN+1]?=some (.cells #[fv] 69 (0,0)):=by rw[<-OS];exact afV w4 _ _ _ _ _ G9
 have YR:∀b,b<bN+1->w5.heap[b]?=w4.heap[b]?:=λb hb=>by rw[<-OS];exact afm w4 _ _ _ zo
 have Lx:∀b,b<bN->w5.heap[b]?=w2.heap[b]?:=λb hb=>by rw[YR b zo,EI b zo,NO b hb]
 refine aeG ?_;show wpOpsIn _ _ _ _ _ [0,1] a5 w5;obtain⟨d33,acF,aaD⟩:=vZ 69;refine cI rfl rfl zr (kA (x:=.tmp 6) (v:=fv) rfl u65 acF aaD (by simp[World.cell?,X2])) ?_;show wpOpsIn _ _ _ _ _ [1] (a5.put (some 12) fv) w5
 obtain⟨a6,Xh⟩:∃a6,a5.put (some 12) fv=a6:=⟨_,rfl⟩
 rw[Xh]
 have z6:a6.tmps.size=14:=by rw[<-Xh,ld];exact z5
 have u12:a6.tmps.getD 12 undef=fv:=by rw[<-Xh];exact jj _ _ _ z5 zd
 have Wg:a6.defers=[]:=by rw[<-Xh,tu,<-r_,tu,<-nf,tu,<-tE,tu];exact Va
 have hc6:∀{P':Nat->Nat->Prop},(∀b k,P' b k->b<bN)->cC P' P' w2 w5:=λh=>cC.of_eq λb k hp=>⟨hp,Lx b (h b k hp)⟩
 let X:Fx C all out fA rows:={
  bN:=bN
  cA:=.pointer (some ⟨bA,0,none⟩)
  cY:=.pointer (some ⟨bY,0,none⟩)
  cO:=cO
  cF:=cF
  cR:=.pointer (some ⟨bN+1,0,none⟩)
  MI:=λb=>w.heap.size<=b/\b<bN+2/\b≠bN
  wI:=w5
  bA:=bA
  GF:=GF
  R9:=rfl
  Xa:=⟨⟨hbA.1,zo,zo⟩,zo⟩
  hA2:=⟨tyA,(Lx bA zo).trans r3⟩
  hY:=by
   refine .data _ _ (.ref _ _ _ (λ_=>.func (.yield l) #[] #[]) (λi hi=>?_) (λk hk=>⟨?_,?_⟩) (λk hk=>?_))
   .have:i=0:=by simpa using hi
    subst this;rfl
   .exact⟨hbY.1,zo,zo⟩
   .have:k=0:=by simpa using hk
    subst this;have:w5.heap[bY]?=some (.cells #[.func (.yield l) #[] #[]] tyY (0,0)):=(Lx bY zo).trans q3;simp[World.cell?,this]
   .have:k=0:=by simpa using hk
    subst this;exact .val _ rfl
  hR:=by
   refine .data _ _ (.ref _ _ _ (λ_=>fv) (λi hi=>?_) (λk hk=>⟨?_,?_⟩) (λk hk=>?_))
   .have:i=0:=by simpa using hi
    subst this;rfl
   .exact⟨zo,zo,zo⟩
   .have:k=0:=by simpa using hk
    subst this;simp[World.cell?,X2]
   .have:k=0:=by simpa using hk
    subst this;rw[mK];exact .val _ rfl
  f9:=h9 }
 have ka:mY (λ_=>False) w w5:=by
  refine⟨?_,?_,?_,zo,λb hb _=>(Lx b zo).trans (nh.block b hb)⟩
  .rw[<-OS,<-oz,<-pB];exact nh.os
  .rw[<-OS,<-oz,<-pB];exact nh.tape
  .rw[<-OS,<-oz,<-pB];exact nh.output
 have y7:cC Pr Pr w w5:=cC.rA λb k hb _=>ka.block b hb (λh=>h)
 have st:St X 0 (λb=>w.heap.size<=b/\b<bN+2) Pr [] w5:=by
  refine⟨C.eF hJ ka λb hb=>⟨zo,.inr hb.1⟩,λb hb=>zo,λb hb=>⟨⟨hb.1,hb.2.1⟩,hb.2.2,rfl⟩,⟨.slice none 0 0,174,[],?_,?_,⟨rfl,.inl ⟨rfl,rfl⟩⟩,⟨λx hx=>(by cases hx),λj hj=>(by simp[ct]at hj)⟩,λb hb=>(by cases hb)⟩,hrF.mono y7 λ_ _ h=>h,hrO.mono y7 λ_ _ h=>h,pT.mono (cC.of_eq λb k hp=>?_)⟩
  .show w5.heap[bN]?=_;rw[YR bN zo,EI bN zo];exact QF
  .show w.heap.size<=bN/\bN<bN+2;exact⟨by rw[<-Vg];exact nh.size,zo⟩
  .have cM:=nh.size
   have aN:b<bN:=by
    rcases hp with h|h<;>omega
   refine⟨⟨aN,?_⟩,Lx b aN⟩;rcases hp with h|h
   .exact .inr h.2
   .exact .inl (show w.heap.size<=b/\b<bN+2/\b≠bN from⟨h.1,zo,zo⟩)
 have T_:=U0 hG X eu Wj kl all.length 0 [] 0 _ Pr w5 [] zo (aed _) st ah7
 have za:(#[a6.eval (.const (.int .i64 0))]++#[.pointer (some ⟨bA,0,none⟩),.pointer (some ⟨bY,0,none⟩),cO,.pointer (some ⟨bN,0,none⟩),cF,.pointer (some ⟨bN+1,0,none⟩)])=#[.int .i64 ((0:Nat):Int),X.cA,X.cY,X.cO,.pointer (some ⟨X.bN,0,none⟩),X.cF,X.cR]:=by
  simp[Act.eval,X]
 rw[<-za]at T_;have abh:a6.eval (.tmp 12)=.func (.func 167) #[] #[.pointer (some ⟨bA,0,none⟩),.pointer (some ⟨bY,0,none⟩),cO,.pointer (some ⟨bN,0,none⟩),cF,.pointer (some ⟨bN+1,0,none⟩)]:=u12.trans mK;refine il rfl rfl zr (vi (f:=.tmp 12) (x:=.const (.int .i64 0)) w5 rfl rfl rfl abh zk) T_ ?_;rintro e w6 ⟨M',fE,zm⟩
 obtain⟨b,rfl,hv⟩:∃b:Bool,e=.returned (.bool b)/\(C.J ((ch [] all rows).map (cU out)).length M' fE w6\/C.X M' fE w6):=by
  rcases zm with⟨rfl,h⟩|⟨rfl,h⟩
  .refine⟨true,rfl,.inl ?_⟩;have:=h.j;simpa using this
  .exact⟨false,rfl,.inr h⟩
 refine⟨_,rfl,?_⟩;show bodyPost prog f165 _ .normal (a6.put (some 13) (.bool b)) w6;refine⟨by rw[tu];exact Wg,.tuple #[],?_,.tuple #[],_,_,rfl,hv⟩;simp[results,results165]
def SQ:TypeDesc→Bool
  |.interface _=>true
  |_=>false
def Jd {P:Program} {t:TypeId} (h:(P.underlying t).map SQ=some true):∃ ms,P.underlying t=some (.interface ms):=by
  cases hi:P.underlying t with
  |none=>rw[hi]at h;cases h
  |some d =>
    rw[hi]at h
    cases d<;>first|(cases h;done)|exact⟨_,rfl⟩
def UR (T:Nat) (v:Value) (w:World):(binOp .eql 20 (.iface T v) .nilIface).run prog w = .ok (.bool false) w:=by
  have:(Op.equal 20 (.iface T v) .nilIface).run prog w = .ok false w:=by
    obtain⟨ms,hm⟩:=Jd (P:=prog) (t:=20) zk;unfold Op.equal Op.maxDepth Op.equalIn;simp[aet hm]
  simp[binOp,this]
def tV {a:Act} {o:Oper} {T:Nat} {v:Value} {x:Operand} (w:World) (ho:o.op = .binOp .eql 20 x (.const .nilIface) 20) (hx:a.eval x = .iface T v):(execOp a.eval o).run prog w = .ok (.value (.bool false)) w:=by
  have h0:(eqGuard .eql 20 x (.const .nilIface) (.iface T v) .nilIface).run prog w=.ok () w:=iK _ _ _ _ _ _ rfl;have hc:a.eval (.const .nilIface)=.nilIface:=rfl;simp[execOp,ho,hx,hc,h0,UR]
def KX {bE:Nat} {u:Value} {ty:TypeId} (w:World) (hE:w.heap[bE]? = some (.cells #[u] ty (0,0))) (n:Int) :
    CallsD prog 127 #[.pointer (some ⟨bE,0,none⟩)] (.panicking [{ v := .iface 190 (.agg #[.int .i64 n]),recovered:=false }]) w fun e u' w' =>
      e=.returned (.tuple #[])/\u'=.panicking [{ v:=.iface 190 (.agg #[.int .i64 n]),recovered:=true }]/\∃w1,Below w.heap.size w w1/\w'=w1.setRow bE #[.int .i64 5]:=by
  refine agJ func127 rfl λDQ cs hu=>?_
  apply ahW;apply ahg;simp[wpOpsS,go_sem,recoverD,hu,ntmps127,Exit.thenS];refine ahq ?_;refine(gl (m:=0)).1 ?_;refine iS (λa=>a.tmps.size=14/\a.defers=[]/\a.tmps.getD 0 undef=.pointer (some ⟨bE,0,none⟩)/\a.tmps.getD 5 undef=.iface 190 (.agg #[.int .i64 n])) ⟨ah7,rfl,ah7,ah7⟩ ?_;rintro a ⟨cM,fq,h0,h5⟩;have aN:=(aea.1 hE).1;refine afD (aeq (aeG ?_));show wpOpsIn _ _ _ _ _ [0] a w;refine cI rfl rfl zr (tV (x:=.tmp 5) w rfl h5) ?_;show Code.wpIn _ _ _ _ _ (a.put (some 7) (.bool false)) w
  have h7:(a.put (some 7) (.bool false)).tmps.getD 7 undef=.bool false:=by simp[Act.put,cM]
  refine ae7 (t:=false) h7 ?_;simp only[aek,aeA];refine iS (λa=>a.tmps.size=14/\a.defers=[]/\a.tmps.getD 0 undef=.pointer (some ⟨bE,0,none⟩)/\a.tmps.getD 5 undef=.iface 190 (.agg #[.int .i64 n])) ⟨by simp[Act.put,cM],fq,by simpa[Act.put,aem]using h0,by simpa[Act.put,aem]using h5⟩ ?_;clear h7 h5 h0 fq cM a;rintro a ⟨cM,fq,h0,h5⟩
  have hS:∀ (a:Act) (w:World),a.tmps.getD 5 undef = .iface 190 (.agg #[.int .i64 n])→∀ t,t < 14→((fun t=>if t=5 then AV.iface 190 (.agg [.int .i64 n]) else AV.cT:au) t).bC=(fun t=>if t=5 then AV.iface 190 (.agg [.int .i64 n]) else AV.cT:au) t ∧
      RV (λ_ _=>True) dW w ((λt=>if t=5 then AV.iface 190 (.agg [.int .i64 n])else AV.cT:au) t) (a.tmps.getD t undef):=by
    intro a w h5 t ht
    by_cases h:t=5
    . subst h
      rw[h5];refine⟨rfl,.data _ _ (.iface _ _ _ (.agg _ _ rfl (λi hi=>?_) (λi hi eJ=>?_)))⟩
      . have:i=0:=by simpa using hi
        subst this;rfl
      . have:i=0:=by simpa using hi
        subst this;exact .int _ _
    . simp only[h,aeA];exact⟨rfl,.cT _⟩
  refine aeq ?_;refine dS (GI:=λ_=>True) (λ_ _ _ _=>trivial) d_ (ac:=ah.qa c127.qb.qb.qb.qb) (W:=λt=>decide (8<=t)) zk zk zk trivial (λ_ _=>True) _ cM fq (hS a w h5) (K:=λS' _=>S' 9=.bool true/\S' 10=.agg [.int .i64 n]) ?_ ?_
  . simp[c127,ah.qa,ah.qb,cW,cQ,an,cy,ar,aq,aM.S,aM.H,ev,aF,bl,AV.bC]
  rintro g S' H' a' w' hg R1 ⟨h9,oL⟩ cP;have t9:=R1.slot 9 zd (λh=>h);rw[h9]at t9;have t9:=t9.gK;have t10:=R1.slot 10 zd (λh=>h);rw[oL]at t10
  have b1:Below w.heap.size w w':=by have:=R1.below;rwa [R1.base]at this
  show Code.wpIn _ _ _ _ _ a' w';refine ae7 (t:=true) t9 ?_;simp only[aeH];refine aeq ?_;refine ku R1 (GI:=λ_=>True) (λ_ _ _ _=>trivial) trivial d_ (ac:=ah.qa c127.qb.qb.qb.qb.qb.qa) (W:=λt=>decide (1<=t)) zk zk zk (by rw[hg];exact λ_ h=>h) (K:=λ_ _=>True) ?_ ?_
  . simp[c127,ah.qa,ah.qb,cW,cQ,an,cy,ar,aq,aM.S,aM.H,ev,aF,bl,AV.bC,oL,bt,HR.okB,AV.cells,AV.storable,aP,AV.aZ,bj]
  rintro g2 S2 H2 a2 w2 oN R2 _ lG
  have b2:Below w.heap.size w w2:=by have:=R2.below;rwa [R2.base]at this
  have e0:a2.tmps.getD 0 undef=.pointer (some ⟨bE,0,none⟩):=(lG 0 rfl).trans ((cP 0 rfl).trans h0);have JF:w2.heap[bE]?=some (.cells #[u] ty (0,0)):=(b2.block bE aN).trans hE;obtain⟨i36,tt,tx⟩:=iZ 34 1;show Code.wpIn _ _ _ _ _ a2 w2;refine aeG ?_;show wpOpsIn _ _ _ _ _ [0] a2 w2;refine fD rfl rfl zr (jC (x:=.tmp 0) (y:=.const (.int .i64 5)) (v:=.int .i64 5) rfl e0 tt tx JF rfl rfl) ?_;refine⟨by show a2.defers=[];rw[R2.defers,oN,hg];rfl,_,rfl,.tuple #[],?_,rfl,rfl,w2,b2,rfl⟩;simp[results,results127]
def KG {bE:Nat} {u:Value} {ty:TypeId} (w:World) (hE:w.heap[bE]? = some (.cells #[u] ty (0,0))) (n:List UInt8) :
    CallsD prog 127 #[.pointer (some ⟨bE,0,none⟩)] (.panicking [{ v := .iface 192 (.agg #[.string ⟨n.toArray⟩]),recovered:=false }]) w fun e u' w' =>
      e=.returned (.tuple #[])/\u'=.panicking [{ v:=.iface 192 (.agg #[.string ⟨n.toArray⟩]),recovered:=true }]/\∃w1,Below w.heap.size w w1/\w'=w1.setRow bE #[.int .i64 4]:=by
  refine agJ func127 rfl λDQ cs hu=>?_
  apply ahW;apply ahg;simp[wpOpsS,go_sem,recoverD,hu,ntmps127,Exit.thenS];refine ahq ?_;refine(gl (m:=0)).1 ?_;refine iS (λa=>a.tmps.size=14/\a.defers=[]/\a.tmps.getD 0 undef=.pointer (some ⟨bE,0,none⟩)/\a.tmps.getD 5 undef=.iface 192 (.agg #[.string ⟨n.toArray⟩])) ⟨ah7,rfl,ah7,ah7⟩ ?_;rintro a ⟨cM,fq,h0,h5⟩;have aN:=(aea.1 hE).1;refine afD (aeq (aeG ?_));show wpOpsIn _ _ _ _ _ [0] a w;refine cI rfl rfl zr (tV (x:=.tmp 5) w rfl h5) ?_;show Code.wpIn _ _ _ _ _ (a.put (some 7) (.bool false)) w
  have h7:(a.put (some 7) (.bool false)).tmps.getD 7 undef=.bool false:=by simp[Act.put,cM]
  refine ae7 (t:=false) h7 ?_;simp only[aek,aeA];refine iS (λa=>a.tmps.size=14/\a.defers=[]/\a.tmps.getD 0 undef=.pointer (some ⟨bE,0,none⟩)/\a.tmps.getD 5 undef=.iface 192 (.agg #[.string ⟨n.toArray⟩])) ⟨by simp[Act.put,cM],fq,by simpa[Act.put,aem]using h0,by simpa[Act.put,aem]using h5⟩ ?_;clear h7 h5 h0 fq cM a;rintro a ⟨cM,fq,h0,h5⟩
  have hS:∀ (a:Act) (w:World),a.tmps.getD 5 undef = .iface 192 (.agg #[.string ⟨n.toArray⟩])→∀ t,t < 14→((fun t=>if t=5 then AV.iface 192 (.agg [.str n]) else AV.cT:au) t).bC=(fun t=>if t=5 then AV.iface 192 (.agg [.str n]) else AV.cT:au) t ∧
      RV (λ_ _=>True) dW w ((λt=>if t=5 then AV.iface 192 (.agg [.str n])else AV.cT:au) t) (a.tmps.getD t undef):=by
    intro a w h5 t ht
    by_cases h:t=5
    . subst h
      rw[h5];refine⟨rfl,.data _ _ (.iface _ _ _ (.agg _ _ rfl (λi hi=>?_) (λi hi eJ=>?_)))⟩
      . have:i=0:=by simpa using hi
        subst this;rfl
      . have:i=0:=by simpa using hi
        subst this;exact .str _
    . simp only[h,aeA];exact⟨rfl,.cT _⟩
  refine aeq ?_;refine dS (GI:=λ_=>True) (λ_ _ _ _=>trivial) d_ (ac:=ah.qa c127.qb.qb.qb.qb) (W:=λt=>decide (8<=t)) zk zk zk trivial (λ_ _=>True) _ cM fq (hS a w h5) (K:=λS' _=>S' 9=.bool false/\S' 5=.iface 192 (.agg [.str n])) ?_ ?_
  . simp[c127,ah.qa,ah.qb,cW,cQ,an,cy,ar,aq,aM.S,aM.H,ev,aF,bl,AV.bC]
  rintro g0 S0 H0 a0 ZU JE R0 ⟨MD,ZX⟩ JQ;have t90:=R0.slot 9 zd (λh=>h);rw[MD]at t90;have t90:=t90.gK;show Code.wpIn _ _ _ _ _ a0 ZU;refine ae7 (t:=false) t90 ?_;simp only[aek,aeA];refine aeq ?_;refine ku R0 (GI:=λ_=>True) (λ_ _ _ _=>trivial) trivial d_ (ac:=ah.qa c127.qb.qb.qb.qb.qb.qb) (W:=λt=>decide (8<=t)) zk zk zk (by rw[JE];exact λ_ h=>h) (K:=λS' _=>S' 12=.bool true/\S' 13=.agg [.str n]) ?_ ?_
  . simp[c127,ah.qa,ah.qb,cW,cQ,an,cy,ar,aq,aM.S,aM.H,ev,aF,bl,AV.bC,ZX]
  rintro g S' H' a' w' hg R1 ⟨h9,oL⟩ J';have cP:=JQ.trans J';rw[JE]at hg;have t9:=R1.slot 12 zd (λh=>h);rw[h9]at t9;have t9:=t9.gK;have t10:=R1.slot 13 zd (λh=>h);rw[oL]at t10
  have b1:Below w.heap.size w w':=by have:=R1.below;rwa [R1.base]at this
  show Code.wpIn _ _ _ _ _ a' w';refine ae7 (t:=true) t9 ?_;simp only[aeH];refine aeq ?_;refine ku R1 (GI:=λ_=>True) (λ_ _ _ _=>trivial) trivial d_ (ac:=ah.qa c127.qb.qb.qb.qb.qb.qb.qb.qa) (W:=λt=>decide (1<=t)) zk zk zk (by rw[hg];exact λ_ h=>h) (K:=λ_ _=>True) ?_ ?_
  . simp[c127,ah.qa,ah.qb,cW,cQ,an,cy,ar,aq,aM.S,aM.H,ev,aF,bl,AV.bC,oL,bt,HR.okB,AV.cells,AV.storable,aP,AV.aZ,bj]
  rintro g2 S2 H2 a2 w2 oN R2 _ lG
  have b2:Below w.heap.size w w2:=by have:=R2.below;rwa [R2.base]at this
  have e0:a2.tmps.getD 0 undef=.pointer (some ⟨bE,0,none⟩):=(lG 0 rfl).trans ((cP 0 rfl).trans h0);have JF:w2.heap[bE]?=some (.cells #[u] ty (0,0)):=(b2.block bE aN).trans hE;obtain⟨i36,tt,tx⟩:=iZ 34 1;show Code.wpIn _ _ _ _ _ a2 w2;refine aeG ?_;show wpOpsIn _ _ _ _ _ [0] a2 w2;refine fD rfl rfl zr (jC (x:=.tmp 0) (y:=.const (.int .i64 4)) (v:=.int .i64 4) rfl e0 tt tx JF rfl rfl) ?_;refine⟨by show a2.defers=[];rw[R2.defers,oN,hg];rfl,_,rfl,.tuple #[],?_,rfl,rfl,w2,b2,rfl⟩;simp[results,results127]
def NJ (p:Addr) (w:World) :
    CallsD prog 127 #[.pointer (some p)] .returning w λe u' w'=>e=.returned (.tuple #[])/\u'=.returning/\w'=w:=by
  refine agJ func127 rfl λDQ cs hu=>?_
  apply ahW;apply ahg;simp[wpOpsS,go_sem,recoverD,hu,ntmps127,Exit.thenS];refine ahq ?_
  go_wp2
  cases DQ
  simp_all[bodyPostS,results,results127]
def CC {P:Program} {a:Act} {o:Oper} {cl:Call} {f:Operand} {k:Nat} {cap:Array Value} (w:World) (ho:o.op = .call cl) (hc:cl.callee = .value f) (ha:cl.args = #[]) (hf:a.eval f = .func (.func k) #[] cap) (hk:eU P k=true) :
    (execOp a.eval o).run P w=.ok (.enter k cap) w:=by
  unfold execOp;simp[ho,fQ hc,hf,Deferred.ofValue,invoke,ha,hZ hk]
def run_move {P:Program} {a:Act} {o:Oper} {x:Operand} (w:World) (ho:o.op = .move x):(execOp a.eval o).run P w = .ok (.value (a.eval x)) w:=by
  unfold execOp;simp only[ho]
  rfl
def Dt{w:World}{b:Nat}{v u:Value}{ty:TypeId}(h:w.heap[b]?=some (.cells #[u] ty (0,0))):(w.setRow b #[v]).heap[b]?=some (.cells #[v] ty (0,0)):=afV w b _ _ _ _ h
def Rb {a:Act} {w:World} {b:Nat} {v:Value} {ty:TypeId} (h2:a.tmps.getD 2 undef = .pointer (some ⟨b,0,none⟩)) (h:w.heap[b]? = some (.cells #[v] ty (0,0))):(results f92 a.tmps).run prog w = .ok v w:=by
  obtain⟨d,Gd,vQ⟩:=vZ 34
  have lP:(isAgg 34).run prog w = .ok false w:=by
    unfold isAgg;rw[ael,aet Gd w]
    cases d<;>simp_all[ef]
  have hl:(loadVar 34 ⟨b,0,none⟩).run prog w = .ok v w:=by
    simp[loadVar,ael,lP,World.cell?,h]
  have hr:f92.results=#[.cell 2 34]:=rfl
  have C2:a.tmps[2]?.getD undef=.pointer (some ⟨b,0,none⟩):=by rw[<-h2];simp
  simp[results,hr,C2,asAddr,hl]
def rC {k:Nat} {us:Array Value} {w:World} {R1 R:Ending→World→Prop} (km:eU prog k=true) (hc:Calls prog k us (w.alloc (.cells #[.int .i64 0] 34)) R1)
    (h:∀ e w2,R1 e w2→w.heap.size < w2.heap.size∧(∃ u ty,w2.heap[w.heap.size]? = some (.cells #[u] ty (0,0))) ∧
      ((∃c,e=.returned c/\R (.returned (.int .i64 0)) (w2.setRow w.heap.size #[.int .i64 0]))\/
       (∃n,e=.panicked [{ v:=.iface 190 (.agg #[.int .i64 n]),recovered:=false }]/\∀w3,Below w2.heap.size w2 w3->R (.returned (.int .i64 5)) (w3.setRow w.heap.size #[.int .i64 5]))\/
       (∃s:List UInt8,e=.panicked [{ v:=.iface 192 (.agg #[.string ⟨s.toArray⟩]),recovered:=false }]/\∀w3,Below w2.heap.size w2 w3->R (.returned (.int .i64 4)) (w3.setRow w.heap.size #[.int .i64 4])))):
    Calls prog 92 #[.func (.func k) #[] us] w R:=by
  refine calls_of_wp_defers func92 rfl ?_;refine(gl (m:=0)).1 ?_;refine iS (λa=>a.tmps.size=6/\a.defers=[]/\a.tmps.getD 0 undef=.func (.func k) #[] us) ⟨by simp[ntmps92],rfl,dQ _ _ 0 ah7⟩ ?_;rintro a ⟨cM,fq,h0⟩
  obtain⟨bE,P6⟩:∃bE,w.heap.size=bE:=⟨_,rfl⟩
  have f_:∀ (a:Act) (d t:Nat) (c:Value),t≠d→(a.put (some d) c).tmps.getD t undef=a.tmps.getD t undef:=fun a d t c h=>by
    simp[Act.put,aem (ae0 h)]
  have jj:∀ (a:Act) (d:Nat) (c:Value),a.tmps.size=6→d < 6→(a.put (some d) c).tmps.getD d undef=c:=fun a d c h hd=>by
    simp[Act.put,h,hd]
  have ld:∀(a:Act)(d:Option Nat)(c:Value),(a.put d c).tmps.size=a.tmps.size:=λa d c=>by cases d<;>simp[Act.put]
  refine aeq (aeG ?_);show wpOpsIn _ _ _ _ _ [0] a w;refine cI rfl rfl zr (mz (t:=34) (z:=.int .i64 0) rfl zk) ?_;show Code.wpIn _ _ _ _ _ (a.put (some 2) (.pointer (some ⟨w.heap.size,0,none⟩))) (w.alloc (.cells #[.int .i64 0] 34));rw[P6]at h;simp only[P6]
  obtain⟨w1,qk⟩:∃w1,w.alloc (.cells #[.int .i64 0] 34)=w1:=⟨_,rfl⟩
  rw[qk]at hc⊢;refine iS (λa=>a.tmps.size=6/\a.defers=[]/\a.tmps.getD 0 undef=.func (.func k) #[] us/\a.tmps.getD 2 undef=.pointer (some ⟨bE,0,none⟩)) ⟨by rw[ld];exact cM,fq,by rw[f_ _ _ _ _ zd];exact h0,jj _ _ _ cM zd⟩ ?_;clear h0 fq cM a;rintro a ⟨cM,fq,h0,h2⟩;refine aeq (aeG ?_);show wpOpsIn _ _ _ _ _ [0,1] a w1;refine cI rfl rfl zr (nt (fn:=.func 127) (c:=#[.tmp 2]) rfl) ?_
  have gq:(#[Operand.tmp 2].map a.eval) = #[.pointer (some ⟨bE,0,none⟩)]:=by
    simp only[aeN,aer,aeF,Act.eval];rw[h2]
  rw[gq];show wpOpsIn _ _ _ _ _ [1] (a.put (some 3) (.func (.func 127) #[] #[.pointer (some ⟨bE,0,none⟩)])) w1
  obtain⟨a2,j_⟩:∃a2,a.put (some 3) (.func (.func 127) #[] #[.pointer (some ⟨bE,0,none⟩)])=a2:=⟨_,rfl⟩
  rw[j_]
  have z2:a2.tmps.size=6:=by rw[<-j_,ld];exact cM
  have u3:a2.tmps.getD 3 undef=.func (.func 127) #[] #[.pointer (some ⟨bE,0,none⟩)]:=by rw[<-j_];exact jj _ _ _ cM zd
  have u0:a2.tmps.getD 0 undef=.func (.func k) #[] us:=by rw[<-j_,f_ _ _ _ _ zd];exact h0
  have u2:a2.tmps.getD 2 undef=.pointer (some ⟨bE,0,none⟩):=by rw[<-j_,f_ _ _ _ _ zd];exact h2
  have ud:a2.defers=[]:=by rw[<-j_];exact fq
  refine Cf rfl rfl (d:={ target:=.fn (.func 127) #[.pointer (some ⟨bE,0,none⟩)],args:=#[] }) (w':=w1) ?_ ?_
  . unfold execOp
    simp[fQ,Deferred.ofValue,Act.eval,u3]
  have Vv:∀ (w:World),(invoke (.fn (.func 127) #[.pointer (some ⟨bE,0,none⟩)]) #[]).run prog w = .ok (.enter 127 #[.pointer (some ⟨bE,0,none⟩)]) w:=fun w=>by
    simp[invoke,hZ (P:=prog) (f:=127) zk]
  show Code.wpIn _ _ _ _ _ { a2 with defers:={ target:=.fn (.func 127) #[.pointer (some ⟨bE,0,none⟩)],args:=#[] }::a2.defers } w1;refine iS (λa=>a.tmps.size=6/\a.defers=[{ target:=.fn (.func 127) #[.pointer (some ⟨bE,0,none⟩)],args:=#[] }]/\a.tmps.getD 0 undef=.func (.func k) #[] us/\a.tmps.getD 2 undef=.pointer (some ⟨bE,0,none⟩)) ⟨z2,by show _::a2.defers=_;rw[ud],u0,u2⟩ ?_;clear u0 u2 u3 ud z2 j_ a2 h0 h2 fq cM gq a;rintro a ⟨cM,fq,h0,h2⟩;refine aeq (aeG ?_);show wpOpsIn _ _ _ _ _ [0,1] a w1;refine cI rfl rfl zr (run_move (x:=.tmp 0) w1 rfl) ?_;have e0:a.eval (.tmp 0)=.func (.func k) #[] us:=h0;rw[e0];show wpOpsIn _ _ _ _ _ [1] (a.put (some 4) (.func (.func k) #[] us)) w1
  obtain⟨a2,j_⟩:∃a2,a.put (some 4) (.func (.func k) #[] us)=a2:=⟨_,rfl⟩
  rw[j_]
  have z2:a2.tmps.size=6:=by rw[<-j_,ld];exact cM
  have u4:a2.eval (.tmp 4)=.func (.func k) #[] us:=by show a2.tmps.getD 4 undef=_;rw[<-j_];exact jj _ _ _ cM zd
  have u2:a2.tmps.getD 2 undef=.pointer (some ⟨bE,0,none⟩):=by rw[<-j_,f_ _ _ _ _ zd];exact h2
  have ud:a2.defers=[{ target:=.fn (.func 127) #[.pointer (some ⟨bE,0,none⟩)],args:=#[] }]:=by rw[<-j_];exact fq
  refine p7 rfl rfl zr (CC (f:=.tmp 4) w1 rfl rfl rfl u4 km) hc ?_;intro e w2 he;obtain⟨aN,⟨uE,tyE,hE⟩,uj⟩:=h e w2 he
  have FT:∀ {args:Array Value} {u:FrameMode} {w:World} {R R':Ending→FrameMode→World→Prop},CallsD prog 127 args u w R→(∀ e u w,R e u w→R' e u w)→CallsD prog 127 args u w R':=fun h hr c cs hu =>
    let⟨e,u',w',fr,r,rest⟩:=h c cs hu;⟨e,u',w',fr,hr _ _ _ r,rest⟩
  have zZ:∀ (p:PanicEntry) (v:Value) (hv:CallsD prog 127 #[.pointer (some ⟨bE,0,none⟩)] (.panicking [p]) w2 fun e u' w'=>e = .returned (.tuple #[])∧u' = .panicking [{ p with recovered:=true }]∧∃ w1,Below w2.heap.size w2 w1∧w'=w1.setRow bE #[v]),
      p.goexit=false->(∀w3,Below w2.heap.size w2 w3->R (.returned v) (w3.setRow bE #[v]))->Leaves prog f92 a2.tmps R a2.defers (.panicking [p]) w2:=by
    intro p v hv sL hR;rw[ud];refine ahS ah7 (Vv w2) (FT hv ?_);rintro e u' w' ⟨rfl,rfl,w3,pK,rfl⟩;have hE3:w3.heap[bE]?=some (.cells #[uE] tyE (0,0)):=(pK.block bE aN).trans hE;show Leaves prog f92 a2.tmps R [] .returning (w3.setRow bE #[v]);exact⟨v,Rb u2 (Dt hE3),hR w3 pK⟩
  rcases uj with⟨c,rfl,hR⟩|⟨n,rfl,hR⟩|⟨s,rfl,hR⟩
  . show Code.wpIn _ _ _ _ _ (a2.put (some 5) c) w2
    have Ug:(a2.put (some 5) c).tmps.getD 2 undef=.pointer (some ⟨bE,0,none⟩):=by rw[f_ _ _ _ _ zd];exact u2
    refine aeq (aeG ?_);show wpOpsIn _ _ _ _ _ [0] (a2.put (some 5) c) w2;obtain⟨i36,tt,tx⟩:=iZ 34 1;refine fD rfl rfl zr (jC (x:=.tmp 2) (y:=.const (.int .i64 0)) (v:=.int .i64 0) rfl Ug tt tx hE rfl rfl) ?_;show Code.wpIn _ _ _ _ _ (a2.put (some 5) c) (w2.setRow bE #[.int .i64 0]);refine aga ?_;show Leaves prog f92 (a2.put (some 5) c).tmps R a2.defers .returning (w2.setRow bE #[.int .i64 0]);rw[ud];refine ahS ah7 (Vv _) (FT (NJ _ _) ?_);rintro e u' w' ⟨rfl,rfl,rfl⟩;exact⟨_,Rb Ug (Dt hE),hR⟩
  . exact zZ _ _ (KX w2 hE n) rfl hR
  . exact zZ _ _ (KG w2 hE s) rfl hR
def X6 (hG:aQ GI) {k:Nat} {caps:List AV} {out:jr} {r:Int} (km:eU prog k=true) (hAC:AC prog GI k caps out)
    (kl:(∃v,out=.ret v/\r=0)\/(∃n,out=.panic (.iface 190 (.agg [.int .i64 n]))/\r=5)\/(∃s,out=.panic (.iface 192 (.agg [.str s]))/\r=4)):
    AC prog GI 92 [.func (.func k) [] caps] (.ret (.int .i64 r)):=by
  intro w old dn ib hlen hr;obtain⟨fv,rfl⟩:∃fv,dn=#[fv]:=tg (by simpa using hlen.symm);have h0:=hr 0 ah7 ah7;simp only[List.getElem_cons_zero,List.getElem_toArray]at h0
  obtain ⟨us,rfl,hl,On⟩:∃ us:Array Value,fv = .func (.func k) #[] us∧caps.length=us.size∧∀ i (h:i < caps.length) (h':i < us.size),RV old (fun _=>none) w caps[i] us[i]:=by
    cases h0 with
    |data _ _ h=>cases h
    |func _ _ _ vs us h1 h2 r1 r2 =>
      have:vs=#[]:=afI (by simpa using h1.symm);subst this;exact⟨us,rfl,h2,r2⟩
  have pn:Below w.heap.size w (w.alloc (.cells #[.int .i64 0] 34)):=(afb _ _).alloc (aed _) _
  have hk:cC old old w (w.alloc (.cells #[.int .i64 0] 34)):=cC.jK (λb h=>pn.block b h) λ_ _ _ h=>h
  have hN:(w.alloc (.cells #[.int .i64 0] 34)).heap[w.heap.size]?=some (.cells #[.int .i64 0] 34 (0,0)):=ae8 w _;refine rC km (hAC (w.alloc (.cells #[.int .i64 0] 34)) old us (hG _ _ ib pn) hl (λi h h'=>(On i h h').mono hk λ_ _ h=>h)) ?_;rintro e w2 ⟨jo,hi,rI,uj⟩
  have aa_:w.heap.size<w2.heap.size:=by have:=jo.size;simp at this;omega
  have JF:w2.heap[w.heap.size]?=some (.cells #[.int .i64 0] 34 (0,0)):=(jo.block _ ah7).trans hN;refine⟨aa_,⟨_,_,JF⟩,?_⟩
  have fin:∀ (w3:World) (r:Int),Below w2.heap.size w2 w3→AL.Ends prog old w (.ret (.int .i64 r)) (.returned (.int .i64 r)) (w3.setRow w.heap.size #[.int .i64 r]):=by
    intro w3 r pK
    have nh:Below w.heap.size w w3:=by
      have h1:=pn.trans (jo.mono ah7);exact h1.trans (pK.mono zo)
    refine⟨⟨nh.os,nh.tape,nh.output,by simpa using nh.size,λb hb=>(afm w3 _ b _ zo).trans (nh.block b hb)⟩,λ_=>0,λ_ _=>rfl,_,rfl,.data _ _ (.int _ _),trivial⟩
  rcases kl with⟨v,rfl,rfl⟩|⟨n,rfl,rfl⟩|⟨s,rfl,rfl⟩
  . obtain ⟨c,rfl,_,_⟩:=uj
    exact .inl ⟨c,rfl,fin w2 0 (afb _ _)⟩
  . obtain ⟨c,rfl,hc⟩:=uj
    obtain rfl:c = .iface 190 (.agg #[.int .i64 n]):=by
      cases hc with
      |iface _ _ c h =>
        cases h with
        |agg _ vs hl h1 hr =>
          obtain⟨u,rfl⟩:=tg (vs:=vs) (by rw[<-hl];rfl);have:=hr 0 ah7 ah7;have:=(RV.data (al:=dW) _ _ this).int_eq;simp only[List.getElem_toArray,List.getElem_cons_zero]at this;rw[this]
    exact .inr (.inl ⟨n,rfl,λw3 h3=>fin w3 5 h3⟩)
  . obtain ⟨c,rfl,hc⟩:=uj
    obtain rfl:c = .iface 192 (.agg #[.string ⟨s.toArray⟩]):=by
      cases hc with
      |iface _ _ c h =>
        cases h with
        |agg _ vs hl h1 hr =>
          obtain⟨u,rfl⟩:=tg (vs:=vs) (by rw[<-hl];rfl);have:=hr 0 ah7 ah7;simp only[List.getElem_toArray,List.getElem_cons_zero]at this;cases this;rfl
    exact .inr (.inr ⟨s,rfl,λw3 h3=>fin w3 4 h3⟩)
def qY{GI:World->Prop}(hG:aQ GI){n:Nat}{ro:Option Nat}{Q:fG}{old:Old}{S:au}{H:aD}{x y:Code}(ac:ah)(du:∀d∈ac.names,¬old.bx d)(K:au->aD->Prop)(h:cW prog GI ac (aq K) S H)(hy:∀S' H',K S' H'->SW prog GI n ro y Q old S' H')(hc:lX x=true:=by kernel_rfl)(pA:ez prog n x=ac:=by kernel_rfl):SW prog GI n ro (.seq x y) Q old S H:=SW.cut hG d_ hc pA du K h hy
def eR{GI:World->Prop}(hG:aQ GI){n:Nat}{ro:Option Nat}{Q:fG}{old:Old}{S:au}{H:aD}{x y:Code}(ac:ah)(K:au->aD->Prop)(h:cW prog GI ac (aq K) S H)(hy:∀S' H',K S' H'->SW prog GI n ro y Q old S' H')(du:∀d∈ac.names,¬old.bx d:=by exact λ_ _ h=>h)(hc:lX x=true:=by kernel_rfl)(pA:ez prog n x=ac:=by kernel_rfl):SW prog GI n ro (.seq x y) Q old S H:=SW.cut hG d_ hc pA du K h hy
def js:AV.bC∘AV.bC=AV.bC:=by funext v;exact AV.idem v
def VV:AV.dE∘AV.dE=AV.dE:=by funext v;cases v<;>rfl
def ZG(hG:aQ GI){fA:List AV}{out:List Int}(hl:fA.length=11):AC prog GI 152 [.agg fA,vI out] (.ret (.func (.func 165) [] [.ref (fA.map AV.dE),.ref [vI out]])):=by
 refine AC.Hb hG d_ func152 rfl ntmps152 ah7 (ac:=c152) zk ?_;simp[c152,cW,cQ,an,cy,ar,bD,ev,aM.S,aM.H,aF,bl,AL.start,AV.bC,AV.cells,AV.storable,hl,bt,lD,bj,vI];refine⟨4,.func 165,[],[.box 2 0,.box 3 0],rfl,zd,by simp[aF],?_⟩;simp[aF,fz,cL,AV.dE,p9]
def JP(out:List Int)(l:List (List End)):AV:=.slice (if l.isEmpty then .nil else .own 176) (l.map (cU out))
def Iw(out:List Int)(l:List (List End)):AV:=.slice (if l.isEmpty then .nil else .view) (l.map (cU out))
def aa0 (hG:aQ GI) {fA:List AV} {out:List Int} {l8:List (List End)} {p:List End→Bool} (hl:fA.length=11) (eB:∀ x∈fA,x.one=true) (hlen:l8.length≤100000) (cM:∀ es∈l8,es.length < 1000)
  (hit:yT prog GI 165 [.ref (fA.map AV.dE),.ref [vI out]] (l8.map (cU out))) (aaV:∀es∈l8,AC prog GI 153 [.agg (fA.map AV.dE),cU out es,.int .i64 0] (.ret (.bool (p es)))):
  AC prog GI 140 [.agg fA,vI out] (.ret (Iw out (l8.filter p))):=by
 refine AC.j7 func140 rfl ntmps140 ah7 λcc w=>?_
 refine eR hG c140.qa (λS' H'=>S' 1=vI out/\S' 2=.box 2 0/\H' 2=some (fA.map AV.bC)) ?_ ?_
 .simp[c140,ah.qa,cW,cQ,an,cy,ar,ev,aM.S,aM.H,aF,bl,AL.start,AV.bC,AV.cells,AV.storable,hl,bt,bj,vI,aq]
 rintro S1 H1 ⟨s1,s2,h2⟩;refine eR hG c140.qb.qa (λS' H'=>S' 1=vI out/\S' 2=.box 2 0/\S' 5=.box 5 0/\H' 2=some (fA.map AV.bC)/\H' 5=some [.slice .nil []]) ?_ ?_
 .simp[c140,ah.qa,ah.qb,cW,cQ,an,cy,aF,bt,vI,aq,s1,s2,h2]
 rintro S2 H2 ⟨s1,s2,s5,h2,h5⟩;refine SW.seq (eR hG c140.qb.qb.qa.qa (λS' H'=>S' 2=.box 2 0/\S' 5=.box 5 0/\S' 9=.func (.func 165) [] [.ref (fA.map AV.dE),.ref [vI out]]/\H' 2=some (fA.map AV.bC)/\H' 5=some [.slice .nil []]) ?_ ?_)
 .have e7:fz H2 (.agg (fA.map AV.bC))=.agg (fA.map AV.dE):=by simp only[fz,cL,AV.vw,aft,p9]
  have LH:=ZG hG (fA:=fA.map AV.dE) (out:=out) (GI:=GI) (by simpa using hl);simp only[aft,VV]at LH;simp[c140,ah.qa,ah.qb,cW,cQ,an,cy,ar,ev,aM.S,aM.H,aF,bl,bu,s1,s2,s5,h2,h5,aq,mB,hl,HR.okB,js];have ht:List.take 11 (List.map AV.bC fA)=fA.map AV.bC:=aee (by simp;omega);rw[ht,e7];refine⟨zk,_,LH,by simp[bT,vI,AV.bC],?_⟩;simp[fB,aF,s2,s5,h2,h5]
 rintro S3 H3 ⟨s2,s5,s9,h2,h5⟩
 refine SW.block (SW.range hG d_ (Ph:=.tmp 9) (y:=.t 9) (p:=10) (f:=165) (caps:=[.ref (fA.map AV.dE),.ref [vI out]]) (xs:=l8.map (cU out)) rfl s9 zk rfl hit zd (λx hx=>by obtain⟨e,_,rfl⟩:=aew.1 hx;rfl)
  (λd=>d==6) (aa:=.ops [⟨(some 6),none,.alloc 176 [(.slice .nil []),(.slice .nil [])]⟩,⟨none,none,.store .any 2 (.t 6) (.t 10)⟩]) (ab:=.block 1 (.seq (.ops [⟨some 11,none,.load .any true 11 (.t 2)⟩,⟨some 12,none,.load .any true 2 (.t 6)⟩,⟨some 13,none,.call 153 [(.t 11),(.t 12),(.c (.int .i64 0))]⟩]) (.cond (.t 13) (.ops [⟨some 14,none,.loadT .any (.t 5)⟩,⟨some 15,none,.load .any true 2 (.t 6)⟩,⟨some 16,none,.buildSlice 207 176 2 [(.t 15)]⟩,⟨some 17,none,.append 207 176 2 48 (.t 14) (.t 16)⟩,⟨none,none,.store .any 1 (.t 5) (.t 17)⟩]) .skip)))
  zk zk (by simp[ah.names,db.j5,fg.j5]) (by simp[ah.names,db.j5,fg.j5]) (λ_ _ h=>h) zk zk
  (λk H'=>H' 2=some (fA.map AV.bC)/\H' 5=some [JP out ((l8.take k).filter p)]) (λ_ _=>False) ⟨h2,h5⟩ ?_ ?_ ?_)
 .rintro k hk H' ⟨h2,h5⟩
  have dp:k<l8.length:=by simpa using hk
  have Kx:(l8.map (cU out))[k]=cU out l8[k]:=ah7
  have hf:=aaV l8[k] (ad2 dp)
  have qp:l8.take (k+1)=l8.take k++[l8[k]]:=by rw[aec dp]
  have e7:∀H,fz H (.agg (fA.map AV.bC))=.agg (fA.map AV.dE):=λH=>by simp only[fz,cL,AV.vw,aft,p9]
  have e8:∀H,fz H (.agg [.slice .view (ints out),.slice .view (ct l8[k])])=cU out l8[k]:=λH=>rfl
  have e9:∀H,fz H (.int .i64 0)=.int .i64 0:=λH=>rfl
  have ht:List.take 11 (List.map AV.bC fA)=fA.map AV.bC:=aee (by simp;omega)
  have Gs:qm (λd=>d==6) (S3 2)=.box 2 0:=by rw[s2];rfl
  have rm:qm (λd=>d==6) (S3 5)=.box 5 0:=by rw[s5];rfl
  rw[Kx,qp,aik];simp[cW,cQ,an,cy,ar,ev,aM.S,aM.H,aF,bl,aq,bt,Gs,rm,h2,h5,HR.okB,cU,AV.cells,AV.storable,AV.bC,aP,AV.aZ,bj,bD,bq,bu,js,ht,mB,hl,e7,e8,e9];refine⟨zk,_,hf,by simp[bT],?_⟩;have hL:(List.filter p (List.take k l8)).length<=100000:=afl (ag9 _ _) (by simp;omega);generalize List.filter p (List.take k l8)=L at hL h5⊢
  have df:br 2 (L.map (cU out))=true:=by simp[br,cU,AV.storable,AV.cells]
  cases hp:p l8[k]with
  |false=>simp[fB,tS,h2,h5,hp,aF]
  |true=>
   cases L with
   |nil=>simp[fB,tS,hp,br,AV.storable,AV.cells,AV.vw,AV.dE,JP,AV.bC,HR.okB,aF,aP,AV.aZ,cU,rm,h2]
   |cons x L=>
    have pq:L.length+1+1<1048576:=by simp at hL;omega
    simp[fB,tS,hp,br,AV.storable,AV.cells,AV.vw,AV.dE,JP,AV.bC,HR.okB,aF,aP,AV.aZ,cU,rm,pq,h2]
 .rintro D H' hD ⟨h2,h5⟩;show SW prog GI 19 none (.seq _ .ret) _ _ _ _
  have rm:qm (λd=>d==6) (S3 5)=.box 5 0:=by rw[s5];rfl
  have qp:List.take (l8.map (cU out)).length l8=l8:=aee ah7;rw[qp]at h5;refine eR hG c140.qb.qb.qb.qa (λS' _=>S' 4=Iw out (l8.filter p)) ?_ ?_
  .generalize l8.filter p=L at h5⊢
   cases L<;>simp[c140,ah.qa,ah.qb,cW,cQ,an,cy,ar,ev,aM.S,aM.H,aF,bl,bu,rm,h5,HR.okB,aq,JP,Iw,AV.bC,bj]
  intro S4 H4 s4;refine SW.ret ⟨(e_.plain rfl).mark hD,rfl,_,?_,rfl⟩;show bQ prog 19 [.tmp 4] S4 H4=_;simp[bQ,bG,bH,s4,Iw,AV.aX,AV.out]
 .exact λ_ _ _ _ _ h=>h.elim
structure k_ where
 l:Int
 r:Int
 lo:Int
 hi:Int
def eH(p:k_):AV:=.agg [.int .i64 p.l,.int .i64 p.r,.int .i64 p.lo,.int .i64 p.hi]
def vk(p:k_):AV:=.agg [.int .i64 p.l,.int .i64 p.r]
def qt(p:k_):AV:=.agg [.int .i64 p.lo,.int .i64 p.hi]
def dL(ps:List k_):AV:=.map (ps.map vk) (ps.map qt)
def Ent(es:Array MapEntry)(ps:List k_):Prop:=es.size=ps.length/\∀i (h:i<es.size)(h':i<ps.length),(es[i]).key=.agg #[.int .i64 (ps[i]).l,.int .i64 (ps[i]).r]/\(es[i]).val=.agg #[.int .i64 (ps[i]).lo,.int .i64 (ps[i]).hi]
def Re{Pr:Nat->Nat->Prop}{w:World}(x y:Int):RD Pr w (.agg [.int .i64 x,.int .i64 y]) (.agg #[.int .i64 x,.int .i64 y]):=by
 refine .agg _ _ rfl (λi hi=>?_) (λi hi eJ=>?_)
 .match i,hi with
  |0,_=>rfl
  |1,_=>rfl
 .match i,hi with
  |0,_=>exact .int _ _
  |1,_=>exact .int _ _
def Cc(x y:Int):∀(ps:List k_),(∀p∈ps,¬(p.l=x/\p.r=y))->pM [x,y] (ps.map vk) (ps.map qt)=some none
 |[],_=>rfl
 |p::ps,h=>by
  have hp:([x,y]==[p.l,p.r])=false:=by
   have:=h p aen;simp only[aeO,ne_eq,afY,ahE];rintro⟨rfl,rfl⟩;exact this ⟨rfl,rfl⟩
  show pM [x,y] (vk p::ps.map vk) (qt p::ps.map qt)=some none;unfold pM;simp only[vk,lv,Option.map_some];simp only[List.length_cons,List.length_nil,ne_eq,afM,aeA,hp,aek]
  exact Cc x y ps λq hq=>h q (aei _ hq)
def oM(cc:Nat->Nat->Prop)(w:World)(b:Nat)(es:Array MapEntry)(clock:Nat):Old:={ Old.plain cc w with cg:=aF (λ_=>none) b (some (.map es clock)) }
def NM(sA:List AV)(ps:List k_)(z:List AV)(b j:Nat)(S:au)(H:aD):Prop:=
 S 2=.box 2 0/\S 3=.box 3 0/\S 10=.slice .view (ps.map eH)/\S 11=.int .i64 ps.length/\S 12=.int .i64 (j:Nat)/\H 2=some z/\H 3=some (sA.map AV.bC++[.val (.map (some b))])
def Lj{Pr:Nat->Nat->Prop}{al:Nat->Option Nat}{w:World}{x y:Int}{c:Value}(h:RV Pr al w (.agg [.int .i64 x,.int .i64 y]) c):c=.agg #[.int .i64 x,.int .i64 y]:=by
 cases h with
 |data _ _ h=>
  cases h with
  |agg _ vs hl h1 hr=>
   congr 1
   apply afH
   .rw[<-hl];rfl
   .intro i hi eJ
    have xy:i<2:=by simpa using eJ
    match i,xy with
    |0,_=>exact(RV.data (al:=dW) _ _ (hr 0 ah7 hi)).int_eq
    |1,_=>exact(RV.data (al:=dW) _ _ (hr 1 ah7 hi)).int_eq
def Oy{b:Nat}{ks vs:List AV}{x:AV}(h:isVal x=false):sM b ks vs x.bC=x.bC:=by
 cases x<;>first|rfl|(cases h;done)|skip
 rename_i o es;cases o<;>rfl
def P1{P:Program}{t kt el:TypeId}(h:(P.underlying t).map (λd=>match d with|.map k e=>some (k,e)|_=>none)=some (some (kt,el))):P.underlying t=some (.map kt el):=by
 cases hi:P.underlying t with
 |none=>rw[hi]at h;cases h
 |some d=>
  rw[hi]at h
  cases d<;>simp at h
  obtain⟨rfl,rfl⟩:=h;rfl
def Er:TypeDesc->Bool
 |.struct _=>true
 |_=>false
def Gk{P:Program}{t:TypeId}(h:(P.underlying t).map Er=some true):∃fs,P.underlying t=some (.struct fs):=by
 cases hi:P.underlying t with
 |none=>rw[hi]at h;cases h
 |some d=>
  rw[hi]at h
  cases d<;>first|(cases h;done)|exact⟨_,rfl⟩
def uZ(t:TypeId)(h:(prog.underlying t).map Er=some true:=by kernel_rfl):∃fs,prog.underlying t=some (.struct fs):=Gk h
noncomputable def xc:ah:=ah.qb c139.qb.qb.qa.qb.qb.qb.qb
def aab (hG:aQ GI) {sA:List AV} {ps:List k_} (hl:sA.length=10) (yf:sA[1]? = some (.slice .view (ps.map eH))) (eB:∀ x∈sA,x.storable=true∧isVal x=false) (hlen:ps.length≤100000) (eK:∀ i j (hi:i < ps.length) (hj:j < ps.length),i < j→¬ ((ps[i]).l=(ps[j]).l∧(ps[i]).r=(ps[j]).r)) :
  AC prog GI 139 [.agg sA] (.ret (.agg ((sA++[dL ps]).map AV.dE))):=by
 refine AC.j7 func139 rfl ntmps139 ah7 λcc w=>?_
 refine eR hG c139.qa (λS' H'=>S' 1=.box 1 0/\S' 2=.box 2 0/\H' 1=some (sA.map AV.bC)/\∃z,H' 2=some z/\z.length=11) ?_ ?_
 .simp[c139,ah.qa,cW,cQ,an,cy,ar,ev,aM.S,aM.H,aF,bl,AL.start,AV.bC,AV.cells,AV.storable,hl,bt,bj,aq]
 rintro S1 H1 ⟨s1,s2,h1,z,h2,hz⟩
 refine SW.seq (SW.mid hG (p:=1) (oh:={ dst:=some 7,op := .makeMap 203 none,type:=203,pos := "letter.go:113",after := #[],guard:=none }) (lh:=[_]) (oA:=[_,_,_]) (l2:=[2,3,4]) rfl rfl rfl rfl zk rfl (λ_ h=>h) (po:=(c139.qb.qa.dl).take 1) (ox:=(c139.qb.qa.dl).drop 2) zk zk zk zk
  (K1:=λS' H'=>S' 1=.box 1 0/\S' 2=.box 2 0/\S' 6=.agg (sA.map AV.bC)/\H' 1=some (sA.map AV.bC)/\H' 2=some z)
  (K2:=λo S' H'=>∃b,o=oM cc w b #[] 0/\S' 1=.box 1 0/\S' 2=.box 2 0/\S' 6=.agg (sA.map AV.bC)/\S' 7=.val (.map (some b))/\H' 1=some (sA.map AV.bC)/\H' 2=some z)
  (K3:=λo S' H'=>∃b,o=oM cc w b #[] 0/\S' 1=.box 1 0/\S' 2=.box 2 0/\S' 3=.box 3 0/\H' 1=some (sA.map AV.bC)/\H' 2=some z/\H' 3=some (sA.map AV.bC++[.val (.map (some b))])) ?_ ?_ ?_ ?_)
 .have ht:List.take 10 (sA.map AV.bC)=sA.map AV.bC:=aee (by simp;omega);simp[c139,ah.qa,ah.qb,ah.dl,cQ,an,cy,ar,ev,aM.S,aM.H,aF,bl,bu,s1,s2,h1,h2,HR.okB,hl,js,ht]
 .rintro w0 g S2 H2 a w2 ho R ⟨s1,s2,s6,h1,h2⟩;have R2:=R.o9 (.map #[] 0);refine⟨_,_,_,aF S2 7 (.val (.map (some w2.heap.size))),H2,.inl (run_makeMap rfl),R2.put 7 (.val (.map (some w2.heap.size))) _ zd (.data _ _ (.val _ rfl)) trivial,w2.heap.size,?_,by simp[aF,s1],by simp[aF,s2],by simp[aF,s6],by simp[aF],h1,h2⟩;show({ g.old with cg:=aF g.old.cg w2.heap.size (some (.map #[] 0)) }:Old)=_;rw[ho];rfl
 .rintro o S2 H2 ⟨b,rfl,s1,s2,s6,s7,h1,h2⟩;refine⟨λ_ h=>h,?_⟩
  have j9:∀x∈sA.map AV.bC,x.storable=true:=by
   intro x hx;obtain⟨y,hy,rfl⟩:=aew.1 hx;rw[AV.xW];exact(eB y hy).1
  have pc:∀c:AV,aP (aP [.slice .nil [],.slice .nil [],.int .i64 0,.int .i64 0,.int .i64 0,.int .i64 0,.int .i64 0,.slice .nil [],.int .i64 0,.int .i64 0,.map [] []] 0 (sA.map AV.bC)) 10 [c]=sA.map AV.bC++[c]:=by
   intro c
   have e1:aP [.slice .nil [],.slice .nil [],.int .i64 0,.int .i64 0,.int .i64 0,.int .i64 0,.int .i64 0,.slice .nil [],.int .i64 0,.int .i64 0,.map [] []] 0 (sA.map AV.bC)=sA.map AV.bC++[AV.map [] []]:=by
    simp[aP,hl]
   rw[e1];simp[aP,hl]
  have adR:∀c:AV,aP [.slice .nil [],.slice .nil [],.int .i64 0,.int .i64 0,.int .i64 0,.int .i64 0,.int .i64 0,.slice .nil [],.int .i64 0,.int .i64 0,.map [] []] 0 (sA.map AV.bC++[c])=sA.map AV.bC++[c]:=by
   intro c;simp[aP,hl]
  have xr:(aP [AV.slice .nil [],.slice .nil [],.int .i64 0,.int .i64 0,.int .i64 0,.int .i64 0,.int .i64 0,.slice .nil [],.int .i64 0,.int .i64 0,.map [] []] 0 (sA.map AV.bC)).length=11:=by simp[aP,hl]
  simp[c139,ah.qa,ah.qb,ah.dl,cQ,an,cy,ar,ev,aM.S,aM.H,aF,bl,cD,s6,s7,AV.cells,AV.bC,AV.storable,hl,xr,pc]
  have e3:(List.map AV.bC sA++[AV.val (Value.map (some b))]).map AV.bC=List.map AV.bC sA++[AV.val (Value.map (some b))]:=by simp[js,AV.bC]
  simp[HR.okB,bt,bj,AV.aZ,hl,js,AV.bC,aF,h1,h2,s1,s2];simp[aP,hl]
 .rintro o S2 H2 ⟨b,rfl,s1,s2,s3,h1,h2,h3⟩;show SW prog GI 27 none (.seq (.seq _ (.block 0 (.loop _))) (.seq _ .ret)) _ _ _ _;refine SW.seq (eR hG c139.qb.qb.qa.qa (λS' H'=>S' 2=.box 2 0/\S' 3=.box 3 0/\S' 10=.slice .view (ps.map eH)/\S' 11=.int .i64 ps.length/\S' 12=.int .i64 0/\H' 2=some z/\H' 3=some (sA.map AV.bC++[.val (.map (some b))])) ?_ ?_)
  .have Gd:(sA.map AV.bC)[1]?=some (.slice .view (ps.map eH)):=by rw[aeK,yf];rfl
   simp[c139,ah.qa,ah.qb,cW,cQ,an,cy,ar,aq,ev,aM.S,aM.H,aF,bl,bu,s1,s2,s3,h1,h2,h3,HR.okB,Gd,AV.bC]
  rintro S3 H3 ⟨s2,s3,cE,cG,dN,h2,h3⟩
  refine SW.block (SW.loop (λo S' H'=>∃j es clock,j<=ps.length/\o=oM cc w b es clock/\Ent es (ps.take j)/\S' 2=.box 2 0/\S' 3=.box 3 0/\S' 10=.slice .view (ps.map eH)/\S' 11=.int .i64 ps.length/\S' 12=.int .i64 (j:Nat)/\H' 2=some z/\H' 3=some (sA.map AV.bC++[.val (.map (some b))]))
   (λS' _=>match S' 12 with|.int _ j=>ps.length-j.toNat|_=>0) ⟨0,#[],0,ae2 _,rfl,⟨ah7,λi h=>by simp at h⟩,s2,s3,cE,cG,dN,h2,h3⟩ ?_)
  rintro o S4 H4 ⟨j,es,clock,hj,rfl,vl,s2,s3,cE,cG,dN,h2,h3⟩;have m12:=dN;show SW prog GI 27 none (.seq _ (.seq (.cond _ _ _) (.seq (.block 1 (.seq _ _)) _))) _ _ _ _;refine eR hG c139.qb.qb.qa.qb.qb.qb.qa (λS' H'=>S' 13=.bool (decide (j<ps.length))/\NM sA ps z b j S' H') ?_ ?_
  .simp[c139,ah.qa,ah.qb,cW,cQ,an,cy,ar,aq,ev,aM.S,aM.H,aF,bl,NM,s2,s3,cE,cG,dN,h2,h3,bV]
  rintro S5 H5 ⟨dY,hF⟩
  by_cases aN:j<ps.length
  case neg=>
   refine SW.seq (SW.cond rfl false (by show S5 13=_;rw[dY];simp[aN]) (SW.exit ?_))
   have rD:j=ps.length:=zo
   subst rD;rw[afu]at vl;obtain⟨s2,s3,cE,cG,dN,h2,h3⟩:=hF;show SW prog GI 27 none (.seq _ .ret) _ _ _ _;refine eR hG c139.qb.qb.qb.qa (λS' H'=>S' 2=.box 2 0/\H' 2=some (sA.map AV.bC++[.val (.map (some b))])) ?_ ?_
   .have e3:(List.map AV.bC sA++[AV.val (Value.map (some b))]).map AV.bC=List.map AV.bC sA++[AV.val (Value.map (some b))]:=by simp[js,AV.bC]
    have ht:List.take 11 (List.map AV.bC sA++[AV.val (Value.map (some b))])=List.map AV.bC sA++[AV.val (Value.map (some b))]:=aee (by simp[hl]);have Pn:List.drop 11 z=[]:=afj zo;simp[c139,ah.qa,ah.qb,cW,cQ,an,cy,ar,aq,ev,aM.S,aM.H,aF,bl,s2,s3,h2,h3,bu,HR.okB,hl,AV.cells,AV.storable,AV.aZ,aP,bj,js,AV.bC,ht,hz,Pn]
   rintro S6 H6 ⟨s2,h2⟩;refine SW.ghost (K:=λo S' H'=>e_ o/\o.c=cc/\S' 2=.box 2 0/\H' 2=some (sA.map AV.bC++[dL ps])) ?_ ?_
   .intro w0 g a w' hg R
    have hk:g.old.cg b=some (.map es clock):=by rw[hg];show aF (λ_=>none) b _ b=_;exact bX _ _ _
    obtain⟨g2,oN,R2⟩:=R.V0 hk (ps.map vk) (ps.map qt) (by simpa using vl.1.symm) (by simpa using vl.1.symm) (λi h h'=>by
     simp only[aef]at h;simp only[aep,(vl.2 i h' h).1]
     exact Re _ _) (λi h h'=>by
     simp only[aef]at h;simp only[aep,(vl.2 i h' h).2]
     exact Re _ _) (by rw[hg];rfl)
    refine⟨g2,_,_,R2,e_.plain (by rw[oN,hg];rfl),by rw[oN,hg];rfl,by simp[s2],?_⟩
    have hgm:(sA.map AV.bC).map (sM b (ps.map vk) (ps.map qt))=sA.map AV.bC:=by
     rw[aft]
     exact aeX λx hx=>Oy (eB x hx).2
    show(H6 2).map _=_;rw[h2];simp only[Option.map_some,aeB,hgm,aer,aeF];simp[sM,dL]
   .rintro o S7 H7 ⟨hm,hc,s2,h2⟩;obtain⟨i103,ZO,aah⟩:=iZ 205 11;obtain⟨fs,fw⟩:=uZ 205;refine SW.ret ⟨hm,hc,_,?_,rfl⟩;show bQ prog 27 [.cell 2 205] S7 H7=_;have ht:List.take 11 (sA.map AV.bC++[dL ps])=sA.map AV.bC++[dL ps]:=aee (by simp[hl]);have pc:(dL ps).bC=dL ps:=rfl;have QV:(dL ps).dE=dL ps:=rfl;simp[bQ,bG,bH,s2,h2,ZO,fw,aah,bu,ef,hl,AV.out,pc,QV,js,p9];exact aee (by simp[hl])
  case pos=>
   refine SW.seq (SW.cond rfl true (by show S5 13=_;rw[dY];simp[aN]) (SW.skip ?_));show SW prog GI 27 none (.seq (.block 1 (.seq _ _)) _) _ _ _ _;obtain⟨s2,s3,cE,cG,dN,h2,h3⟩:=hF;refine SW.seq (SW.block (eR hG c139.qb.qb.qa.qb.qb.qb.qb.qb.qa.qb.qa (λS' H'=>S' 5=.box 5 0/\H' 5=some (eH ps[j]).cells/\NM sA ps z b j S' H') ?_ ?_))
   .have dR:¬(j:Int)<0:=zo
    simp[c139,ah.qa,ah.qb,cW,cQ,an,cy,ar,aq,ev,aM.S,aM.H,aF,bl,NM,s2,s3,cE,cG,dN,h2,h3,aN,bu,eH,AV.cells,AV.bC,bt,HR.okB,AV.storable,aP,AV.aZ,bj]
   rintro S6 H6 ⟨s5,h5,s2,s3,cE,cG,dN,h2,h3⟩
   have ZK:∀q∈ps.take j,¬(q.l=ps[j].l/\q.r=ps[j].r):=by
    intro q hq;obtain⟨i,hi,rfl⟩:=ae5 hq
    have th:i<j:=by simp at hi;omega
    rw[ag0];exact eK i j zo aN th
   refine SW.mid hG (p:=9) (oh:={ dst:=none,op := .mapUpdate 203 (.tmp 17) (.tmp 22) (.tmp 24),type:=0,pos := "letter.go:115",after:=_,guard:=none }) (lh:=[_,_,_,_,_,_,_,_,_]) (oA:=[]) (l2:=[]) rfl rfl rfl rfl zk rfl (λ_ h=>h) (po:=(xc.qa.qb.qb.dl).take 9) (ox:=[]) zk rfl zk rfl
    (K1:=λS' H'=>S' 17=.val (.map (some b))/\S' 22=.agg [.int .i64 ps[j].l,.int .i64 ps[j].r]/\S' 24=.agg [.int .i64 ps[j].lo,.int .i64 ps[j].hi]/\NM sA ps z b j S' H')
    (K2:=λo S' H'=>o=oM cc w b (es.push { key:=.agg #[.int .i64 ps[j].l,.int .i64 ps[j].r],val:=.agg #[.int .i64 ps[j].lo,.int .i64 ps[j].hi],born:=clock }) (clock+1)/\NM sA ps z b j S' H')
    (K3:=λo S' H'=>o=oM cc w b (es.push { key:=.agg #[.int .i64 ps[j].l,.int .i64 ps[j].r],val:=.agg #[.int .i64 ps[j].lo,.int .i64 ps[j].hi],born:=clock }) (clock+1)/\NM sA ps z b j S' H') ?_ ?_ ?_ ?_
   .have abr:(List.map AV.bC sA++[AV.val (Value.map (some b))])[10]? = some (.val (.map (some b))):=by
     rw[afp (by simp[hl])];simp[hl]
    have ab_:List.drop 10 (List.map AV.bC sA++[AV.val (Value.map (some b))])=[AV.val (Value.map (some b))]:=by
     rw[af2 (by simp[hl]),afj (by simp[hl])];rfl
    simp[c139,xc,ah.qa,ah.qb,ah.dl,cQ,an,cy,ar,ev,aM.S,aM.H,aF,bl,NM,s2,s3,s5,cE,cG,dN,h2,h3,h5,bu,eH,AV.cells,AV.bC,HR.okB,AV.storable,cD,aP,abr,ab_]
   .rintro w0 g S7 H7 a w7 hg R ⟨jJ,lx,sX,hF⟩;have t17:=R.slot 17 zd (λh=>h);rw[jJ]at t17;have t17:=t17.jT;have t22:=R.slot 22 zd (λh=>h);rw[lx]at t22;have t22:=Lj t22;have t24:=R.slot 24 zd (λh=>h);rw[sX]at t24;have t24:=Lj t24
    have hk:g.old.cg b=some (.map es clock):=by rw[hg];show aF (λ_=>none) b _ b=_;exact bX _ _ _
    have hb:=(R.kept b _ hk).2.1;have gp:=P1 (P:=prog) (t:=203) (kt:=226) (el:=26) zk;obtain⟨fs,fw⟩:=uZ 226;have AE:(ps.take j).length=es.size:=vl.1.symm;refine⟨undef,_,_,S7,H7,.inr ⟨L4 (Pr:=λ_ _=>False) (ks:=(ps.take j).map vk) (vs:=(ps.take j).map qt) (key:=[ps[j].l,ps[j].r]) rfl gp fw (k:=2) zk t17 t22 t24 hb rfl (by simpa using AE) (by simpa using AE) (λi h h'=>?_) (λi h h'=>?_) (Cc _ _ _ ZK),rfl⟩,R.o_ hk _,?_,hF⟩
    .simp only[aef]at h;simp only[aep,(vl.2 i h' h).1];exact Re _ _
    .simp only[aef]at h;simp only[aep,(vl.2 i h' h).2];exact Re _ _
    .show({ g.old with cg:=aF g.old.cg b _ }:Old)=_;rw[hg];simp only[oM,Old.mk.injEq,ahX,ahE]
     funext c
     by_cases hc:c=b
     .subst hc;simp[aF,ik]
     .simp[aF,hc]
   .rintro o S7 H7 h;exact⟨by rw[h.1];exact λ_ h=>h,h⟩
   .rintro o S7 H7 ⟨rfl,s2,s3,cE,cG,dN,h2,h3⟩;show SW prog GI 27 none _ _ _ _ _;refine SW.gO hG d_ zk (λ_ _ h=>h) (ac:=ah.qb xc) zk ?_;have qU:IntKind.i64.wrap ((j:Int)+1)=j+1:=bU zo
    have aat:Ent (es.push { key:=.agg #[.int .i64 ps[j].l,.int .i64 ps[j].r],val:=.agg #[.int .i64 ps[j].lo,.int .i64 ps[j].hi],born:=clock }) (ps.take (j+1)):=by
     have hts:ps.take (j+1)=ps.take j++[ps[j]]:=by rw[aec aN]
     rw[hts];refine⟨by simp[vl.1];omega,λi h h'=>?_⟩
     by_cases hi:i<es.size
     .have xy:i<(ps.take j).length:=by rw[<-vl.1];exact hi
      have:=vl.2 i hi xy;rw[Array.getElem_push_lt hi,aeV xy];exact this
     .have Ka:i=es.size:=by simp at h;omega
      subst Ka
      have xy:(ps.take j).length<=es.size:=by rw[<-vl.1];exact aed _
      rw[Array.getElem_push_eq,afq xy];simp
    simp[c139,xc,ah.qa,ah.qb,cW,cQ,an,cy,ar,ev,aM.S,aM.H,aF,bl,s2,s3,cE,cG,dN,h2,h3,bV,AV.bC,qU,fG.cW,thenS];refine⟨⟨j+1,aN,_,⟨_,rfl⟩,aat,zo⟩,?_⟩;rw[m12];show ps.length-(j+1)<ps.length-(j:Int).toNat;rw[Int.toNat_natCast];omega
structure Word where
 cb:List Int
 dq:List Int
 free:Bool
def dP(w:Word):AV:=.agg [vI w.cb,vI w.dq,.bool w.free]
structure abS where
 Wu:List AV
 cut:Bool
def JX(l:abS):AV:=.agg [.slice .view l.Wu,.bool l.cut]
def ML(GI:World->Prop):Prop:=∀w,GI w->∃m,w.cell? ⟨1,0,none⟩=some (.int .i64 m)
def n_{w0:World}{n:Nat}{g:Gh}{S:au}{H:aD}{a:Act}{w:World}(R:Rel prog w0 n dh g S H a w){t i:Nat}(ht:t<n)(hs:S t=.box i 0):∃b,g.al i=some b/\a.tmps.getD t undef=.pointer (some ⟨b,0,none⟩):=by
 have h:=R.slot t ht id;rw[hs]at h;generalize a.tmps.getD t undef=c at h
 cases h with
 |data _ _ h=>cases h
 |box _ _ b h=>exact⟨b,h,rfl⟩
def wT{w0:World}{n:Nat}{g:Gh}{S:au}{H:aD}{a:Act}{w:World}(R:Rel prog w0 n dh g S H a w){t:Nat}{k:Int}(ht:t<n)(hs:S t=.int .i64 k):a.tmps.getD t undef=.int .i64 k:=by
 have h:=R.slot t ht id;rw[hs]at h;exact h.int_eq
def aaB{Pr:Nat->Nat->Prop}{al:Nat->Option Nat}{w:World}{x y:Int}{c:Value}(h:RV Pr al w (.agg [.int .i64 x,.int .i64 y]) c):c=.agg #[.int .i64 x,.int .i64 y]:=by
 cases h with
 |data _ _ h=>
  cases h with
  |agg cs vs hl px hr=>
   have hs:vs.size=2:=by rw[<-hl];rfl
   have h0:=(RV.data (al:=dW) _ _ (hr 0 ah7 zo)).int_eq;have h1:=(RV.data (al:=dW) _ _ (hr 1 ah7 zo)).int_eq
   congr 1
   apply afH
   .simpa using hs
   .intro i h2 h3
    match i,h3 with
    |0,_=>exact h0
    |1,_=>exact h1
end Go.Proofs.Tryz
namespace Go.AL
def bL(c:UInt8):List UInt8->List (List UInt8)
 |[]=>[[]]
 |b::l=>if b=c then[]::bL c l else match bL c l with
  |[]=>[[b]]
  |p::ps=>(b::p)::ps
def mD(c:UInt8)(l:List UInt8):bL c l≠[]:=by
 cases l with
 |nil=>simp[bL]
 |cons b l=>
  unfold bL;split
  .simp
  .split<;>simp
def Ib{b c:UInt8}(h:b≠c)(k:Nat)(l:List UInt8):Lib.splitK [c] 0 k (b::l)=match Lib.splitK [c] 0 k l with|[]=>[[b]]|p::ps=>(b::p)::ps:=by
 cases k with
 |zero=>rfl
 |succ k=>
  have hp:[c].isPrefixOf (b::l)=false:=by simp[List.isPrefixOf];exact λe=>(h e.symm).elim
  unfold Lib.splitK
  have hi:Lib.index (b::l) [c]=if Lib.index l [c]== -1 then-1 else Lib.index l [c]+1:=by
   rw[Lib.index];simp[hp]
  rw[hi];have hg:=Lib.index_ge l [c]
  by_cases h1:Lib.index l [c]= -1
  .simp[h1]
  .have h2:(Lib.index l [c]== -1)=false:=by simpa using h1
   have h3:(Lib.index l [c]+1== -1)=false:=by simp;omega
   simp only[h2,aek,aeA,h3]
   have e:(Lib.index l [c]+1).toNat=(Lib.index l [c]).toNat+1:=zo
   rw[e];simp[Nat.add_right_comm]
def By(c:UInt8):∀l:List UInt8,Lib.splitK [c] 0 (l.count c) l=bL c l
 |[]=>rfl
 |b::l=>by
  by_cases h:b=c
  .subst h
   have hp:[b].isPrefixOf (b::l)=true:=by simp[List.isPrefixOf]
   have hi:Lib.index (b::l) [b]=0:=by rw[Lib.index];simp[hp]
   rw[List.count_cons_self,Lib.splitK,hi];simp[bL,By b l]
  .rw[List.count_cons_of_ne h,Ib h,By c l,bL,if_neg h]
def LZ{α:Type}(d:AV->Option α):List AV->Option (List α)
 |[]=>some []
 |x::l=>match d x with
  |some a=>match LZ d l with
   |some r=>some (a::r)
   |none=>none
  |none=>none
def aca:AV->Option Int
 |.int .i64 n=>some n
 |_=>none
def WV:AV->Option (List Int)
 |.slice .view es=>LZ aca es
 |_=>none
section
variable{P:Program}{GI:World->Prop}
def kO(P:Program)(GI:World->Prop)(rest:List db)(K:au->aD->Prop)(Qp:AV->Prop)(S:au)(dst:Option Nat)(H:aD)(v:AV):Prop:=cQ P GI rest K Qp (bl S dst v) H
def kD(P:Program)(GI:World->Prop)(rest:List db)(K:au->aD->Prop)(S:au)(dst:Option Nat)(H:aD)(v:AV):Prop:=dT P GI rest K (bl S dst v) H
def cd(P:Program)(GI:World->Prop)(y:ah)(Q:eh->au->aD->Prop)(e:eh)(S:au)(H:aD):Prop:=bD (cW P GI y Q) Q e S H
def cj(Q:eh->au->aD->Prop)(S:au)(H:aD)(v:AV):Prop:=Q (.panic v) S H
def aV(K Qp S H):cQ P GI [] K Qp S H=K S H:=(Eq.refl _).trans (Eq.refl _)
def aJ(K S H):dT P GI [] K S H=K S H:=(Eq.refl _).trans (Eq.refl _)
def aK (f args d g rest K Qp S H):cQ P GI (⟨d,g,.call f args⟩::rest) K Qp S H=(match an S g with
  |some true=>mB P GI f (args.map λy=>fz H (ev S y)) (args.any λy=>bT (ev S y)) (kO P GI rest K Qp S d H) Qp
  |some false=>cQ P GI rest K Qp (bl S d a_) H
  |none=>False):=(Eq.refl _).trans (Eq.refl _)
def av (f args d g rest K Qp S H):cQ P GI (⟨d,g,.ig f args⟩::rest) K Qp S H=(match an S g with
  |some true=>(match ev S f with
   |.func (.func k) first cap=>mB P GI k ((first++args.map (ev S)++cap).map (fz H)) ((first++args.map (ev S)++cap).any bT) (kO P GI rest K Qp S d H) Qp
   |_=>False)
  |some false=>cQ P GI rest K Qp (bl S d a_) H
  |none=>False):=(Eq.refl _).trans (Eq.refl _)
abbrev OE(P:Program)(GI:World->Prop)(op:fg):Prop:=∀d g rest K Qp S H,cQ P GI (⟨d,g,op⟩::rest) K Qp S H=(match an S g with|some true=>(match ar S H op with|some e=>cQ P GI rest K Qp (e.S S d) (e.H H)|none=>False)|some false=>cQ P GI rest K Qp (bl S d a_) H|none=>False)
abbrev DE(P:Program)(GI:World->Prop)(op:fg):Prop:=∀d g rest K S H,dT P GI (⟨d,g,op⟩::rest) K S H=(match an S g with|some true=>(match ar S H op with|some e=>dT P GI rest K (e.S S d) (e.H H)|none=>False)|some false=>dT P GI rest K (bl S d a_) H|none=>False)
def az(t zero d rest K Qp S H):cQ P GI (⟨some d,none,.alloc t zero⟩::rest) K Qp S H=cQ P GI rest K Qp (aF (λt=>bt d (S t)) d (.box d 0)) (aF H d (some zero)):=(Eq.refl _).trans (Eq.refl _)
def aW(t size x d rest K Qp S H):cQ P GI (⟨some d,none,.box t size x⟩::rest) K Qp S H=((ev S x).cells.length=size/\(ev S x).storable=true/\cQ P GI rest K Qp (aF (λt=>bt d (S t)) d (.box d 0)) (aF H d (some ((ev S x).cells.map AV.bC)))):=(Eq.refl _).trans (Eq.refl _)
def aw (f args d g rest K S H):dT P GI (⟨d,g,.call f args⟩::rest) K S H=(match an S g with
  |some true=>(args.any λy=>bT (ev S y))=false/\mB P GI f (args.map λy=>fz H (ev S y)) (args.any λy=>bT (ev S y)) (kD P GI rest K S d H) (λ_=>False)
  |some false=>dT P GI rest K (bl S d a_) H
  |none=>False):=(Eq.refl _).trans (Eq.refl _)
def ao(t zero d rest K S H):dT P GI (⟨some d,none,.alloc t zero⟩::rest) K S H=dT P GI rest K (aF S d (.box d 0)) H:=(Eq.refl _).trans (Eq.refl _)
def bO(rest K Qp S d H v):kO P GI rest K Qp S d H v=cQ P GI rest K Qp (bl S d v) H:=(Eq.refl _).trans (Eq.refl _)
def bP(rest K S d H v):kD P GI rest K S d H v=dT P GI rest K (bl S d v) H:=(Eq.refl _).trans (Eq.refl _)
def bm :
  (∀x0 x1,OE P GI (.mv x0 x1))/\
  (∀x0 x1 x2,OE P GI (.pick x0 x1 x2))/\
  (∀x0 x1,OE P GI (.build x0 x1))/\
  (∀x0 x1 x2 x3,OE P GI (.buildSlice x0 x1 x2 x3))/\
  (∀x0 x1 x2 x3,OE P GI (.load x0 x1 x2 x3))/\
  (∀x0 x1,OE P GI (.loadT x0 x1))/\
  (∀x0 x1 x2 x3,OE P GI (.store x0 x1 x2 x3))/\
  (∀x0 x1 x2,OE P GI (.bin x0 x1 x2))/\
  (∀x0 x1 x2,OE P GI (.DD x0 x1 x2))/\
  (∀x0 x1 x2 x3,OE P GI (.eqs x0 x1 x2 x3))/\
  (∀x0 x1 x2 x3 x4,OE P GI (.nJ x0 x1 x2 x3 x4))/\
  (∀x0,OE P GI (.Aw x0))/\
  (∀x0,OE P GI (.pO x0))/\
  (∀x0 x1 x2,OE P GI (.pV x0 x1 x2))/\
  (∀x0 x1 x2 x3,OE P GI (.lookup x0 x1 x2 x3))/\
  (∀x0,OE P GI (.not x0))/\
  (∀x0 x1,OE P GI (.conv x0 x1))/\
  (∀x0 x1,OE P GI (.iface x0 x1))/\
  (∀x0 x1 x2,OE P GI (.F0 x0 x1 x2))/\
  (∀x0 x1 x2,OE P GI (.pR x0 x1 x2))/\
  (∀x0 x1 x2 x3,OE P GI (.oR x0 x1 x2 x3))/\
  (∀x0 x1,OE P GI (.qM x0 x1))/\
  (∀x0 x1,OE P GI (.fieldAddr x0 x1))/\
  (∀x0 x1 x2,OE P GI (.indexAddr x0 x1 x2))/\
  (∀x0 x1,OE P GI (.pS x0 x1))/\
  (∀x0 x1,OE P GI (.extract x0 x1))/\
  (∀x0,OE P GI (.AD x0))/\
  (∀x0,OE P GI (.lK x0))/\
  (∀x0 x1,OE P GI (.isNil x0 x1))/\
  (∀x0,OE P GI (.empty x0))/\
  (∀x0 x1 x2 x3 x4 x5,OE P GI (.append x0 x1 x2 x3 x4 x5))/\
  (∀x0 x1,OE P GI (.max x0 x1))/\
  (∀x0 x1,OE P GI (.min x0 x1))/\
  (∀x0 x1 x2,OE P GI (.assert x0 x1 x2)):=by
 refine⟨?_,?_,?_,?_,?_,?_,?_,?_,?_,?_,?_,?_,?_,?_,?_,?_,?_,?_,?_,?_,?_,?_,?_,?_,?_,?_,?_,?_,?_,?_,?_,?_,?_,?_⟩<;>intros<;>intro d<;>intros<;>rfl
def aO :
  (∀x0 x1,DE P GI (.mv x0 x1))/\
  (∀x0 x1 x2,DE P GI (.pick x0 x1 x2))/\
  (∀x0 x1,DE P GI (.build x0 x1))/\
  (∀x0 x1 x2 x3,DE P GI (.buildSlice x0 x1 x2 x3))/\
  (∀x0 x1 x2 x3,DE P GI (.load x0 x1 x2 x3))/\
  (∀x0 x1,DE P GI (.loadT x0 x1))/\
  (∀x0 x1 x2 x3,DE P GI (.store x0 x1 x2 x3))/\
  (∀x0 x1 x2,DE P GI (.bin x0 x1 x2))/\
  (∀x0 x1 x2,DE P GI (.DD x0 x1 x2))/\
  (∀x0 x1 x2 x3,DE P GI (.eqs x0 x1 x2 x3))/\
  (∀x0 x1 x2 x3 x4,DE P GI (.nJ x0 x1 x2 x3 x4))/\
  (∀x0,DE P GI (.Aw x0))/\
  (∀x0,DE P GI (.pO x0))/\
  (∀x0 x1 x2,DE P GI (.pV x0 x1 x2))/\
  (∀x0 x1 x2 x3,DE P GI (.lookup x0 x1 x2 x3))/\
  (∀x0,DE P GI (.not x0))/\
  (∀x0 x1,DE P GI (.conv x0 x1))/\
  (∀x0 x1,DE P GI (.iface x0 x1))/\
  (∀x0 x1 x2,DE P GI (.F0 x0 x1 x2))/\
  (∀x0 x1 x2,DE P GI (.pR x0 x1 x2))/\
  (∀x0 x1 x2 x3,DE P GI (.oR x0 x1 x2 x3))/\
  (∀x0 x1,DE P GI (.qM x0 x1))/\
  (∀x0 x1,DE P GI (.fieldAddr x0 x1))/\
  (∀x0 x1 x2,DE P GI (.indexAddr x0 x1 x2))/\
  (∀x0 x1,DE P GI (.pS x0 x1))/\
  (∀x0 x1,DE P GI (.extract x0 x1))/\
  (∀x0,DE P GI (.AD x0))/\
  (∀x0,DE P GI (.lK x0))/\
  (∀x0 x1,DE P GI (.isNil x0 x1))/\
  (∀x0,DE P GI (.empty x0))/\
  (∀x0 x1 x2 x3 x4 x5,DE P GI (.append x0 x1 x2 x3 x4 x5))/\
  (∀x0 x1,DE P GI (.max x0 x1))/\
  (∀x0 x1,DE P GI (.min x0 x1))/\
  (∀x0 x1 x2,DE P GI (.assert x0 x1 x2)):=by
 refine⟨?_,?_,?_,?_,?_,?_,?_,?_,?_,?_,?_,?_,?_,?_,?_,?_,?_,?_,?_,?_,?_,?_,?_,?_,?_,?_,?_,?_,?_,?_,?_,?_,?_,?_⟩<;>intros<;>intro d<;>intros<;>rfl
def aU :
  (∀Q S H,cW P GI .skip Q S H=Q .normal S H)/\
  (∀l Q S H,cW P GI (.ops l) Q S H=cQ P GI l (Q .normal) (cj Q S H) S H)/\
  (∀l Q S H,cW P GI (.dT l) Q S H=dT P GI l (Q .normal) (bZ l S) (bI l H))/\
  (∀x y Q S H,cW P GI (.seq x y) Q S H=cW P GI x (cd P GI y Q) S H)/\
  (∀c x y Q S H,cW P GI (.cond c x y) Q S H=(match ev S c with
   |.bool true=>cW P GI x Q S H
   |.bool false=>cW P GI y Q S H
   |.mW=>cW P GI x Q S H/\cW P GI y Q S H
   |_=>False))/\
  (∀id c Q S H,cW P GI (.block id c) Q S H=cW P GI c (bq id Q) S H)/\
  (∀id Q S H,cW P GI (.exit id) Q S H=Q (.exit id) S H)/\
  (∀Q S H,cW P GI .ret Q S H=Q .ret S H)/\
  (∀y Q S H,cd P GI y Q .normal S H=cW P GI y Q S H)/\
  (∀y Q id S H,cd P GI y Q (.exit id) S H=Q (.exit id) S H)/\
  (∀y Q S H,cd P GI y Q .ret S H=Q .ret S H)/\
  (∀y Q v S H,cd P GI y Q (.panic v) S H=Q (.panic v) S H):=by
 refine⟨?_,?_,?_,?_,?_,?_,?_,?_,?_,?_,?_,?_⟩<;>intros<;>rfl
def bB :
  (∀id Q S H,bq id Q .normal S H=Q .normal S H)/\
  (∀id j Q S H,bq id Q (.exit j) S H=if j=id then Q .normal S H else Q (.exit j) S H)/\
  (∀id Q S H,bq id Q .ret S H=Q .ret S H)/\
  (∀id Q v S H,bq id Q (.panic v) S H=Q (.panic v) S H)/\
  (∀K Q S H,bD K Q .normal S H=K S H)/\
  (∀K Q id S H,bD K Q (.exit id) S H=Q (.exit id) S H)/\
  (∀K Q S H,bD K Q .ret S H=Q .ret S H)/\
  (∀K Q v S H,bD K Q (.panic v) S H=Q (.panic v) S H)/\
  (∀K S H,aq K .normal S H=K S H)/\
  (∀K id S H,aq K (.exit id) S H=False)/\
  (∀K S H,aq K .ret S H=False)/\
  (∀K v S H,aq K (.panic v) S H=False)/\
  (∀Q S H v,cj Q S H v=Q (.panic v) S H)/\
  (∀v K Qp,fB (.ret v) K Qp=K v)/\
  (∀v K Qp,fB (.panic v) K Qp=Qp v):=by
 refine⟨?_,?_,?_,?_,?_,?_,?_,?_,?_,?_,?_,?_,?_,?_,?_⟩<;>intros<;>rfl
end
section
variable{P:Program}{GI:World->Prop}
def CM{f:Nat}{args:List AV}{b:Bool}{K K':AV->Prop}{Qp KQ:AV->Prop}(hK:∀v,K v->K' v)(hQ:∀v,Qp v->KQ v)(h:mB P GI f args b K Qp):mB P GI f args b K' KQ:=by
 obtain⟨out,h1,h2,h3,h4⟩:=h;refine⟨out,h1,h2,h3,?_⟩
 cases out with
 |ret v=>exact hK _ h4
 |panic v=>exact hQ _ h4
def qg{op:fg}{dst:Option Nat}{K K':au->aD->Prop}{Qp KQ:AV->Prop}(hK:∀S H,K S H->K' S H)(hQ:∀v,Qp v->KQ v){S:au}{H:aD}(h:cy P GI op dst K Qp S H):cy P GI op dst K' KQ S H:=by
 by_cases hc:op.calm=true
 .rw[CJ hc]at h⊢;split at h
  .exact hK _ _ h
  .exact h
 .cases op<;>first|(exfalso;exact hc rfl)|skip
  case alloc=>simp only[cy]at h⊢;split at h<;>first|exact hK _ _ h|exact h
  case box=>simp only[cy]at h⊢;split at h<;>first|exact⟨h.1,h.2.1,hK _ _ h.2.2⟩|exact h
  case call=>exact CM (λv=>hK _ _) hQ h
  case ig=>simp only[cy]at h⊢;split at h<;>first|exact CM (λv=>hK _ _) hQ h|exact h
  case panic=>simp only[cy]at h⊢;split at h<;>first|exact hQ _ h|exact h
  case other=>exact h
def tO{K K':au->aD->Prop}{Qp KQ:AV->Prop}(hK:∀S H,K S H->K' S H)(hQ:∀v,Qp v->KQ v):∀(l:List db)(S:au)(H:aD),cQ P GI l K Qp S H->cQ P GI l K' KQ S H
 |[],S,H,h=>hK S H h
 |o::rest,S,H,h=>by
  simp only[cQ]at h⊢;split at h
  .exact qg (λS H=>tO hK hQ rest S H) hQ h
  .exact tO hK hQ rest _ _ h
  .exact h
def K5{op:fg}{dst:Option Nat}{K K':au->aD->Prop}(hK:∀S H,K S H->K' S H){S:au}{H:aD}(h:j8 P GI op dst K S H):j8 P GI op dst K' S H:=by
 cases op
 case alloc=>simp only[j8]at h⊢;split at h<;>first|exact hK _ _ h|exact h
 case call=>exact⟨h.1,qg hK (λ_ h=>h) h.2⟩
 case ig=>exact⟨h.1,qg hK (λ_ h=>h) h.2⟩
 case box=>exact h.elim
 case panic=>exact h.elim
 case other=>exact h.elim
 all_goals
  simp only[j8]at h⊢;exact qg hK (λ_ h=>h) h
def rB{K K':au->aD->Prop}(hK:∀S H,K S H->K' S H):∀(l:List db)(S:au)(H:aD),dT P GI l K S H->dT P GI l K' S H
 |[],S,H,h=>hK S H h
 |o::rest,S,H,h=>by
  simp only[dT]at h⊢;split at h
  .exact K5 (λS H=>rB hK rest S H) h
  .exact rB hK rest _ _ h
  .exact h
def nZ{K K':au->aD->Prop}{Q Q':eh->au->aD->Prop}(hK:∀S H,K S H->K' S H)(h:∀e S H,Q e S H->Q' e S H)(e:eh)(S:au)(H:aD)(hq:bD K Q e S H):bD K' Q' e S H:=by
 cases e with
 |normal=>exact hK S H hq
 |exit id=>exact h _ S H hq
 |ret=>exact h _ S H hq
 |panic v=>exact h _ S H hq
def gx:∀(c:ah){Q Q':eh->au->aD->Prop}(_:∀e S H,Q e S H->Q' e S H){S:au}{H:aD},cW P GI c Q S H->cW P GI c Q' S H
 |.skip,_,_,h,_,_,hq=>h _ _ _ hq
 |.ops l,_,_,h,_,_,hq=>tO (λS H=>h _ S H) (λv=>h _ _ _) l _ _ hq
 |.dT l,_,_,h,_,_,hq=>rB (λS H=>h _ S H) l _ _ hq
 |.seq x y,_,_,h,_,_,hq=>gx x (nZ (λ_ _=>gx y h) h) hq
 |.cond c x y,_,_,h,S,H,hq=>by
  simp only[cW]at hq⊢;split at hq
  .exact gx x h hq
  .exact gx y h hq
  .exact⟨gx x h hq.1,gx y h hq.2⟩
  .exact hq
 |.block id c,Q,Q',h,_,_,hq=>gx c (fun e S H hb=>by
   cases e with
   |normal=>exact h _ S H hb
   |exit j=>
    by_cases hj:j=id
    .simp only[bq,if_pos hj]at hb⊢;exact h _ S H hb
    .simp only[bq,if_neg hj]at hb⊢;exact h _ S H hb
   |ret=>exact h _ S H hb
   |panic v=>exact h _ S H hb) hq
 |.loop c,_,_,h,_,_,⟨I,μ,h0,hi⟩=>⟨I,μ,h0,λS H hI=>gx c (nZ (λ_ _ h=>h) h) (hi S H hI)⟩
 |.exit id,_,_,h,_,_,hq=>h _ _ _ hq
 |.ret,_,_,h,_,_,hq=>h _ _ _ hq
 |.bad,_,_,_,_,_,hq=>hq
def aY{x y:ah}{Q:eh->au->aD->Prop}{S:au}{H:aD}(K:au->aD->Prop)(hx:cW P GI x (aq K) S H)(hy:∀S' H',K S' H'->cW P GI y Q S' H'):cW P GI (.seq x y) Q S H:=by
 refine gx x (λe S H h=>?_) hx
 cases e with
 |normal=>exact hy S H h
 |exit id=>exact h.elim
 |ret=>exact h.elim
 |panic v=>exact h.elim
def AJ{c:dU}{y z:ah}{Q:eh->au->aD->Prop}{S:au}{H:aD}(h:ev S c=.bool true)(hy:cW P GI y Q S H):cW P GI (.seq (.cond c .skip z) y) Q S H:=by
 simp only[cW,h];exact hy
def D5{c:dU}{y z:ah}{Q:eh->au->aD->Prop}{S:au}{H:aD}(h:ev S c=.bool false)(hy:cW P GI y Q S H):cW P GI (.seq (.cond c z .skip) y) Q S H:=by
 simp only[cW,h];exact hy
def zi{id:Nat}{c y:ah}{Q:eh->au->aD->Prop}{S:au}{H:aD}(h:cW P GI c (bq id (cd P GI y Q)) S H):cW P GI (.seq (.block id c) y) Q S H:=h
def mS{x y z:ah}{Q:eh->au->aD->Prop}{S:au}{H:aD}(K:au->aD->Prop)(hx:cW P GI x (aq K) S H)(hy:∀S' H',K S' H'->cW P GI (.seq y z) Q S' H'):cW P GI (.seq (.seq x y) z) Q S H:=by
 refine gx x (λe S H h=>?_) hx
 cases e with
 |normal=>
  refine gx y (λe S H h=>?_) (hy S H h)
  cases e<;>exact h
 |exit id=>exact h.elim
 |ret=>exact h.elim
 |panic v=>exact h.elim
def cK {c:ah} {Q:eh→au→aD→Prop} {S:au} {H:aD} (t n:Nat) (I:Nat→au→aD→Prop) (LU:∀ i S H,I i S H→S t = .int .i64 (i:Nat)) (h0:I 0 S H)
  (hs:∀i,i<=n->∀S H,I i S H->cW P GI c (bD (λS' H'=>i<n/\I (i+1) S' H') Q) S H):cW P GI (.loop c) Q S H:=by
 refine⟨λS H=>∃i,i<=n/\I i S H,λS _=>match S t with|.int _ k=>n-k.toNat|_=>0,⟨0,ae2 _,h0⟩,?_⟩;rintro S H ⟨i,hi,hI⟩;refine gx c (nZ (λS' H' h=>?_) (λ_ _ _ h=>h)) (hs i hi S H hI);refine⟨⟨i+1,h.1,h.2⟩,?_⟩;have e1:=LU _ _ _ hI;have e2:=LU _ _ _ h.2;simp only[e1,e2,Int.toNat_natCast];have:=h.1;omega
end
def firstT{α:Type}(p:α->Bool)(l:List α):Int:=if l.any p then(l.findIdx p:Nat)else-1
def nP {α:Type} {p:α→Bool} {l:List α} {i:Nat} (hi:i < l.length) (hp:p l[i]=true) (hb:∀ j (hj:j < l.length),j < i→p l[j]=false):firstT p l=(i:Nat):=by
  unfold firstT;rw[if_pos (afC.2 ⟨l[i],ad2 hi,hp⟩),(List.findIdx_eq hi).2 ⟨hp,λj gL=>hb j zo gL⟩]
def lC {α:Type} {p:α→Bool} {l:List α} (hb:∀ j (hj:j < l.length),p l[j]=false):firstT p l = -1:=by
  unfold firstT;rw[if_neg];intro h;obtain⟨x,hx,hp⟩:=afC.1 h;obtain⟨j,hj,rfl⟩:=ae5 hx;rw[hb j hj]at hp;cases hp
def oq {α:Type} {p:α→Bool} {l:List α}:decide (0≤firstT p l)=l.any p:=by
  unfold firstT
  cases h:l.any p<;>simp
def oD{α:Type}(p:α->Bool)(lt:α->α->Bool)(l:List α):Bool:=l.all p&&(List.range (l.length-1)).all λi=>match l[i]?,l[i+1]? with|some a,some b=>lt a b|_,_=>true
def sC{α:Type}{p:α->Bool}{lt:α->α->Bool}{l:List α}{i:Nat}(hi:i<l.length)(hp:p l[i]=false):oD p lt l=false:=by
 unfold oD;rw[ag_];exact .inl (ahu.2 ⟨_,ad2 hi,by simp[hp]⟩)
def qL{α:Type}{p:α->Bool}{lt:α->α->Bool}{l:List α}{i:Nat}(hi:i+1<l.length)(hp:lt (l[i]' zo) l[i+1]=false):oD p lt l=false:=by
 unfold oD;rw[ag_];refine .inr (ahu.2 ⟨i,aeI.2 zo,?_⟩);simp[hi,show i<l.length by omega,hp]
def uW{α:Type}{p:α->Bool}{lt:α->α->Bool}{l:List α}(h1:∀j (hj:j<l.length),p l[j]=true)(h2:∀j (hj:j+1<l.length),lt (l[j]' zo) l[j+1]=true):oD p lt l=true:=by
 unfold oD;rw[aeb]
 constructor
 .rw[aeh];intro x hx;obtain⟨j,hj,rfl⟩:=ae5 hx;exact h1 j hj
 .rw[aeh];intro j hj;rw[aeI]at hj;simp[show j<l.length by omega,show j+1<l.length by omega,h2 j zo]
def HZ{α:Type}{p:α->Bool}{l:List α}(h:∀j (hj:j<l.length),p l[j]=true):l.all p=true:=by
 rw[aeh];intro x hx;obtain⟨j,hj,rfl⟩:=ae5 hx;exact h j hj
def EL{α:Type}{p:α->Bool}{l:List α}{i:Nat}(hi:i<l.length)(hp:p l[i]=false):l.all p=false:=ahu.2 ⟨_,ad2 hi,by simp[hp]⟩
def uS{α:Type}(p:α->Bool)(l:List α):(!(l.any λx=>!p x))=l.all p:=by
 induction l with
 |nil=>rfl
 |cons a l ih=>simp[List.any_cons,List.all_cons,<-ih]
def rz{α:Type}{p:α->Bool}{l:List α}{i:Nat}(hi:i<l.length)(hb:∀j (hj:j<l.length),j<i->p l[j]=true)(hp:p l[i]=true):∀j (hj:j<l.length),j<i+1->p l[j]=true:=by
 intro j hj gL
 by_cases e:j=i
 .subst e;exact hp
 .exact hb j hj zo
def Bo{α:Type}{lt:α->α->Bool}{l:List α}{k:Nat}(hi:k+1<l.length)(hb:∀j (hj:j+1<l.length),j+1<k+1->lt (l[j]' zo) l[j+1]=true)(hp:lt (l[k]' zo) l[k+1]=true):∀j (hj:j+1<l.length),j+1<k+1+1->lt (l[j]' zo) l[j+1]=true:=by
 intro j hj gL
 by_cases e:j=k
 .subst e;exact hp
 .exact hb j hj zo
def iN{α:Type}{p:α->Bool}{lt:α->α->Bool}{l:List α}:oD p lt l=true↔(∀x∈l,p x=true)/\∀j (hj:j+1<l.length),lt (l[j]' zo) l[j+1]=true:=by
 unfold oD;rw[aeb,aeh,aeh]
 constructor
 .rintro⟨h1,h2⟩;refine⟨h1,λj hj=>?_⟩;have:=h2 j (aeI.2 zo);simpa[show j<l.length by omega,hj]using this
 .rintro⟨h1,h2⟩;refine⟨h1,λj hj=>?_⟩;rw[aeI]at hj;have:=h2 j zo;simpa[show j<l.length by omega,show j+1<l.length by omega]using this
def Ra{l:List Int}(h:∀j (hj:j+1<l.length),l[j]<l[j+1]):l.Pairwise λa b=>a<b:=by
 rw[afU];intro i j hi hj th
 obtain⟨d,rfl⟩:∃d,j=i+1+d:=⟨j-i-1,zo⟩
 clear th
 induction d with
 |zero=>exact h i hj
 |succ d ih=>
  have h1:=ih zo;have h2:=h (i+1+d) hj;exact Int.lt_trans h1 h2
section
variable{P:Program}{GI:World->Prop}
def EK {c:ah} {Q:eh→au→aD→Prop} {S:au} {H:aD} (t a n:Nat) (I:Nat→au→aD→Prop) (ha:a≤n) (LU:∀ i S H,I i S H→S t = .int .i64 (i:Nat)) (h0:I a S H)
  (hs:∀i,a<=i->i<=n->∀S H,I i S H->cW P GI c (bD (λS' H'=>i<n/\I (i+1) S' H') Q) S H):cW P GI (.loop c) Q S H:=by
 refine⟨λS H=>∃i,a<=i/\i<=n/\I i S H,λS _=>match S t with|.int _ k=>n-k.toNat|_=>0,⟨a,aed _,ha,h0⟩,?_⟩;rintro S H ⟨i,h1,hi,hI⟩;refine gx c (nZ (λS' H' h=>?_) (λ_ _ _ h=>h)) (hs i h1 hi S H hI);refine⟨⟨i+1,zo,h.1,h.2⟩,?_⟩;have e1:=LU _ _ _ hI;have e2:=LU _ _ _ h.2;simp only[e1,e2,Int.toNat_natCast];have:=h.1;omega
end
def AC.nB{P:Program}{GI:World->Prop}{f:Nat}{args:List AV}{o:Ow}{es:List AV}(h:AC P GI f args (.ret (.slice o es))):AC P GI f args (.ret (.slice .view es)):=by
 intro w old dn h1 h2 h3;refine(h w old dn h1 h2 h3).mono ?_;rintro e w' ⟨hb,hi,h0,c,rfl,hv,_⟩;refine⟨hb,hi,h0,c,rfl,?_,trivial⟩
 cases hv with
 |data _ _ h=>exact .data _ _ (Go.Proofs.Tryz.RD.LP h)
def rR(l:List Int):br 1 (ints l)=true:=by simp[br,ints,AV.storable,AV.cells]
def grown(l:List Int):AV:=.slice (if l.isEmpty then .nil else .own 3) (ints l)
section
variable{P:Program}{GI:World->Prop}
def NU {c:ah} {Q:eh→au→aD→Prop} {S:au} {H:aD} (t n:Nat) (I:Nat→au→aD→Prop) (LU:∀ i S H,I i S H→S t = .int .i64 ((i:Nat) - 1)) (h0:I n S H)
  (hs:∀i,i<=n->∀S H,I i S H->cW P GI c (bD (λS' H'=>0<i/\I (i-1) S' H') Q) S H):cW P GI (.loop c) Q S H:=by
 refine⟨λS H=>∃i,i<=n/\I i S H,λS _=>match S t with|.int _ k=>(k+1).toNat|_=>0,⟨n,aed _,h0⟩,?_⟩;rintro S H ⟨i,hi,hI⟩;refine gx c (nZ (λS' H' h=>?_) (λ_ _ _ h=>h)) (hs i hi S H hI);refine⟨⟨i-1,zo,h.2⟩,?_⟩;have e1:=LU _ _ _ hI;have e2:=LU _ _ _ h.2;simp only[e1,e2];have:=h.1;omega
end
section
variable{P:Program}{GI:World->Prop}
def fT :
  (∀x0 x1,OE P GI (.mv x0 x1))/\
  (∀x0 x1 x2,OE P GI (.pick x0 x1 x2))/\
  (∀x0 x1,OE P GI (.build x0 x1))/\
  (∀x0 x1 x2 x3,OE P GI (.buildSlice x0 x1 x2 x3))/\
  (∀x0 x1 x2 x3,OE P GI (.load x0 x1 x2 x3))/\
  (∀x0 x1,OE P GI (.loadT x0 x1))/\
  (∀x0 x1 x2 x3,OE P GI (.store x0 x1 x2 x3))/\
  (∀x0 x1 x2,OE P GI (.bin x0 x1 x2))/\
  (∀x0 x1 x2,OE P GI (.DD x0 x1 x2))/\
  (∀x0 x1 x2 x3,OE P GI (.eqs x0 x1 x2 x3))/\
  (∀x0 x1 x2 x3 x4,OE P GI (.nJ x0 x1 x2 x3 x4))/\
  (∀x0,OE P GI (.Aw x0))/\
  (∀x0,OE P GI (.pO x0))/\
  (∀x0 x1 x2,OE P GI (.pV x0 x1 x2))/\
  (∀x0 x1 x2 x3,OE P GI (.lookup x0 x1 x2 x3))/\
  (∀x0,OE P GI (.not x0))/\
  (∀x0 x1,OE P GI (.conv x0 x1))/\
  (∀x0 x1,OE P GI (.iface x0 x1))/\
  (∀x0 x1 x2,OE P GI (.F0 x0 x1 x2))/\
  (∀x0 x1 x2,OE P GI (.pR x0 x1 x2))/\
  (∀x0 x1 x2 x3,OE P GI (.oR x0 x1 x2 x3))/\
  (∀x0 x1,OE P GI (.qM x0 x1))/\
  (∀x0 x1,OE P GI (.fieldAddr x0 x1))/\
  (∀x0 x1 x2,OE P GI (.indexAddr x0 x1 x2))/\
  (∀x0 x1,OE P GI (.pS x0 x1))/\
  (∀x0 x1,OE P GI (.extract x0 x1))/\
  (∀x0,OE P GI (.AD x0))/\
  (∀x0,OE P GI (.lK x0))/\
  (∀x0 x1,OE P GI (.isNil x0 x1))/\
  (∀x0,OE P GI (.empty x0))/\
  (∀x0 x1,OE P GI (.max x0 x1))/\
  (∀x0 x1,OE P GI (.min x0 x1))/\
  (∀x0 x1 x2,OE P GI (.assert x0 x1 x2)):=by
 refine⟨?_,?_,?_,?_,?_,?_,?_,?_,?_,?_,?_,?_,?_,?_,?_,?_,?_,?_,?_,?_,?_,?_,?_,?_,?_,?_,?_,?_,?_,?_,?_,?_,?_⟩<;>intros<;>intro d<;>intros<;>rfl
def fu :
  (∀x0 x1,DE P GI (.mv x0 x1))/\
  (∀x0 x1 x2,DE P GI (.pick x0 x1 x2))/\
  (∀x0 x1,DE P GI (.build x0 x1))/\
  (∀x0 x1 x2 x3,DE P GI (.buildSlice x0 x1 x2 x3))/\
  (∀x0 x1 x2 x3,DE P GI (.load x0 x1 x2 x3))/\
  (∀x0 x1,DE P GI (.loadT x0 x1))/\
  (∀x0 x1 x2 x3,DE P GI (.store x0 x1 x2 x3))/\
  (∀x0 x1 x2,DE P GI (.bin x0 x1 x2))/\
  (∀x0 x1 x2,DE P GI (.DD x0 x1 x2))/\
  (∀x0 x1 x2 x3,DE P GI (.eqs x0 x1 x2 x3))/\
  (∀x0 x1 x2 x3 x4,DE P GI (.nJ x0 x1 x2 x3 x4))/\
  (∀x0,DE P GI (.Aw x0))/\
  (∀x0,DE P GI (.pO x0))/\
  (∀x0 x1 x2,DE P GI (.pV x0 x1 x2))/\
  (∀x0 x1 x2 x3,DE P GI (.lookup x0 x1 x2 x3))/\
  (∀x0,DE P GI (.not x0))/\
  (∀x0 x1,DE P GI (.conv x0 x1))/\
  (∀x0 x1,DE P GI (.iface x0 x1))/\
  (∀x0 x1 x2,DE P GI (.F0 x0 x1 x2))/\
  (∀x0 x1 x2,DE P GI (.pR x0 x1 x2))/\
  (∀x0 x1 x2 x3,DE P GI (.oR x0 x1 x2 x3))/\
  (∀x0 x1,DE P GI (.qM x0 x1))/\
  (∀x0 x1,DE P GI (.fieldAddr x0 x1))/\
  (∀x0 x1 x2,DE P GI (.indexAddr x0 x1 x2))/\
  (∀x0 x1,DE P GI (.pS x0 x1))/\
  (∀x0 x1,DE P GI (.extract x0 x1))/\
  (∀x0,DE P GI (.AD x0))/\
  (∀x0,DE P GI (.lK x0))/\
  (∀x0 x1,DE P GI (.isNil x0 x1))/\
  (∀x0,DE P GI (.empty x0))/\
  (∀x0 x1,DE P GI (.max x0 x1))/\
  (∀x0 x1,DE P GI (.min x0 x1))/\
  (∀x0 x1 x2,DE P GI (.assert x0 x1 x2)):=by
 refine⟨?_,?_,?_,?_,?_,?_,?_,?_,?_,?_,?_,?_,?_,?_,?_,?_,?_,?_,?_,?_,?_,?_,?_,?_,?_,?_,?_,?_,?_,?_,?_,?_,?_⟩<;>intros<;>intro d<;>intros<;>rfl
def af(x0 x1 x2 x3 x4 x5):OE P GI (.append x0 x1 x2 x3 x4 x5):=bm.2.2.2.2.2.2.2.2.2.2.2.2.2.2.2.2.2.2.2.2.2.2.2.2.2.2.2.2.2.2.1 x0 x1 x2 x3 x4 x5
def ae(x0 x1 x2 x3 x4 x5):DE P GI (.append x0 x1 x2 x3 x4 x5):=aO.2.2.2.2.2.2.2.2.2.2.2.2.2.2.2.2.2.2.2.2.2.2.2.2.2.2.2.2.2.2.1 x0 x1 x2 x3 x4 x5
def grow(e:Nat)(l:List AV):AV:=.slice (if l=[]then .nil else .own e) l
def HM(e:Nat):grow e []=.slice .nil []:=by unfold grow;rw[if_pos rfl]
def Yt {S:au} {H:aD} {t e size cap i j:Nat} {l:List AV} {v:AV} {o:Ow} (hi:S i=grow e l) (hj:S j = .slice o [v]) (hv:br size [v]=true) (hl:br size l=true) (hn:l.length+1 < 1048576) :
  ∃dm,(dm=none\/dm=some i)/\ar S H (.append t e size cap (.t i) (.t j))=some { v:=grow e (l++[v]),dm:=dm }:=by
 have ei:ev S (.t i)=grow e l:=hi;have ej:ev S (.t j)=.slice o [v]:=hj
 cases l with
 |nil=>
  refine⟨none,.inl rfl,?_⟩;simp only[ar];rw[ei,ej,HM];simp[hv,grow]
 |cons x l=>
  refine⟨some i,.inr rfl,?_⟩
  have zh:l.length+1+1<1048576:=by simpa using hn
  simp only[ar];rw[ei,ej];simp[grow,hv,hl,bj,zh]
def wX{S:au}{i d:Nat}{dm:Option Nat}(hd:dm=none\/dm=some i)(v:AV):(aM.S { v:=v,dm:=dm } S (some d)) d=v/\∀k,k≠d->k≠i->aM.S { v:=v,dm:=dm } S (some d) k=S k:=by
 rcases hd with rfl|rfl
 .refine⟨by simp[aM.S,bl,aF],λk h1 _=>by simp[aM.S,bl,aF,h1]⟩
 .refine⟨by simp[aM.S,bl,aF],λk h1 h2=>by simp[aM.S,bl,aF,h1,h2]⟩
def gv {K:au→aD→Prop} {Qp:AV→Prop} {S:au} {H:aD} {t e size cap d i j:Nat} {rest:List db} (l:List AV) (v:AV) (o:Ow) (hi:S i=grow e l) (hj:S j = .slice o [v]) (hv:br size [v]=true) (hl:br size l=true) (hn:l.length+1 < 1048576)
  (h:∀S',S' d=grow e (l++[v])->(∀k,k≠d->k≠i->S' k=S k)->cQ P GI rest K Qp S' H):cQ P GI (⟨some d,none,.append t e size cap (.t i) (.t j)⟩::rest) K Qp S H:=by
 obtain⟨dm,I0,kI⟩:=Yt (t:=t) (cap:=cap) (H:=H) hi hj hv hl hn;obtain⟨k1,k2⟩:=wX (S:=S) (d:=d) I0 (grow e (l++[v]));rw[bm.2.2.2.2.2.2.2.2.2.2.2.2.2.2.2.2.2.2.2.2.2.2.2.2.2.2.2.2.2.2.1];simp only[an,kI];exact h _ k1 k2
def jG {K:au→aD→Prop} {S:au} {H:aD} {t e size cap d i j:Nat} {rest:List db} (l:List AV) (v:AV) (o:Ow) (hi:S i=grow e l) (hj:S j = .slice o [v]) (hv:br size [v]=true) (hl:br size l=true) (hn:l.length+1 < 1048576)
  (h:∀S',S' d=grow e (l++[v])->(∀k,k≠d->k≠i->S' k=S k)->dT P GI rest K S' H):dT P GI (⟨some d,none,.append t e size cap (.t i) (.t j)⟩::rest) K S H:=by
 obtain⟨dm,I0,kI⟩:=Yt (t:=t) (cap:=cap) (H:=H) hi hj hv hl hn;obtain⟨k1,k2⟩:=wX (S:=S) (d:=d) I0 (grow e (l++[v]));rw[aO.2.2.2.2.2.2.2.2.2.2.2.2.2.2.2.2.2.2.2.2.2.2.2.2.2.2.2.2.2.2.1];simp only[an,kI];exact h _ k1 k2
def iJ{α:Type}{f:α->AV}{size:Nat}{l:List α}(h:∀a,(f a).storable=true/\(f a).cells.length=size):br size (l.map f)=true:=by
 simp[br,h]
end
def EW {P:Program} {GI:World→Prop} (x d rest K Qp S H):cQ P GI (⟨d,none,.panic x⟩::rest) K Qp S H=(match ev S x with
  |.iface t v=>Qp (.iface t v)
  |_=>False):=rfl
def kC{P:Program}{GI:World->Prop}{id:Nat}{c:ah}{Q:eh->au->aD->Prop}{S:au}{H:aD}(h:cW P GI c (bq id Q) S H):cW P GI (.block id c) Q S H:=h
section
variable{P:Program}{GI:World->Prop}{n:Nat}{ro:Option Nat}{old:Old}{S:au}{H:aD}{Q:fG}{b:Frame}{a:Act}{k:List Item}{cs:List Frame}{w:World}
def IB{c:Code}:step P (lone (b.atR a (.code (.scope c)::k)) cs w)=.next (lone (b.atR a (.code c::.inScope c::k)) cs w):=
 step_lone_go (by simp[stepG,stepG.exec,Frame.atR])
def Eb{c:Code}:step P (lone (b.atR a (.inScope c::k)) cs w)=.next (lone (b.atR a k) cs w):=
 step_lone_go (by simp[stepG,stepG.exec,Frame.atR])
def SW.scope{c:Code}(h:SW P GI n ro c Q old S H):SW P GI n ro (.scope c) Q old S H:=by
 intro w0 g a w m hG ho R b k cs xk hF hr;obtain⟨e,j3,mA,hq,iW⟩:=h w0 g a w m hG ho R b (.inScope c::k) cs xk hF hr
 have s1:StepsIn (Machine.fenced P (FR ro)) P (lone (b.atR a (.code (.scope c)::k)) cs w) (lone (b.atR a (.code c::.inScope c::k)) cs w):=
  .one (agw (F:=FR ro) (fr:=b.atR a (.code (.scope c)::k)) trivial hr rfl) IB
 have ex:∀id,exitTo id (.inScope c::k)=exitTo id k:=λid=>by simp[exitTo]
 refine⟨e,j3,mA,hq,.of_steps s1 ?_⟩
 cases e with
 |normal=>exact ahs iW (.one (agw (F:=FR ro) (fr:=b.atR j3 (.inScope c::k)) trivial hr rfl) Eb)
 |exit id=>exact⟨λk' hk=>iW.1 k' (by rw[ex];exact hk),λhh hk=>iW.2 hh (by rw[ex];exact hk)⟩
 |goto l=>exact hq.elim
 |ret=>exact iW
 |panic ch=>exact iW
 |outgrown=>exact hq.elim
def SW.label{l:Nat}(h:Q .normal old S H):SW P GI n ro (.label l) Q old S H:=
 λ_ g _ _ _ _ ho R=>wpIn_label ⟨g,S,H,R,by rw[ho];exact h⟩
end
end Go.AL
namespace Go.Proofs.Tryz
open Go Go.AL Go.RowKit Go.Proofs Go.Proofs.Tram
attribute [local simp] aU bB bm aO aV aJ aK av az aW aw ao bO bP an ar ev aM.S aM.H bj aF bl AL.start AV.cells AV.storable AV.aZ aP bt bV bu HR.okB post bQ bG bH AV.out AV.aX aG aL fz cL AV.vw bT vI int a_ aq bD bq cd cj bZ bI aI AV.bC AV.dE
variable{GI:World->Prop}
def Z7 (hG:aQ GI) (l:List Int) (hl:l.length < 1000000) (k:Nat) (caps:List AV) (qn:caps=[]∨∃ c,caps=[.ref c]) (p:Int→Bool) (hk:eU prog k=true) (h:∀ x∈l,AC prog GI k ([.int .i64 x]++caps) (.ret (.bool (p x)))) :
    AC prog GI 133 [.slice .view (l.map (.int .i64)),.func (.func k) [] caps] (.ret (.int .i64 (firstT p l))):=by
  refine dF hG func133 ntmps133 c133 ?_
  rcases qn with rfl|⟨c,rfl⟩<;>
  (simp[c133]
   refine cK 8 l.length (λi S H=>S 0=.slice .view (l.map (.int .i64))/\S 1=_/\S 7=.int .i64 l.length/\S 8=.int .i64 (i:Nat)/\∀j (hj:j<l.length),j<i->p l[j]=false) (λi S H h=>h.2.2.2.1) ⟨ah7,by simp<;>rfl,ah7,ah7,ah7⟩ ?_;rintro i hi S H ⟨s0,s1,s7,s8,hb⟩
   by_cases aN:i<l.length
   . have hw:IntKind.i64.wrap ((i:Int)+1)=i+1:=bU zo
     have hx:=h l[i] (ad2 aN);cases hp:p l[i]
     . simp [aep,s0,s1,s7,s8,aN]
       refine⟨_,hk,hx,by simp[bT],?_⟩;simp[s0,s1,s7,s8,aN,hp,hw];intro j hj gL
       by_cases Ee:j=i
       . subst Ee;exact hp
       . exact hb j hj zo
     . simp [aep,s0,s1,s7,s8,aN]
       refine⟨_,hk,hx,by simp[bT],?_⟩;simp[s0,s1,s7,s8,aN,hp,hw];exact nP aN hp hb
   . have dV:i=l.length:=by omega
     subst dV;simp[s0,s1,s7,s8]
     exact lC λj hj=>hb j hj hj)
def YV (hG:aQ GI) (l:List Int) (hl:l.length < 1000000) (k:Nat) (caps:List AV) (qn:caps=[]∨∃ c,caps=[.ref c]) (p:Int→Bool) (hk:eU prog k=true) (h:∀ x∈l,AC prog GI k ([.int .i64 x]++caps) (.ret (.bool (p x)))) :
    AC prog GI 99 [.slice .view (l.map (.int .i64)),.func (.func k) [] caps] (.ret (.bool (l.any p))):=by
  have hF:=Z7 hG l hl k caps qn p hk h;refine dF hG func99 ntmps99 c99 ?_
  rcases qn with rfl|⟨c,rfl⟩<;>
  (simp[c99]
   refine⟨_,zk,hF,λ_=>rfl,?_⟩;simp
   exact oq.symm)
def aao (hG:aQ GI) (l:List Word) (hl:l.length < 1000000) (k:Nat) (caps:List AV) (qn:caps=[]∨∃ c,caps=[.ref c]) (p:Word→Bool) (hk:eU prog k=true) (h:∀ x∈l,AC prog GI k ([dP x]++caps) (.ret (.bool (p x)))) :
    AC prog GI 134 [.slice .view (l.map dP),.func (.func k) [] caps] (.ret (.int .i64 (firstT p l))):=by
  refine dF hG func134 ntmps134 c134 ?_
  rcases qn with rfl|⟨c,rfl⟩<;>
  (simp[c134]
   refine cK 8 l.length (λi S H=>S 0=.slice .view (l.map dP)/\S 1=_/\S 7=.int .i64 l.length/\S 8=.int .i64 (i:Nat)/\∀j (hj:j<l.length),j<i->p l[j]=false) (λi S H h=>h.2.2.2.1) ⟨ah7,by simp<;>rfl,ah7,ah7,ah7⟩ ?_;rintro i hi S H ⟨s0,s1,s7,s8,hb⟩
   by_cases aN:i<l.length
   . have hw:IntKind.i64.wrap ((i:Int)+1)=i+1:=bU zo
     have hx:=h l[i] (ad2 aN);cases hp:p l[i]
     . simp [aep,dP,s0,s1,s7,s8,aN]
       refine⟨_,hk,hx,by simp[bT],?_⟩;simp[s0,s1,s7,s8,aN,hp,hw];intro j hj gL
       by_cases Ee:j=i
       . subst Ee;exact hp
       . exact hb j hj zo
     . simp [aep,dP,s0,s1,s7,s8,aN]
       refine⟨_,hk,hx,by simp[bT],?_⟩;simp[s0,s1,s7,s8,aN,hp,hw];exact nP aN hp hb
   . have dV:i=l.length:=by omega
     subst dV;simp[s0,s1,s7,s8]
     exact lC λj hj=>hb j hj hj)
def ZY (hG:aQ GI) (l:List Word) (hl:l.length < 1000000) (k:Nat) (caps:List AV) (qn:caps=[]∨∃ c,caps=[.ref c]) (p:Word→Bool) (hk:eU prog k=true) (h:∀ x∈l,AC prog GI k ([dP x]++caps) (.ret (.bool (p x)))) :
    AC prog GI 101 [.slice .view (l.map dP),.func (.func k) [] caps] (.ret (.bool (l.any p))):=by
  have hF:=aao hG l hl k caps qn p hk h;refine dF hG func101 ntmps101 c101 ?_
  rcases qn with rfl|⟨c,rfl⟩<;>
  (simp[c101]
   refine⟨_,zk,hF,λ_=>rfl,?_⟩;simp
   exact oq.symm)
def Uf(hG:aQ GI)(a b:List Int)(ha:a.length<1000000):AC prog GI 30 [vI a,vI b] (.ret (.bool (a==b))):=by
 refine dF hG func30 ntmps30 c30 ?_
 by_cases hl:a.length=b.length
 case neg=>
  have dR:(a==b)=false:=by
   rw[aeO]
   exact λh=>hl (congrArg List.length h)
  have KE:((a.length:Int)!=(b.length:Int))=true:=by simp;omega
  simp[c30,KE,dR]
 simp[c30,hl];refine cK 5 b.length (λi S H=>S 0=vI a/\S 1=vI b/\S 5=.int .i64 (i:Nat)/\∀j (hj:j<a.length),j<i->a[j]=b[j]' zo) (λi S H h=>h.2.2.1) ⟨ah7,ah7,ah7,ah7⟩ ?_;rintro i hi S H ⟨s0,s1,s5,hb⟩
 by_cases aN:i<b.length
 .have od:i<a.length:=zo
  have hw:IntKind.i64.wrap ((i:Int)+1)=i+1:=bU zo
  by_cases he:a[i]=b[i]
  .have Bk:(a[i]!=b[i])=false:=by simp[he]
   simp[s0,s1,s5,aN,od,Bk,hw];intro j hj gL
   by_cases e:j=i
   .subst e;exact he
   .exact hb j hj zo
  .have dR:(a==b)=false:=by
    rw[aeO];rintro rfl;exact he rfl
   have Bk:(a[i]!=b[i])=true:=by simp[he]
   simp[s0,s1,s5,aN,od,Bk,dR]
 .have dV:i=b.length:=zo
  subst dV
  have uT:a=b:=ag6 hl λj h1 h2=>hb j h1 zo
  simp[s0,s1,s5,uT]
def Z9(hG:aQ GI)(l:List Int)(hl:l.length<1000000)(v:Int):AC prog GI 154 [vI l,.int .i64 v] (.ret (.int .i64 (firstT (v==·) l))):=by
 refine dF hG func154 ntmps154 c154 ?_;simp[c154];refine cK 8 l.length (λi S H=>S 0=vI l/\S 1=.int .i64 v/\S 7=.int .i64 l.length/\S 8=.int .i64 (i:Nat)/\∀j (hj:j<l.length),j<i->(v==l[j])=false) (λi S H h=>h.2.2.2.1) ⟨ah7,ah7,ah7,ah7,ah7⟩ ?_;rintro i hi S H ⟨s0,s1,s7,s8,hb⟩
 by_cases aN:i<l.length
 .have hw:IntKind.i64.wrap ((i:Int)+1)=i+1:=bU zo;cases he:v==l[i]
  .simp[s0,s1,s7,s8,aN,he,hw];intro j hj gL
   by_cases e:j=i
   .subst e;simpa using he
   .simpa using hb j hj zo
  .simp[s0,s1,s7,s8,aN,he,hw];exact nP aN he hb
 .have dV:i=l.length:=zo
  subst dV;simp[s0,s1,s7,s8]
  exact lC λj hj=>hb j hj hj
def P5(hG:aQ GI)(l:List Int)(hl:l.length<1000000)(v:Int):AC prog GI 144 [vI l,.int .i64 v] (.ret (.bool (l.contains v))):=by
 refine dF hG func144 ntmps144 c144 ?_;simp[c144];refine⟨_,zk,Z9 hG l hl v,λ_=>rfl,?_⟩;simp;have:=oq (p:=(v==·)) (l:=l);rw[aeW]at this;simpa using this.symm
def FC(a b:Int):lv [.int .i64 a,.int .i64 b]=some [a,b]:=rfl
def zM(hG:aQ GI)(s:List UInt8):AC prog GI 128 [.bool false,.str s] (.panic (.iface 192 (.agg [.str s]))):=by
 refine dF hG func128 ntmps128 c128 ?_;simp[c128,cD,EW]
end Go.Proofs.Tryz
namespace Go.Proofs.Tryz
open Go Go.AL Go.RowKit Go.Proofs Go.Proofs.Tram
variable{GI:World->Prop}
def Z5:AV->Option Word
 |.agg [s,c,.bool b]=>match WV s with
  |some s=>match WV c with
   |some c=>some ⟨s,c,b⟩
   |none=>none
  |none=>none
 |_=>none
def aad:AV->Option k_
 |.agg [.int .i64 a,.int .i64 b,.int .i64 c,.int .i64 d]=>some ⟨a,b,c,d⟩
 |_=>none
def acC:AV->Option End
 |.agg [.int .i64 a,.int .i64 b]=>some (a,b)
 |_=>none
deriving instance DecidableEq for k_
deriving instance DecidableEq for Word
structure bw where
 bJ:List Int
 bK:List k_
 fV:Int
 fU:Int
 ir:Int
 iu:Int
 dc:Int
 words:List Word
 wide:Int
 rows:Int
deriving DecidableEq
def ai(s:bw):List AV:=[vI s.bJ,.slice .view (s.bK.map eH),.int .i64 s.fV,.int .i64 s.fU,.int .i64 s.ir,.int .i64 s.iu,.int .i64 s.dc,.slice .view (s.words.map dP),.int .i64 s.wide,.int .i64 s.rows]
def dj(s:bw):AV:=.agg (ai s)
def Ia:AV->Option bw
 |.agg [w,.slice .view ps,.int .i64 a,.int .i64 b,.int .i64 c,.int .i64 d,.int .i64 e,.slice .view ws,.int .i64 f,.int .i64 g]=>match WV w with
  |some w=>match LZ aad ps with
   |some ps=>match LZ Z5 ws with
    |some ws=>some ⟨w,ps,a,b,c,d,e,ws,f,g⟩
    |none=>none
   |none=>none
  |none=>none
 |_=>none
def Hx:AV->Option (List Int×List End)
 |.agg [o,.slice .view es]=>match WV o with
  |some o=>match LZ acC es with
   |some es=>some (o,es)
   |none=>none
  |none=>none
 |_=>none
def q1(s:bw)(out:jr):List AV->Option jr
 |[a]=>match Ia a with
  |some x=>bif decide (x=s)then some out else none
  |none=>none
 |_=>none
def q2(s:bw)(es:List End)(out:jr):List AV->Option jr
 |[a,b]=>match Ia a with
  |some x=>match Hx b with
   |some y=>bif decide (x=s)&&decide (y=([],es))then some out else none
   |none=>none
  |none=>none
 |_=>none
def q3(s:bw)(es:List End)(n:Int)(out:jr):List AV->Option jr
 |[a,b,.int .i64 k]=>match Ia a with
  |some x=>match Hx b with
   |some y=>bif decide (x=s)&&decide (y=([],es))&&decide (k=n)then some out else none
   |none=>none
  |none=>none
 |_=>none
def qs(s:List UInt8)(out:jr):List AV->Option jr
 |[.str t]=>bif decide (t=s)then some out else none
 |_=>none
def GG(l:List End):br 2 (l.map dz)=true:=iJ λa=>⟨rfl,rfl⟩
end Go.Proofs.Tryz
namespace Go.Proofs.Tryz
open Go Go.AL Go.RowKit Go.Proofs Go.Proofs.Tram
attribute [local simp] aU bB bm aO aV aJ aK av az aW aw ao bO bP an ar ev aM.S aM.H bj aF bl AL.start AV.cells AV.storable AV.aZ aP bt bV bu HR.okB post bQ bG bH AV.out AV.aX aG aL fz cL AV.vw bT vI int a_ aq bD bq cd cj bZ bI aI AV.bC AV.dE
variable{GI:World->Prop}
def ee(n lo hi:Int):Bool:=decide (lo<=n)&&decide (n<=hi)
def wF(hG:aQ GI)(n lo hi:Int):AC prog GI 80 [.int .i64 n,.int .i64 lo,.int .i64 hi] (.ret (.bool (ee n lo hi))):=by
 refine dF hG func80 ntmps80 c80 ?_
 by_cases h1:lo<=n<;>by_cases h2:n<=hi<;>simp[c80,ee,h1,h2]
def tA(hG:aQ GI)(n lo hi:Int):AC prog GI 95 [.int .i64 n,.int .i64 lo,.int .i64 hi] (.ret (.bool (ee n lo hi))):=by
 refine dF hG func95 ntmps95 c95 ?_
 by_cases h1:lo<=n<;>by_cases h2:n<=hi<;>simp[c95,ee,h1,h2]
def l4(lo hi a most:Int):Bool:=ee lo a most&&ee hi lo most
def UQ(hG:aQ GI)(lo hi most:Int):AC prog GI 83 [.agg [.int .i64 lo,.int .i64 hi],.int .i64 most] (.ret (.bool (l4 lo hi 0 most))):=by
 refine dF hG func83 ntmps83 c83 ?_;simp[c83];refine oc (wF hG lo 0 most) ?_;cases h1:ee lo 0 most
 .simp[l4,h1]
 .simp;refine oc (wF hG hi lo most) ?_;simp[l4,h1]
def PS(hG:aQ GI)(lo hi a most:Int):AC prog GI 100 [.agg [.int .i64 lo,.int .i64 hi],.int .i64 a,.int .i64 most] (.ret (.bool (l4 lo hi a most))):=by
 refine dF hG func100 ntmps100 c100 ?_;simp[c100];refine oc (tA hG lo a most) ?_;cases h1:ee lo a most
 .simp[l4,h1]
 .simp;refine oc (tA hG hi lo most) ?_;simp[l4,h1]
def ac'(hG:aQ GI)(n:Int):AC prog GI 84 [.int .i64 n] (.ret (.bool (ee n 1 400))):=by
 refine dF hG func84 ntmps84 c84 ?_;simp[c84];refine oc (wF hG n 1 400) ?_;simp
def kf(s:bw)(n:Int):Bool:=ee n 0 (s.bJ.length-1)
def Pe(hG:aQ GI)(s:bw)(hs:s.bJ.length<1000)(n:Int):AC prog GI 124 [dj s,.int .i64 n] (.ret (.bool (kf s n))):=by
 refine dF hG func124 ntmps124 c124 ?_;have hw:IntKind.i64.wrap ((s.bJ.length:Int)-1)=s.bJ.length-1:=bU zo;simp[c124,dj,ai,hw];refine oc (wF hG n 0 (s.bJ.length-1)) ?_;simp[kf]
def kR(s:bw)(p:k_):Bool:=kf s p.l&&kf s p.r&&l4 p.lo p.hi 0 9
def abp(hG:aQ GI)(s:bw)(hs:s.bJ.length<1000)(p:k_):AC prog GI 96 [dj s,eH p] (.ret (.bool (kR s p))):=by
 refine dF hG func96 ntmps96 c96 ?_;have hw:IntKind.i64.wrap ((s.bJ.length:Int)-1)=s.bJ.length-1:=bU zo;refine aY (λS H=>S 2=.box 2 0/\S 3=.box 3 0/\H 2=some (ai s)/\H 3=some [.int .i64 p.l,.int .i64 p.r,.int .i64 p.lo,.int .i64 p.hi]) (by simp[dj,ai,eH]) ?_;rintro S H ⟨s2,s3,h2,h3⟩;simp[s2,s3,h2,h3,ai,hw];refine oc (tA hG p.l 0 (s.bJ.length-1)) ?_;cases h1:ee p.l 0 (s.bJ.length-1)
 .simp[kR,kf,h1]
 .simp[s2,s3,h2,h3,ai,hw];refine oc (tA hG p.r 0 (s.bJ.length-1)) ?_;cases h4:ee p.r 0 (s.bJ.length-1)
  .simp[kR,kf,h1,h4]
  .simp[s2,s3,h2,h3,ai];refine oc (PS hG p.lo p.hi 0 9) ?_;simp[kR,kf,h1,h4]
def yU(a b:k_):Bool:=decide (a.l<b.l)||(a.l==b.l&&decide (a.r<b.r))
def abw(hG:aQ GI)(a b:k_):AC prog GI 97 [eH a,eH b] (.ret (.bool (yU a b))):=by
 refine dF hG func97 ntmps97 c97 ?_;refine aY (λS H=>S 2=.box 2 0/\S 3=.box 3 0/\H 2=some [.int .i64 a.l,.int .i64 a.r,.int .i64 a.lo,.int .i64 a.hi]/\H 3=some [.int .i64 b.l,.int .i64 b.r,.int .i64 b.lo,.int .i64 b.hi]) (by simp[eH]) ?_;rintro S H ⟨s2,s3,h2,h3⟩
 by_cases h1:a.l<b.l
 .simp[s2,s3,h2,h3,yU,h1]
 .cases h4:a.l==b.l
  .simp[s2,s3,h2,h3,yU,h1,h4]
  .by_cases h5:a.r<b.r<;>simp[s2,s3,h2,h3,yU,h1,h4,h5]
def acY(hG:aQ GI)(n:Int):AC prog GI 98 [.int .i64 n] (.ret (.bool (!ee n 1 20))):=by
 refine dF hG func98 ntmps98 c98 ?_;simp[c98];refine oc (tA hG n 1 20) ?_;simp
def aaU(hG:aQ GI)(s:bw)(hs:s.bJ.length<1000)(n:Int):AC prog GI 135 [.int .i64 n,.ref (ai s)] (.ret (.bool (!kf s n))):=by
 refine dF hG func135 ntmps135 c135 ?_;have hw:IntKind.i64.wrap ((s.bJ.length:Int)-1)=s.bJ.length-1:=bU zo;simp[c135,ai,hw];refine oc (tA hG n 0 (s.bJ.length-1)) ?_;simp[kf]
def iD(l:List Int)(lo hi:Int):Bool:=oD (ee · lo hi) (λa b=>decide (a<b)) l
def aac(hG:aQ GI)(l:List Int)(hl:l.length<1000000)(lo hi:Int):AC prog GI 136 [vI l,.int .i64 lo,.int .i64 hi] (.ret (.bool (iD l lo hi))):=by
 refine dF hG func136 ntmps136 c136 ?_;simp[c136];refine cK 11 l.length (λi S H=>S 0=vI l/\S 1=.int .i64 lo/\S 2=.int .i64 hi/\S 9=vI l/\S 10=.int .i64 l.length/\S 11=.int .i64 (i:Nat)/\(∀j (hj:j<l.length),j<i->ee l[j] lo hi=true)/\∀j (hj:j+1<l.length),j+1<i->decide (l[j]<l[j+1])=true) (λi S H h=>h.2.2.2.2.2.1) ⟨ah7,ah7,ah7,ah7,ah7,ah7,ah7,ah7⟩ ?_;rintro i eJ S H ⟨s0,s1,s2,s9,cE,cG,hb,hc⟩
 by_cases aN:i<l.length
 .have hw:IntKind.i64.wrap ((i:Int)+1)=i+1:=bU zo;simp[s0,s1,s2,s9,cE,cG,aN];refine⟨_,zk,tA hG l[i] lo hi,λ_=>rfl,?_⟩;cases hp:ee l[i] lo hi
  .simp[s0,s1,s2,s9,cE,cG,aN,hw];exact sC aN hp
  .cases i with
   |zero=>
    simp[s0,s1,s2,s9,cE,cG,aN];exact⟨bU zo,λj hj DH=>by subst DH;exact hp⟩
   |succ k=>
    have hk:((k+1:Nat):Int)-1=(k:Nat):=zo
    have tF:IntKind.i64.wrap (k:Int)=k:=bU zo;have mg:IntKind.i64.wrap ((k:Int)+1+1)=k+1+1:=bU zo
    have jW:k<l.length:=zo
    have h0:(0:Int)<(k:Int)+1:=zo
    by_cases hle:l[k+1]<=l[k]
    .simp[s0,s1,s2,s9,cE,cG,aN,tF,jW,hle,h0];exact qL (lt:=λa b=>decide (a<b)) aN (by simpa using hle)
    .simp[s0,s1,s2,s9,cE,cG,aN,tF,jW,hle,h0,mg];refine⟨λj hj yv=>?_,λj hj yv=>?_⟩
     .by_cases e:j=k+1
      .subst e;exact hp
      .exact hb j hj zo
     .by_cases e:j=k
      .subst e;omega
      .simpa using hc j hj zo
 .have dV:i=l.length:=zo
  subst dV;simp[s0,s1,s2,s9,cE,cG];exact uW (λj hj=>hb j hj hj) (λj hj=>hc j hj hj)
def l6(s:bw)(w:Word):Bool:=ee w.cb.length 1 6&&!(w.cb.any λn=>!kf s n)&&iD w.dq 1 (w.cb.length-1)
def aaE(hG:aQ GI)(s:bw)(hs:s.bJ.length<1000)(w:Word)(h1:w.cb.length<1000)(h2:w.dq.length<1000):AC prog GI 103 [dj s,dP w] (.ret (.bool (l6 s w))):=by
 have Vw:=YV hG w.cb zo 135 [.ref (ai s)] (.inr ⟨_,rfl⟩) (λn=>!kf s n) zk (λn _=>aaU hG s hs n);have hw:IntKind.i64.wrap ((w.cb.length:Int)-1)=w.cb.length-1:=bU zo;refine dF hG func103 ntmps103 c103 ?_;refine aY (λS H=>S 2=.box 2 0/\S 3=.box 3 0/\H 2=some (ai s)/\H 3=some [vI w.cb,vI w.dq,.bool w.free]) (by simp[dj,ai,dP]) ?_;rintro S H ⟨s2,s3,e2,e3⟩;simp[s2,s3,e2,e3];refine⟨_,zk,tA hG w.cb.length 1 6,λ_=>rfl,?_⟩;cases h3:ee w.cb.length 1 6
 .simp[l6,h3]
 .simp[s2,s3,e2,e3,ai];refine⟨_,zk,Vw,λ_=>rfl,?_⟩
  cases h4:w.cb.any λn=>!kf s n
  .simp[s2,s3,e2,e3,hw];refine⟨_,zk,aac hG w.dq zo 1 (w.cb.length-1),λ_=>rfl,?_⟩;simp[l6,h3,h4]
  .simp[l6,h3,h4]
def aak(hG:aQ GI)(s:bw)(hs:s.bJ.length<1000)(w:Word)(h1:w.cb.length<1000)(h2:w.dq.length<1000):AC prog GI 102 [dP w,.ref (ai s)] (.ret (.bool (!l6 s w))):=by
 refine dF hG func102 ntmps102 c102 ?_;simp[c102,dP,ai];refine⟨_,zk,aaE hG s hs w h1 h2,λ_=>rfl,?_⟩;simp
structure ss(s:bw):Prop where
 bJ:s.bJ.length<1000
 bK:s.bK.length<1000
 words:s.words.length<1000
 cb:∀w∈s.words,w.cb.length<1000
 dq:∀w∈s.words,w.dq.length<1000
def u_(s:bw):Bool:=!(s.bJ.any λn=>!ee n 1 20)&&l4 s.fV s.fU 0 9&&l4 s.ir s.iu 0 20&&ee s.dc 1 20&&!(s.words.any λw=>!l6 s w)&&ee s.wide 1 400&&ee s.rows 1 3
def cN(s:bw):Bool:=ee s.bJ.length 1 6&&decide (s.bK.length<=6)&&ee s.words.length 1 4&&oD (kR s) yU s.bK&&u_ s
def HK(hG:aQ GI)(s:bw)(hs:ss s):AC prog GI 44 [dj s] (.ret (.bool (cN s))):=by
 have Vw:=YV hG s.bJ (by have:=hs.bJ;omega) 98 [] (.inl rfl) (λn=>!ee n 1 20) zk (λn _=>acY hG n);have abT:=ZY hG s.words (by have:=hs.words;omega) 102 [.ref (ai s)] (.inr ⟨_,rfl⟩) (λw=>!l6 s w) zk (λw hw=>aak hG s hs.bJ w (hs.cb w hw) (hs.dq w hw));refine dF hG func44 ntmps44 c44 ?_;refine aY (λS H=>S 1=.box 1 0/\H 1=some (ai s)) (by simp[dj,ai]) ?_;rintro S H ⟨s1,e1⟩;simp[s1,e1,ai];refine⟨_,zk,tA hG s.bJ.length 1 6,λ_=>rfl,?_⟩;cases h1:ee s.bJ.length 1 6
 .simp[cN,h1]
 by_cases h2:(6:Int)<s.bK.length
 .simp[s1,e1,ai,h2]
  have:¬s.bK.length<=6:=zo
  simp[cN,this]
 simp[s1,e1,ai,h2];refine⟨_,zk,tA hG s.words.length 1 4,λ_=>rfl,?_⟩;cases h3:ee s.words.length 1 4
 .simp[cN,h3]
 simp[s1,e1,ai]
 have C2:s.bK.length<=6:=zo
 refine cK 27 s.bK.length (λi S H=>S 1=.box 1 0/\H 1=some (ai s)/\S 25=.slice .view (s.bK.map eH)/\S 26=.int .i64 s.bK.length/\S 27=.int .i64 (i:Nat)/\(∀j (hj:j<s.bK.length),j<i->kR s s.bK[j]=true)/\∀j (hj:j+1<s.bK.length),j+1<i->yU s.bK[j] s.bK[j+1]=true) (λi S H h=>h.2.2.2.2.1) ⟨by simp[s1],by simp[e1,ai],ah7,ah7,ah7,ah7,ah7⟩ ?_;clear s1 e1 S H;rintro i hi S H ⟨s1,e1,gn,iq,gR,hb,hc⟩
 by_cases aN:i<s.bK.length
 case neg=>
  have dV:i=s.bK.length:=zo
  subst dV;have acI:oD (kR s) yU s.bK=true:=uW (λj hj=>hb j hj hj) (λj hj=>hc j hj hj);simp[s1,e1,gn,iq,gR,ai];refine⟨_,zk,Vw,λ_=>rfl,?_⟩
  cases h4:s.bJ.any λn=>!ee n 1 20
  case true=>simp[cN,u_,h4]
  simp[s1,e1,ai];refine⟨_,zk,PS hG s.fV s.fU 0 9,λ_=>rfl,?_⟩;cases h5:l4 s.fV s.fU 0 9
  .simp[cN,u_,h5]
  simp[s1,e1,ai];refine⟨_,zk,PS hG s.ir s.iu 0 20,λ_=>rfl,?_⟩;cases h6:l4 s.ir s.iu 0 20
  .simp[cN,u_,h6]
  simp[s1,e1,ai];refine⟨_,zk,tA hG s.dc 1 20,λ_=>rfl,?_⟩;cases h7:ee s.dc 1 20
  .simp[cN,u_,h7]
  simp[s1,e1,ai];refine⟨_,zk,abT,λ_=>rfl,?_⟩
  cases h8:s.words.any λw=>!l6 s w
  case true=>simp[cN,u_,h8]
  simp[s1,e1,ai];refine⟨_,zk,tA hG s.wide 1 400,λ_=>rfl,?_⟩;cases h9:ee s.wide 1 400
  .simp[cN,u_,h9]
  simp[s1,e1,ai];refine⟨_,zk,tA hG s.rows 1 3,λ_=>rfl,?_⟩;simp[cN,u_,h1,C2,h3,acI,h4,h5,h6,h7,h8,h9]
 case pos=>
  have hw:IntKind.i64.wrap ((i:Int)+1)=i+1:=bU zo;refine aY (λS H=>S 28=.bool true/\S 1=.box 1 0/\H 1=some (ai s)/\S 25=.slice .view (s.bK.map eH)/\S 26=.int .i64 s.bK.length/\S 27=.int .i64 (i:Nat)) (by simp[s1,e1,gn,iq,gR,aN]) ?_;clear s1 e1 gn iq gR S H;rintro S H ⟨xm,s1,e1,gn,iq,gR⟩;refine AJ xm (zi ?_);refine aY (λS H=>S 4=.box 4 0/\H 4=some (eH s.bK[i]).cells/\S 3=.int .i64 (i:Nat)/\S 1=.box 1 0/\H 1=some (ai s)/\S 25=.slice .view (s.bK.map eH)/\S 26=.int .i64 s.bK.length/\S 27=.int .i64 (i:Nat)) (by simp[s1,e1,gn,iq,gR,aN,eH]) ?_;clear s1 e1 gn iq gR xm S H;rintro S H ⟨s4,e4,s3,s1,e1,gn,iq,gR⟩;simp[s1,e1,s3,s4,e4,ai,eH];refine⟨_,zk,abp hG s hs.bJ s.bK[i],λ_=>rfl,?_⟩;cases hp:kR s s.bK[i]
  .simp;simp[cN,sC aN hp]
  cases i with
  |zero=>
   simp[s1,s3,s4,gn,iq,gR,aN];exact⟨e1,bU zo,λj hj DH=>by subst DH;exact hp⟩
  |succ k=>
   have tF:IntKind.i64.wrap (k:Int)=k:=bU zo;have mg:IntKind.i64.wrap ((k:Int)+1+1)=k+1+1:=bU zo
   have jW:k<s.bK.length:=zo
   have h0:(0:Int)<(k:Int)+1:=zo
   simp[s1,e1,s3,s4,e4,aN,tF,jW,h0,ai,eH];refine⟨_,zk,abw hG s.bK[k] s.bK[k+1],λ_=>rfl,?_⟩;cases hq:yU s.bK[k] s.bK[k+1]
   .simp;simp[cN,qL (p:=kR s) aN hq]
   .simp[s1,e1,s3,s4,gn,iq,gR,aN,mg];refine⟨rfl,λj hj yv=>?_,λj hj yv=>?_⟩
    .by_cases e:j=k+1
     .subst e;exact hp
     .exact hb j hj zo
    .by_cases e:j=k
     .subst e;exact hq
     .exact hc j hj zo
def R8(s:bw)(w:Word):l6 s w=(w.cb.all (kf s)&&(iD w.dq 1 (w.cb.length-1)&&ee w.cb.length 1 6)):=by
 unfold l6;rw[uS]
 cases ee w.cb.length 1 6<;>cases w.cb.all (kf s)<;>cases iD w.dq 1 (w.cb.length-1)<;>rfl
def abP(hG:aQ GI)(s:bw)(hs:s.bJ.length<1000)(w:Word)(h1:w.cb.length<1000)(h2:w.dq.length<1000):AC prog GI 81 [dj s,dP w] (.ret (.bool (l6 s w))):=by
 rw[R8];refine dF hG func81 ntmps81 c81 ?_;refine aY (λS H=>S 2=.box 2 0/\S 3=.box 3 0/\H 2=some (ai s)/\H 3=some [vI w.cb,vI w.dq,.bool w.free]) (by simp[dj,ai,dP]) ?_;rintro S H ⟨s2,s3,e2,e3⟩;simp[s2,s3,e2,e3];refine cK 5 w.cb.length (λi S H=>S 2=.box 2 0/\S 3=.box 3 0/\H 2=some (ai s)/\H 3=some [vI w.cb,vI w.dq,.bool w.free]/\S 5=.int .i64 (i:Nat)/\(∀j (hj:j<w.cb.length),j<i->kf s w.cb[j]=true)) (λi S H h=>h.2.2.2.2.1) ⟨by simp[s2],by simp[s3],e2,e3,ah7,ah7⟩ ?_;clear s2 s3 e2 e3 S H;rintro i hi S H ⟨s2,s3,e2,e3,s5,hb⟩
 by_cases aN:i<w.cb.length
 case pos=>
  have hw:IntKind.i64.wrap ((i:Int)+1)=i+1:=bU zo;simp[s2,s3,e2,e3,s5,aN,ai];refine⟨_,zk,Pe hG s hs w.cb[i],λ_=>rfl,?_⟩;cases hp:kf s w.cb[i]
  .simp[EL aN hp]
  .simp[s2,s3,e2,e3,s5,aN,hw];exact⟨rfl,rz aN hb hp⟩
 have dV:i=w.cb.length:=zo
 subst dV
 have eu:w.cb.all (kf s)=true:=HZ λj hj=>hb j hj hj
 simp[s2,s3,e2,e3,s5,eu];refine cK 6 w.dq.length (λi S H=>S 3=.box 3 0/\H 3=some [vI w.cb,vI w.dq,.bool w.free]/\S 6=.int .i64 (i:Nat)/\(∀j (hj:j<w.dq.length),j<i->ee w.dq[j] 1 (w.cb.length-1)=true)/\∀j (hj:j+1<w.dq.length),j+1<i->decide (w.dq[j]<w.dq[j+1])=true) (λi S H h=>h.2.2.1) ⟨by simp[s3],e3,ah7,ah7,ah7⟩ ?_;clear s2 s3 e2 e3 s5 hb S H;rintro i hi S H ⟨s3,e3,s6,hb,hc⟩
 by_cases aN:i<w.dq.length
 case neg=>
  have dV:i=w.dq.length:=zo
  subst dV;have hr:iD w.dq 1 (w.cb.length-1)=true:=uW (λj hj=>hb j hj hj) (λj hj=>hc j hj hj);simp[s3,e3,s6,hr];refine⟨_,zk,wF hG w.cb.length 1 6,λ_=>rfl,?_⟩;simp
 case pos=>
  have hw:IntKind.i64.wrap ((i:Int)+1)=i+1:=bU zo;have yt:IntKind.i64.wrap ((w.cb.length:Int)-1)=w.cb.length-1:=bU zo;simp[s3,e3,s6,aN,yt];refine⟨_,zk,wF hG w.dq[i] 1 (w.cb.length-1),λ_=>rfl,?_⟩;cases hp:ee w.dq[i] 1 (w.cb.length-1)
  .have hr:iD w.dq 1 (w.cb.length-1)=false:=sC aN hp;simp[hr]
  cases i with
  |zero=>
   simp[s3,e3,s6,aN];exact⟨bU zo,λj hj DH=>by subst DH;exact hp⟩
  |succ k=>
   have tF:IntKind.i64.wrap (k:Int)=k:=bU zo;have mg:IntKind.i64.wrap ((k:Int)+1+1)=k+1+1:=bU zo
   have jW:k<w.dq.length:=zo
   have h0:(0:Int)<(k:Int)+1:=zo
   have h00:(0:Int)<=(k:Int)+1:=zo
   by_cases hle:w.dq[k+1]<=w.dq[k]
   .have hr:iD w.dq 1 (w.cb.length-1)=false:=qL (lt:=λa b=>decide (a<b)) aN (by simpa using hle);simp[s3,e3,s6,aN,tF,jW,hle,h0,h00,hr]
   .simp[s3,e3,s6,aN,tF,jW,hle,h0,h00,mg];exact⟨rz (p:=λn=>ee n 1 (w.cb.length-1)) aN hb hp,λj hj yv=>by simpa using Bo (lt:=λa b=>decide (a<b)) aN hc (by simpa using hle) j hj zo⟩
def qR(s:bw):Bool:=oD (kR s) yU s.bK&&decide (s.bK.length<=6)
def Nh(a b:k_):yU a b=!(decide (b.l<a.l)||(a.l==b.l&&decide (b.r<=a.r))):=by
 unfold yU
 by_cases h1:a.l<b.l
 .have h2:¬b.l<a.l:=zo
  have h3:(a.l==b.l)=false:=by simp;omega
  simp[h1,h2,h3]
 .by_cases h2:b.l<a.l
  .have h3:(a.l==b.l)=false:=by simp;omega
   simp[h1,h2,h3]
  .have h3:(a.l==b.l)=true:=by simp;omega
   by_cases h4:b.r<=a.r
   .have h5:¬a.r<b.r:=zo
    simp[h1,h2,h3,h4,h5]
   .have h5:a.r<b.r:=zo
    simp[h1,h2,h3,h4,h5]
def acs(hG:aQ GI)(s:bw)(hs:s.bJ.length<1000)(h1:s.bK.length<1000):AC prog GI 82 [dj s] (.ret (.bool (qR s))):=by
 refine dF hG func82 ntmps82 c82 ?_;simp[c82,dj,ai];refine cK 3 s.bK.length (λi S H=>S 1=.box 1 0/\H 1=some (ai s)/\S 3=.int .i64 (i:Nat)/\(∀j (hj:j<s.bK.length),j<i->kR s s.bK[j]=true)/\∀j (hj:j+1<s.bK.length),j+1<i->yU s.bK[j] s.bK[j+1]=true) (λi S H h=>h.2.2.1) ⟨ah7,by simp[ai],ah7,ah7,ah7⟩ ?_;rintro i hi S H ⟨s1,e1,s3,hb,hc⟩
 by_cases aN:i<s.bK.length
 case neg=>
  have dV:i=s.bK.length:=zo
  subst dV;have hr:oD (kR s) yU s.bK=true:=uW (λj hj=>hb j hj hj) (λj hj=>hc j hj hj);simp[s1,e1,s3,ai,qR,hr]
  by_cases h6:s.bK.length<=6
  .have ZD:(s.bK.length:Int)<=6:=zo
   simp[h6,ZD]
  .have ZD:¬(s.bK.length:Int)<=6:=zo
   simp[h6,ZD]
 case pos=>
  have hw:IntKind.i64.wrap ((i:Int)+1)=i+1:=bU zo;refine mS (λS H=>S 9=.bool true/\S 1=.box 1 0/\H 1=some (ai s)/\S 3=.int .i64 (i:Nat)) (by simp[s1,e1,s3,aN,ai]) ?_;clear s1 e1 s3 S H;rintro S H ⟨s9,s1,e1,s3⟩;refine AJ s9 (zi ?_);refine aY (λS H=>S 4=.box 4 0/\H 4=some (eH s.bK[i]).cells/\S 1=.box 1 0/\H 1=some (ai s)/\S 3=.int .i64 (i:Nat)) (by simp[s1,e1,s3,aN,ai,eH]) ?_;clear s1 e1 s3 s9 S H;rintro S H ⟨s4,e4,s1,e1,s3⟩;refine mS (λS H=>S 34=.bool (!kR s s.bK[i])/\S 4=.box 4 0/\H 4=some (eH s.bK[i]).cells/\S 1=.box 1 0/\H 1=some (ai s)/\S 3=.int .i64 (i:Nat)) ?_ ?_
  .simp[s1,e1,s3,s4,e4,ai,eH];refine⟨_,zk,Pe hG s hs s.bK[i].l,λ_=>rfl,?_⟩;cases h1:kf s s.bK[i].l
   .simp[s1,e1,s3,s4,e4,ai,eH,kR,h1]
   simp[s1,e1,s3,s4,e4,ai,eH];refine⟨_,zk,Pe hG s hs s.bK[i].r,λ_=>rfl,?_⟩;cases h2:kf s s.bK[i].r
   .simp[s1,e1,s3,s4,e4,ai,eH,kR,h1,h2]
   simp[s1,e1,s3,s4,e4,ai,eH];refine⟨_,zk,UQ hG s.bK[i].lo s.bK[i].hi 9,λ_=>rfl,?_⟩;simp[s1,e1,s3,s4,e4,ai,eH,kR,h1,h2]
  clear s1 e1 s3 s4 e4 S H;rintro S H ⟨WD,s4,e4,s1,e1,s3⟩;cases hp:kR s s.bK[i]
  .rw[hp]at WD
   have hr:qR s=false:=by unfold qR;rw[sC aN hp];rfl
   simp[WD,hr]
  rw[hp]at WD;refine D5 WD ?_
  cases i with
  |zero=>
   simp[s1,e1,s3,s4,e4,ai,aN];exact⟨bU zo,λj hj DH=>by subst DH;exact hp⟩
  |succ k=>
   have tF:IntKind.i64.wrap (k:Int)=k:=bU zo;have mg:IntKind.i64.wrap ((k:Int)+1+1)=k+1+1:=bU zo
   have jW:k<s.bK.length:=zo
   have h0:(0:Int)<(k:Int)+1:=zo
   cases hq:yU s.bK[k] s.bK[k+1]
   .have hr:qR s=false:=by unfold qR;rw[qL aN hq];rfl
    rw[Nh]at hq
    by_cases h1:s.bK[k+1].l<s.bK[k].l
    .simp[s1,e1,s3,s4,e4,ai,eH,tF,jW,h0,h1,hr]
    .cases h2:s.bK[k].l==s.bK[k+1].l
     .simp[h1,h2]at hq
     .by_cases h3:s.bK[k+1].r<=s.bK[k].r
      .simp[s1,e1,s3,s4,e4,ai,eH,tF,jW,h0,h1,h2,h3,hr]
      .simp[h1,h2,h3]at hq
   .have yK:=hq;rw[Nh]at hq
    have h1:¬s.bK[k+1].l<s.bK[k].l:=λh=>by simp[h]at hq
    cases h2:s.bK[k].l==s.bK[k+1].l
    .simp[s1,e1,s3,s4,e4,ai,eH,tF,jW,h0,h1,h2,mg,aN];exact⟨rz aN hb hp,λj hj yv=>Bo aN hc yK j hj zo⟩
    .have h3:¬s.bK[k+1].r<=s.bK[k].r:=λh=>by simp[h1,h2,h]at hq
     simp[s1,e1,s3,s4,e4,ai,eH,tF,jW,h0,h1,h2,h3,mg,aN];exact⟨rz aN hb hp,λj hj yv=>Bo aN hc yK j hj zo⟩
def PW(s:bw):cN s=(s.bJ.all (ee · 1 20)&&(s.words.all (l6 s)&&(ee s.bJ.length 1 6&&qR s&&l4 s.fV s.fU 0 9&&l4 s.ir s.iu 0 20&&ee s.dc 1 20&&ee s.words.length 1 4&&ee s.wide 1 400&&ee s.rows 1 3))):=by
 unfold cN u_ qR;rw[uS,uS]
 cases ee s.bJ.length 1 6<;>cases decide (s.bK.length<=6)<;>cases ee s.words.length 1 4<;>cases oD (kR s) yU s.bK<;>cases s.bJ.all (ee · 1 20)<;>cases s.words.all (l6 s)<;>cases l4 s.fV s.fU 0 9<;>simp
def acg(hG:aQ GI)(s:bw)(hs:ss s):AC prog GI 39 [dj s] (.ret (.bool (cN s))):=by
 rw[PW];have q1:=hs.bJ;have q2:=hs.bK;have q3:=hs.words;refine dF hG func39 ntmps39 c39 ?_;simp[c39,dj,ai];refine cK 3 s.bJ.length (λi S H=>S 1=.box 1 0/\H 1=some (ai s)/\S 3=.int .i64 (i:Nat)/\(∀j (hj:j<s.bJ.length),j<i->ee s.bJ[j] 1 20=true)) (λi S H h=>h.2.2.1) ⟨ah7,by simp[ai],ah7,ah7⟩ ?_;rintro i hi S H ⟨s1,e1,s3,hb⟩
 by_cases aN:i<s.bJ.length
 case pos=>
  have hw:IntKind.i64.wrap ((i:Int)+1)=i+1:=bU zo;simp[s1,e1,s3,aN,ai];refine⟨_,zk,wF hG s.bJ[i] 1 20,λ_=>rfl,?_⟩;cases hp:ee s.bJ[i] 1 20
  .simp[EL (p:=λn=>ee n 1 20) aN hp]
  .simp[s1,e1,s3,aN,hw];exact⟨rfl,rz (p:=λn=>ee n 1 20) aN hb hp⟩
 have dV:i=s.bJ.length:=zo
 subst dV
 have eu:s.bJ.all (ee · 1 20)=true:=HZ λj hj=>hb j hj hj
 simp[s1,e1,s3,ai,eu];refine cK 4 s.words.length (λi S H=>S 1=.box 1 0/\H 1=some (ai s)/\S 4=.int .i64 (i:Nat)/\(∀j (hj:j<s.words.length),j<i->l6 s s.words[j]=true)) (λi S H h=>h.2.2.1) ⟨by simp[s1],by simp[e1,ai],ah7,ah7⟩ ?_;clear s1 e1 s3 hb S H;rintro i hi S H ⟨s1,e1,s4,hb⟩
 by_cases aN:i<s.words.length
 case pos=>
  have hw:IntKind.i64.wrap ((i:Int)+1)=i+1:=bU zo;simp[s1,e1,s4,aN,ai,dP];refine⟨_,zk,abP hG s q1 s.words[i] (hs.cb _ (ad2 aN)) (hs.dq _ (ad2 aN)),λ_=>rfl,?_⟩;cases hp:l6 s s.words[i]
  .simp[EL aN hp]
  .simp[s1,e1,s4,aN,hw];exact⟨rfl,rz aN hb hp⟩
 have dV:i=s.words.length:=zo
 subst dV
 have pG:s.words.all (l6 s)=true:=HZ λj hj=>hb j hj hj
 simp[s1,e1,s4,ai,pG];refine⟨_,zk,wF hG s.bJ.length 1 6,λ_=>rfl,?_⟩;cases h1:ee s.bJ.length 1 6
 .simp
 simp[s1,e1,s4,ai];refine⟨_,zk,acs hG s q1 q2,λ_=>rfl,?_⟩;cases h2:qR s
 .simp
 simp[s1,e1,s4,ai];refine⟨_,zk,UQ hG s.fV s.fU 9,λ_=>rfl,?_⟩;cases h3:l4 s.fV s.fU 0 9
 .simp
 simp[s1,e1,s4,ai];refine⟨_,zk,UQ hG s.ir s.iu 20,λ_=>rfl,?_⟩;cases h4:l4 s.ir s.iu 0 20
 .simp
 simp[s1,e1,s4,ai];refine⟨_,zk,wF hG s.dc 1 20,λ_=>rfl,?_⟩;cases h5:ee s.dc 1 20
 .simp
 simp[s1,e1,s4,ai];refine⟨_,zk,wF hG s.words.length 1 4,λ_=>rfl,?_⟩;cases h6:ee s.words.length 1 4
 .simp
 simp[s1,e1,s4,ai];refine⟨_,zk,ac' hG s.wide,λ_=>rfl,?_⟩;cases h7:ee s.wide 1 400
 .simp
 simp[s1,e1,s4,ai];refine⟨_,zk,wF hG s.rows 1 3,λ_=>rfl,?_⟩;simp
end Go.Proofs.Tryz
namespace Go.Proofs.Tryz
open Go.AL
noncomputable def c4:ah:=cq 69 f4.cO
def gP(a b:End):Bool:=decide (a.1<b.1)||(a.1==b.1&&decide (a.2<b.2))
def rl{a b:End}:gP a b=true↔a.1<b.1\/a.1=b.1/\a.2<b.2:=by
 simp[gP]
section
variable{l:List End}
end
def rW(s:bw)(n:Int):Bool:=match s.words[n.toNat]? with|some w=>!w.free|none=>false
def iP(s:bw)(out:List Int):Bool:=iD out 0 (s.words.length-1)&&decide (out.length<s.words.length)&&!(out.any (rW s))
def kQ(s:bw)(out:List Int)(n:Nat):List End:=if out.contains (n:Int)then[]else match s.words[n]? with
 |some w=>(w.dq.map λk=>((n:Int),k))++[((n:Int),(w.cb.length:Int))]
 |none=>[]
def nn(s:bw)(out:List Int):List End:=(List.range s.words.length).flatMap (kQ s out)
def mr(out:List Int):Nat->Int
 |0=> -1
 |n+1=>if out.contains (n:Int)then mr out n else n
def Ap(s:bw)(out:List Int)(e:End):Bool:=ee e.1 0 (s.words.length-1)&&!out.contains e.1&&match s.words[e.1.toNat]? with
 |some w=>e.2==(w.cb.length:Int)||w.dq.contains e.2
 |none=>false
def nr(s:bw)(out:List Int):End:=(mr out s.words.length,match s.words[(mr out s.words.length).toNat]? with|some w=>(w.cb.length:Int)|none=>0)
def nD(s:bw)(out:List Int)(es:List End):Bool:=iP s out&&!es.isEmpty&&(oD (Ap s out) gP es&&(es.getLast?.getD (-1,0)==nr s out))
def D7{s:bw}{out:List Int}{e:End}:e∈nn s out↔Ap s out e=true:=by
 unfold nn Ap ee;rw[aeQ];simp only[aeI,aeb,aej,ae_,agD,agp]
 constructor
 .rintro⟨n,hn,he⟩;unfold kQ at he;split at he
  .cases he
  rename_i hc
  have hc:¬(n:Int)∈out:=by simpa using hc
  rw[ad_ hn]at he;simp only[aeg,aew,aev]at he
  have h1:e.1=n:=by rcases he with⟨k,_,rfl⟩|rfl<;>rfl
  rw[h1];refine⟨⟨zo,hc⟩,?_⟩;rw[Int.toNat_natCast,ad_ hn];simp only[afo,aeS,aej];rcases he with⟨k,hk,rfl⟩|rfl
  .exact .inr hk
  .exact .inl rfl
 .rintro⟨⟨⟨h1,h2⟩,hc⟩,h3⟩;obtain⟨w,k⟩:=e
  obtain⟨n,rfl⟩:∃n:Nat,w=n:=⟨w.toNat,by simp only at h1;omega⟩
  simp only at h1 h2 hc h3
  have hn:n<s.words.length:=zo
  refine⟨n,hn,?_⟩;unfold kQ;rw[if_neg (by simpa using hc)];rw[Int.toNat_natCast,ad_ hn]at h3;rw[ad_ hn];simp only[afo,aeS,aej]at h3;simp only[aeg,aew,aev];rcases h3 with rfl|h3
  .exact .inr rfl
  .exact .inl ⟨k,h3,rfl⟩
def xI{s:bw}{out:List Int}(hw:∀w∈s.words,iD w.dq 1 (w.cb.length-1)=true):(nn s out).Pairwise λa b=>gP a b=true:=by
 unfold nn;rw[List.pairwise_flatMap]
 constructor
 .intro n hn;rw[aeI]at hn;unfold kQ;split
  .exact .nil
  rw[ad_ hn];have h:=hw s.words[n] (ad2 hn);unfold iD at h;rw[iN]at h;obtain⟨h1,h2⟩:=h;simp only;rw[agE];refine⟨?_,agZ _ _,?_⟩
  .rw[List.pairwise_map]
   have:s.words[n].dq.Pairwise λa b=>a<b:=Ra λj hj=>by simpa using h2 j hj
   exact this.imp λh=>by simp[gP,h]
  .intro a ha b hb;rw[aev]at hb;subst hb;obtain⟨k,hk,rfl⟩:=aew.1 ha;have:=h1 k hk;simp[ee]at this;simp[gP];omega
 .refine List.Pairwise.imp_of_mem ?_ ahT;intro a b ha hb uT x hx y hy
  have ph:x.1=a:=by
   unfold kQ at hx;split at hx
   .cases hx
   split at hx
   .simp only[aeg,aew,aev]at hx
    rcases hx with⟨k,_,rfl⟩|rfl<;>rfl
   .cases hx
  have JZ:y.1=b:=by
   unfold kQ at hy;split at hy
   .cases hy
   split at hy
   .simp only[aeg,aew,aev]at hy
    rcases hy with⟨k,_,rfl⟩|rfl<;>rfl
   .cases hy
  rw[rl,ph,JZ];left;omega
def BN{out:List Int}:∀n:Nat,(mr out n= -1/\∀k:Nat,k<n->(k:Int)∈out)\/∃m:Nat,m<n/\mr out n=m/\¬(m:Int)∈out/\∀k:Nat,m<k->k<n->(k:Int)∈out
 |0=>.inl ⟨rfl,λk hk=>zo⟩
 |n+1=>by
  unfold mr;split
  .rename_i hc
   have hc:(n:Int)∈out:=by simpa using hc
   rcases BN (out:=out) n with⟨h1,h2⟩|⟨m,h1,h2,h3,h4⟩
   .refine .inl ⟨h1,λk hk=>?_⟩
    by_cases e:k=n
    .subst e;exact hc
    .exact h2 k zo
   .refine .inr ⟨m,zo,h2,h3,λk hk dp=>?_⟩
    by_cases e:k=n
    .subst e;exact hc
    .exact h4 k hk zo
  .rename_i hc;exact .inr ⟨n,zo,rfl,by simpa using hc,λk h1 h2=>zo⟩
def Rk{s:bw}{out:List Int}(h:iP s out=true):∃m:Nat,m<s.words.length/\mr out s.words.length=m/\¬(m:Int)∈out/\∀k:Nat,m<k->k<s.words.length->(k:Int)∈out:=by
 unfold iP at h;simp only[aeb,aej]at h;obtain⟨⟨h1,h2⟩,_⟩:=h;rcases BN (out:=out) s.words.length with⟨_,h3⟩|h3
 .exfalso;unfold iD at h1;rw[iN]at h1;obtain⟨_,h1⟩:=h1
  have hp:out.Pairwise λa b=>a<b:=Ra λj hj=>by simpa using h1 j hj
  have hp:=afU.1 hp
  have key:∀k:Nat,k<s.words.length->∃j,k<=j/\∃hj:j<out.length,out[j]=k:=by
   intro k
   induction k with
   |zero=>
    intro hk;obtain⟨j,hj,e⟩:=ae5 (h3 0 hk);exact⟨j,zo,hj,e⟩
   |succ k ih=>
    intro hk;obtain⟨j,hkj,hj,e⟩:=ih zo;obtain⟨j',eX,e'⟩:=ae5 (h3 (k+1) hk);refine⟨j',?_,eX,e'⟩;rcases Nat.lt_trichotomy j j' with h|h|h
    .omega
    .subst h;omega
    .have:=hp j' j eX hj h;omega
  obtain⟨j,hkj,hj,_⟩:=key (s.words.length-1) zo;omega
 .exact h3
def ET{s:bw}{out:List Int}(h:iP s out=true):(nn s out).getLast?=some (nr s out):=by
 obtain⟨m,h1,h2,h3,h4⟩:=Rk h
 have hl:nr s out=((m:Int),((s.words[m]).cb.length:Int)):=by
  unfold nr;rw[h2,Int.toNat_natCast,ad_ h1]
 rw[hl];unfold nn
 obtain⟨d,hd⟩:∃d,s.words.length=m+1+d:=⟨s.words.length-m-1,zo⟩
 have key:∀d,m+1+d<=s.words.length->((List.range (m+1+d)).flatMap (kQ s out)).getLast?=some ((m:Int),((s.words[m]).cb.length:Int)):=by
  intro d
  induction d with
  |zero=>
   intro _;rw[Nat.add_zero,afs,afO,agx]
   have hm:¬(out.contains (m:Int)=true):=by simpa using h3
   have e:kQ s out m=(s.words[m].dq.map λk=>((m:Int),k))++[((m:Int),(s.words[m].cb.length:Int))]:=by
    unfold kQ;rw[if_neg hm,ad_ h1]
   rw[e,<-aeU,ah0];simp
  |succ d ih=>
   intro hle;rw[<-agG,afs,afO,agx]
   have hc:out.contains ((m+1+d:Nat):Int)=true:=by simpa using h4 (m+1+d) zo zo
   have e:kQ s out (m+1+d)=[]:=by
    unfold kQ;rw[if_pos hc]
   rw[e,afe];exact ih zo
 rw[hd];exact key d zo
def eT(s:bw)(w:Nat):Nat:=match s.words[w]? with|some x=>x.cb.length|none=>0
def lS{s:bw}{w:Nat}(h:w<s.words.length):eT s w=s.words[w].cb.length:=by unfold eT;rw[ad_ h]
def rN(w f t:Nat):List (Nat×Nat):=(List.range' f (t-f)).map λi=>(w,i)
def lk(s:bw)(out:List Int):Nat->Nat->Nat->Nat->List (Nat×Nat)
 |0,w,f,t=>rN w f t
 |d+1,w,f,t=>(if out.contains (w:Int)then[]else rN w f (eT s w))++lk s out d (w+1) 0 t
def mZ(s:bw)(out:List Int)(a e:Nat×Nat):List (Nat×Nat):=lk s out (e.1-a.1) a.1 a.2 e.2
def LR{w f t:Nat}(h:t<=f):rN w f t=[]:=by
 unfold rN;rw[show t-f=0 by omega];rfl
def HB{w f t:Nat}(h:f<t):rN w f t=(w,f)::rN w (f+1) t:=by
 unfold rN;rw[show t-f=(t-(f+1))+1 by omega,afJ];rfl
def Sv{w f t:Nat}(h:f<=t):rN w f (t+1)=rN w f t++[(w,t)]:=by
 unfold rN;rw[show t+1-f=(t-f)+1 by omega,agO,aeB];simp only[aer,aeF,Nat.one_mul];rw[show f+(t-f)=t by omega]
def LV{w f t:Nat}:(rN w f t).length=t-f:=by simp[rN]
def Kz{w f t:Nat}{g:Nat×Nat}:g∈rN w f t↔g.1=w/\f<=g.2/\g.2<t:=by
 unfold rN;rw[aew];simp only[agz]
 constructor
 .rintro⟨i,hi,rfl⟩;exact⟨rfl,hi.1,by have:=hi.2;show i<t;omega⟩
 .rintro⟨h1,h2,h3⟩;exact⟨g.2,zo,by rw[<-h1]⟩
def Qh{s:bw}{out:List Int}{w f t:Nat}(h:t<=f):mZ s out (w,f) (w,t)=[]:=by
 unfold mZ;simp only[ahG];exact LR h
def FG{s:bw}{out:List Int}{w f t:Nat}:mZ s out (w,f) (w,t)=rN w f t:=by
 unfold mZ;simp only[ahG]
 rfl
def tT{s:bw}{out:List Int}{w f:Nat}{e:Nat×Nat}(h:w<e.1):mZ s out (w,f) e=(if out.contains (w:Int)then[]else rN w f (eT s w))++mZ s out (w+1,0) e:=by
 unfold mZ;simp only;rw[show e.1-w=(e.1-(w+1))+1 by omega]
 rfl
def Tk{s:bw}{out:List Int}{w f:Nat}{e:Nat×Nat}(h:w<e.1)(hc:out.contains (w:Int)=true):mZ s out (w,f) e=mZ s out (w+1,0) e:=by
 rw[tT h,if_pos hc,List.nil_append]
def Pv{s:bw}{out:List Int}{w f:Nat}{e:Nat×Nat}(h:w<e.1)(hf:eT s w<=f):mZ s out (w,f) e=mZ s out (w+1,0) e:=by
 rw[tT h];split
 .rfl
 .rw[LR hf];rfl
def UB{s:bw}{out:List Int}{w f:Nat}{e:Nat×Nat}(h:w<e.1/\out.contains (w:Int)=false/\f<eT s w\/w=e.1/\f<e.2):mZ s out (w,f) e=(w,f)::mZ s out (w,f+1) e:=by
 rcases h with⟨h,hc,hf⟩|⟨h,hf⟩
 .rw[tT h,tT h,hc];simp only[aek,aeA];rw[HB hf];rfl
 .obtain⟨ew,et⟩:=e;simp only at h hf;subst h;rw[FG,FG,HB hf]
def HD{s:bw}{out:List Int}{b:Nat}(hb:∀w,eT s w<=b):∀(d w f t:Nat),t<=b->(lk s out d w f t).length<=(d+1)*b
 |0,w,f,t,h=>by
  unfold lk;rw[LV];omega
 |d+1,w,f,t,h=>by
  unfold lk;rw[aeu];have h1:=HD (out:=out) hb d (w+1) 0 t h
  have h2:(if out.contains (w:Int)then[]else rN w f (eT s w)).length<=b:=by
   split
   .simp
   .rw[LV];have:=hb w;omega
  have:(d+1+1)*b=(d+1)*b+b:=ahA _ _;omega
def Hu{s:bw}{out:List Int}:∀(d w f t:Nat){g:Nat×Nat},g∈lk s out d w f t->(g.1=w+d/\g.2<t)\/(w<=g.1/\g.1<w+d/\g.2<eT s g.1)
 |0,w,f,t,g,h=>by
  have:=Kz.1 h;left;omega
 |d+1,w,f,t,g,h=>by
  unfold lk at h;rcases aeg.1 h with h|h
  .split at h
   .cases h
   .have:=Kz.1 h;right;rw[this.1];omega
  .rcases Hu d (w+1) 0 t h with h|h
   .left;omega
   .right;omega
def GO{s:bw}{out:List Int}:∀(d w f t:Nat),(d=0->f<t)->0<t->(lk s out d w f t).getLast?=some (w+d,t-1)
 |0,w,f,t,h,h'=>by
  have h:=h rfl;unfold lk
  obtain⟨t,rfl⟩:∃t',t=t'+1:=⟨t-1,zo⟩
  rw[Sv zo];simp
 |d+1,w,f,t,h,h'=>by
  unfold lk;have:=GO (s:=s) (out:=out) d (w+1) 0 t (λ_=>h') h';rw[ah0,this];show some (w+1+d,t-1)=some (w+(d+1),t-1);rw[show w+1+d=w+(d+1) by omega]
def nE(e:End):Nat×Nat:=(e.1.toNat,e.2.toNat)
def oB(es:List End):Nat->Nat×Nat
 |0=>(0,0)
 |i+1=>match es[i]? with|some e=>nE e|none=>(0,0)
def lj(s:bw)(out:List Int)(es:List End)(i:Nat):List (Nat×Nat):=match es[i]? with|some e=>mZ s out (oB es i) (nE e)|none=>[]
def mG(s:bw)(es:List End)(i:Nat):Bool:=match es[i]? with|some e=>decide (e.2<(eT s e.1.toNat:Int))|none=>false
structure Good(s:bw)(out:List Int)(es:List End):Prop where
 one:∀i (h:i<es.length),0<=es[i].1/\es[i].1<s.words.length/\out.contains es[i].1=false/\1<=es[i].2/\es[i].2<=eT s es[i].1.toNat
 acj:∀i (h:i+1<es.length),es[i].1<es[i+1].1\/es[i].1=es[i+1].1/\es[i].2<es[i+1].2
def F3{s:bw}(h:cN s=true){w:Word}(hw:w∈s.words):l6 s w=true:=by
 unfold cN u_ at h;simp only[aeb,ae_,ae9]at h;have:=h.2.1.1.2 w hw;simpa using this
structure aa2(s:bw)(w:Word):Prop where
 Cb:1<=w.cb.length
 Ck:w.cb.length<=6
 sign:∀n∈w.cb,0<=n/\n<s.bJ.length
 dq:iD w.dq 1 (w.cb.length-1)=true
def o7{s:bw}(h:cN s=true){w:Word}(hw:w∈s.words):aa2 s w:=by
 have h:=F3 h hw;unfold l6 at h;simp only[aeb,ae_,ae9,ee,aej]at h;obtain⟨⟨⟨h1,h2⟩,h3⟩,h4⟩:=h;refine⟨zo,zo,λn hn=>?_,h4⟩;have:=h3 n hn;simp[kf,ee]at this;omega
def AH{s:bw}{out:List Int}{es:List End}(hs:cN s=true)(h:nD s out es=true):Good s out es:=by
 unfold nD at h;simp only[aeb]at h;obtain⟨_,h,_⟩:=h;rw[iN]at h;obtain⟨h1,h2⟩:=h;refine⟨λi hi=>?_,λi hi=>?_⟩
 .have:=h1 _ (ad2 hi);unfold Ap ee at this;simp only[aeb,aej,ae_]at this;obtain⟨⟨⟨a1,a2⟩,a3⟩,a4⟩:=this
  have aN:es[i].1.toNat<s.words.length:=zo
  rw[ad_ aN]at a4;have hw:=o7 hs (ad2 aN);rw[lS aN];refine⟨a1,zo,a3,?_⟩;simp only[afo,aeS]at a4;rcases a4 with a4|a4
  .have:=hw.Cb;omega
  .have hc:=hw.dq;unfold iD at hc;rw[iN]at hc;have:=hc.1 _ (by simpa using a4);simp[ee]at this;omega
 .have:=h2 i hi;rw[rl]at this;exact this
def IW{s:bw}{out:List Int}{es:List End}(g:Good s out es){i:Nat}(h:i<es.length):(oB es i).1<(nE es[i]).1\/(oB es i).1=(nE es[i]).1/\(oB es i).2<(nE es[i]).2:=by
 cases i with
 |zero=>
  have:=g.one 0 h;show 0<es[0].1.toNat\/0=es[0].1.toNat/\0<es[0].2.toNat;omega
 |succ i=>
  have h1:=g.one i zo;have h2:=g.one (i+1) h;have h3:=g.acj i h
  have e:oB es (i+1)=nE es[i]:=by
   show(match es[i]? with|some e=>nE e|none=>(0,0))=_;rw[ad_ zo]
  rw[e];show es[i].1.toNat<es[i+1].1.toNat\/es[i].1.toNat=es[i+1].1.toNat/\es[i].2.toNat<es[i+1].2.toNat;omega
def tG{s:bw}{out:List Int}{es:List End}{i:Nat}(h:i<es.length):lj s out es i=mZ s out (oB es i) (nE es[i]):=by
 unfold lj;rw[ad_ h]
def D8{s:bw}{es:List End}{i:Nat}(h:i<es.length):mG s es i=decide (es[i].2<(eT s es[i].1.toNat:Int)):=by
 unfold mG;rw[ad_ h]
def PG{s:bw}{out:List Int}{es:List End}(g:Good s out es){i:Nat}(h:i<es.length):(lj s out es i).getLast?=some ((nE es[i]).1,(nE es[i]).2-1):=by
 have h1:=IW g h;have h2:=g.one i h;rw[tG h];unfold mZ
 have h3:0<(nE es[i]).2:=by show 0<es[i].2.toNat;omega
 rw[GO _ _ _ _ (λhd=>zo) h3]
 congr 2
 omega
def Nt{s:bw}{out:List Int}{es:List End}(g:Good s out es){i:Nat}(h:i<es.length):lj s out es i≠[]:=by
 intro e;have:=PG g h;rw[e]at this;cases this
def Tj{s:bw}{out:List Int}{es:List End}(g:Good s out es){i:Nat}{x:Nat×Nat}(hx:x∈lj s out es i):x.1<s.words.length/\x.2<eT s x.1:=by
 by_cases h:i<es.length
 case neg=>
  unfold lj at hx;rw[aez zo]at hx;cases hx
 have h1:=IW g h;have h2:=g.one i h;rw[tG h]at hx;have e1:(nE es[i]).1=es[i].1.toNat:=rfl;have e2:(nE es[i]).2=es[i].2.toNat:=rfl
 rcases Hu _ _ _ _ hx with⟨h3,h4⟩|⟨h3,h4,h5⟩
 .have h5:x.1=es[i].1.toNat:=zo
  rw[h5];refine⟨zo,zo⟩
 .exact⟨zo,h5⟩
def Hg{s:bw}{out:List Int}{es:List End}(hs:cN s=true)(g:Good s out es)(i:Nat):(lj s out es i).length<=24:=by
 by_cases h:i<es.length
 case neg=>
  unfold lj;rw[aez zo];simp
 have h2:=g.one i h
 have hb:∀w,eT s w<=6:=by
  intro w;unfold eT;split
  .rename_i x hx;obtain⟨aN,rfl⟩:=aey.1 hx;exact(o7 hs (ad2 aN)).Ck
  .omega
 rw[tG h];unfold mZ;have h3:=HD (s:=s) (out:=out) hb ((nE es[i]).1-(oB es i).1) (oB es i).1 (oB es i).2 (nE es[i]).2 (by have:=hb es[i].1.toNat;show es[i].2.toNat<=6;omega)
 have h4:s.words.length<=4:=by
  unfold cN ee at hs;simp only[aeb,aej]at hs;omega
 have h5:(nE es[i]).1<s.words.length:=by show es[i].1.toNat<_;omega
 have h6:((nE es[i]).1-(oB es i).1+1)*6<=4*6:=afy _ zo;omega
abbrev Lt:=Int×Int
def dk(s:bw)(g:Nat×Nat):Lt:=((g.1:Int),match s.words[g.1]? with|some w=>w.cb[g.2]?.getD 0|none=>0)
def oa(lo hi st:Int):Int:=lo+((hi-lo)*st).tdiv 10
def mI(s:bw)(a b:Lt):Int×Int:=if a.1=b.1 then match s.bK.find? λp=>p.l==a.2&&p.r==b.2 with
 |some p=>(p.lo,p.hi)
 |none=>(s.fV,s.fU)
 else(s.ir,s.iu)
def qC(s:bw)(st:Int)(a b:Lt):Int:=oa (mI s a b).1 (mI s a b).2 st
def nS(s:bw)(a:Lt):Int:=if a.2<0 then s.dc else s.bJ[a.2.toNat]?.getD 0
def kN(s:bw)(st:Int)(l:List Lt):Nat->Int
 |0=>0
 |i+1=>kN s st l i+(match l[i]?,l[i+1]? with|some a,some b=>qC s st a b|_,_=>0)
def BT{s:bw}{st:Int}{l:List Lt}{i:Nat}(h:i+1<l.length):kN s st l (i+1)=kN s st l i+qC s st (l[i]' zo) l[i+1]:=by
 show kN s st l i+(match l[i]?,l[i+1]? with|some a,some b=>qC s st a b|_,_=>0)=_;rw[ad_ zo,ad_ h]
def kS(s:bw)(l:List Lt):Nat->Int
 |0=>0
 |i+1=>kS s l i+(match l[i]? with|some a=>nS s a|none=>0)
def B6{s:bw}{l:List Lt}{i:Nat}(h:i<l.length):kS s l (i+1)=kS s l i+nS s l[i]:=by
 show kS s l i+(match l[i]? with|some a=>nS s a|none=>0)=_;rw[ad_ h]
def mu(s:bw)(st:Int)(l:List Lt)(cut:Bool):Int:=(kS s l l.length+(if cut then s.dc else 0))+(kN s st l (l.length-1)+(if cut then oa s.fV s.fU st else 0))
def oZ{lo hi st:Int}(h:lo<=hi)(h0:0<=st)(h1:st<=10):lo<=oa lo hi st/\oa lo hi st<=hi:=by
 unfold oa;have a:0<=(hi-lo)*st:=ae3 zo h0;have b:(hi-lo)*st<=(hi-lo)*10:=Int.mul_le_mul_of_nonneg_left h1 zo;rw[aeZ a];generalize(hi-lo)*st=x at a b⊢;omega
structure qN(s:bw):Prop where
 bJ:∀n∈s.bJ,1<=n/\n<=20
 TE:s.bJ.length<=6
 bK:∀p∈s.bK,0<=p.l/\0<=p.r/\0<=p.lo/\p.lo<=p.hi/\p.hi<=9
 Yr:s.bK.length<=6
 o:0<=s.fV/\s.fV<=s.fU/\s.fU<=9
 g:0<=s.ir/\s.ir<=s.iu/\s.iu<=20
 dc:1<=s.dc/\s.dc<=20
 words:1<=s.words.length/\s.words.length<=4
 wide:1<=s.wide/\s.wide<=400
 rows:1<=s.rows/\s.rows<=3
def ja{s:bw}(h:cN s=true):qN s:=by
 unfold cN u_ l4 ee at h;simp only[aeb,aej,ae_,ae9,iN]at h;obtain⟨⟨⟨⟨h1,h2⟩,h3⟩,h4,_⟩,⟨⟨⟨⟨⟨h5,h6⟩,h7⟩,h8⟩,_⟩,h9⟩,oL⟩:=h;refine⟨λn hn=>?_,zo,λp hp=>?_,h2,zo,zo,zo,zo,h9,oL⟩
 .have:=h5 n hn;simpa using this
 .have:=h4 p hp;unfold kR kf l4 ee at this;simp only[aeb,aej]at this;omega
def xO{s:bw}(h:qN s)(a b:Lt):0<=(mI s a b).1/\(mI s a b).1<=(mI s a b).2/\(mI s a b).2<=20:=by
 unfold mI;split
 .split
  .rename_i p hp;have:=h.bK p (ahx hp);simp only;omega
  .have:=h.o;simp only;omega
 .have:=h.g;simp only;omega
def Cq{s:bw}(h:qN s){st:Int}(h0:0<=st)(h1:st<=10)(a b:Lt):0<=qC s st a b/\qC s st a b<=20:=by
 have h2:=xO h a b;have h3:=oZ h2.2.1 h0 h1;unfold qC;omega
def N8(s:bw)(a:Lt):Prop:=0<=a.2/\a.2<s.bJ.length
def CD{s:bw}(h:qN s){a:Lt}(ha:N8 s a):1<=nS s a/\nS s a<=20:=by
 unfold nS;rw[if_neg (by have:=ha.1;omega)]
 have aN:a.2.toNat<s.bJ.length:=by have:=ha.1;have:=ha.2;omega
 rw[ad_ aN];exact h.bJ _ (ad2 aN)
def sH{s:bw}(h:qN s){l:List Lt}(hl:∀a∈l,N8 s a):∀{i:Nat},i<=l.length->(i:Int)<=kS s l i/\kS s l i<=20*i
 |0,_=>by simp[kS]
 |i+1,hi=>by
  rw[B6 zo];have:=sH h hl (i:=i) zo;have:=CD h (hl _ (ad2 (show i<l.length by omega)));omega
def sN{s:bw}(h:qN s){st:Int}(h0:0<=st)(h1:st<=10){l:List Lt}:∀{i:Nat},i+1<=l.length->0<=kN s st l i/\kN s st l i<=20*i
 |0,_=>by simp[kN]
 |i+1,hi=>by
  rw[BT hi];have:=sN h h0 h1 (l:=l) (i:=i) zo;have:=Cq h h0 h1 (l[i]' zo) (l[i+1]'hi);omega
def Gu{s:bw}(h:qN s){st:Int}(h0:0<=st)(h1:st<=10){l:List Lt}(hl:l≠[])(ho:∀a∈l,N8 s a)(hlen:l.length<=24)(cut:Bool):1<=mu s st l cut/\mu s st l cut<=1000:=by
 have ky:=afi.2 hl;unfold mu;have:=sN h h0 h1 (l:=l) (i:=l.length-1) zo;have:=sH h ho (i:=l.length) zo;have:=oZ h.o.2.1 h0 h1;have:=h.o;have:=h.dc
 split<;>omega
def sY(s:bw)(out:List Int)(es:List End)(st:Int)(i:Nat):Int:=mu s st ((lj s out es i).map (dk s)) (mG s es i)
def gj(s:bw)(out:List Int)(es:List End)(st:Int):List Int:=(List.range es.length).map (sY s out es st)
def mc(s:bw)(out:List Int)(es:List End)(st:Int):Bool:=decide ((es.length:Int)<=s.rows)&&(gj s out es st).all λn=>decide (n<=s.wide)
def BH(p:Int->Bool):Nat->Int
 |0=> -1
 |n+1=>if p n then n else BH p n
def BM(s:bw)(out:List Int)(es:List End):Int:=BH (mc s out es) 11
def U7{s:bw}(hs:cN s=true){g:Nat×Nat}(h:g.1<s.words.length/\g.2<eT s g.1):N8 s (dk s g):=by
 obtain⟨h1,h2⟩:=h;rw[lS h1]at h2;unfold dk N8;simp only;rw[ad_ h1];simp only;rw[ad_ h2];exact(o7 hs (ad2 h1)).sign _ (ad2 h2)
section
variable{s:bw}{out:List Int}{es:List End}
end
def XJ{now es:List End}:∀{all:List End}{m:Nat},all≠[]->all.Nodup->(es∈ch now all m↔∃t,es=now++t/\t.Sublist all/\t.getLast?=all.getLast?/\t.length<=m):=by
 have key:∀(all:List End),all.Nodup->∀(now:List End)(m:Nat),(all≠[]->(es∈ch now all m↔∃t,es=now++t/\t.Sublist all/\t.getLast?=all.getLast?/\t.length<=m))/\(all≠[]->(es∈lp now all m↔∃t,es=now++t/\t.Sublist all/\t.getLast?=all.getLast?/\t.length<=m+1)):=by
  intro all
  induction all with
  |nil=>intro _ now m;exact⟨λh=>absurd rfl h,λh=>absurd rfl h⟩
  |cons a r ih=>
   intro eK;obtain⟨JT,hnr⟩:=af0.1 eK;have ih:=ih hnr
   have Xr:∀(now:List End)(m:Nat),es∈lp now (a::r) m↔∃t,es=now++t/\t.Sublist (a::r)/\t.getLast?=(a::r).getLast?/\t.length<=m+1:=by
    intro now m;unfold lp;rw[aeg]
    by_cases hr:r=[]
    .subst hr;rw[if_pos rfl,aev]
     constructor
     .rintro(h|h)
      .exact⟨[a],h,List.Sublist.refl _,rfl,ah7⟩
      .unfold lp at h;cases h
     .rintro⟨t,h1,h2,h3,h4⟩;left
      have:t=[a]:=by
       cases h2 with
       |cons _ h=>rw[List.sublist_nil.1 h]at h3;cases h3
       |cons_cons _ h=>rw[List.sublist_nil.1 h]
      rw[h1,this]
    .rw[if_neg hr]
     have hl:(a::r).getLast?=r.getLast?:=by
      cases r with
      |nil=>exact absurd rfl hr
      |cons b r=>rfl
     have h1:(es∈(match m with|0=>[]|m+1=>lp (now++[a]) r m))↔∃t,es=now++a::t/\t.Sublist r/\t.getLast?=r.getLast?/\t.length<=m:=by
      cases m with
      |zero=>
       constructor
       .intro h;cases h
       .rintro⟨t,_,_,h3,h4⟩;have:t=[]:=afL.1 zo;subst this;exact absurd (agh.1 h3.symm) hr
      |succ m=>
       simp only;rw[(ih (now++[a]) m).2 hr];simp
     rw[hl];refine(or_congr h1 ((ih now m).2 hr)).trans ?_
     constructor
     .rintro(⟨t,a1,a2,a3,a4⟩|⟨t,a1,a2,a3,a4⟩)
      .refine⟨a::t,a1,a2.cons_cons _,?_,by simp;omega⟩
       cases t with
       |nil=>exact absurd (agh.1 a3.symm) hr
       |cons b t=>rw[<-a3];rfl
      .exact⟨t,a1,a2.cons _,a3,a4⟩
     .rintro⟨t,a1,a2,a3,a4⟩
      cases a2 with
      |cons _ h=>exact .inr ⟨t,a1,h,a3,a4⟩
      |cons_cons _ h=>
       rename_i t;left;refine⟨t,a1,h,?_,by simpa using a4⟩
       cases t with
       |nil=>
        exfalso;apply JT;exact ah1 a3.symm
       |cons b t=>rw[<-a3];rfl
   intro now m;refine⟨λ_=>?_,λ_=>Xr now m⟩;unfold ch;rw[if_neg ah7]
   cases m with
   |zero=>
    constructor
    .intro h;cases h
    .rintro⟨t,_,_,h3,h4⟩;have:t=[]:=afL.1 zo;subst this
     cases r with
     |nil=>cases h3
     |cons b r=>exact absurd (agh.1 h3.symm) ah7
   |succ m=>exact Xr now m
 intro all m h eK;exact(key all eK now m).1 h
def vP{a b c:End}(h:gP a b=true)(h':gP b c=true):gP a c=true:=by
 rw[rl]at*;omega
def kh(a:End):gP a a=false:=by
 cases h:gP a a with
 |false=>rfl
 |true=>rw[rl]at h;omega
abbrev oU(l:List End):Prop:=l.Pairwise λa b=>gP a b=true
def oU.nodup{l:List End}(h:oU l):l.Nodup:=h.imp λuT e=>by
 subst e;rw[kh]at uT;cases uT
def wy:∀{all t:List End},oU all->oU t->(∀x∈t,x∈all)->t.Sublist all
 |[],t,_,_,h=>by
  cases t with
  |nil=>exact .slnil
  |cons a t=>exact absurd (h a aen) ah7
 |a::r,[],_,_,_=>List.nil_sublist _
 |a::r,b::t,hs,ht,h=>by
  obtain⟨yf,zc⟩:=agQ.1 hs;obtain⟨ht1,ht2⟩:=agQ.1 ht;rcases aeD.1 (h b aen)with e|hb
  .subst e;refine .cons_cons _ (wy zc ht2 λx hx=>?_);rcases aeD.1 (h x (aei _ hx))with e|IH
   .subst e;have:=ht1 _ hx;rw[kh]at this;cases this
   .exact IH
  .refine .cons _ (wy zc ht λx hx=>?_);rcases aeD.1 (h x hx)with e|IH
   .subst e;exfalso;have h1:=yf b hb;rcases aeD.1 hx with e|nx
    .subst e;rw[kh]at h1;cases h1
    .have:=vP h1 (ht1 _ nx);rw[kh]at this;cases this
   .exact IH
def wv{l:List End}(h:∀j (hj:j+1<l.length),gP (l[j]' zo) l[j+1]=true):oU l:=by
 unfold oU;rw[afU];intro i j hi hj th
 obtain⟨d,rfl⟩:∃d,j=i+1+d:=⟨j-i-1,zo⟩
 clear th
 induction d with
 |zero=>exact h i hj
 |succ d ih=>exact vP (ih zo) (h (i+1+d) hj)
section
variable{s:bw}{out:List Int}{es:List End}
def Ti(ho:iP s out=true):nn s out≠[]:=by
 intro e;have:=ET ho;rw[e]at this;cases this
def B4(hs:cN s=true):∀w∈s.words,iD w.dq 1 (w.cb.length-1)=true:=λ_ hw=>(o7 hs hw).dq
def DF(s:bw)(out:List Int)(m:Nat):List (List End):=ch [] (nn s out) m
def HG(hs:cN s=true)(ho:iP s out=true){m:Nat}:es∈DF s out m↔nD s out es=true/\es.length<=m:=by
 have Zy:=xI (out:=out) (B4 hs);unfold DF;rw[XJ (Ti ho) (oU.nodup Zy)];unfold nD;rw[ho,agq,aeb,aeb,iN,ae_,aeS];have hl:=ET ho
 constructor
 .rintro⟨t,h1,h2,h3,h4⟩;rw[List.nil_append]at h1;subst h1;rw[h3,hl]
  have dR:es≠[]:=by
   rintro rfl;rw[hl]at h3;cases h3
  have eB:oU es:=Zy.sublist h2;refine⟨⟨by simpa using dR,⟨λx hx=>D7.1 (h2.subset hx),λj hj=>afU.1 eB j (j+1) _ _ zo⟩,rfl⟩,h4⟩
 .rintro⟨⟨h1,⟨h2,h3⟩,h4⟩,h5⟩
  have dR:es≠[]:=by
   rintro rfl;cases h1
  refine⟨es,rfl,wy Zy (wv h3) λx hx=>D7.2 (h2 x hx),?_,h5⟩;rw[List.getLast?_eq_some_getLast dR]at h4⊢;rw[hl];exact congrArg some h4
end
def vK:List End->List End->Bool
 |[],[]=>false
 |[],_::_=>true
 |_::_,[]=>false
 |a::x,b::y=>if a=b then vK x y else gP a b
def Sc(now x y:List End):vK (now++x) (now++y)=vK x y:=by
 induction now with
 |nil=>rfl
 |cons a now ih=>
  show(if a=a then vK (now++x) (now++y)else gP a a)=_;rw[if_pos rfl,ih]
def AA:∀l:List End,vK l l=false
 |[]=>rfl
 |a::l=>by
  unfold vK;rw[if_pos rfl];exact AA l
def qO{es:List End}:∀{all now:List End}{m:Nat},es∈lp now all m->∃b t,b∈all/\es=now++b::t
 |[],now,m,h=>by unfold lp at h;cases h
 |a::r,now,m,h=>by
  unfold lp at h;rcases aeg.1 h with h|h
  .split at h
   .exact⟨a,[],aen,aev.1 h⟩
   .split at h
    .cases h
    .obtain⟨b,t,h1,rfl⟩:=qO h;exact⟨a,b::t,aen,ah7⟩
  .obtain⟨b,t,h1,rfl⟩:=qO h;exact⟨b,t,aei _ h1,rfl⟩
def yY:∀{all now:List End}{m:Nat},oU all->(lp now all m).Pairwise λx y=>vK x y=true
 |[],now,m,_=>by unfold lp;exact .nil
 |a::r,now,m,hs=>by
  obtain⟨yf,zc⟩:=agQ.1 hs;unfold lp;rw[agE];refine⟨?_,yY zc,?_⟩
  .split
   .exact agZ _ _
   .split
    .exact .nil
    .exact yY zc
  .intro x hx y hy;obtain⟨b,t,hb,rfl⟩:=qO hy
   have IH:∃u,x=now++a::u:=by
    split at hx
    .exact⟨[],aev.1 hx⟩
    .split at hx
     .cases hx
     .obtain⟨c,u,_,rfl⟩:=qO hx;exact⟨c::u,ah7⟩
   obtain⟨u,rfl⟩:=IH;rw[Sc];unfold vK;have uT:=yf b hb;rw[if_neg,uT];rintro rfl;rw[kh]at uT;cases uT
def N7{all now:List End}{m:Nat}(hs:oU all):(ch now all m).Pairwise λx y=>vK x y=true:=by
 unfold ch;split
 .exact agZ _ _
 .split
  .exact .nil
  .exact yY hs
def KL{l:List (List End)}(h:l.Pairwise λx y=>vK x y=true):l.Nodup:=h.imp λuT e=>by
 subst e;rw[AA]at uT;cases uT
def mj(s:bw)(out:List Int):List (List End):=(DF s out s.rows.toNat).filter λes=>mc s out es 0
def yi{s:bw}{out:List Int}{es:List End}(hs:cN s=true)(ho:iP s out=true):es∈mj s out↔nD s out es=true/\mc s out es 0=true:=by
 unfold mj;rw[agt,HG hs ho]
 constructor
 .rintro⟨⟨h1,_⟩,h2⟩;exact⟨h1,h2⟩
 .rintro⟨h1,h2⟩;refine⟨⟨h1,?_⟩,h2⟩;unfold mc at h2;simp only[aeb,aej]at h2;omega
def FY{s:bw}{out:List Int}(hs:cN s=true):(mj s out).Pairwise λx y=>vK x y=true:=
 (N7 (xI (B4 hs))).sublist List.filter_sublist
section
variable{α:Type}
def lA(better:α->α->Bool)(x:α)(l:List α):α:=l.foldl (λo x=>if better x o then x else o) x
end
def DG{α:Type}[DecidableEq α]:∀{l r:List α},l.Nodup->(∀x∈l,x∈r)->l.length<=r.length
 |[],_,_,_=>ae2 _
 |a::l,r,h,hs=>by
  obtain⟨h1,h2⟩:=af0.1 h;have ha:=hs a aen;have hl:=ahH ha;have hp:=ahU ha
  have:=DG (r:=r.erase a) h2 λx hx=>(ah2 (by rintro rfl;exact h1 hx)).2 (hs x (aei _ hx))
  simp only[List.length_cons];omega
structure aay(w x:Word):Prop where
 cb:x.cb=w.cb
 free:x.free=w.free
 dq:∀c∈w.dq,c∈x.dq
structure kg(s x:bw):Prop where
 bJ:x.bJ=s.bJ
 bK:x.bK=s.bK
 fV:x.fV=s.fV
 fU:x.fU=s.fU
 ir:x.ir=s.ir
 iu:x.iu=s.iu
 dc:x.dc=s.dc
 len:x.words.length=s.words.length
 words:∀i (h:i<s.words.length),aay s.words[i] (x.words[i]' zo)
 wide:s.wide<=x.wide
 rows:s.rows<=x.rows
section
variable{s x:bw}{out:List Int}{es:List End}
def kg.eT(h:kg s x)(i:Nat):eT x i=eT s i:=by
 unfold Tryz.eT
 by_cases hi:i<s.words.length
 .rw[ad_ hi,ad_ (by rw[h.len];exact hi)];simp only;rw[(h.words i hi).cb]
 .have:=h.len;rw[aez (show s.words.length<=i by omega),aez (show x.words.length<=i by omega)]
def kg.dk(h:kg s x)(g:Nat×Nat):dk x g=dk s g:=by
 unfold Tryz.dk
 by_cases hi:g.1<s.words.length
 .rw[ad_ hi,ad_ (by rw[h.len];exact hi)];simp only;rw[(h.words g.1 hi).cb]
 .have:=h.len;rw[aez (show s.words.length<=g.1 by omega),aez (show x.words.length<=g.1 by omega)]
def CL{s x:bw}(h:∀i,Tryz.eT x i=Tryz.eT s i)(out:List Int):∀d w f t,lk x out d w f t=lk s out d w f t
 |0,_,_,_=>rfl
 |d+1,w,f,t=>by
  unfold lk;rw[h,CL h out d]
def kg.lj(h:kg s x)(i:Nat):lj x out es i=lj s out es i:=by
 unfold Tryz.lj;split
 .unfold mZ;rw[CL h.eT]
 .rfl
def kg.mG(h:kg s x)(i:Nat):mG x es i=mG s es i:=by
 unfold Tryz.mG;split
 .rw[h.eT]
 .rfl
def OK{s x:bw}(h2:x.bK=s.bK)(h3:x.fV=s.fV)(h4:x.fU=s.fU)(h5:x.ir=s.ir)(h6:x.iu=s.iu)(st:Int)(a b:Lt):qC x st a b=qC s st a b:=by
 unfold qC mI;rw[h2,h3,h4,h5,h6]
def Kd{s x:bw}(h1:x.bJ=s.bJ)(h2:x.bK=s.bK)(h3:x.fV=s.fV)(h4:x.fU=s.fU)(h5:x.ir=s.ir)(h6:x.iu=s.iu)(h7:x.dc=s.dc)(st:Int)(l:List Lt)(cut:Bool):mu x st l cut=mu s st l cut:=by
 have e1:∀i,kS x l i=kS s l i:=by
  intro i
  induction i with
  |zero=>rfl
  |succ i ih=>
   unfold kS;rw[ih]
   congr 1
   split
   .unfold nS;rw[h1,h7]
   .rfl
 have e2:∀i,kN x st l i=kN s st l i:=by
  intro i
  induction i with
  |zero=>rfl
  |succ i ih=>
   unfold kN;rw[ih]
   congr 1
   split
   .exact OK h2 h3 h4 h5 h6 st _ _
   .rfl
 unfold mu;rw[e1,e2,h3,h4,h7]
def kg.sY(h:kg s x)(st:Int)(i:Nat):sY x out es st i=sY s out es st i:=by
 unfold Tryz.sY;rw[h.lj,h.mG,Kd h.bJ h.bK h.fV h.fU h.ir h.iu h.dc]
 congr 1
 exact aeX λg _=>h.dk g
def kg.gj(h:kg s x)(st:Int):gj x out es st=gj s out es st:=by
 unfold Tryz.gj
 exact aeX λi _=>h.sY st i
def kg.mc(h:kg s x){st:Int}(hf:mc s out es st=true):mc x out es st=true:=by
 unfold Tryz.mc at hf⊢;rw[h.gj];simp only[aeb,aeh,aej]at hf⊢;have:=h.wide;have:=h.rows;exact⟨zo,λn hn=>by have:=hf.2 n hn;omega⟩
def kg.iP(h:kg s x):iP x out=iP s out:=by
 unfold Tryz.iP;rw[h.len]
 have:rW x=rW s:=by
  unfold rW
  funext n
  by_cases hi:n.toNat<s.words.length
  .rw[ad_ hi,ad_ (by rw[h.len];exact hi)];simp only;rw[(h.words _ hi).free]
  .have:=h.len;rw[aez (show s.words.length<=n.toNat by omega),aez (show x.words.length<=n.toNat by omega)]
 rw[this]
def kg.nD(h:kg s x)(hr:nD s out es=true):nD x out es=true:=by
 unfold Tryz.nD at hr⊢;rw[h.iP];simp only[aeb,iN]at hr⊢;obtain⟨h1,⟨h2,h3⟩,h4⟩:=hr;refine⟨h1,⟨λe he=>?_,h3⟩,?_⟩
 .have:=h2 e he;unfold Ap at this⊢;rw[h.len]
  by_cases hi:e.1.toNat<s.words.length
  .rw[ad_ hi]at this;rw[ad_ (by rw[h.len];exact hi)];simp only[aeb,afo]at this⊢;rw[(h.words _ hi).cb];refine⟨this.1,this.2.imp id λhc=>?_⟩;have:=(h.words _ hi).dq e.2 (by simpa using hc);simpa using this
  .rw[aez zo]at this;simp at this
 .have e1:nr x out=nr s out:=by
   unfold nr;rw[h.len]
   congr 1
   by_cases hi:(mr out s.words.length).toNat<s.words.length
   .rw[ad_ hi,ad_ (by rw[h.len];exact hi)];simp only;rw[(h.words _ hi).cb]
   .have:=h.len;rw[aez (show s.words.length<=(mr out s.words.length).toNat by omega),aez (show x.words.length<=(mr out s.words.length).toNat by omega)]
  rw[e1];exact h4
def kg.acp(h:kg s x)(hs:cN s=true)(hx:cN x=true)(ho:Tryz.iP s out=true)(hm:es∈mj s out):es∈mj x out:=by
 rw[yi hx (by rw[h.iP];exact ho)];rw[yi hs ho]at hm;exact⟨h.nD hm.1,h.mc hm.2⟩
def kg.count(h:kg s x)(hs:cN s=true)(hx:cN x=true)(ho:Tryz.iP s out=true):(mj s out).length<=(mj x out).length:=
 DG (KL (FY hs)) λ_ hm=>h.acp hs hx ho hm
end
def E4:∀{all now:List End},all≠[]->(lp now all 0).length=1
 |[],_,h=>absurd rfl h
 |a::r,now,_=>by
  unfold lp
  by_cases hr:r=[]
  .subst hr;simp[lp]
  .simp only[if_neg hr,List.nil_append];exact E4 hr
def DK:∀{all now:List End},(lp now all 1).length=all.length
 |[],_=>rfl
 |a::r,now=>by
  unfold lp
  by_cases hr:r=[]
  .subst hr;simp[lp]
  .simp only[if_neg hr,aeu,List.length_cons];rw[E4 hr,DK];omega
def L3:∀{all now:List End},all≠[]->2*(lp now all 2).length=2+all.length*(all.length-1)
 |[],_,h=>absurd rfl h
 |a::r,now,_=>by
  unfold lp
  by_cases hr:r=[]
  .subst hr;simp[lp]
  .simp only[if_neg hr,aeu,List.length_cons];rw[DK,aio,L3 hr]
   obtain⟨n,hn⟩:∃n,r.length=n+1:=⟨r.length-1,by have:=afi.2 hr;omega⟩
   rw[hn];simp only[afS]
   have e1:(n+1+1)*(n+1)=(n+1)*n+2*(n+1):=by
    rw[afK,agk (n+1) n,afK n 1];omega
   omega
def Xg{all now:List End}{m:Nat}(h:all.length<=24)(hm:m<=3):(ch now all m).length<=277:=by
 unfold ch;split
 .simp
 rename_i dR
 match m,hm with
 |0,_=>simp
 |1,_=>simp only;rw[E4 dR];omega
 |2,_=>simp only;rw[DK];omega
 |3,_=>
  simp only;have:=L3 (now:=now) dR;have:all.length*(all.length-1)<=24*23:=ahm h zo;omega
def AK{l:List Int}{lo hi:Int}(h:iD l lo hi=true)(hle:lo<=hi+1):(l.length:Int)<=hi+1-lo:=by
 have h':=h;unfold iD at h;rw[iN]at h;obtain⟨h1,h2⟩:=h
 have key:∀j (hj:j<l.length),lo+j<=l[j]:=by
  intro j
  induction j with
  |zero=>
   intro hj;have:=h1 _ (ad2 hj);simp[ee]at this;simpa using this.1
  |succ j ih=>
   intro hj;have:=ih zo;have:=h2 j hj;simp at this;omega
 by_cases h0:l.length=0
 .omega
 .have a:=key (l.length-1) zo;have b:=h1 _ (ad2 (show l.length-1<l.length by omega));simp[ee]at b;omega
def yW{s:bw}(hs:cN s=true){out:List Int}(n:Nat):(kQ s out n).length<=eT s n/\eT s n<=6:=by
 unfold kQ eT
 by_cases h:n<s.words.length
 .rw[ad_ h];have hw:=o7 hs (ad2 h);have h1:=hw.Cb;have:=AK hw.dq zo;have:=hw.Ck;split
  .simp only[List.length_nil];omega
  .simp only[aeu,aef,List.length_cons,List.length_nil];omega
 .rw[aez zo]
  split<;>simp
def EA{s:bw}(hs:cN s=true)(out:List Int):(nn s out).length<=24:=by
 unfold nn;have h4:=(ja hs).words.2
 have key:∀m:Nat,((List.range m).flatMap (kQ s out)).length<=6*m:=by
  intro m
  induction m with
  |zero=>simp
  |succ m ih=>
   rw[afs,afO,agx,aeu];have:=yW hs (out:=out) m;omega
 have:=key s.words.length;omega
def Hd{s:bw}(hs:cN s=true)(out:List Int){m:Nat}(hm:m<=3):(DF s out m).length<=277:=Xg (EA hs out) hm
def Oa{s:bw}(hs:cN s=true)(out:List Int):(mj s out).length<=277:=
 afl (ag9 _ _) (Hd hs out (by have:=(ja hs).rows;omega))
section
variable{s x:bw}{m:Nat}{z z':Nat×Nat}
end
def Lc{s:bw}{out:List Int}{e:End}:Ap s out e=true↔0<=e.1/\¬e.1∈out/\∃h:e.1.toNat<s.words.length,e.2=s.words[e.1.toNat].cb.length\/e.2∈s.words[e.1.toNat].dq:=by
 unfold Ap ee;simp only[aeb,aej,ae_,agD,agp]
 constructor
 .rintro⟨⟨⟨h1,h2⟩,h3⟩,h4⟩
  have aN:e.1.toNat<s.words.length:=zo
  rw[ad_ aN]at h4;refine⟨h1,h3,aN,?_⟩;simpa using h4
 .rintro⟨h1,h3,aN,h4⟩;refine⟨⟨⟨h1,zo⟩,h3⟩,?_⟩;rw[ad_ aN];simpa using h4
def OV{s:bw}{m:Nat}(h:s.words.length=m+1):nr s []=((m:Int),(eT s m:Int)):=by
 unfold nr
 have e:mr [] s.words.length=m:=by rw[h];unfold mr;simp
 rw[e,Int.toNat_natCast,ad_ zo,lS zo]
section
variable{s:bw}
def Bx(hs:cN s=true):iP s []=true:=by
 have:=(ja hs).words.1;unfold iP iD oD;simp;omega
end
section
variable{α:Type}{len:α->Nat}{most:α->Int}
def LB(len:α->Nat)(most:α->Int)(a b:α):Bool:=decide (len a<len b)||(len a==len b&&decide (most b<most a))
end
structure gE(s x:bw)(out:List Int)(k:Nat->Nat)(N:Nat):Prop where
 pos:0<N
 n:x.words.length=N
 lt:∀i,i<N->k i<s.words.length
 mono:∀i,i+1<N->k i<k (i+1)
 inn:∀i,i<N->out.contains (k i:Int)=false
 gap:∀i,i+1<N->∀j,k i<j->j<k (i+1)->out.contains (j:Int)=true
 first:∀j,j<k 0->out.contains (j:Int)=true
 last:∀j,k (N-1)<j->j<s.words.length->out.contains (j:Int)=true
 word:∀i,i<N->x.words[i]?=s.words[k i]?
 h1:x.bJ=s.bJ
 h2:x.bK=s.bK
 h3:x.fV=s.fV
 h4:x.fU=s.fU
 h5:x.ir=s.ir
 h6:x.iu=s.iu
 h7:x.dc=s.dc
 h8:x.wide=s.wide
 h9:x.rows=s.rows
section
variable{s x:bw}{out:List Int}{k:Nat->Nat}{N:Nat}
def gE.eT(h:gE s x out k N){i:Nat}(hi:i<N):eT x i=eT s (k i):=by
 unfold Tryz.eT;rw[h.word i hi]
def gE.Kl(h:gE s x out k N):∀d i,i+d+1<N->k i<k (i+d+1)
 |0,i,hi=>h.mono i hi
 |d+1,i,hi=>agR (h.Kl d i zo) (h.mono (i+d+1) hi)
def gE.lt_iff(h:gE s x out k N){i j:Nat}(hi:i<N)(hj:j<N):k i<k j↔i<j:=by
 constructor
 .intro hk
  by_cases th:i<j
  .exact th
  .by_cases he:i=j
   .subst he;omega
   .have:=h.Kl (i-j-1) j zo;rw[show j+(i-j-1)+1=i by omega]at this;omega
 .intro th;have:=h.Kl (j-i-1) i zo;rwa [show i+(j-i-1)+1=j by omega]at this
def gE.inj(h:gE s x out k N){i j:Nat}(hi:i<N)(hj:j<N)(he:k i=k j):i=j:=by
 have h1:=h.lt_iff hi hj;have h2:=h.lt_iff hj hi;omega
def y6{d t:Nat}:∀(m w:Nat),(∀j,w<=j->j<w+m->out.contains (j:Int)=true)->lk s out (m+d) w 0 t=lk s out d (w+m) 0 t
 |0,w,_=>by rw[aeP,Nat.add_zero]
 |m+1,w,h=>by
  rw[show m+1+d=(m+d)+1 by omega];show(if out.contains (w:Int)then[]else rN w 0 (eT s w))++lk s out (m+d) (w+1) 0 t=_;rw[h w zo zo,if_pos rfl,List.nil_append,y6 m (w+1) (λj h1 h2=>h j zo zo),show w+1+m=w+(m+1) by omega]
def sJ(k:Nat->Nat)(g:Nat×Nat):Nat×Nat:=(k g.1,g.2)
def MG(w f t:Nat):(rN w f t).map (sJ k)=rN (k w) f t:=by
 unfold rN;rw[aft];rfl
def gE.lk(h:gE s x out k N){t:Nat}:∀d w f,w+d<N->(lk x [] d w f t).map (sJ k)=lk s out (k (w+d)-k w) (k w) f t
 |0,w,f,_=>by
  rw[Nat.add_zero,ahG];exact MG w f t
 |d+1,w,f,hw=>by
  have m1:=h.mono w zo
  have m2:k (w+1)<=k (w+1+d):=by
   cases d with
   |zero=>exact aed _
   |succ d=>exact ahh (h.Kl d (w+1) zo)
  rw[show w+(d+1)=w+1+d by omega];rw[show k (w+1+d)-k w=((k (w+1)-k w-1)+(k (w+1+d)-k (w+1)))+1 by omega];show List.map (sJ k) ((if([]:List Int).contains (w:Int)then[]else rN w f (Tryz.eT x w))++Tryz.lk x [] d (w+1) 0 t)=(if out.contains (k w:Int)then[]else rN (k w) f (Tryz.eT s (k w)))++Tryz.lk s out ((k (w+1)-k w-1)+(k (w+1+d)-k (w+1))) (k w+1) 0 t;rw[if_neg ah7,h.inn w zo,if_neg ah7,aeB,MG,h.eT zo,h.lk d (w+1) 0 zo,y6 _ _ λj h1 h2=>h.gap w zo j zo zo,show k w+1+(k (w+1)-k w-1)=k (w+1) by omega]
def vF(k:Nat->Nat)(e:End):End:=((k e.1.toNat:Int),e.2)
def Wy(e:End):nE (vF k e)=sJ k (nE e):=rfl
def Bv(es:List End)(i:Nat):oB es (i+1)=match es[i]? with|some e=>nE e|none=>(0,0):=rfl
def V'(es:List End)(i:Nat):oB (es.map (vF k)) (i+1)=if i<es.length then sJ k (oB es (i+1))else(0,0):=by
 rw[Bv,Bv,aeK]
 by_cases hi:i<es.length
 .rw[ad_ hi,if_pos hi];rfl
 .rw[aez zo,if_neg hi];rfl
def Wv(N:Nat)(es:List End):Prop:=∀e∈es,0<=e.1/\e.1.toNat<N
def gE.lj(h:gE s x out k N){es:List End}(hr:Wv N es)(hs:∀j (hj:j+1<es.length),es[j].1.toNat<=es[j+1].1.toNat)(i:Nat)(hi:i<es.length):(lj x [] es i).map (sJ k)=lj s out (es.map (vF k)) i:=by
 have dV:i<(es.map (vF k)).length:=by rw[aef];exact hi
 rw[tG hi,tG dV,aep,Wy];have he:=hr _ (ad2 hi)
 cases i with
 |zero=>
  have h0:=h.lk (t:=(nE es[0]).2) (nE es[0]).1 0 0 (by rw[aeP];exact he.2);show List.map (sJ k) (Tryz.lk x [] ((nE es[0]).1-0) 0 0 (nE es[0]).2)=Tryz.lk s out (k (nE es[0]).1-0) 0 0 (nE es[0]).2;rw[Nat.sub_zero,Nat.sub_zero,h0,aeP]
  have hk:k 0<=k (nE es[0]).1:=by
   by_cases hz:(nE es[0]).1=0
   .rw[hz];exact aed _
   .exact ahh ((h.lt_iff h.pos he.2).2 (Nat.pos_of_ne_zero hz))
  have:=y6 (s:=s) (out:=out) (d:=k (nE es[0]).1-k 0) (t:=(nE es[0]).2) (k 0) 0 λj _ h2=>h.first j zo
  rw[show k 0+(k (nE es[0]).1-k 0)=k (nE es[0]).1 by omega,aeP]at this;exact this.symm
 |succ i=>
  have ha:oB es (i+1)=nE es[i]:=by rw[Bv,ad_ zo]
  have hb:=hr _ (ad2 (by omega:i<es.length));have hle:=hs i hi;rw[V',if_pos zo,ha]
  have:=h.lk (t:=(nE es[i+1]).2) ((nE es[i+1]).1-(nE es[i]).1) (nE es[i]).1 (nE es[i]).2 (by
   show es[i].1.toNat+(es[i+1].1.toNat-es[i].1.toNat)<N
   have:=he.2;omega)
  rw[show(nE es[i]).1+((nE es[i+1]).1-(nE es[i]).1)=(nE es[i+1]).1 by show es[i].1.toNat+(es[i+1].1.toNat-es[i].1.toNat)=es[i+1].1.toNat;omega]at this;exact this
def gE.mG(h:gE s x out k N){es:List End}(hr:Wv N es)(i:Nat)(hi:i<es.length):mG x es i=mG s (es.map (vF k)) i:=by
 have dV:i<(es.map (vF k)).length:=by rw[aef];exact hi
 rw[D8 hi,D8 dV,aep];show decide (es[i].2<(Tryz.eT x es[i].1.toNat:Int))=decide (es[i].2<(Tryz.eT s ((k es[i].1.toNat:Int)).toNat:Int));rw[Int.toNat_natCast,h.eT (hr _ (ad2 hi)).2]
def gE.UX(h:gE s x out k N){g:Nat×Nat}(hg:g.1<N):(dk x g).2=(dk s (sJ k g)).2:=by
 unfold dk sJ;simp only;rw[h.word _ hg]
def gE.nS(h:gE s x out k N){a b:Lt}(he:a.2=b.2):nS x a=nS s b:=by
 unfold Tryz.nS;rw[he,h.h1,h.h7]
def gE.qC(h:gE s x out k N)(st:Int){f g:Nat×Nat}(hf:f.1<N)(hg:g.1<N):qC x st (dk x f) (dk x g)=qC s st (dk s (sJ k f)) (dk s (sJ k g)):=by
 have e:mI x (dk x f) (dk x g)=mI s (dk s (sJ k f)) (dk s (sJ k g)):=by
  unfold mI;rw[h.UX hf,h.UX hg,h.h2,h.h3,h.h4,h.h5,h.h6]
  by_cases he:f.1=g.1
  .rw[if_pos (by unfold dk;simp only;omega),if_pos (by unfold dk sJ;simp only;rw[he])]
  .rw[if_neg (by unfold dk;simp only;omega),if_neg];unfold dk sJ;simp only;intro hc;exact he (h.inj hf hg zo)
 unfold Tryz.qC;rw[e]
def gE.mu(h:gE s x out k N)(st:Int){l:List (Nat×Nat)}(hl:∀g∈l,g.1<N)(cut:Bool):mu x st (l.map (dk x)) cut=mu s st ((l.map (sJ k)).map (dk s)) cut:=by
 have e1:∀i,kS x (l.map (dk x)) i=kS s ((l.map (sJ k)).map (dk s)) i:=by
  intro i
  induction i with
  |zero=>rfl
  |succ i ih=>
   unfold kS;rw[ih,aft,aeK,aeK]
   by_cases hi:i<l.length
   .rw[ad_ hi];show _+Tryz.nS x (dk x l[i])=_+Tryz.nS s (dk s (sJ k l[i]));rw[h.nS (h.UX (hl _ (ad2 hi)))]
   .rw[aez zo];rfl
 have e2:∀i,kN x st (l.map (dk x)) i=kN s st ((l.map (sJ k)).map (dk s)) i:=by
  intro i
  induction i with
  |zero=>rfl
  |succ i ih=>
   unfold kN;rw[ih,aft,aeK,aeK,aeK,aeK]
   by_cases hi:i+1<l.length
   .rw[ad_ (by omega:i<l.length),ad_ hi];show _+Tryz.qC x st (dk x l[i]) (dk x l[i+1])=_+Tryz.qC s st (dk s (sJ k l[i])) (dk s (sJ k l[i+1]));rw[h.qC st (hl _ (ad2 _)) (hl _ (ad2 hi))]
   .rw[aez (by omega:l.length<=i+1)]
    cases l[i]?<;>rfl
 unfold Tryz.mu;rw[e1,e2,h.h3,h.h4,h.h7];simp only[aef]
end
section
variable{s x:bw}{out:List Int}{k:Nat->Nat}{N:Nat}
def gE.mr(h:gE s x out k N):Tryz.mr out s.words.length=(k (N-1):Int):=by
 have hp:=h.pos;have hl:=h.lt (N-1) zo
 have:∀n,k (N-1)<n->n<=s.words.length->Tryz.mr out n=(k (N-1):Int):=by
  intro n
  induction n with
  |zero=>intro h1;omega
  |succ n ih=>
   intro h1 h2;unfold Tryz.mr
   by_cases he:n=k (N-1)
   .subst he;rw[h.inn _ zo];rfl
   .rw[h.last n zo zo,if_pos rfl];exact ih zo zo
 exact this _ hl (aed _)
def gE.Ap(h:gE s x out k N){e:End}(h0:0<=e.1)(hn:e.1.toNat<N):Tryz.Ap x [] e=true↔Tryz.Ap s out (vF k e)=true:=by
 rw[Lc,Lc];have hk:=h.lt _ hn
 have hx:e.1.toNat<x.words.length:=by rw[h.n];exact hn
 have hw:=h.word _ hn;rw[ad_ hx,ad_ hk]at hw;have hw:=aeE hw;have hi:=h.inn _ hn
 constructor
 .rintro⟨_,_,_,h3⟩;refine⟨by show(0:Int)<=(k e.1.toNat:Int);omega,?_,?_⟩
  .show¬(k e.1.toNat:Int)∈out;simpa using hi
  .refine⟨by show(k e.1.toNat:Int).toNat<_;omega,?_⟩;show e.2=((s.words[(k e.1.toNat:Int).toNat]'_).cb.length:Int)\/e.2∈(s.words[(k e.1.toNat:Int).toNat]'_).dq;simp only[Int.toNat_natCast];rw[<-hw];exact h3
 .rintro⟨_,_,_,h3⟩;refine⟨h0,ah7,hx,?_⟩;have h3:e.2=((s.words[(k e.1.toNat:Int).toNat]'(by rw[Int.toNat_natCast];exact hk)).cb.length:Int)\/e.2∈(s.words[(k e.1.toNat:Int).toNat]'(by rw[Int.toNat_natCast];exact hk)).dq:=h3;simp only[Int.toNat_natCast]at h3;rw[hw];exact h3
def gE.Q6(h:gE s x out k N){a b:End}(ha:0<=a.1/\a.1.toNat<N)(hb:0<=b.1/\b.1.toNat<N):gP a b=gP (vF k a) (vF k b):=by
 have h1:=h.lt_iff ha.2 hb.2
 have h2:k a.1.toNat=k b.1.toNat↔a.1.toNat=b.1.toNat:=⟨h.inj ha.2 hb.2,λe=>by rw[e]⟩
 unfold gP vF;rw[aeW];simp only[afo,aeb,aej,aeS];omega
def gE.nD(h:gE s x out k N)(ho:iP s out=true)(hx:iP x []=true){es:List End}(hr:Wv N es):Tryz.nD x [] es=Tryz.nD s out (es.map (vF k)):=by
 have Ox:(es.getLast?.getD (-1,0)==nr x [])=((es.map (vF k)).getLast?.getD (-1,0)==nr s out)\/es=[]:=by
  by_cases dR:es=[]
  .exact .inr dR
  refine .inl ?_
  obtain⟨e,he⟩:∃e,es.getLast?=some e:=by cases hh:es.getLast? with|none=>exact absurd (agh.1 hh) dR|some e=>exact⟨e,rfl⟩
  have hem:=ah1 he;have hee:=hr e hem;have hp:=h.pos;rw[List.getLast?_map,he]
  show(e==nr x [])=(vF k e==nr s out)
  have e1:nr x []=(((N-1:Nat):Int),(Tryz.eT x (N-1):Int)):=OV (by rw[h.n];omega)
  have e2:nr s out=((k (N-1):Int),(Tryz.eT s (k (N-1)):Int)):=by
   unfold nr;rw[h.mr,Int.toNat_natCast];unfold Tryz.eT;rw[ad_ (h.lt _ zo)]
  rw[e1,e2,h.eT zo,aeW,aeS,aeS]
  constructor
  .rintro rfl;show((k ((N-1:Nat):Int).toNat:Int),(Tryz.eT s (k (N-1)):Int))=_;rw[Int.toNat_natCast]
  .intro hh;have a1:(k e.1.toNat:Int)=(k (N-1):Int):=congrArg Prod.fst hh;have a2:e.2=(Tryz.eT s (k (N-1)):Int):=congrArg Prod.snd hh;have:=h.inj hee.2 zo (by omega:k e.1.toNat=k (N-1));exact Prod.ext (by show e.1=((N-1:Nat):Int);omega) a2
 rcases Ox with Ox|rfl
 .unfold Tryz.nD;rw[ho,hx,Ox]
  have e1:(es.map (vF k)).isEmpty=es.isEmpty:=by cases es<;>rfl
  have e2:oD (Tryz.Ap x []) gP es=oD (Tryz.Ap s out) gP (es.map (vF k)):=by
   rw[aeW,iN,iN]
   constructor
   .rintro⟨h1,h2⟩;refine⟨λe he=>?_,λj hj=>?_⟩
    .obtain⟨e',pF,rfl⟩:=aew.1 he;exact(h.Ap (hr _ pF).1 (hr _ pF).2).1 (h1 _ pF)
    .have eX:j+1<es.length:=by simpa using hj
     rw[aep,aep,<-h.Q6 (hr _ (ad2 _)) (hr _ (ad2 _))];exact h2 j eX
   .rintro⟨h1,h2⟩;refine⟨λe he=>?_,λj hj=>?_⟩
    .exact(h.Ap (hr _ he).1 (hr _ he).2).2 (h1 _ (af4 he))
    .have:=h2 j (by simpa using hj);rw[aep,aep,<-h.Q6 (hr _ (ad2 _)) (hr _ (ad2 _))]at this;exact this
  rw[e1,e2]
 .unfold Tryz.nD;simp
def gE.mc(h:gE s x out k N){es:List End}(hr:Wv N es)(hs:∀j (hj:j+1<es.length),es[j].1.toNat<=es[j+1].1.toNat)(oC:∀i,i<es.length->∀g∈Tryz.lj x [] es i,g.1<N)(st:Int):Tryz.mc x [] es st=Tryz.mc s out (es.map (vF k)) st:=by
 have e:gj x [] es st=gj s out (es.map (vF k)) st:=by
  unfold gj;rw[aef]
  refine aeX λi hi=>?_
  have hi:i<es.length:=aeI.1 hi;unfold sY;rw[h.mu st (oC i hi),h.lj hr hs i hi,h.mG hr i hi]
 unfold Tryz.mc;rw[e,aef,h.h8,h.h9]
end
def rM(l:List Int):Nat:=match l.getLast? with|some x=>x.toNat+1|none=>0
def LS{s:bw}{l:List Int}(h:iP s l=true):l.length<s.words.length:=by
 unfold iP at h;simp only[aeb,aej]at h;exact h.1.2
def qB(s:bw)(i:Nat):Bool:=!rW s (i:Int)
def F6{α β:Type}{l:List α}{f g:α->List β}(h:∀a∈l,f a=g a):l.flatMap f=l.flatMap g:=by
 rw[List.flatMap_def,List.flatMap_def,aeX h]
def xJ(s:bw):Nat->List Int->List (List Int)
 |0,now=>[now]
 |d+1,now=>(List.range' (rM now) (s.words.length-rM now)).flatMap λi:Nat=>if qB s i then xJ s d (now++[(i:Int)])else[]
def Rm{s:bw}{l:List Int}(h:iP s l=true){i:Nat}(h1:rM l<=i)(h2:i<s.words.length)(h3:l.length+1<s.words.length):iP s (l++[(i:Int)])=qB s i:=by
 unfold iP at h;simp only[aeb,aej,ae_,ae9]at h;obtain⟨⟨a1,a2⟩,a3⟩:=h;unfold iD at a1;rw[iN]at a1;obtain⟨a1,a4⟩:=a1
 have hr:iD (l++[(i:Int)]) 0 (s.words.length-1)=true:=by
  unfold iD;rw[iN]
  constructor
  .intro x hx;rcases aeg.1 hx with hx|hx
   .exact a1 x hx
   .rw[aev]at hx;subst hx;simp only[ee,aeb,aej];omega
  .intro j hj;rw[aeu,List.length_singleton]at hj
   by_cases rD:j+1<l.length
   .rw[aeV zo,aeV rD];exact a4 j rD
   .rw[aeV zo,afq zo,List.getElem_singleton]
    have hf:rM l=(l[j]' zo).toNat+1:=by
     unfold rM;rw[List.getLast?_eq_getElem?,show l.length-1=j by omega,ad_ zo]
    have:=a1 _ (ad2 (by omega:j<l.length));simp only[ee,aeb,aej]at this;simp only[aej];omega
 unfold iP qB;rw[hr,aeu,List.length_singleton,agX zo,List.any_append]
 have:l.any (rW s)=false:=by rw[ae9];exact a3
 rw[this];simp
end Go.Proofs.Tryz
namespace Go.Proofs.Tryz
open Go Go.AL Go.RowKit Go.Proofs Go.Proofs.Tram
attribute [local simp] aU bB bm aO aV aJ aK av az aW aw ao bO bP an ar ev aM.S aM.H bj aF bl AL.start AV.cells AV.storable AV.aZ aP bt bV bu HR.okB post bQ bG bH AV.out AV.aX aG aL fz cL AV.vw bT vI int a_ aq bD bq cd cj bZ bI aI AV.bC AV.dE
variable{GI:World->Prop}
def gA(g:Nat×Nat):AV:=.agg [.int .i64 g.1,.int .i64 g.2]
def cw(s:bw):List AV:=ai s++[dL s.bK]
def jf(s:bw):AV:=.agg (cw s)
def O7(l:List (Nat×Nat))(cut:Bool):AV:=JX ⟨l.map gA,cut⟩
def P8(s:bw)(g:Nat×Nat):Prop:=g.1<s.words.length/\g.2<eT s g.1
def Oi(hG:aQ GI)(s:bw){g:Nat×Nat}(h:P8 s g):AC prog GI 190 [jf s,gA g] (.ret (.int .i64 (dk s g).2)):=by
 obtain⟨h1,h2⟩:=h;rw[lS h1]at h2
 have hr:(dk s g).2=s.words[g.1].cb[g.2]:=by unfold dk;simp[ad_ h1,h2]
 rw[hr];refine dF hG func190 ntmps190 c190 ?_;refine aY (λS H=>S 2=.box 2 0/\S 3=.box 3 0/\H 2=some (cw s)/\H 3=some [.int .i64 g.1,.int .i64 g.2]) (by simp[jf,cw,gA,ai,dL]) ?_;rintro S H ⟨s2,s3,e2,e3⟩;simp[s2,s3,e2,e3,cw,ai,dL,h1,h2,dP]
def Jk(hG:aQ GI){lo hi st:Int}(h0:0<=lo)(h1:lo<=hi)(h2:hi<=20)(h3:0<=st)(h4:st<=10):AC prog GI 193 [.agg [.int .i64 lo,.int .i64 hi],.int .i64 st] (.ret (.int .i64 (oa lo hi st))):=by
 have Zm:0<=(hi-lo)*st:=ae3 zo h3;have Zs:(hi-lo)*st<=20*10:=ae6 zo h4 h3 zo;have hb:=oZ h1 h3 h4;unfold oa at hb;have w1:IntKind.i64.wrap (hi-lo)=hi-lo:=bU zo;have w2:IntKind.i64.wrap ((hi-lo)*st)=(hi-lo)*st:=bU zo;have w3:IntKind.i64.wrap (((hi-lo)*st).tdiv 10)=((hi-lo)*st).tdiv 10:=bU zo;have w4:IntKind.i64.wrap (lo+((hi-lo)*st).tdiv 10)=lo+((hi-lo)*st).tdiv 10:=bU zo;refine dF hG func193 ntmps193 c193 ?_;simp[c193,w1,w2,w3,w4,oa]
def Cd(x y:Int):∀(ps:List k_),pM [x,y] (ps.map vk) (ps.map qt)=some ((ps.find? λp=>p.l==x&&p.r==y).map qt)
 |[]=>rfl
 |p::ps=>by
  show pM [x,y] (vk p::ps.map vk) (qt p::ps.map qt)=_;unfold pM;simp only[vk,lv,Option.map_some];simp only[List.length_cons,List.length_nil,ne_eq,afM,aeA];rw[List.find?_cons]
  by_cases hp:p.l=x/\p.r=y
  .obtain⟨rfl,rfl⟩:=hp;simp
  .have h1:([x,y]==[p.l,p.r])=false:=by
    simp only[aeO,ne_eq,afY,ahE];rintro⟨rfl,rfl⟩;exact hp ⟨rfl,rfl⟩
   have h2:(p.l==x&&p.r==y)=false:=by
    rw[ag_];simp only[aeO]
    by_cases h:p.l=x
    .exact .inr λh'=>hp ⟨h,h'⟩
    .exact .inl h
   rw[h1,h2];exact Cd x y ps
def aau(hG:aQ GI)(s:bw)(hF:qN s){a b:Nat×Nat}(ha:P8 s a)(hb:P8 s b){st:Int}(h3:0<=st)(h4:st<=10):AC prog GI 192 [jf s,gA a,gA b,.int .i64 st] (.ret (.int .i64 (qC s st (dk s a) (dk s b)))):=by
 have rZ:=xO hF (dk s a) (dk s b);refine dF hG func192 ntmps192 c192 ?_;refine aY (λS H=>S 4=.box 4 0/\S 5=.box 5 0/\S 6=.box 6 0/\S 3=.int .i64 st/\H 4=some (cw s)/\H 5=some [.int .i64 a.1,.int .i64 a.2]/\H 6=some [.int .i64 b.1,.int .i64 b.2]) (by simp[jf,cw,gA,ai,dL]) ?_;rintro S H ⟨s4,s5,s6,s3,e4,e5,e6⟩
 by_cases hw:a.1=b.1
 case neg=>
  have pc:mI s (dk s a) (dk s b)=(s.ir,s.iu):=by
   unfold mI dk;rw[if_neg];simp only;omega
  have Wh:((a.1:Int)!=(b.1:Int))=true:=by simp;omega
  unfold qC;rw[pc]at rZ⊢;simp[s4,s5,s6,s3,e4,e5,e6,cw,ai,dL,Wh];refine⟨_,zk,Jk hG rZ.1 rZ.2.1 rZ.2.2 h3 h4,λ_=>rfl,?_⟩;simp
 have nv:(dk s a).1=(dk s b).1:=by unfold dk;simp only;omega
 have Wh:((a.1:Int)!=(b.1:Int))=false:=by simp;omega
 simp[s4,s5,s6,s3,e4,e5,e6,cw,ai,dL,Wh];refine oc (Oi hG s ha) ?_;simp[s4,s5,s6,s3,e4,e5,e6,cw,ai,dL,Wh];refine oc (Oi hG s hb) ?_;simp[s4,s5,s6,s3,e4,e5,e6,cw,ai,dL,Wh,FC,cD,Cd]
 cases hf:s.bK.find? λp=>p.l==(dk s a).2&&p.r==(dk s b).2 with
 |some p=>
  have pc:mI s (dk s a) (dk s b)=(p.lo,p.hi):=by unfold mI;rw[if_pos nv,hf]
  unfold qC;rw[pc]at rZ⊢;simp[s4,s5,s6,s3,e4,e5,e6,qt];refine⟨_,zk,Jk hG rZ.1 rZ.2.1 rZ.2.2 h3 h4,λ_=>rfl,?_⟩;simp
 |none=>
  have pc:mI s (dk s a) (dk s b)=(s.fV,s.fU):=by unfold mI;rw[if_pos nv,hf]
  unfold qC;rw[pc]at rZ⊢;simp[s4,s5,s6,s3,e4,e5,e6,cw,ai,dL];refine⟨_,zk,Jk hG rZ.1 rZ.2.1 rZ.2.2 h3 h4,λ_=>rfl,?_⟩;simp
def vL{l:List Int}(h:∀x∈l,0<=x/\x<=1000):0<=l.sum/\l.sum<=1000*l.length:=by
 induction l with
 |nil=>simp
 |cons a l ih=>
  have h1:=h a aen
  have h2:=ih λx hx=>h x (aei _ hx)
  simp only[List.sum_cons,List.length_cons];omega
def G'{l:List Int}{i:Nat}(h:i<l.length):(l.take (i+1)).sum=(l.take i).sum+l[i]:=by
 rw[aec h,afz];simp
def I_(hG:aQ GI)(l:List Int)(hl:l.length<100000)(h:∀x∈l,0<=x/\x<=1000):AC prog GI 191 [vI l] (.ret (.int .i64 l.sum)):=by
 refine dF hG func191 ntmps191 c191 ?_;simp[c191];refine cK 8 l.length (λi S H=>S 6=vI l/\S 7=.int .i64 l.length/\S 8=.int .i64 (i:Nat)/\S 3=.int .i64 (l.take i).sum) (λi S H h=>h.2.2.1) ⟨ah7,ah7,ah7,ah7⟩ ?_;rintro i hi S H ⟨s6,s7,s8,s3⟩
 by_cases aN:i<l.length
 .have hb:=vL (l:=l.take i) λx hx=>h x (aeL hx)
  have hx:=h l[i] (ad2 aN);rw[aes]at hb;have hw:IntKind.i64.wrap ((i:Int)+1)=i+1:=bU zo;have mg:IntKind.i64.wrap ((l.take i).sum+l[i])=(l.take i).sum+l[i]:=bU zo;rw[G' aN];generalize(l.take i).sum=y at s3 mg⊢;simp[s6,s7,s8,s3,aN,hw,mg]
 .have dV:i=l.length:=zo
  subst dV;rw[afu]at s3;simp[s6,s7,s8,s3]
def ke(l:List Int):AV:=grow 3 (l.map (AV.int .i64))
def w_(l:List Int):br 1 (l.map (AV.int .i64))=true:=iJ λa=>⟨rfl,rfl⟩
def B9(l:List Int):(ke l=.slice .nil []/\l=[])\/ke l=.slice (.own 3) (ints l):=by
 unfold ke grow
 cases l with
 |nil=>exact .inl ⟨rfl,rfl⟩
 |cons a l=>exact .inr rfl
def CI(s:bw)(l:List Lt):∀i,i<=l.length->kS s l i=((l.take i).map (nS s)).sum
 |0,_=>rfl
 |i+1,h=>by
  rw[B6 zo,CI s l i zo,aec zo,aeB,afz];simp
def kX(s:bw)(st:Int)(l:List Lt):Nat->List Int
 |0=>[]
 |i+1=>kX s st l i++(if 0<i then match l[i-1]?,l[i]? with
  |some a,some b=>[qC s st a b]
  |_,_=>[]else[])
def Ea{s:bw}{st:Int}{l:List Lt}{i:Nat}(h:i+1<l.length):kX s st l (i+2)=kX s st l (i+1)++[qC s st (l[i]' zo) l[i+1]]:=by
 show kX s st l (i+1)++_=_;rw[if_pos zo,show i+1-1=i by omega,ad_ (by omega:i<l.length),ad_ h]
def GW{s:bw}{st:Int}{l:List Lt}:∀i,i+1<=l.length->(kX s st l (i+1)).sum=kN s st l i
 |0,_=>rfl
 |i+1,h=>by
  rw[Ea zo,BT zo,afz,GW i zo];simp
def HO{s:bw}(hF:qN s){st:Int}(h0:0<=st)(h1:st<=10){l:List Lt}:∀i,∀x∈kX s st l i,0<=x/\x<=20
 |0,x,hx=>by cases hx
 |i+1,x,hx=>by
  unfold kX at hx;rw[aeg]at hx;rcases hx with hx|hx
  .exact HO hF h0 h1 i x hx
  .split at hx
   .split at hx
    .rw[aev]at hx;subst hx;exact Cq hF h0 h1 _ _
    .cases hx
   .cases hx
def Bd{s:bw}{st:Int}{l:List Lt}:∀i,(kX s st l i).length<=i
 |0=>aed _
 |i+1=>by
  have:=Bd (s:=s) (st:=st) (l:=l) i;unfold kX;rw[aeu];split
  .split<;>simp<;>omega
  .simp;omega
def Ip{s:bw}(hs:cN s=true):∀i j (hi:i<s.bK.length)(hj:j<s.bK.length),i<j->¬(s.bK[i].l=s.bK[j].l/\s.bK[i].r=s.bK[j].r):=by
 unfold cN at hs;simp only[aeb]at hs;have h:=hs.1.2;rw[iN]at h
 have hp:oU (s.bK.map λp=>(p.l,p.r)):=wv λj hj=>by
  rw[aep,aep];exact h.2 j (by simpa using hj)
 intro i j hi hj th he;have:=afU.1 hp i j (by simpa using hi) (by simpa using hj) th;rw[aep,aep,he.1,he.2,kh]at this;cases this
def Q3(hG:aQ GI)(s:bw)(hs:cN s=true):AC prog GI 139 [dj s] (.ret (jf s)):=by
 have hF:=ja hs;exact aab hG (sA:=ai s) (ps:=s.bK) rfl rfl (by simp[ai,vI,int,AV.storable,isVal]) (by have:=hF.Yr;omega) (Ip hs)
def ada(hG:aQ GI)(s:bw)(hs:ss s):AC prog GI 77 [dj s] (.ret (.int .i64 (if cN s then 0 else 2))):=by
 refine dF hG func77 ntmps77 c77 ?_;refine aY (λS H=>S 1=.box 1 0/\H 1=some (ai s)) (by simp[dj,ai]) ?_;rintro S H ⟨s1,e1⟩;simp[s1,e1,ai];refine⟨_,zk,HK hG s hs,λ_=>rfl,?_⟩
 cases gC:cN s<;>simp
def JC(s:bw)(out:List Int)(es:List End)(st:Int):(gj s out es st).length=es.length:=by unfold gj;simp
structure fC where
 lo:Int
 hi:Int
 hid:Bool
def gD(c:fC):AV:=.agg [.int .i64 c.lo,.int .i64 c.hi,.bool c.hid]
structure bf where
 cells:List fC
 pos:Int
 reach:Int
 fh:Int
 eF:Int
 name:bw
def bh(s:bf):List AV:=[.slice .view (s.cells.map gD),.int .i64 s.pos,.int .i64 s.reach,.int .i64 s.fh,.int .i64 s.eF]++ai s.name
def cH(s:bf):AV:=.agg (bh s)
def xK(hG:aQ GI)(n lo hi:Int):AC prog GI 61 [.int .i64 n,.int .i64 lo,.int .i64 hi] (.ret (.bool (ee n lo hi))):=by
 refine dF hG func61 ntmps61 c61 ?_
 by_cases h1:lo<=n<;>by_cases h2:n<=hi<;>simp[c61,ee,h1,h2]
def kK(x:fC):Bool:=!ee x.lo 1 20||!ee x.hi x.lo 20
def acA(hG:aQ GI)(x:fC):AC prog GI 75 [gD x] (.ret (.bool (kK x))):=by
 refine dF hG func75 ntmps75 c75 ?_;simp[c75,gD];refine oc (xK hG x.lo 1 20) ?_;cases h1:ee x.lo 1 20
 .simp[kK,h1]
 .simp;refine oc (xK hG x.hi x.lo 20) ?_;simp[kK,h1]
def aaM(hG:aQ GI)(x:fC):AC prog GI 115 [gD x] (.ret (.int .i64 x.lo)):=by
 refine dF hG func115 ntmps115 c115 ?_;simp[c115,gD]
def aaC(hG:aQ GI)(x:fC):AC prog GI 116 [gD x] (.ret (.int .i64 x.hi)):=by
 refine dF hG func116 ntmps116 c116 ?_;simp[c116,gD]
def aaJ (hG:aQ GI) (l:List fC) (hl:l.length < 1000000) (k:Nat) (p:fC→Bool) (hk:eU prog k=true) (h:∀ x∈l,AC prog GI k [gD x] (.ret (.bool (p x)))) :
  AC prog GI 120 [.slice .view (l.map gD),.func (.func k) [] []] (.ret (.int .i64 (firstT p l))):=by
 refine dF hG func120 ntmps120 c120 ?_;simp[c120];refine cK 8 l.length (λi S H=>S 0=.slice .view (l.map gD)/\S 1=_/\S 7=.int .i64 l.length/\S 8=.int .i64 (i:Nat)/\∀j (hj:j<l.length),j<i->p l[j]=false) (λi S H h=>h.2.2.2.1) ⟨ah7,by simp<;>rfl,ah7,ah7,ah7⟩ ?_;rintro i hi S H ⟨s0,s1,s7,s8,hb⟩
 by_cases aN:i<l.length
 .have hw:IntKind.i64.wrap ((i:Int)+1)=i+1:=bU zo;have hx:=h l[i] (ad2 aN);cases hp:p l[i]
  .simp[aep,gD,s0,s1,s7,s8,aN];refine⟨_,hk,hx,by simp[bT],?_⟩;simp[s0,s1,s7,s8,aN,hp,hw];intro j hj gL
   by_cases Ee:j=i
   .subst Ee;exact hp
   .exact hb j hj zo
  .simp[aep,gD,s0,s1,s7,s8,aN];refine⟨_,hk,hx,by simp[bT],?_⟩;simp[s0,s1,s7,s8,aN,hp,hw];exact nP aN hp hb
 .have dV:i=l.length:=zo
  subst dV;simp[s0,s1,s7,s8]
  exact lC λj hj=>hb j hj hj
def adb (hG:aQ GI) (l:List fC) (hl:l.length < 1000000) (k:Nat) (p:fC→Bool) (hk:eU prog k=true) (h:∀ x∈l,AC prog GI k [gD x] (.ret (.bool (p x)))) :
  AC prog GI 76 [.slice .view (l.map gD),.func (.func k) [] []] (.ret (.bool (l.any p))):=by
 have hF:=aaJ hG l hl k p hk h;refine dF hG func76 ntmps76 c76 ?_;simp[c76];refine⟨_,zk,hF,λ_=>rfl,?_⟩;simp;exact oq.symm
def eb(s:bf):Bool:=ee s.cells.length 1 12&&!s.cells.any kK&&ee s.pos 1 s.cells.length&&ee s.reach 1 12&&ee s.fh 1 9&&ee s.eF 0 9&&cN s.name
structure gY(s:bf):Prop where
 cells:s.cells.length<1000000
 name:ss s.name
def tf(hG:aQ GI)(s:bf)(hs:gY s):AC prog GI 32 [cH s] (.ret (.bool (eb s))):=by
 refine dF hG func32 ntmps32 c32 ?_;simp[c32,cH,bh,ai];refine oc (xK hG s.cells.length 1 12) ?_;cases e1:ee s.cells.length 1 12
 .simp[eb,e1]
 simp;refine oc (adb hG s.cells hs.cells 75 kK zk (λx _=>acA hG x)) ?_;cases e3:s.cells.any kK
 case true=>simp[eb,e1,e3]
 simp;refine oc (xK hG s.pos 1 s.cells.length) ?_;cases e4:ee s.pos 1 s.cells.length
 .simp[eb,e1,e3,e4]
 simp;refine oc (xK hG s.reach 1 12) ?_;cases e5:ee s.reach 1 12
 .simp[eb,e1,e3,e4,e5]
 simp;refine oc (xK hG s.fh 1 9) ?_;cases e6:ee s.fh 1 9
 .simp[eb,e1,e3,e4,e5,e6]
 simp;refine oc (xK hG s.eF 0 9) ?_;cases e7:ee s.eF 0 9
 .simp[eb,e1,e3,e4,e5,e6,e7]
 simp;refine oc (ada hG s.name hs.name) ?_
 cases e8:cN s.name<;>simp[eb,e1,e3,e4,e5,e6,e7,e8]
def oX(k:Nat):Value:=.func (.func k) #[] #[]
def yX(e:Nat)(c:fC):Int:=if e=0 then c.lo else c.hi
def dH(e:Nat)(s:bf):List Int:=s.cells.map (yX e)
def xe(e:Nat):Nat->Op->Op
 |2,_=>.fieldAddr 26 (.tmp 5) e
 |3,_=>.move (.func (115+e))
 |_,op=>op
def Mm(s:bf)(e i:Nat)(S:au)(H:aD):Prop:=
 S 1=.int .i64 (e:Nat)/\S 2=.box 2 0/\H 2=some (bh s)/\S 5=.box 5 0/\H 5=some [.val (oX 115),.val (oX 116)]/\S 6=grow 3 (ints ((dH e s).take i))/\S 11=.int .i64 s.cells.length/\S 12=.int .i64 (i:Nat)
noncomputable def Hi:ah:=ah.qb c60.qb.qb.qb.qa.qb.qb
def YE(e:Nat):List db:=[⟨some 15,none,.mv true (.t 6)⟩,⟨some 16,none,.mv false (.t 1)⟩,⟨some 17,none,.fieldAddr e (.t 5)⟩,⟨some 18,none,.mv false (.f (115+e))⟩,⟨some 19,none,.fieldAddr 0 (.t 2)⟩,
 ⟨some 20,none,.load (.box 2) false 1 (.t 19)⟩,⟨some 21,none,.mv false (.t 7)⟩,⟨some 22,none,.indexAddr 3 (.t 20) (.t 21)⟩,⟨some 23,none,.load .ref true 3 (.t 22)⟩,⟨some 24,none,.ig (.t 18) [.t 23]⟩,
 ⟨some 25,none,.buildSlice 23 3 1 [.t 24]⟩,⟨some 26,none,.append 23 3 1 8 (.t 15) (.t 25)⟩,⟨some 6,none,.mv true (.t 26)⟩]
def JN{Pr:Nat->Nat->Prop}{al:Nat->Option Nat}{w:World}{f1 f2:Nat}{c:Value}(h:RV Pr al w (.iH [.func (.func f1) [] [],.func (.func f2) [] []]) c):c=.agg #[oX f1,oX f2]:=by
 have one:∀{f:Nat}{c:Value},RV Pr al w (.func (.func f) [] []) c->c=oX f:=by
  intro f c h
  cases h with
  |data _ _ h=>cases h
  |func _ _ _ vs us h1 h2 r1 r2=>
   have:vs=#[]:=afI (by simpa using h1.symm);subst this;have:us=#[]:=afI (by simpa using h2.symm);subst this
   rfl
 cases h with
 |data _ _ h=>cases h
 |iH _ vs hl hr=>
  have hs:vs.size=2:=by rw[<-hl];rfl
  have e1:=one (hr 0 ah7 zo);have e2:=one (hr 1 ah7 zo)
  congr 1
  apply afH
  .simpa using hs
  .intro i h1 h2
   match i,h2 with
   |0,_=>exact e1
   |1,_=>exact e2
def Il {rest:List db} {K:au→aD→Prop} {S:au} {H:aD} {d j k:Nat} {args:List dU} {v:AV} (hj:S j = .func (.func k) [] []) (hk:eU prog k=true) (hb:(args.map (ev S)).any bT=false)
  (hAC:AC prog GI k ((args.map (ev S)).map (fz H)) (.ret v)) (h:dT prog GI rest K (aF S d v) H):dT prog GI (⟨some d,none,.ig (.t j) args⟩::rest) K S H:=by
 have e:ev S (.t j)=.func (.func k) [] []:=hj;show j8 prog GI (.ig (.t j) args) (some d) (dT prog GI rest K) S H;simp only[j8,cy,e];refine⟨by simpa using hb,.ret v,hk,by simpa using hAC,λhh=>?_,h⟩;simp only[List.nil_append,afe]at hh;rw[hb]at hh;cases hh
def MQ {K:au→aD→Prop} {S:au} {H:aD} {l:List Int} {x:Int} (zP:S 15=grow 3 (ints l)) (Rv:S 24 = .int .i64 x) (hn:l.length+1 < 1048576)
  (h:∀S',S' 6=grow 3 (ints (l++[x]))->(∀k,k∉[6,15,25,26]->S' k=S k)->K S' H):dT prog GI [⟨some 25,none,.buildSlice 23 3 1 [.t 24]⟩,⟨some 26,none,.append 23 3 1 8 (.t 15) (.t 25)⟩,⟨some 6,none,.mv true (.t 26)⟩] K S H:=by
 have hb:ar S H (.buildSlice 23 3 1 [.t 24])=some { v:=.slice (.own 3) [.int .i64 x] }:=by simp[ar,ev,Rv,br,AV.storable,AV.cells,AV.vw,AV.dE]
 show j8 prog GI (.buildSlice 23 3 1 [.t 24]) (some 25) (dT prog GI _ K) S H;simp only[j8,cy,hb];refine jG (e:=3) (ints l) (.int .i64 x) (.own 3) (by simp[aM.S,bl,aF,zP]) (by simp[aM.S,bl,aF]) rfl (rR _) (by simpa[ints]using hn) ?_;intro S' d1 d2
 have kI:ints l++[.int .i64 x]=ints (l++[x]):=by simp[ints]
 rw[kI]at d1
 have hm:∃dm,(dm=none\/dm=some 26)/\ar S' H (.mv true (.t 26))=some { v:=grow 3 (ints (l++[x])),dm:=dm }:=by
  refine⟨some 26,.inr rfl,?_⟩;simp only[ar,ev,d1]
  rfl
 obtain⟨dm,I0,hm⟩:=hm;obtain⟨k1,k2⟩:=wX (S:=S') (d:=6) I0 (grow 3 (ints (l++[x])));show j8 prog GI (.mv true (.t 26)) (some 6) (dT prog GI [] K) S' H;simp only[j8,cy,hm]
 refine h _ k1 λk hk=>?_
 simp only[aeD,ae1,agF,not_or]at hk;rw[k2 k hk.1 hk.2.2.2,d2 k hk.2.2.2 hk.2.1];simp[aM.S,bl,aF,hk.2.2.1]
structure Wz(e b2 b5:Nat)(l:Array Bool)(a:Act)(w:World):Prop where
 size:a.tmps.size=29
 t1:a.tmps.getD 1 undef=.int .i64 (e:Nat)
 t2:a.tmps.getD 2 undef=.pointer (some ⟨b2,0,none⟩)
 t5:a.tmps.getD 5 undef=.pointer (some ⟨b5,0,none⟩)
 t16:l.getD 1 false=true->a.tmps.getD 16 undef=.int .i64 (e:Nat)
 t17:l.getD 2 false=true->a.tmps.getD 17 undef=.pointer (some ⟨b5,e,none⟩)
 heap:∃ty,w.heap[b5]?=some (.cells #[oX 115,oX 116] ty (0,0))
 c9:l.getD 9 false=true->l.getD 3 false=true
 c10:l.getD 10 false=true->l.getD 9 false=true
 c11:l.getD 11 false=true->l.getD 10 false=true
 c3:l.getD 3 false=true->l.getD 2 false=true
def J39(e b2 b5:Nat)(l:Array Bool)(a:Act)(w:World):Prop:=(l.getD 2 false=true/\l.getD 3 false=true)\/Wz e b2 b5 l a w
def rL{l:Array Bool}{i:Nat}(h:i<l.size):(l.setIfInBounds i true).getD i false=true:=by
 simp[aex,h]
def fI{l:Array Bool}{i j:Nat}(h:i≠j):(l.setIfInBounds i true).getD j false=l.getD j false:=by
 simp[aex,aem h]
def Wz.put {e b2 b5:Nat} {l:Array Bool} {a:Act} {w:World} (h:Wz e b2 b5 l a w) (i t:Nat) (v:Value) (ht:t≠1∧t≠2∧t≠5) (hl:l.size=13) (hi:i < 9) (h3:i≠3) (h1:i=1→t=16∧v = .int .i64 (e:Nat)) (h2:i=2→t=17∧v = .pointer (some ⟨b5,e,none⟩)) (ho:i≠1→t≠16) (SD:i≠2→t≠17) (WE:t < 29) :
  Wz e b2 b5 (l.setIfInBounds i true) (a.put (some t) v) w:=by
 have f_:∀k,k≠t->(a.put (some t) v).tmps.getD k undef=a.tmps.getD k undef:=λk hk=>by
  simp[Act.put,aem (ae0 hk)]
 have jj:(a.put (some t) v).tmps.getD t undef=v:=by simp[Act.put,h.size,WE]
 refine⟨by simp[Act.put,h.size],by rw[f_ 1 (ae0 ht.1)];exact h.t1,by rw[f_ 2 (ae0 ht.2.1)];exact h.t2,by rw[f_ 5 (ae0 ht.2.2)];exact h.t5,?_,?_,h.heap,?_,?_,?_,?_⟩
 .by_cases Qg:i=1
  .obtain⟨rfl,rfl⟩:=h1 Qg
   exact λ_=>jj
  .rw[fI Qg,f_ 16 (ae0 (ho Qg))];exact h.t16
 .by_cases xy:i=2
  .obtain⟨rfl,rfl⟩:=h2 xy
   exact λ_=>jj
  .rw[fI xy,f_ 17 (ae0 (SD xy))];exact h.t17
 .rw[fI zo,fI h3];exact h.c9
 .rw[fI zo,fI zo];exact h.c10
 .rw[fI zo,fI zo];exact h.c11
 .rw[fI h3]
  by_cases xy:i=2
  .subst xy;exact λ_=>rL zo
  .rw[fI xy];exact h.c3
def acm(hG:aQ GI)(e:Nat)(he:e=0\/e=1)(x:fC):AC prog GI (115+e) [gD x] (.ret (.int .i64 (yX e x))):=by
 rcases he with rfl|rfl
 .exact aaM hG x
 .exact aaC hG x
noncomputable def QP:Code:=f60.body.getD .skip
def WX:Code->Code
 |.seq _ y=>y
 |c=>c
def X4 (hG:aQ GI) (s:bf) (hs:s.cells.length < 1000) (e:Nat) (he:e=0∨e=1) (cc:Nat→Nat→Prop) (w:World) {Q:fG}
  (FL:∀S H,S 6=grow 3 (ints (dH e s))->SW prog GI 29 none (WX (WX (WX (WX QP)))) Q (Old.plain cc w) S H):SW prog GI 29 none QP Q (Old.plain cc w) (AL.start [cH s,.int .i64 (e:Nat)]) (λ_=>none):=by
 show SW prog GI 29 none (.seq _ (.seq _ (.seq _ (.seq _ _)))) _ _ _ _;refine eR hG c60.qa (λS' H'=>S' 1=.int .i64 (e:Nat)/\S' 2=.box 2 0/\H' 2=some (bh s)) ?_ ?_
 .simp[c60,ah.qa,cH,bh,ai]
 rintro S1 H1 ⟨s1,s2,h2⟩
 refine SW.seq (SW.hand hG (p:=1) (lm:=[1,2]) (l2:=[]) (lh:=[_]) (oh:=[_,_]) (oA:=[]) rfl rfl rfl rfl zk (λ_ h=>h)
  (po:=(c60.qb.qa.dl).take 1) (ox:=[]) zk rfl zk rfl
  (K1:=λS H=>S 1=.int .i64 (e:Nat)/\S 2=.box 2 0/\H 2=some (bh s)/\S 8=.iH [.func (.func 115) [] [],.func (.func 116) [] []])
  (K2:=λo S H=>o=Old.plain cc w/\S 1=.int .i64 (e:Nat)/\S 2=.box 2 0/\H 2=some (bh s)/\S 5=.box 5 0/\H 5=some [.val (oX 115),.val (oX 116)])
  (K3:=λo S H=>o=Old.plain cc w/\S 1=.int .i64 (e:Nat)/\S 2=.box 2 0/\H 2=some (bh s)/\S 5=.box 5 0/\H 5=some [.val (oX 115),.val (oX 116)]) ?_ ?_ ?_ ?_)
 .simp[c60,ah.qa,ah.qb,ah.dl,s1,s2,h2,CX]
 .rintro w0 g S2 H2 a w' m dI ho R ⟨s1,s2,h2,s8⟩;have cM:=R.size
  have e8:a.tmps.getD 8 undef=.agg #[oX 115,oX 116]:=by
   have:=R.slot 8 zd id;rw[s8]at this;exact JN this
  have f_:∀(a:Act)(d t:Nat)(c:Value),t≠d->(a.put (some d) c).tmps.getD t undef=a.tmps.getD t undef:=λa d t c h=>by
   simp[Act.put,aem (ae0 h)]
  have jj:∀(a:Act)(d:Nat)(c:Value),a.tmps.size=29->d<29->(a.put (some d) c).tmps.getD d undef=c:=λa d c h hd=>by
   simp[Act.put,h,hd]
  obtain⟨it,hi,hz⟩:=af3.1 (show(prog.info? 172).bind (·.zero)=some (.agg #[.nilFunc,.nilFunc]) by kernel_rfl)
  have his:it.size=2:=by
   have:(prog.info? 172).map (·.size)=some 2:=zk
   rw[hi]at this;exact aeE this
  refine cI rfl rfl zr (Mj (t:=172) rfl hi hz) ?_
  obtain⟨g4,q1,q2,q3,q4,q5,R4⟩:=R.Xy 5 zd (by rw[ho];exact λh=>h) [.val .nilFunc,.val .nilFunc] #[.nilFunc,.nilFunc] 172 ⟨rfl,λj h h'=>by
   match j,h with
   |0,_|1,_=>exact .val _ rfl,λj h=>by
   match j,h with
   |0,_|1,_=>rfl⟩ (λg' j h h'=>by
   match j,h with
   |0,_|1,_=>exact⟨trivial,trivial⟩)
  obtain⟨b,hb⟩:∃b,w'.heap.size=b:=⟨_,rfl⟩
  obtain⟨w4,oz⟩:∃w4,w'.alloc (.cells #[.nilFunc,.nilFunc] 172)=w4:=⟨_,rfl⟩
  have YA:w4.heap[b]?=some (.cells #[.nilFunc,.nilFunc] 172 (0,0)):=by rw[<-oz,<-hb];exact ae8 w' _
  rw[hb]at R4 q5
  obtain⟨a4,nf⟩:∃a4,a.put (some 5) (.pointer (some ⟨b,0,none⟩))=a4:=⟨_,rfl⟩
  show wpOpsIn _ _ _ _ _ [2] (a.put (some 5) (.pointer (some ⟨w'.heap.size,0,none⟩))) (w'.alloc (.cells #[.nilFunc,.nilFunc] 172));rw[hb,oz,nf];rw[oz,nf]at R4
  have g8:a4.tmps.getD 8 undef=.agg #[oX 115,oX 116]:=by rw[<-nf,f_ _ _ _ _ zd];exact e8
  have g5:a4.tmps.getD 5 undef=.pointer (some ⟨b,0,none⟩):=by rw[<-nf];exact jj _ _ _ cM zd
  refine fD rfl rfl zr (GB (t:=172) (x:=.tmp 5) (y:=.tmp 8) rfl g5 hi YA g8 (by rw[his];rfl) (by rw[his];rfl) (by intro u hu;simp[Value.cells]at hu;rcases hu with rfl|rfl<;>rfl)) ?_;show HQ prog w0 29 _ .normal a4 (w4.setRow b #[oX 115,oX 116])
  have R5:=R4.Jz 5 b q5 _ #[oX 115,oX 116] 172 YA [.val (oX 115),.val (oX 116)] rfl (λj h h'=>by
   match j,h with
   |0,_|1,_=>exact .val _ rfl) (λj h h'=>by
   match j,h with
   |0,_|1,_=>trivial) (λj h=>by
   match j,h with
   |0,_|1,_=>rfl)
  exact⟨g4,_,_,R5,by rw[q2,ho],by simp[aF,s1,bt],by simp[aF,s2,bt],by simp[aF,h2],by simp[aF],by simp[aF]⟩
 .rintro o S2 H2 h;exact⟨λd hd=>by rw[h.1]at hd;exact hd,h⟩
 rintro o S2 H2 ⟨rfl,s1,s2,h2,s5,h5⟩;show SW prog GI 29 none (.seq _ (.seq (.seq _ (.block 0 (.loop _))) (.seq _ .ret))) _ _ _ _;refine eR hG c60.qb.qb.qa (λS H=>S 1=.int .i64 (e:Nat)/\S 2=.box 2 0/\H 2=some (bh s)/\S 5=.box 5 0/\H 5=some [.val (oX 115),.val (oX 116)]/\S 6=.slice .nil []) ?_ ?_
 .simp[c60,ah.qa,ah.qb,s1,s2,h2,s5,h5,grow]
 clear s1 s2 h2 s5 h5 S2 H2;rintro S2 H2 ⟨s1,s2,h2,s5,h5,s6⟩;refine SW.seq (eR hG c60.qb.qb.qb.qa.qa (Mm s e 0) ?_ ?_)
 .simp[c60,ah.qa,ah.qb,bh,ai,s1,s2,h2,s5,h5,s6,Mm,grow];exact⟨rfl,rfl⟩
 clear s1 s2 h2 s5 h5 s6 S2 H2;intro S3 H3 hF;refine SW.block (SW.loop (λo S' H'=>∃i,o=Old.plain cc w/\i<=s.cells.length/\Mm s e i S' H') (λS' _=>match S' 12 with|.int _ j=>s.cells.length-j.toNat|_=>0) ⟨0,rfl,ae2 _,hF⟩ ?_);rintro o S4 H4 ⟨i,rfl,hi,hF⟩;have m12:S4 12=.int .i64 (i:Nat):=hF.2.2.2.2.2.2.2;show SW prog GI 29 none (.seq _ (.seq (.cond _ _ _) (.seq (.block 1 (.seq _ _)) _))) _ _ _ _;refine eR hG Hi.qa (λS' H'=>S' 13=.bool (decide (i<s.cells.length))/\Mm s e i S' H') ?_ ?_
 .obtain⟨s1,s2,h2,s5,h5,s6,cG,dN⟩:=hF;simp[c60,Hi,ah.qa,ah.qb,Mm,s1,s2,h2,s5,h5,s6,cG,dN]
 rintro S5 H5 ⟨dY,hF⟩
 by_cases aN:i<s.cells.length
 case neg=>
  have dV:i=s.cells.length:=zo
  refine SW.seq (SW.cond rfl false (by show S5 13=_;rw[dY];simp[aN]) (SW.exit ?_));subst dV;obtain⟨s1,s2,h2,s5,h5,s6,cG,dN⟩:=hF;have el:(dH e s).take s.cells.length=dH e s:=aee (by simp[dH]);rw[el]at s6;exact FL S5 H5 s6
 case pos=>
  refine SW.seq (SW.cond rfl true (by show S5 13=_;rw[dY];simp[aN]) (SW.skip ?_));show SW prog GI 29 none (.seq (.block 1 (.seq _ _)) _) _ _ _ _;refine SW.seq (SW.block (eR hG Hi.qb.qb.qa.qb.qa (λS' H'=>S' 7=.int .i64 (i:Nat)/\Mm s e i S' H') ?_ ?_))
  .obtain⟨s1,s2,h2,s5,h5,s6,cG,dN⟩:=hF;simp[c60,Hi,ah.qa,ah.qb,Mm,s1,s2,h2,s5,h5,s6,cG,dN]
  clear dY hF;rintro S6 H6 ⟨s7,hF⟩;have hx:=acm hG e he s.cells[i]
  have Rz:(dH e s).take (i+1)=(dH e s).take i++[yX e s.cells[i]]:=by
   rw[agY,ad_ (by simpa[dH]using aN)];simp[dH]
  refine SW.mono (Q:=λx o S H=>x=.normal/\o=Old.plain cc w/\S 1=.int .i64 (e:Nat)/\S 2=.box 2 0/\H 2=some (bh s)/\S 5=.box 5 0/\H 5=some [.val (oX 115),.val (oX 116)]/\S 6=grow 3 (ints ((dH e s).take (i+1)))/\S 11=.int .i64 s.cells.length/\S 12=.int .i64 (i:Nat)) ?_ (SW.Zp hG d_ (ops':=Ae (xe e) _) (Je _ zk) ?_ ?_ (l:=YE e) ?_ ?_ ?_)
  .rintro x o S7 H7 ⟨rfl,rfl,s1,s2,h2,s5,h5,s6,cG,dN⟩;show SW prog GI 29 none _ _ _ _ _;have hw:IntKind.i64.wrap ((i:Int)+1)=i+1:=bU zo;refine SW.gO hG d_ zk (λ_ _ h=>h) (ac:=ah.qb Hi.qb.qb) zk ?_
   have m12:S4 12=.int .i64 (i:Nat):=by assumption
   simp[c60,Hi,ah.qa,ah.qb,Mm,thenS,fG.cW,s1,s2,h2,s5,h5,s6,cG,dN,hw];refine⟨⟨i+1,zo,rfl,ah7⟩,?_⟩;rw[m12];simp;omega
  .rcases he with rfl|rfl<;>kernel_rfl
  .rcases he with rfl|rfl<;>kernel_rfl
  .rcases he with rfl|rfl<;>kernel_rfl
  .intro w0 g a w' sL R;obtain⟨s1,s2,h2,s5,h5,s6,cG,dN⟩:=hF;obtain⟨b2,ox,e2⟩:=n_ R zd s2;obtain⟨b5,Z2,e5⟩:=n_ R zd s5;obtain⟨cs,vs,ty5,k0,k1,k2,k3,k4,k5,k6,k7,k8⟩:=R.box 5 b5 Z2;rw[h5]at k0;cases k0
   have fM:vs.size=2:=by rw[<-k5];rfl
   have uf:vs=#[oX 115,oX 116]:=by
    have c0:=k6 0 ah7 zo;have c1:=k6 1 ah7 zo;simp only[List.getElem_cons_zero,List.getElem_cons_succ]at c0 c1;apply afH
    .simpa using fM
    .intro j h1 h2
     match j,h2 with
     |0,_=>exact(RV.data (al:=dW) _ _ c0).jT
     |1,_=>exact(RV.data (al:=dW) _ _ c1).jT
   subst uf;refine⟨J39 e b2 b5,.inr ⟨R.size,wT R zd s1,e2,e5,ah7,ah7,⟨ty5,k2⟩,ah7,ah7,ah7,ah7⟩,?_⟩;intro i o o' l a w kz qI hl gp hJ eu;have hl:l.size=13:=hl;rw[CQ,kz]at qI;simp only[Option.map_some,aeJ]at qI
   have flip:∀j,j<13->l.getD j true=l.getD j false:=λj hj=>by simp[aex,hl,hj]
   have mono:∀j,l.getD j false=true->(l.setIfInBounds i true).getD j false=true:=λj hj=>by
    by_cases th:i=j
    .subst th;exact rL (by
      rw[hl]
      exact(aea.1 kz).1)
    .rw[fI th];exact hj
   rcases hJ with⟨h2,h3⟩|hI
   .have n2:i≠2:=by rintro rfl;rw[flip 2 zo,h2]at gp;cases gp
    have n3:i≠3:=by rintro rfl;rw[flip 3 zo,h3]at gp;cases gp
    refine⟨?_,.inl λa' w'=>.inl ⟨mono 2 h2,mono 3 h3⟩⟩;subst qI
    have:xe e i o.op=o.op:=by unfold xe;split<;>first|omega|rfl
    rw[this]
   .have oB:∀ j,(o.after.any fun ed=>Region.binds .any ed && ed.on==j)=true→l.getD j false=true:=fun j hj=>by
     obtain⟨ed,he1,IM⟩:=agM.1 hj;simp only[aeb,aeS]at IM;have:=eu ed he1 IM.1;rwa [IM.2]at this
    have done:l.getD 3 false=true->J39 e b2 b5 (l.setIfInBounds i true)=λ_ _=>True:=λh3=>by
     funext a' w'
     exact eq_true (.inl ⟨mono 2 (hI.c3 h3),mono 3 h3⟩)
    match i,kz with
    |0,kz=>
     have e0:=aeE (kz.symm.trans (rfl:_=some _));subst qI
     have eg:o.op=.move (.tmp 6):=by rw[e0];rfl
     have hd:o.dst=some 15:=by rw[e0];rfl
     refine⟨rfl,.inr λx w' hr=>?_⟩;have jV:(execOp a.eval o).run prog w=.ok x w':=hr;obtain⟨rfl,v,rfl⟩:=sn (by rw[eg]) jV;rw[hd];exact⟨v,rfl,.inr (hI.put 0 15 v zd hl zd zd (λh=>absurd h zd) (λh=>absurd h zd) zd zd zd)⟩
    |1,kz=>
     have e0:=aeE (kz.symm.trans (rfl:_=some _));subst qI
     have eg:o.op=.move (.tmp 1):=by rw[e0];rfl
     have hd:o.dst=some 16:=by rw[e0];rfl
     refine⟨rfl,.inr λx w' hr=>?_⟩;have jV:(execOp a.eval o).run prog w=.ok x w':=hr;have Lp:a.eval (.tmp 1)=.int .i64 (e:Nat):=hI.t1;rw[run_move (x:=.tmp 1) w eg,Lp]at jV;cases jV;rw[hd];exact⟨_,rfl,.inr (hI.put 1 16 _ zd hl zd zd (λ_=>⟨rfl,rfl⟩) (λh=>absurd h zd) zd zd zd)⟩
    |2,kz=>
     have e0:=aeE (kz.symm.trans (rfl:_=some _));subst qI
     have eg:o.op=.indexAddr 172 (.tmp 5) (.tmp 16):=by rw[e0];rfl
     have hd:o.dst=some 17:=by rw[e0];rfl
     have xz:a.eval (.tmp 16)=.int .i64 (e:Nat):=hI.t16 (oB 1 (by rw[e0];kernel_rfl));have h5':a.eval (.tmp 5)=.pointer (some ⟨b5,0,none⟩):=hI.t5
     have IM:e<2:=zo
     have abx:prog.underlying 172=some (.array 2 169):=zk
     obtain⟨i176,aaL,aaG⟩:=iZ 169 1
     have r1:(execOp a.eval o).run prog w=.ok (.value (.pointer (some ⟨b5,e,none⟩))) w:=by
      have:=Dh (P:=prog) (w:=w) (o:=o) eg abx aaL h5' xz IM;rw[aaG,afW,aeP]at this;exact this
     have r2:(execOp a.eval { o with op:=xe e 2 o.op }).run prog w=.ok (.value (.pointer (some ⟨b5,e,none⟩))) w:=by
      have hc:Du prog 26 e=some (e,1):=by rcases he with rfl|rfl<;>kernel_rfl
      have:=uY (P:=prog) (w:=w) (a:=a) (o:={ o with op:=xe e 2 o.op }) hc zd rfl h5';rw[aeP]at this;exact this
     refine⟨r1.trans r2.symm,.inr λx w' hr=>?_⟩;have jV:(execOp a.eval o).run prog w=.ok x w':=hr;rw[r1]at jV;cases jV;rw[hd];exact⟨_,rfl,.inr (hI.put 2 17 _ zd hl zd zd (λh=>absurd h zd) (λ_=>⟨rfl,rfl⟩) zd zd zd)⟩
    |3,kz=>
     have e0:=aeE (kz.symm.trans (rfl:_=some _));subst qI
     have eg:o.op=.load 169 (.tmp 17):=by rw[e0];rfl
     have hd:o.dst=some 18:=by rw[e0];rfl
     have tq:l.getD 2 false=true:=oB 2 (by rw[e0];kernel_rfl);have h17:a.eval (.tmp 17)=.pointer (some ⟨b5,e,none⟩):=hI.t17 tq;obtain⟨ty,HU⟩:=hI.heap;obtain⟨d,yu,eK⟩:=vZ 169
     have r1:(execOp a.eval o).run prog w=.ok (.value (oX (115+e))) w:=
      CN (P:=prog) (o:=o) eg h17 yu eK HU (by rcases he with rfl|rfl<;>rfl)
     have r2:(execOp a.eval { o with op:=xe e 3 o.op }).run prog w=.ok (.value (oX (115+e))) w:=
      run_move (x:=.func (115+e)) w rfl
     refine⟨r1.trans r2.symm,.inl λa' w'=>.inl ⟨mono 2 tq,?_⟩⟩;exact rL zo
    |4,kz=>
     have e0:=aeE (kz.symm.trans (rfl:_=some _));subst qI
     have eg:o.op=.fieldAddr 31 (.tmp 2) 0:=by rw[e0];rfl
     have hd:o.dst=some 19:=by rw[e0];rfl
     have C2:a.eval (.tmp 2)=.pointer (some ⟨b2,0,none⟩):=hI.t2;have r1:(execOp a.eval o).run prog w=.ok (.value (.pointer (some ⟨b2,0+0,none⟩))) w:=uY (P:=prog) (w:=w) (a:=a) (o:=o) (show Du prog 31 0=some (0,1) by kernel_rfl) zd eg C2;refine⟨rfl,.inr λx w' hr=>?_⟩;have jV:(execOp a.eval o).run prog w=.ok x w':=hr;rw[r1]at jV;cases jV;rw[hd];exact⟨_,rfl,.inr (hI.put 4 19 _ zd hl zd zd (λh=>absurd h zd) (λh=>absurd h zd) zd zd zd)⟩
    |5,kz=>
     have e0:=aeE (kz.symm.trans (rfl:_=some _));subst qI
     have eg:o.op=.load 22 (.tmp 19):=by rw[e0];rfl
     have hd:o.dst=some 20:=by rw[e0];rfl
     refine⟨rfl,.inr λx w' hr=>?_⟩;have jV:(execOp a.eval o).run prog w=.ok x w':=hr;obtain⟨rfl,v,rfl⟩:=sn (by rw[eg]) jV;rw[hd];exact⟨v,rfl,.inr (hI.put 5 20 v zd hl zd zd (λh=>absurd h zd) (λh=>absurd h zd) zd zd zd)⟩
    |6,kz=>
     have e0:=aeE (kz.symm.trans (rfl:_=some _));subst qI
     have eg:o.op=.move (.tmp 7):=by rw[e0];rfl
     have hd:o.dst=some 21:=by rw[e0];rfl
     refine⟨rfl,.inr λx w' hr=>?_⟩;have jV:(execOp a.eval o).run prog w=.ok x w':=hr;obtain⟨rfl,v,rfl⟩:=sn (by rw[eg]) jV;rw[hd];exact⟨v,rfl,.inr (hI.put 6 21 v zd hl zd zd (λh=>absurd h zd) (λh=>absurd h zd) zd zd zd)⟩
    |7,kz=>
     have e0:=aeE (kz.symm.trans (rfl:_=some _));subst qI
     have eg:o.op=.indexAddr 22 (.tmp 20) (.tmp 21):=by rw[e0];rfl
     have hd:o.dst=some 22:=by rw[e0];rfl
     refine⟨rfl,.inr λx w' hr=>?_⟩;have jV:(execOp a.eval o).run prog w=.ok x w':=hr;obtain⟨rfl,v,rfl⟩:=sn (by rw[eg]) jV;rw[hd];exact⟨v,rfl,.inr (hI.put 7 22 v zd hl zd zd (λh=>absurd h zd) (λh=>absurd h zd) zd zd zd)⟩
    |8,kz=>
     have e0:=aeE (kz.symm.trans (rfl:_=some _));subst qI
     have eg:o.op=.load 67 (.tmp 22):=by rw[e0];rfl
     have hd:o.dst=some 23:=by rw[e0];rfl
     refine⟨rfl,.inr λx w' hr=>?_⟩;have jV:(execOp a.eval o).run prog w=.ok x w':=hr;obtain⟨rfl,v,rfl⟩:=sn (by rw[eg]) jV;rw[hd];exact⟨v,rfl,.inr (hI.put 8 23 v zd hl zd zd (λh=>absurd h zd) (λh=>absurd h zd) zd zd zd)⟩
    |9,kz=>
     have e0:=aeE (kz.symm.trans (rfl:_=some _));subst qI;exact⟨rfl,.inl λa' w'=>by rw[done (oB 3 (by rw[e0];kernel_rfl))];trivial⟩
    |10,kz=>
     have e0:=aeE (kz.symm.trans (rfl:_=some _));subst qI;exact⟨rfl,.inl λa' w'=>by rw[done (hI.c9 (oB 9 (by rw[e0];kernel_rfl)))];trivial⟩
    |11,kz=>
     have e0:=aeE (kz.symm.trans (rfl:_=some _));subst qI;exact⟨rfl,.inl λa' w'=>by rw[done (hI.c9 (hI.c10 (oB 10 (by rw[e0];kernel_rfl))))];trivial⟩
    |12,kz=>
     have e0:=aeE (kz.symm.trans (rfl:_=some _));subst qI;exact⟨rfl,.inl λa' w'=>by rw[done (hI.c9 (hI.c10 (hI.c11 (oB 11 (by rw[e0];kernel_rfl)))))];trivial⟩
    |k+13,kz=>exact absurd kz ah7
  .obtain⟨s1,s2,h2,s5,h5,s6,cG,dN⟩:=hF;simp only[YE];simp[s1,s2,h2,s5,h5,s7,cG,dN,bh,ai,aN,gD];refine Il (k:=115+e) (v:=.int .i64 (yX e s.cells[i])) (by simp[aF]) (by rcases he with rfl|rfl<;>kernel_rfl) (by simp[ev,aF,bT]) (by simpa[ev,aF,fz,cL,gD,AV.vw,AV.dE]using hx) ?_;refine MQ (l:=(dH e s).take i) (x:=yX e s.cells[i]) (by simp only[b_ _ _ (show(15:Nat)≠24 by decide),b_ _ _ (show(15:Nat)≠23 by decide),b_ _ _ (show(15:Nat)≠22 by decide),b_ _ _ (show(15:Nat)≠21 by decide),b_ _ _ (show(15:Nat)≠20 by decide),b_ _ _ (show(15:Nat)≠19 by decide),b_ _ _ (show(15:Nat)≠18 by decide),b_ _ _ (show(15:Nat)≠17 by decide),b_ _ _ (show(15:Nat)≠16 by decide),bX];exact s6) (bX _ _ _) (by simp;omega) ?_;intro S' d1 d2;rw[Rz];refine⟨?_,?_,?_,?_,h5,d1,?_,?_⟩
   .rw[d2 1 zd];simp[aF,s1]
   .rw[d2 2 zd];simp[aF,s2]
   .rw[h2];rfl
   .rw[d2 5 zd];simp[aF,s5]
   .rw[d2 11 zd];simp[aF,cG]
   .rw[d2 12 zd];simp[aF,dN]
def KJ(hG:aQ GI)(s:bf)(hs:s.cells.length<1000)(e:Nat)(he:e=0\/e=1):AC prog GI 60 [cH s,.int .i64 (e:Nat)] (.ret (vI (dH e s))):=by
 refine AC.nB (o:=if dH e s=[]then .nil else .view) ?_
 refine AC.j7 func60 rfl ntmps60 ah7 λcc w=>X4 hG s hs e he cc w λS5 H5 s6=>?_
 show SW prog GI 29 none (.seq _ .ret) _ _ _ _;refine SW.gO hG d_ zk (λ_ _ h=>h) (ac:=ah.qb c60.qb.qb.qb) zk ?_
 by_cases h0:dH e s=[]
 .have V3:S5 6=.slice .nil []:=by rw[s6,h0];rfl
  simp[c60,ah.qb,fG.cW,pz,V3,h0];exact⟨e_.plain rfl,rfl,rfl⟩
 .have ES:ints (dH e s)≠[]:=by simpa[ints]using h0
  have V3:S5 6=.slice (.own 3) (ints (dH e s)):=by rw[s6];simp[grow,ES]
  simp[c60,ah.qb,fG.cW,pz,V3,h0]
  try exact⟨e_.plain rfl,rfl⟩
end Go.Proofs.Tryz
