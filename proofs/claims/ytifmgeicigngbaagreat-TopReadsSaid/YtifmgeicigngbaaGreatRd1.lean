/- A part of the proof. -/
import Derived.Test.YtifmgeicigngbaaGreatC1
import Derived.Test.YtifmgeicigngbaaGreatC2
import Derived.Test.YtifmgeicigngbaaGreatC3
import Derived.Test.YtifmgeicigngbaaGreatShelf
set_option maxRecDepth 100000
set_option maxHeartbeats 8000000
set_option linter.all false
namespace Go.Proofs.Tram
def ez(seen:Nat->Bool)(s:Nat×List (Nat×Nat))(i:Nat):Nat×List (Nat×Nat):=if seen i=true then s else(i+1,if s.1<i then s.2++[(s.1,i-1)]else s.2)
def fm(seen:Nat->Bool)(n:Nat):List (Nat×Nat):=((List.range (n+1)).foldl (ez seen) (0,[])).2
def vC(seen:Nat->Bool)(out:List (Nat×Nat))(c:Nat):List (Nat×Nat):=
 if seen c=true then(if 0<c/\seen (c-1)=true then out.dropLast++[((out.getLast?.getD (0,0)).1,c)]else out++[(c,c)])else out
def qL (seen:Nat→Bool) (n:Nat) :
  ((List.range n).foldl (ez seen) (0,[])).1<=n/\(((List.range n).foldl (ez seen) (0,[])).1<n↔0<n/\seen (n-1)=true)/\
   (List.range n).foldl (vC seen) []=((List.range n).foldl (ez seen) (0,[])).2++(if((List.range n).foldl (ez seen) (0,[])).1<n then[(((List.range n).foldl (ez seen) (0,[])).1,n-1)]else[]):=by
 induction n with
 |zero=>simp
 |succ n ih=>
  rw[List.range_succ,List.foldl_append,List.foldl_append]
  generalize(List.range n).foldl (ez seen) (0,[])=s at*
  generalize(List.range n).foldl (vC seen) []=r at*
  obtain⟨h1,h2,h3⟩:=ih;simp only[List.foldl_cons,List.foldl_nil,Nat.add_sub_cancel]
  cases hs:seen n with
  |true=>
   have e1:ez seen s n=s:=by simp[ez,hs]
   rw[e1];refine⟨by omega,⟨λ_=>⟨by omega,by first|exact hs|rfl⟩,λ_=>by omega⟩,?_⟩;rw[if_pos (by omega:s.1<n+1)];unfold vC;rw[if_pos hs]
   by_cases av:s.1<n
   .rw[if_pos (h2.1 av),h3,if_pos av];simp
   .have:s.1=n:=by omega
    rw[if_neg (λh=>av (h2.2 h)),h3,if_neg av,List.append_nil,this]
  |false=>
   have e1:ez seen s n=(n+1,if s.1<n then s.2++[(s.1,n-1)]else s.2):=by simp[ez,hs]
   have e2:vC seen r n=r:=by simp[vC,hs]
   rw[e1,e2];refine⟨Nat.le_refl _,by simp,?_⟩;simp only[Nat.lt_irrefl,if_false,List.append_nil];rw[h3]
   split<;>simp
def cQ:List Int->Int->Nat×Int
 |[],t=>(0,t)
 |x::l,t=>if x<=t then((cQ l (t-x)).1+1,(cQ l (t-x)).2)else(0,t)
def qB:∀(l:List Int)(t:Int),(cQ l t).1<=l.length
 |[],_=>Nat.le_refl _
 |x::l,t=>by
  unfold cQ;split
  .simpa using qB l (t-x)
  .simp
def wK:∀(l:List Int)(t:Int),0<=t->0<=(cQ l t).2
 |[],_,h=>h
 |x::l,t,h=>by
  unfold cQ;split
  .exact wK l (t-x) (by omega)
  .exact h
def Cj:∀(l:List Int)(t:Int)(x:Int),l[(cQ l t).1]?=some x->(cQ l t).2<x
 |[],_,_,h=>by simp at h
 |y::l,t,x,h=>by
  unfold cQ at h⊢;split at h
  .rename_i hy;rw[if_pos hy];simp only[List.getElem?_cons_succ]at h;exact Cj l (t-y) x h
  .rename_i hy;rw[if_neg hy];simp only[List.getElem?_cons_zero,Option.some.injEq]at h;simp only;omega
def F_:∀(l:List Int)(a b:Int),0<=b->cQ l (a+b)=((cQ l a).1+(cQ (l.drop (cQ l a).1) ((cQ l a).2+b)).1,(cQ (l.drop (cQ l a).1) ((cQ l a).2+b)).2)
 |[],a,b,_=>by simp[cQ]
 |x::l,a,b,hb=>by
  by_cases h:x<=a
  .have e:cQ (x::l) a=((cQ l (a-x)).1+1,(cQ l (a-x)).2):=by rw[cQ];rw[if_pos h]
   rw[e]
   have e2:cQ (x::l) (a+b)=((cQ l (a+b-x)).1+1,(cQ l (a+b-x)).2):=by
    rw[cQ];rw[if_pos (by omega)]
   rw[e2,show a+b-x=(a-x)+b by omega,F_ l (a-x) b hb];simp only[List.drop_succ_cons]
   ext<;>simp<;>omega
  .have e:cQ (x::l) a=(0,a):=by rw[cQ];rw[if_neg h]
   rw[e];simp
def ua:∀(l:List Int)(t:Int)(k:Nat),k<=(cQ l t).1->cQ l t=(k+(cQ (l.drop k) (t-(l.take k).sum)).1,(cQ (l.drop k) (t-(l.take k).sum)).2)
 |_,_,0,_=>by simp
 |[],t,k+1,h=>by simp[cQ]at h
 |x::l,t,k+1,h=>by
  by_cases hx:x<=t
  .have e:cQ (x::l) t=((cQ l (t-x)).1+1,(cQ l (t-x)).2):=by rw[cQ];rw[if_pos hx]
   rw[e]at h⊢;have:=ua l (t-x) k (by simpa using h);rw[this];simp only[List.drop_succ_cons,List.take_succ_cons,List.sum_cons];rw[show t-x-(l.take k).sum=t-(x+(l.take k).sum) by omega]
   ext<;>simp<;>omega
  .rw[cQ,if_neg hx]at h;simp at h
def jj(bJ:Nat->Int)(a b:Nat):Int:=((List.range' a (b-a)).map bJ).sum
def tX(bJ:Nat->Int){a b:Nat}(h:a<=b):jj bJ a (b+1)=jj bJ a b+bJ b:=by
 unfold jj;rw[show b+1-a=(b-a)+1 by omega,List.range'_concat,List.map_append,List.sum_append];simp
 congr 1;omega
def zE(bJ:Nat->Int)(a:Nat):jj bJ a a=0:=by simp[jj]
def fp(az:List Int)(bJ:Nat->Int)(vs:List (Nat×Nat)):Nat:=vs.foldl (λn v=>n+(cQ (az.drop n) (jj bJ v.1 (v.2+1))).1) 0
def lJ(az:List Int)(bJ:Nat->Int)(seen:Nat->Bool)(s:Nat×Int)(i:Nat):Nat×Int:=
 if seen i=true then(s.1+(cQ (az.drop s.1) (s.2+bJ i)).1,(cQ (az.drop s.1) (s.2+bJ i)).2)else(s.1,0)
def kK(az:List Int)(bJ:Nat->Int)(seen:Nat->Bool)(n:Nat):Nat×Int:=(List.range n).foldl (lJ az bJ seen) (0,0)
def pM(az:List Int)(bJ:Nat->Int)(l:List (Nat×Nat))(v:Nat×Nat):fp az bJ (l++[v])=fp az bJ l+(cQ (az.drop (fp az bJ l)) (jj bJ v.1 (v.2+1))).1:=by
 unfold fp;rw[List.foldl_append];rfl
def zu(az:List Int)(bJ:Nat->Int)(s:Nat×List (Nat×Nat))(n:Nat):Nat×Int:=
 if s.1<n then(fp az bJ s.2+(cQ (az.drop (fp az bJ s.2)) (jj bJ s.1 n)).1,(cQ (az.drop (fp az bJ s.2)) (jj bJ s.1 n)).2)else(fp az bJ s.2,0)
def JW(az:List Int){bJ:Nat->Int}(hr:∀i,0<=bJ i)(seen:Nat->Bool)(s:Nat×List (Nat×Nat)){n:Nat}(hle:s.1<=n):lJ az bJ seen (zu az bJ s n) n=zu az bJ (ez seen s n) (n+1):=by
 cases hs:seen n with
 |true=>
  have e1:ez seen s n=s:=by simp[ez,hs]
  rw[e1];unfold lJ zu;rw[if_pos hs,if_pos (by omega:s.1<n+1),tX bJ hle]
  by_cases av:s.1<n
  .rw[if_pos av];simp only;rw[F_ _ (jj bJ s.1 n) (bJ n) (hr n),List.drop_drop]
   ext<;>simp<;>omega
  .have:s.1=n:=by omega
   rw[if_neg av,this,zE]
 |false=>
  have e1:ez seen s n=(n+1,if s.1<n then s.2++[(s.1,n-1)]else s.2):=by simp[ez,hs]
  rw[e1];unfold lJ zu;rw[if_neg (by simp[hs])];simp only[Nat.lt_irrefl,if_false]
  by_cases av:s.1<n
  .rw[if_pos av,if_pos av,pM];simp only;rw[show n-1+1=n by omega]
  .rw[if_neg av,if_neg av]
def Ce(az:List Int){bJ:Nat->Int}(hr:∀i,0<=bJ i)(seen:Nat->Bool):∀n,kK az bJ seen n=zu az bJ ((List.range n).foldl (ez seen) (0,[])) n
 |0=>by simp[kK,fp,zu]
 |n+1=>by
  have e1:kK az bJ seen (n+1)=lJ az bJ seen (kK az bJ seen n) n:=by
   unfold kK;rw[List.range_succ,List.foldl_append];rfl
  have e2:(List.range (n+1)).foldl (ez seen) (0,[])=ez seen ((List.range n).foldl (ez seen) (0,[])) n:=by
   rw[List.range_succ,List.foldl_append];rfl
  rw[e1,e2,Ce az hr seen n];exact JW az hr seen _ (qL seen n).1
def xu{az:List Int}{bJ:Nat->Int}(hr:∀i,0<=bJ i){seen:Nat->Bool}{n:Nat}(hn:seen n=false):fp az bJ (fm seen n)=(kK az bJ seen n).1:=by
 have h:=Ce az hr seen (n+1);have hv:=qL seen (n+1)
 have h2:¬((List.range (n+1)).foldl (ez seen) (0,[])).1<n+1:=λhl=>by
  have:=(hv.2.1.1 hl).2;rw[Nat.add_sub_cancel,hn]at this;cases this
 unfold zu at h;rw[if_neg h2]at h
 have e:kK az bJ seen (n+1)=lJ az bJ seen (kK az bJ seen n) n:=by
  unfold kK;rw[List.range_succ,List.foldl_append];rfl
 rw[e]at h;unfold lJ at h;rw[if_neg (by simp[hn])]at h;exact(congrArg Prod.fst h).symm
def uX(a b:Nat×Int):Prop:=a.1<b.1\/(a.1=b.1/\a.2<=b.2)
def CA:∀(la lb:List Int)(ta tb:Int),la.length=lb.length->(∀j (h:j<la.length)(h':j<lb.length),lb[j]<=la[j])->ta<=tb->uX (cQ la ta) (cQ lb tb)
 |[],[],ta,tb,_,_,ht=>.inr ⟨rfl,ht⟩
 |[],_::_,_,_,h,_,_=>by simp at h
 |_::_,[],_,_,h,_,_=>by simp at h
 |x::la,y::lb,ta,tb,hl,h,ht=>by
  have h0:=h 0 (by simp) (by simp);simp only[List.getElem_cons_zero]at h0
  by_cases hx:x<=ta
  .have e1:cQ (x::la) ta=((cQ la (ta-x)).1+1,(cQ la (ta-x)).2):=by rw[cQ];rw[if_pos hx]
   have e2:cQ (y::lb) tb=((cQ lb (tb-y)).1+1,(cQ lb (tb-y)).2):=by rw[cQ];rw[if_pos (by omega)]
   rw[e1,e2]
   rcases CA la lb (ta-x) (tb-y) (by simpa using hl) (λj hj c_=>h (j+1) (Nat.succ_lt_succ hj) (Nat.succ_lt_succ c_)) (by omega)with hm|⟨hm,Sy⟩
   .exact .inl (by simp only;omega)
   .exact .inr ⟨by simp only;omega,Sy⟩
  .have e1:cQ (x::la) ta=(0,ta):=by rw[cQ];rw[if_neg hx]
   rw[e1]
   by_cases hy:y<=tb
   .have e2:cQ (y::lb) tb=((cQ lb (tb-y)).1+1,(cQ lb (tb-y)).2):=by rw[cQ];rw[if_pos hy]
    rw[e2];exact .inl (by simp)
   .have e2:cQ (y::lb) tb=(0,tb):=by rw[cQ];rw[if_neg hy]
    rw[e2];exact .inr ⟨rfl,ht⟩
structure Calm(az:List Int)(s:Nat×Int):Prop where
 left:0<=s.2
 next:∀x,az[s.1]?=some x->s.2<x
def xx{az:List Int}(hp:∀x∈az,0<x){bJ:Nat->Int}(hr:∀i,0<=bJ i)(seen:Nat->Bool){s:Nat×Int}(h:Calm az s)(i:Nat):Calm az (lJ az bJ seen s i):=by
 unfold lJ;split
 .refine⟨wK _ _ (by have:=h.left;have:=hr i;omega),λx hx=>?_⟩;refine Cj (az.drop s.1) (s.2+bJ i) x ?_;rw[List.getElem?_drop];exact hx
 .exact⟨Int.le_refl _,λx hx=>hp x (List.mem_of_getElem? hx)⟩
def GU {na nb:List Int} (hl:na.length=nb.length) (hn:∀ j (h:j < na.length) (h':j < nb.length),nb[j]≤na[j]) (hp:∀ x∈nb,0 < x) {ra rb:Nat→Int} (GA:∀ i,0≤ra i) {sa sb:Nat→Bool} {i:Nat} (hs:sa i=true→sb i=true) (hr:sa i=true→ra i≤rb i) (vM:∀ i,0≤rb i)
  {a b:Nat×Int} (ha:Calm na a) (hb:Calm nb b) (h:uX a b):uX (lJ na ra sa a i) (lJ nb rb sb b i):=by
 have MN:∀x∈na,0<x:=λx hx=>by
  obtain⟨j,hj,rfl⟩:=List.getElem_of_mem hx;have:=hn j hj (by omega);have:=hp _ (List.getElem_mem (by omega:j<nb.length));omega
 have lift:∀k ta tb,ta<=tb->uX (k+(cQ (na.drop k) ta).1,(cQ (na.drop k) ta).2) (k+(cQ (nb.drop k) tb).1,(cQ (nb.drop k) tb).2):=λk ta tb ht=>by
  rcases CA (na.drop k) (nb.drop k) ta tb (by simp;omega) (λj hj c_=>by simpa using hn (k+j) (by simp at hj;omega) (by simp at c_;omega)) ht with hm|⟨hm,Sy⟩
  .exact .inl (by simp only;omega)
  .exact .inr ⟨by simp only;omega,Sy⟩
 have Sw:=ha.left;have hlb:=hb.left;have aaC:=GA i;have aaI:=vM i;unfold lJ
 cases WX:sa i with
 |false=>
  simp only[Bool.false_eq_true,if_false];split
  .have:=wK (nb.drop b.1) (b.2+rb i) (by omega)
   rcases h with h|⟨h,_⟩
   .exact .inl (by simp only;omega)
   .by_cases h0:(cQ (nb.drop b.1) (b.2+rb i)).1=0
    .exact .inr ⟨by simp only;omega,this⟩
    .exact .inl (by simp only;omega)
  .rcases h with h|⟨h,_⟩
   .exact .inl h
   .exact .inr ⟨h,Int.le_refl _⟩
 |true=>
  have hr:=hr WX;rw[if_pos rfl,if_pos (hs WX)]
  rcases h with h|⟨h1,h2⟩
  .by_cases hk:b.1-a.1<=(cQ (na.drop a.1) (a.2+ra i)).1
   .rw[ua (na.drop a.1) (a.2+ra i) (b.1-a.1) hk,List.drop_drop,show a.1+(b.1-a.1)=b.1 by omega];simp only;rw[show a.1+(b.1-a.1+(cQ (na.drop b.1) (a.2+ra i-((na.drop a.1).take (b.1-a.1)).sum)).1)=b.1+(cQ (na.drop b.1) (a.2+ra i-((na.drop a.1).take (b.1-a.1)).sum)).1 by omega];refine lift b.1 _ _ ?_
    have av:a.1<na.length:=by
     have:=qB (na.drop a.1) (a.2+ra i);rw[List.length_drop]at this;omega
    have Y2:=ha.next na[a.1] (List.getElem?_eq_getElem av)
    have rM:na[a.1]<=((na.drop a.1).take (b.1-a.1)).sum:=by
     rw[List.drop_eq_getElem_cons av,show b.1-a.1=(b.1-a.1-1)+1 by omega,List.take_succ_cons,List.sum_cons]
     have:0<=(((na.drop (a.1+1)).take (b.1-a.1-1))).sum:=by
      have iy:∀l:List Int,(∀x∈l,0<x)->0<=l.sum:=by
       intro l
       induction l with
       |nil=>simp
       |cons x l ih=>
        intro hx;have:=hx x (by simp)
        have:=ih λy hy=>hx y (List.mem_cons_of_mem _ hy)
        simp;omega
      exact iy _ λx hx=>MN x (List.mem_of_mem_drop (List.mem_of_mem_take hx))
     omega
    omega
   .exact .inl (by simp only;omega)
  .rw[h1];exact lift b.1 _ _ (by omega)
def xz{na nb:List Int}(hl:na.length=nb.length)(hn:∀j (h:j<na.length)(h':j<nb.length),nb[j]<=na[j])(hp:∀x∈nb,0<x){ra rb:Nat->Int}(GA:∀i,0<=ra i)(vM:∀i,0<=rb i){sa sb:Nat->Bool}:∀n,(∀i,i<n->sa i=true->sb i=true/\ra i<=rb i)->uX (kK na ra sa n) (kK nb rb sb n)/\Calm na (kK na ra sa n)/\Calm nb (kK nb rb sb n)
 |0,_=>by
  have MN:∀x∈na,0<x:=λx hx=>by
   obtain⟨j,hj,rfl⟩:=List.getElem_of_mem hx;have:=hn j hj (by omega);have:=hp _ (List.getElem_mem (by omega:j<nb.length));omega
  exact⟨.inr ⟨rfl,Int.le_refl _⟩,⟨Int.le_refl _,λx hx=>MN x (List.mem_of_getElem? hx)⟩,⟨Int.le_refl _,λx hx=>hp x (List.mem_of_getElem? hx)⟩⟩
 |n+1,h=>by
  obtain⟨h1,h2,h3⟩:=xz hl hn hp GA vM n (λi hi=>h i (by omega))
  have MN:∀x∈na,0<x:=λx hx=>by
   obtain⟨j,hj,rfl⟩:=List.getElem_of_mem hx;have:=hn j hj (by omega);have:=hp _ (List.getElem_mem (by omega:j<nb.length));omega
  have e:∀(q:List Int)(r:Nat->Int)(s:Nat->Bool),kK q r s (n+1)=lJ q r s (kK q r s n) n:=λq r s=>by
   unfold kK;rw[List.range_succ,List.foldl_append];rfl
  rw[e,e];exact⟨GU hl hn hp GA (λhs=>(h n (by omega) hs).1) (λhs=>(h n (by omega) hs).2) vM h2 h3 h1,xx MN GA sa h2 n,xx hp vM sb h3 n⟩
def JR {na nb:List Int} (hl:na.length=nb.length) (hn:∀ j (h:j < na.length) (h':j < nb.length),nb[j]≤na[j]) (hp:∀ x∈nb,0 < x) {ra rb:Nat→Int} (GA:∀ i,0≤ra i) (vM:∀ i,0≤rb i) {sa sb:Nat→Bool} {n:Nat} (ha:sa n=false) (hb:sb n=false)
  (h:∀i,i<n->sa i=true->sb i=true/\ra i<=rb i):fp na ra (fm sa n)<=fp nb rb (fm sb n):=by
 rw[xu GA ha,xu vM hb]
 rcases(xz hl hn hp GA vM n h).1 with h|⟨h,_⟩
 .omega
 .omega
def GL (seen:Nat→Bool) (n:Nat) :
  (∀v∈((List.range n).foldl (ez seen) (0,[])).2,v.1<=v.2/\v.2+2<=((List.range n).foldl (ez seen) (0,[])).1)/\(((List.range n).foldl (ez seen) (0,[])).2).Pairwise (λu v=>u.2+1<v.1)/\
   ∀c,c<n->(seen c=true↔(∃v∈((List.range n).foldl (ez seen) (0,[])).2,v.1<=c/\c<=v.2)\/((List.range n).foldl (ez seen) (0,[])).1<=c):=by
 induction n with
 |zero=>simp
 |succ n ih=>
  have hle:=(qL seen n).1;rw[List.range_succ,List.foldl_append]
  generalize(List.range n).foldl (ez seen) (0,[])=s at*
  simp only[List.foldl_cons,List.foldl_nil];obtain⟨h1,h2,h3⟩:=ih
  cases hs:seen n with
  |true=>
   have e1:ez seen s n=s:=by simp[ez,hs]
   rw[e1];refine⟨h1,h2,λc hc=>?_⟩
   by_cases O8:c=n
   .subst O8;exact⟨λ_=>.inr hle,λ_=>hs⟩
   .exact h3 c (by omega)
  |false=>
   have e1:ez seen s n=(n+1,if s.1<n then s.2++[(s.1,n-1)]else s.2):=by simp[ez,hs]
   rw[e1];simp only
   by_cases av:s.1<n
   .rw[if_pos av];refine⟨λv hv=>?_,?_,λc hc=>?_⟩
    .rcases List.mem_append.1 hv with hv|hv
     .have:=h1 v hv;omega
     .simp only[List.mem_singleton]at hv;subst hv;simp only;omega
    .rw[List.pairwise_append];refine⟨h2,by simp,λu hu v hv=>?_⟩;simp only[List.mem_singleton]at hv;subst hv;have:=h1 u hu;simp only;omega
    .by_cases O8:c=n
     .subst O8;rw[hs];refine⟨λh=>by(cases h),λh=>?_⟩;rcases h with⟨v,hv,e_,eJ⟩|h
      .rcases List.mem_append.1 hv with hv|hv
       .have:=h1 v hv;omega
       .simp only[List.mem_singleton]at hv;subst hv;simp only at eJ;omega
      .omega
     .rw[h3 c (by omega)];refine⟨λh=>.inl ?_,λh=>?_⟩
      .rcases h with⟨v,hv,hvc⟩|h
       .exact⟨v,List.mem_append_left _ hv,hvc⟩
       .exact⟨(s.1,n-1),by simp,h,by simp only;omega⟩
      .rcases h with⟨v,hv,e_,eJ⟩|h
       .rcases List.mem_append.1 hv with hv|hv
        .exact .inl ⟨v,hv,e_,eJ⟩
        .simp only[List.mem_singleton]at hv;subst hv;exact .inr e_
       .omega
   .rw[if_neg av];refine⟨λv hv=>?_,h2,λc hc=>?_⟩
    .have:=h1 v hv;omega
    .by_cases O8:c=n
     .subst O8;rw[hs];refine⟨λh=>by(cases h),λh=>?_⟩;rcases h with⟨v,hv,e_,eJ⟩|h
      .have:=h1 v hv;omega
      .omega
     .rw[h3 c (by omega)];refine⟨λh=>?_,λh=>?_⟩
      .rcases h with h|h
       .exact .inl h
       .omega
      .rcases h with h|h
       .exact .inl h
       .omega
def Cm{seen:Nat->Bool}{n:Nat}(hn:seen n=false):(∀v∈fm seen n,v.1<=v.2/\v.2<n)/\(fm seen n).Pairwise (λu v=>u.2+1<v.1)/\∀c,c<n->(seen c=true↔∃v∈fm seen n,v.1<=c/\c<=v.2):=by
 obtain⟨h1,h2,h3⟩:=GL seen (n+1);have hv:=qL seen (n+1)
 have h4:¬((List.range (n+1)).foldl (ez seen) (0,[])).1<n+1:=λhl=>by
  have:=(hv.2.1.1 hl).2;rw[Nat.add_sub_cancel,hn]at this;cases this
 have h5:=hv.1;unfold fm
 generalize(List.range (n+1)).foldl (ez seen) (0,[])=s at*
 refine⟨λv hv=>?_,h2,λc hc=>?_⟩
 .have:=h1 v hv;omega
 .rw[h3 c (by omega)];refine⟨λh=>?_,λh=>.inl h⟩;rcases h with h|h
  .exact h
  .omega
def wP(az:List Int)(bJ:Nat->Int)(vs:List (Nat×Nat)):fp az bJ vs<=az.length:=by
 have main:∀(r:List (Nat×Nat)),fp az bJ r.reverse<=az.length:=by
  intro r
  induction r with
  |nil=>simp[fp]
  |cons v r ih=>
   rw[List.reverse_cons,pM];have:=qB (az.drop (fp az bJ r.reverse)) (jj bJ v.1 (v.2+1));rw[List.length_drop]at this;omega
 have:=main vs.reverse;rwa [List.reverse_reverse]at this
structure D5(f:Nat->Nat)(m a w:Nat):Prop where
 place:1<=a/\a<=m
 words:w=f a
 most:∀n,1<=n->n<=m->f n<=w/\(f n=w->a<=n)
def D5.unique{f:Nat->Nat}{m a w a' w':Nat}(h:D5 f m a w)(h':D5 f m a' w'):a=a'/\w=w':=by
 have h1:=h.most a' h'.place.1 h'.place.2;have h2:=h'.most a h.place.1 h.place.2;have e1:=h.words;have e2:=h'.words
 have hw:w=w':=by omega
 have:=h1.2 (by omega);have:=h2.2 (by omega);exact⟨by omega,hw⟩
def mZ(p:Nat->Bool)(k n:Nat):Prop:=n<=k/\(∀x,x<n->p x=false)/\(n<k->p n=true)
def mZ.unique{p:Nat->Bool}{k m n:Nat}(h:mZ p k m)(h':mZ p k n):m=n:=by
 rcases Nat.lt_trichotomy m n with av|rfl|av
 .have h1:=h.2.2 (by have:=h'.1;omega);have h2:=h'.2.1 m av;rw[h1]at h2;cases h2
 .rfl
 .have h1:=h'.2.2 (by have:=h.1;omega);have h2:=h.2.1 n av;rw[h1]at h2;cases h2
def QO{p:Nat->Bool}(hm:∀x y,x<=y->p x=true->p y=true){i j:Nat}(nc:i<j)(oq:∀x,x<i->p x=false):i<=(i+j)/2/\(i+j)/2<j/\(p ((i+j)/2)=false->∀x,x<(i+j)/2+1->p x=false):=by
 refine⟨by omega,by omega,λh x hx=>?_⟩
 cases hp:p x with
 |false=>rfl
 |true=>
  have:=hm x _ (by omega:x<=(i+j)/2) hp;rw[h]at this;cases this
structure Db(p:Nat->Nat->Bool)(m c t:Nat):Prop where
 cell:c<m
 Rf:p c t=true
 less:∀c' n,c'<m->p c' n=true->t<=n/\(n=t->c<=c')
def Db.unique{p:Nat->Nat->Bool}{m c t c' t':Nat}(h:Db p m c t)(h':Db p m c' t'):c=c'/\t=t':=by
 have h1:=h.less c' t' h'.cell h'.Rf;have h2:=h'.less c t h.cell h.Rf
 have ht:t=t':=by omega
 subst ht;have:=h1.2 rfl;have:=h2.2 rfl;exact⟨by omega,rfl⟩
def ox(x:Nat×Nat)(l:List (Nat×Nat)):Nat×Nat:=l.foldl (λo y=>if y.2<o.2 then y else o) x
def fF(f:Nat->Nat)(most:Nat)(m:Nat):List (Nat×Nat):=(List.range m).filterMap λi=>if f i<=most then some (i,f i)else none
def DJ(f:Nat->Nat)(most m:Nat):fF f most (m+1)=fF f most m++(if f m<=most then[(m,f m)]else[]):=by
 unfold fF;rw[List.range_succ,List.filterMap_append]
 congr 1
 by_cases h:f m<=most<;>simp[h]
def Ff{f:Nat->Nat}{most m:Nat}{x:Nat×Nat}:x∈fF f most m↔x.1<m/\x.2=f x.1/\f x.1<=most:=by
 unfold fF;rw[List.mem_filterMap]
 constructor
 .rintro⟨i,hi,he⟩;split at he
  .cases he;exact⟨List.mem_range.1 hi,rfl,by assumption⟩
  .cases he
 .rintro⟨h1,h2,h3⟩;refine⟨x.1,List.mem_range.2 h1,?_⟩;rw[if_pos h3,<-h2]
def JT{p:Nat->Nat->Bool}{f:Nat->Nat}{most m:Nat}(hf:∀i,i<m->mZ (p i) (most+1) (f i)){c n:Nat}(hc:c<m)(hn:n<=most)(hp:p c n=true):∃x l,fF f most m=x::l:=by
 cases hs:fF f most m with
 |cons x l=>exact⟨x,l,rfl⟩
 |nil=>
  have hle:f c<=n:=by
   rcases Nat.lt_or_ge n (f c)with h|h
   .have:=(hf c hc).2.1 n h;rw[hp]at this;cases this
   .exact h
  have:(c,f c)∈fF f most m:=Ff.2 ⟨hc,rfl,by show f c<=most;omega⟩;rw[hs]at this;cases this
def iW:∀{l:List Int},(∀x∈l,0<x)->0<=l.sum
 |[],_=>by simp
 |x::l,h=>by
  have:=h x (by simp)
  have:=iW (l:=l) λy hy=>h y (List.mem_cons_of_mem _ hy)
  simp only[List.sum_cons];omega
def Ag:∀{l:List Int}{t:Int},(∀x∈l,0<x)->0<=t->((cQ l t).1=l.length↔l.sum<=t)
 |[],t,_,ht=>by simp[cQ,ht]
 |x::l,t,h,ht=>by
  have h0:=h x (by simp)
  have hl:=λy hy=>h y (List.mem_cons_of_mem _ hy)
  have hs:=iW hl
  by_cases hx:x<=t
  .have e:cQ (x::l) t=((cQ l (t-x)).1+1,(cQ l (t-x)).2):=by rw[cQ];rw[if_pos hx]
   rw[e];have:=Ag (l:=l) (t:=t-x) hl (by omega);simp only[List.length_cons,List.sum_cons]
   constructor
   .intro h1;have:=this.1 (by omega);omega
   .intro h1;have:=this.2 (by omega);omega
  .have e:cQ (x::l) t=(0,t):=by rw[cQ];rw[if_neg hx]
   rw[e];simp only[List.length_cons,List.sum_cons]
   constructor
   .intro h1;omega
   .intro h1;omega
def y8:∀{l:List Int}{t:Int},(∀x∈l,0<x)->∀i,i<l.length->((l.take (i+1)).sum<=t↔i<(cQ l t).1)
 |[],t,_,i,hi=>by simp at hi
 |x::l,t,h,i,hi=>by
  have h0:=h x (by simp)
  have hl:=λy hy=>h y (List.mem_cons_of_mem _ hy)
  simp only[List.take_succ_cons,List.sum_cons]
  by_cases hx:x<=t
  .have e:cQ (x::l) t=((cQ l (t-x)).1+1,(cQ l (t-x)).2):=by rw[cQ];rw[if_pos hx]
   rw[e]
   cases i with
   |zero=>simp;omega
   |succ i=>
    have:=y8 (l:=l) (t:=t-x) hl i (by simpa using hi);simp only
    constructor
    .intro h1;have:=this.1 (by omega);omega
    .intro h1;have:=this.2 (by omega);omega
  .have e:cQ (x::l) t=(0,t):=by rw[cQ];rw[if_neg hx]
   rw[e]
   have:0<=(l.take i).sum:=iW λy hy=>hl y (List.mem_of_mem_take hy)
   simp only
   constructor
   .intro h1;omega
   .intro h1;omega
def Mf(n m:Nat)(p:Nat->Bool)(h:∀i,i<n->(p i=true↔i<m))(hm:m<=n):(List.range n).countP p=m:=by
 have e:List.range n=List.range' 0 m++List.range' m (n-m):=by
  rw[List.range_eq_range'];have:=List.range'_append_1 (s:=0) (m:=m) (n:=n-m);rw[Nat.zero_add]at this;rw[this]
  congr 1;omega
 rw[e,List.countP_append]
 have h1:(List.range' 0 m).countP p=m:=by
  rw[List.countP_eq_length.2]
  .simp
  .intro i hi;have:=List.mem_range'_1.1 hi;exact(h i (by omega)).2 (by omega)
 have h2:(List.range' m (n-m)).countP p=0:=by
  rw[List.countP_eq_zero];intro i hi hp;have:=List.mem_range'_1.1 hi;have:=(h i (by omega)).1 hp;omega
 omega
def IT{l:List Int}{t:Int}(h:∀x∈l,0<x):(List.range l.length).countP (λi=>decide ((l.take (i+1)).sum<=t))=(cQ l t).1:=
 Mf _ _ _ (λi hi=>by rw[decide_eq_true_eq];exact y8 h i hi) (qB l t)
def DO{l:List Int}{t:Int}(h:∀x∈l,0<x)(ht:0<=t)(m:Nat):(cQ l (t+m)).1=l.length↔max 0 (l.sum-t)<=m:=by
 rw[Ag h (by omega)];omega
end Go.Proofs.Tram
namespace Go.Proofs.Tryz
open Go.AL
variable{GI:World->Prop}
def cV:prog.follows .mixedOrders=true:=by kernel_rfl
def dM{GI:World->Prop}(hG:aw GI){f:Nat}{fn:Func}{c:Code}{args:List AV}{out:iS}{n:Nat}(hf:prog.funcs[f]?=some fn)(hn:fn.ntmps=n)(ac:ae)(h:bD prog GI ac (post prog n fn.results.toList out) (AL.start args) (λ_=>none))(hl:args.length<=n:=by simp)(hb:fn.body=some c:=by rfl)(hc:de prog n c=ac:=by kernel_rfl):AC prog GI f args out:=AC.NG hG cV hf hb hn hl hc h
def JD (hG:aw GI) (es:List AV) (bB:aF 1 es=true) (hl:es.length < 1048576) :
  AC prog GI 124 [.slice .view es] (.ret (.slice (if es.isEmpty then .nil else .own 3) es)):=by
 refine dM hG func124 ntmps124 c124 ?_
 cases es with
 |nil=>simp[c124,bD,bg,ar,aM,ao,ev,aD.S,aD.H,a_,cS,aq,aH,AL.start,AV.aA,aF,post,cn,ct,cw,AV.out,AV.bC]
 |cons x es=>
  have yH:es.length+1<1048576:=hl;simp[c124,bD,bg,ar,aM,ao,ev,aD.S,aD.H,a_,cS,aq,aH,AL.start,AV.aA,bB,yH,post,cn,ct,cw,AV.out,AV.bC]
def Ue (hG:aw GI) (es:List AV) (bB:aF 2 es=true) (hl:es.length < 1048576) :
  AC prog GI 125 [.slice .view es] (.ret (.slice (if es.isEmpty then .nil else .own 214) es)):=by
 refine dM hG func125 ntmps125 c125 ?_
 cases es with
 |nil=>simp[c125,bD,bg,ar,aM,ao,ev,aD.S,aD.H,a_,cS,aq,aH,AL.start,AV.aA,aF,post,cn,ct,cw,AV.out,AV.bC]
 |cons x es=>
  have yH:es.length+1<1048576:=hl;simp[c125,bD,bg,ar,aM,ao,ev,aD.S,aD.H,a_,cS,aq,aH,AL.start,AV.aA,bB,yH,post,cn,ct,cw,AV.out,AV.bC]
end Go.Proofs.Tryz
namespace Go.Proofs.Tryz
open Go Go.AL Go.RowKit Go.Proofs Go.Proofs.Tram
abbrev End:=Int×Int
def bq(e:End):AV:=.agg [.int .i64 e.1,.int .i64 e.2]
def aW(l:List End):List AV:=l.map bq
def aQ(out:List Int)(es:List End):AV:=.agg [.slice .view (ints out),.slice .view (aW es)]
def lp:List End->List End->Nat->List (List End)
 |_,[],_=>[]
 |now,a::r,m=>(if r=[]then[now++[a]]else match m with|0=>[]|m+1=>lp (now++[a]) r m)++lp now r m
def ch(now l:List End)(m:Nat):List (List End):=if l=[]then[now]else match m with|0=>[]|m+1=>lp now l m
variable{GI:World->Prop}{l:Nat}{xs:List AV}
structure Fx(C:Cons prog GI l xs)(all:List End)(out:List Int)(fA:List AV)(rows:Nat) where
 bN:Nat
 cA:Value
 cY:Value
 cO:Value
 cF:Value
 cR:Value
 MI:Nat->Prop
 wI:World
 bA:Nat
 BF:Value
 Lo:cA=.pointer (some ⟨bA,0,none⟩)
 QM:MI bA/\bA<bN
 ZE:∃ty,wI.heap[bA]?=some (.cells #[BF] ty (0,0))
 hY:RV (λb _=>MI b) bU wI (.ref [.val (.func (.yield l) #[] #[])]) cY
 hR:RV (λb _=>MI b) bU wI (.ref [.val (.func (.func 123) #[] #[cA,cY,cO,.pointer (some ⟨bN,0,none⟩),cF,cR])]) cR
 f9:fA[9]?=some (.int .i64 rows)
variable{C:Cons prog GI l xs}{all:List End}{out:List Int}{fA:List AV}{rows:Nat}
structure St(X:Fx C all out fA rows)(k:Nat)(M:Nat->Prop)(Pr:Nat->Nat->Prop)(es:List End)(w:World):Prop where
 j:C.J k M Pr w
 lt:∀b,M b->b<w.heap.size
 mi:∀b,X.MI b->M b/\b≠X.bN/\w.heap[b]?=X.wI.heap[b]?
 now:∃v ty j5,w.heap[X.bN]?=some (.cells #[v] ty (0,0))/\M X.bN/\w.ownsRow (X.bN+1) 214 2 v es.length j5/\iP (λ_ _=>False) w 2 (aW es) j5/\∀b,v.ownBlock=some b->M b/\¬X.MI b
 f:RV Pr bU w (.ref fA) X.cF
 o:RV Pr bU w (.ref [.slice .view (ints out)]) X.cO
 e:RD (λb k=>b<X.bN/\(X.MI b\/Pr b k)) w (.slice .view (aW all)) X.BF
def yQ{MI:Nat->Prop}{bN:Nat}{Pr dB:Nat->Nat->Prop}{w w':World}(hm:∀b,MI b->w'.heap[b]?=w.heap[b]?)(hk:aL Pr dB w w'):aL (λb k=>b<bN/\(MI b\/Pr b k)) (λb k=>b<bN/\(MI b\/dB b k)) w w':={
 cell b k hp u hu:=by
  rcases hp.2 with h|h
  .exact⟨⟨hp.1,.inl h⟩,by rw[World.cell?_of_block (w:=w) (hm b h)];exact hu⟩
  .obtain⟨h1,h2⟩:=hk.cell b k h u hu;exact⟨⟨hp.1,.inr h1⟩,h2⟩
 map b hp es c Zc:=by
  rcases hp.2 with h|h
  .exact⟨⟨hp.1,.inl h⟩,by rw[hm b h];exact Zc⟩
  .obtain⟨h1,h2⟩:=hk.map b h es c Zc
   exact⟨⟨hp.1,.inr h1⟩,h2⟩ }
def St.RX{X:Fx C all out fA rows}{k:Nat}{M:Nat->Prop}{Pr:Nat->Nat->Prop}{es:List End}{w:World}(s:St X k M Pr es w):RV (λb k=>b<X.bN/\(X.MI b\/Pr b k)) bU w (.ref [.slice .view (aW all)]) X.cA:=by
 obtain⟨ty,h2⟩:=X.ZE;rw[X.Lo];have hb:w.heap[X.bA]?=some (.cells #[X.BF] ty (0,0)):=(s.mi _ X.QM.1).2.2.trans h2;refine .data _ _ (.ref _ _ _ (λ_=>X.BF) (λi hi=>?_) (λk hk=>⟨⟨X.QM.2,.inl X.QM.1⟩,?_⟩) (λk hk=>?_))
 .have:i=0:=by simpa using hi
  subst this;rfl
 .have:k=0:=by simpa using hk
  subst this;simp[World.cell?,hb]
 .have:k=0:=by simpa using hk
  subst this;exact s.e
structure Fr(X:Fx C all out fA rows)(n:Int)(a:Act):Prop where
 size:a.tmps.size=53
 defers:a.defers=[]
 t0:a.tmps.getD 0 undef=.int .i64 n
 t1:a.tmps.getD 1 undef=X.cA
 t2:a.tmps.getD 2 undef=X.cY
 t3:a.tmps.getD 3 undef=X.cO
 t4:a.tmps.getD 4 undef=.pointer (some ⟨X.bN,0,none⟩)
 t5:a.tmps.getD 5 undef=X.cF
 t6:a.tmps.getD 6 undef=X.cR
def iw(l:Nat)(all es:List End)(out:List Int)(fA:List AV)(fv:Value)(n:Int)(v9:AV):af:=λt=>match t with
 |0=>.int .i64 n
 |1=>.ref [.slice .view (aW all)]
 |2=>.ref [.val (.func (.yield l) #[] #[])]
 |3=>.ref [.slice .view (ints out)]
 |4=>.ref [.slice .view (aW es)]
 |5=>.ref fA
 |6=>.ref [.val fv]
 |9=>v9
 |_=>.bh
def Fx.fv(X:Fx C all out fA rows):Value:=.func (.func 123) #[] #[X.cA,X.cY,X.cO,.pointer (some ⟨X.bN,0,none⟩),X.cF,X.cR]
def St.gO {X:Fx C all out fA rows} {k:Nat} {M:Nat→Prop} {Pr:Nat→Nat→Prop} {es:List End} {w:World} (s:St X k M Pr es w) {n:Int} {a:Act} (fr:Fr X n a) {v9:AV} (h9:v9.aA=v9∧RV (fun _ _=>True) bU w v9 (a.tmps.getD 9 undef)) :
  ∀t,t<53->(iw l all es out fA X.fv n v9 t).aA=iw l all es out fA X.fv n v9 t/\RV (λ_ _=>True) bU w (iw l all es out fA X.fv n v9 t) (a.tmps.getD t undef):=by
 intro t ht
 have LK:∀{P':Nat->Nat->Prop},(∀b k,P' b k->X.MI b)->aL P' (λ_ _=>True) X.wI w:=λh=>aL.of_eq λb k hp=>⟨trivial,(s.mi b (h b k hp)).2.2⟩
 unfold iw;split
 .rw[fr.t0];exact⟨rfl,.data _ _ (.int _ _)⟩
 .rw[fr.t1];exact⟨rfl,s.RX.mono (aL.same λ_ _ _ _=>trivial) λ_ _ h=>h⟩
 .rw[fr.t2];exact⟨rfl,X.hY.mono (LK λb k h=>h) λ_ _ h=>h⟩
 .rw[fr.t3];exact⟨rfl,s.o.mono (aL.same λ_ _ _ _=>trivial) λ_ _ h=>h⟩
 .rw[fr.t4];obtain⟨v,ty,j5,h1,h2,h3,h4,h5⟩:=s.now;refine⟨rfl,.data _ _ (.ref _ _ _ (λ_=>v) (λi hi=>?_) (λk hk=>⟨trivial,?_⟩) (λk hk=>?_))⟩
  .have:i=0:=by simpa using hi
   subst this;rfl
  .have:k=0:=by simpa using hk
   subst this;simp[World.cell?,h1]
  .have:k=0:=by simpa using hk
   subst this
   exact RD.ofRow (size:=2) (es:=aW es) (by simpa[aW]using h3) (h4.mono (aL.same λ_ _ _ h=>h.elim)) λ_ _ _ _=>trivial
 .rw[fr.t5];exact⟨rfl,s.f.mono (aL.same λ_ _ _ _=>trivial) λ_ _ h=>h⟩
 .rw[fr.t6];exact⟨rfl,X.hR.mono (LK λb k h=>h) λ_ _ h=>h⟩
 .exact h9
 .exact⟨rfl,.bh _⟩
def St.grow{X:Fx C all out fA rows}{k:Nat}{M:Nat->Prop}{Pr:Nat->Nat->Prop}{es:List End}{w w':World}(s:St X k M Pr es w)(hb:Below w.heap.size w w'):St X k M Pr es w':=by
 have hM:=s.lt
 have aY:∀b,M b->w'.heap[b]?=w.heap[b]?:=λb h=>hb.block b (hM b h)
 have hk:aL Pr Pr w w':=aL.fI (λb h=>hb.block b h) λ_ _ _ h=>h
 obtain⟨v,ty,j5,h1,h2,h3,h4,h5⟩:=s.now;refine⟨C.eP s.j (ft.lz hb) λb h=>⟨Nat.lt_of_lt_of_le (hM b h) hb.size,.inl h⟩,λb h=>Nat.lt_of_lt_of_le (hM b h) hb.size,λb h=>⟨(s.mi b h).1,(s.mi b h).2.1,(aY b (s.mi b h).1).trans (s.mi b h).2.2⟩,⟨v,ty,j5,(aY _ h2).trans h1,h2,?_,h4.mono (aL.of_eq λ_ _ h=>h.elim),h5⟩,s.f.mono hk λ_ _ h=>h,s.o.mono hk λ_ _ h=>h,s.e.mono (yQ (λb h=>aY b (s.mi b h).1) hk)⟩;refine⟨h3.1,?_⟩
 rcases h3.2 with h|⟨gg,cap,cur,rfl,mz,tC,rest⟩
 .exact .inl h
 .exact .inr ⟨gg,cap,cur,rfl,mz,(aY gg (h5 gg rfl).1).trans tC,rest⟩
def _root_.Go.AL.ae.qa:ae->ae
 |.seq x _=>x
 |.cond _ x _=>x
 |c=>c
def _root_.Go.AL.ae.qb:ae->ae
 |.seq _ y=>y
 |.cond _ _ y=>y
 |.block _ c=>c
 |.loop c=>c
 |c=>c
def _root_.Go.AL.ae.dl:ae->List bl
 |.dc l|.ops l=>l
 |_=>[]
def BN:Nat->Bool:=λt=>decide (36<=t)
def W7:Nat->Bool:=λt=>decide (7<=t)
noncomputable def uK:ae:=ae.qb c123.qb.qb.qa.qb.qb
def Fr.step{X:Fx C all out fA rows}{n:Int}{a a':Act}(fr:Fr X n a)(aI:a'.tmps.size=53)(cD:a'.defers=[])(h:eF W7 a a'):Fr X n a':=
 ⟨aI,cD,(h 0 rfl).trans fr.t0,(h 1 rfl).trans fr.t1,(h 2 rfl).trans fr.t2,(h 3 rfl).trans fr.t3,(h 4 rfl).trans fr.t4,(h 5 rfl).trans fr.t5,(h 6 rfl).trans fr.t6⟩
def ef(args:Array Value)(k t:Nat)(h:t<args.size):(args++Array.replicate k undef).getD t undef=args[t]:=by
 simp[Array.getElem?_append,h]
def qe(l:List Int):aF 1 (ints l)=true:=by
 simp[aF,ints,AV.storable,AV.cells]
def zW(l:List End):aF 2 (aW l)=true:=by
 simp[aF,aW,bq,AV.storable,AV.cells]
def tm(es:List End):∀x∈aW es,x.cells.length=2/\x.storable=true/\∀c∈x.cells,c.one=true:=by
 intro x hx;obtain⟨e,_,rfl⟩:=List.mem_map.1 hx;refine⟨rfl,rfl,λc hc=>?_⟩;simp[bq,AV.cells]at hc
 rcases hc with rfl|rfl<;>rfl
def AK(es:List End):∀x∈aW es,∀c∈x.cells,iG c=true:=by
 intro x hx c hc;obtain⟨e,_,rfl⟩:=List.mem_map.1 hx;simp[bq,AV.cells]at hc
 rcases hc with rfl|rfl<;>rfl
def Ia{P:Program}{t:TypeId}{s:Nat}(h:(P.info? t).map (·.size)=some s):∃i,P.info? t=some i/\i.size=s:=by
 cases hi:P.info? t with
 |none=>rw[hi]at h;cases h
 |some i=>rw[hi]at h;exact⟨i,rfl,Option.some.inj h⟩
def iZ(t:TypeId)(s:Nat)(h:(prog.info? t).map (·.size)=some s:=by kernel_rfl):∃i,prog.info? t=some i/\i.size=s:=Ia h
def mC {P:Program} {a:Act} {o:Oper} {cl:Call} {f x:Operand} {l:Nat} (w:World) (ho:o.op = .call cl) (hc:cl.callee = .value f) (ha:cl.args = #[x]) (hf:a.eval f = .func (.yield l) #[] #[]) :
  (execOp a.eval o).run P w=(Instr.yield l #[a.eval x]).run P w:=by
 unfold execOp;simp[ho,eu hc,hf,Deferred.ofValue,invoke,ha]
def rf {P:Program} {a:Act} {o:Oper} {cl:Call} {f x:Operand} {k:Nat} {cap:Array Value} (w:World) (ho:o.op = .call cl) (hc:cl.callee = .value f) (ha:cl.args = #[x]) (hf:a.eval f = .func (.func k) #[] cap) (hk:dz P k=true) :
  (execOp a.eval o).run P w=.ok (.enter k (#[a.eval x]++cap)) w:=by
 unfold execOp;simp[ho,eu hc,hf,Deferred.ofValue,invoke,ha,fC hk]
def wg{P:Program}{a:Act}{o:Oper}{x:Operand}{t:TypeId}{b:Bool}(w:World)(ho:o.op=.unOp .not t x)(hx:a.eval x=.bool b):(execOp a.eval o).run P w=.ok (.value (.bool !b)) w:=by
 unfold execOp;simp[ho,hx,Op.unary]
def eF.weaken{W W':Nat->Bool}{a a':Act}(h:eF W a a')(hw:∀t,W' t=false->W t=false):eF W' a a':=λt ht=>h t (hw t ht)
def results_tmp{P:Program}{fn:Func}{tmps:Array Value}{t:Tmp}{v:Value}{w:World}(hr:fn.results=#[.tmp t])(h:tmps.getD t undef=v):(results fn tmps).run P w=.ok v w:=by
 rw[<-h];simp[results,hr]
def run_assign{P:Program}{a:Act}{o:Oper}{x:Operand}(w:World)(ho:o.op=.assign x):(execOp a.eval o).run P w=.ok (.value (a.eval x)) w:=by
 unfold execOp;simp only[ho]
 rfl
def St.after {X:Fx C all out fA rows} {k k':Nat} {M G:Nat→Prop} {Pr dB:Nat→Nat→Prop} {es:List End} {w w':World} (s:St X k M Pr es w) (hj:C.J k' (fun b=>(M b∨G b)∧¬ G b) dB w') (hG:∀ b,G b→¬ M b)
  (hs:∀b,M b\/G b->¬G b->w'.heap[b]?=w.heap[b]?) (hk:aL Pr dB w w'):St X k' (λb=>(M b\/G b)/\¬G b) dB es w':=by
 have wF:∀b,M b->¬G b:=λb hb hg=>hG b hg hb
 have aY:∀b,M b->w'.heap[b]?=w.heap[b]?:=λb hb=>hs b (.inl hb) (wF b hb)
 obtain⟨v,ty,j5,h1,h2,h3,h4,h5⟩:=s.now;refine⟨hj,λb hb=>?_,λb h=>⟨⟨.inl (s.mi b h).1,wF b (s.mi b h).1⟩,(s.mi b h).2.1,(aY b (s.mi b h).1).trans (s.mi b h).2.2⟩,⟨v,ty,j5,(aY _ h2).trans h1,⟨.inl h2,wF _ h2⟩,?_,h4.mono (aL.of_eq λ_ _ h=>h.elim),λb hb=>⟨⟨.inl (h5 b hb).1,wF b (h5 b hb).1⟩,(h5 b hb).2⟩⟩,s.f.mono hk λ_ _ h=>h,s.o.mono hk λ_ _ h=>h,s.e.mono (yQ (λb h=>aY b (s.mi b h).1) hk)⟩
 .have l_:M b:=hb.1.resolve_right hb.2;have:=s.lt b l_;have h2:=aY b l_;rw[Array.getElem?_eq_getElem this]at h2;exact(Array.getElem?_eq_some_iff.1 h2).1
 .refine⟨h3.1,?_⟩
  rcases h3.2 with h|⟨gg,cap,cur,rfl,mz,tC,rest⟩
  .exact .inl h
  .exact .inr ⟨gg,cap,cur,rfl,mz,(aY gg (h5 gg rfl).1).trans tC,rest⟩
def A_ {P:Program} {ρ:Operand→Value} {o:Oper} {t:TypeId} {ps:Array (Nat×Operand)} (ho:o.op = .build t ps) (w:World) (N:Value→Prop)
  (h:∀v w',(execOp ρ o).run P w=.ok (.value v) w'->N v):match(execOp ρ o).run P w with|.ok (.value v) _=>N v|.ok _ _=>False|.halt _ _=>True:=by
 have key:∀r,(execOp ρ o).run P w=r->match r with|.ok (.value v) _=>N v|.ok _ _=>False|.halt _ _=>True:=by
  intro r hr;have h0:=hr;unfold execOp at hr;simp only[ho,Sem.run_bind]at hr
  cases hb:(Instr.build t (ps.map λ(i,x)=>(i,ρ x))).run P w with
  |ok v w'=>
   rw[hb]at hr
   have:r=.ok (.value v) w':=by rw[<-hr];rfl
   subst this;exact h v w' h0
  |halt x w'=>
   rw[hb]at hr
   have:r=.halt x w':=by rw[<-hr];rfl
   subst this;trivial
 exact key _ rfl
def jS{c:Value}(h:c.oneCell'=true):c.cells=#[c]:=by cases c<;>first|rfl|cases h
def N2{u v:Value}(hu:u.oneCell'=true)(hv:v.oneCell'=true):prog.built 108 [(0,u),(1,v)]=some #[u,v]:=by
 have e:∀u v:Value,prog.built 108 [(0,u),(1,v)]=Instr.fill (λx=>#[(0,1),(1,1)][x]?) #[.slice none 0 0,.slice none 0 0] [(0,u),(1,v)]:=by intro u v;kernel_rfl
 rw[e];simp[Instr.fill,jS hu,jS hv]
def OH(es r:List End)(x:End)(m:Nat):lp es (x::r) m=ch (es++[x]) r m++lp es r m:=by
 cases m<;>rfl
def QT(es:List End)(m:Nat):ch es [] m=[es]:=by simp[ch]
def Py (hG:aw GI) (X:Fx C all out fA rows) (eD:all.length≤1000) (NI:rows≤1000) (ml:out.length≤1000) :
  ∀(d n:Nat)(es:List End)(k:Nat)(M:Nat->Prop)(Pr:Nat->Nat->Prop)(w:World)(tail:List AV),n+d=all.length->es.length<=n->St X k M Pr es w->
   xs.drop k=(ch es (all.drop n) (rows-es.length)).map (aQ out)++tail->
   Calls prog 123 #[.int .i64 n,X.cA,X.cY,X.cO,.pointer (some ⟨X.bN,0,none⟩),X.cF,X.cR] w λe w'=>∃M' dB,
    (e=.returned (.bool true)/\St X (k+(ch es (all.drop n) (rows-es.length)).length) M' dB es w')\/(e=.returned (.bool false)/\C.X M' dB w'):=by
 intro d
 induction d using Nat.strongRecOn with
 |_ d ih=>
 intro n es k M Pr w tail cT iM st iC;refine(eA (ro:=none) (m:=0)).1 (callsIn_of_wp func123 rfl trivial ?_)
 have fr:Fr X n { tmps:=#[.int .i64 n,X.cA,X.cY,X.cO,.pointer (some ⟨X.bN,0,none⟩),X.cF,X.cR]++Array.replicate (f123.ntmps-7) undef,defers:=[] }:=by
  refine⟨by simp[ntmps123],rfl,ef _ _ 0 (by simp),ef _ _ 1 (by simp),ef _ _ 2 (by simp),ef _ _ 3 (by simp),ef _ _ 4 (by simp),ef _ _ 5 (by simp),ef _ _ 6 (by simp)⟩
 generalize hc:(λe w'=>∃M' dB,(e=Ending.returned (.bool true)/\St X (k+(ch es (all.drop n) (rows-es.length)).length) M' dB es w')\/(e=.returned (.bool false)/\C.X M' dB w'))=R
 have h9:∀(a:Act)(w:World),(AV.bh).aA=AV.bh/\RV (λ_ _=>True) bU w AV.bh (a.tmps.getD 9 undef):=λa w=>⟨rfl,.bh _⟩
 refine wpIn_seq ?_;refine dK hG cV (ac:=ae.qa c123) (W:=W7) (by kernel_rfl) (by kernel_rfl) (by kernel_rfl) (C.gi st.j) (λ_ _=>True) (iw l all es out fA X.fv n .bh) fr.size fr.defers (st.gO fr (h9 _ _)) (K:=λ_ _=>True) ?_ ?_
 .simp[c123,ae.qa,bD,bg,ar,aM,ao,aB]
 intro g S' H' a w1 hg R1 _ aY;have fr:=fr.step R1.size (by rw[R1.defers,hg];rfl) aY;have st:=st.grow (by have:=R1.below;rwa [R1.base]at this);clear aY R1 hg g S' H';show Code.wpIn _ _ _ _ _ a w1;refine wpIn_seq (wpIn_seq ?_);refine dK hG cV (ac:=ae.qa c123.qb.qa) (W:=W7) (by kernel_rfl) (by kernel_rfl) (by kernel_rfl) (C.gi st.j) (λ_ _=>True) (iw l all es out fA X.fv n .bh) fr.size fr.defers (st.gO fr (h9 _ _)) (K:=λS' _=>∃b,S' 13=.bool b/\(b=true↔n=all.length)) ?_ ?_
 .simp[c123,ae.qa,ae.qb,bD,bg,ar,aM,ao,aB,aD.S,aD.H,ev,aq,aH,iw,aZ,AV.aA,ee,aW];omega
 rintro g S' H' a w2 hg R1 ⟨b,hb,hbn⟩ aY;have fr:=fr.step R1.size (by rw[R1.defers,hg];rfl) aY;have st:=st.grow (by have:=R1.below;rwa [R1.base]at this);have ht:=R1.slot 13 (by decide) (λh=>h);rw[hb]at ht;have A9:=ht.fB;clear ht aY;show Code.wpIn _ _ _ _ _ a w2;refine wpIn_cond (t:=b) A9 ?_
 cases b with
 |true=>
  have hn:n=all.length:=hbn.1 rfl
  have Nu:ch es (all.drop n) (rows-es.length)=[es]:=by rw[hn,List.drop_length];exact QT _ _
  rw[Nu]at iC hc;simp only[if_true];refine wpIn_seq ?_
  refine Lc hG cV (n:=53) (p:=6) (j:=5) (d:=19) (T:=[16,18]) (W:=W7) (l:=(c123.qb.qa.qb.qa.qa.dl).take 6) (by kernel_rfl) (by kernel_rfl) (by kernel_rfl) (by kernel_rfl) (by kernel_rfl) (by kernel_rfl) (C.gi st.j) (λ_ _=>True) (iw l all es out fA X.fv n .bh) (oj:=⟨some 19,.build 108 #[(0,.tmp 16),(1,.tmp 18)],108, "name.go:18",#[⟨2,.data⟩,⟨4,.data⟩],none⟩) ?_ rfl rfl
   (λa=>(a.tmps.getD 16 undef).oneCell'=true->(a.tmps.getD 18 undef).oneCell'=true->a.tmps.getD 19 undef=.agg #[a.tmps.getD 16 undef,a.tmps.getD 18 undef]) ?_ ?_ (by kernel_rfl) (by kernel_rfl) fr.size fr.defers (st.gO fr (h9 _ _)) (K:=λS' _=>S' 14=.val (.func (.yield l) #[] #[])/\S' 16=.slice (if(ints out).isEmpty then .nil else .own 3) (ints out)/\S' 18=.slice (if(aW es).isEmpty then .nil else .own 214) (aW es)/\
    ∃o1 o2,S' 19=.agg [.slice o1 (ints out),.slice o2 (aW es)]) ?_ ?_
  .rfl
  .intro a a' h1 h2 hN g16 g18;rw[h2 16 (by simp)]at g16⊢;rw[h2 18 (by simp)]at g18⊢;rw[h1];exact hN g16 g18
  .intro a w aI;refine A_ rfl w _ ?_;intro v w' hr
   have Sg:(a.put (some 19) v).tmps.getD 16 undef=a.tmps.getD 16 undef:=by simp[Act.put,Array.getElem?_setIfInBounds_ne]
   have QY:(a.put (some 19) v).tmps.getD 18 undef=a.tmps.getD 18 undef:=by simp[Act.put,Array.getElem?_setIfInBounds_ne]
   have Ho:(a.put (some 19) v).tmps.getD 19 undef=v:=by simp[Act.put,aI]
   show(((a.put (some 19) v).tmps.getD 16 undef).oneCell'=true->_->(a.put (some 19) v).tmps.getD 19 undef=_);rw[Sg,QY,Ho];intro g16 g18;have hb:=run_build (P:=prog) w 108 #[(0,a.tmps.getD 16 undef),(1,a.tmps.getD 18 undef)] _ (N2 g16 g18);unfold execOp at hr;simp only[Sem.run_bind,Act.eval,List.map_toArray,List.map_cons,List.map_nil]at hr;rw[hb]at hr;simp only[Result.andThen_ok,Sem.run_pure]at hr;cases hr
   rfl
  .simp[c123,ae.qa,ae.qb,ae.dl,dL,cG,aU,dc,ar,fL,ao,aM,aD.S,aD.H,ev,aq,aH,iw,aZ,AV.aA,AV.vw,AV.cells,AV.storable,AV.bF,fz,fM,jB,lR,cL,aR];refine⟨rfl,by kernel_rfl,_,JD hG _ (qe out) (by rw[bz];omega),by simp[bR],?_⟩;refine⟨rfl,by kernel_rfl,_,Ue hG _ (zW es) (by simp[aW];omega),by simp[bR],?_⟩
   by_cases ho:ints out=[]<;>by_cases he:aW es=[]<;>simp[ho,he,aq]
  .intro g' S' H' a w3 hg R3 ⟨hy,OT,UH,o1,o2,YD⟩ aY hN
   have fW:Below w2.heap.size w2 w3:=by have:=R3.below;rwa [R3.base]at this
   have fr:=fr.step R3.size (by rw[R3.defers,hg];rfl) aY;have Ew:=st.grow fW
   have L2:=(R3.slot 14 (by decide) (λh=>h))
   rw[hy]at L2;have L2:=L2.gp;obtain⟨i3,wX,uf⟩:=iZ 3 1;obtain⟨i116,C7,pF⟩:=iZ 214 2;have Ot:=R3.rT (t:=16) (by decide) (e:=3) wX (es:=ints out) OT (λx hx=>by obtain⟨k,_,rfl⟩:=List.mem_map.1 hx;exact⟨uf.symm,rfl,λc hc=>by simp[AV.cells]at hc;subst hc;rfl⟩) (λx hx c hc=>by obtain⟨k,_,rfl⟩:=List.mem_map.1 hx;simp[AV.cells]at hc;subst hc;rfl);have ML:=R3.rT (t:=18) (by decide) (e:=214) C7 (es:=aW es) UH (by rw[pF];exact tm es) (AK es);rw[R3.base]at Ot ML
   let G:Nat->Prop:=λb=>w2.heap.size<=b/\b<w3.heap.size
   have hj:C.J k (λb=>M b\/G b) Pr w3:=C.eP st.j (ft.lz fW) λb hb=>by
    rcases hb with hb|hb
    .exact⟨Ew.lt b hb,.inl hb⟩
    .exact⟨hb.2,.inr hb.1⟩
   have Ar:k<xs.length:=by
    have:=congrArg List.length iC;simp at this;omega
   have ui:xs[k]=aQ out es:=by
    have:=congrArg (·[0]?) iC;simp at this;rw[List.getElem?_eq_getElem Ar]at this;exact Option.some.inj this
   have lC:∀{u:Value}{es:List AV}{p:Nat->Nat->Prop},RD p w3 (.slice .view es) u->u.oneCell'=true:=λh=>h.one rfl
   have YD:=hN (lC Ot) (lC ML)
   have hx:RD (λb j=>Pr b j\/(G b/\j<g'.hi b)) w3 xs[k] (a.tmps.getD 19 undef):=by
    rw[ui,YD];refine .agg _ _ rfl (λi hi=>?_) (λi hi ck=>?_)
    .match i,hi with
     |0,_=>rfl
     |1,_=>rfl
    .match i,hi with
     |0,_=>exact Ot.mono (aL.same λb j _ h=>.inr h)
     |1,_=>exact ML.mono (aL.same λb j _ h=>.inr h)
   obtain⟨ff,tmps,NJ,bd,Ax,qn⟩:=C.round Ar G g'.hi _ hj (λb hb=>.inr hb) hx;show wpOpsIn _ _ _ _ _ [6,7] a w3;refine yc rfl rfl (by rfl) ?_ qn ?_
   .exact(mC (f:=.tmp 14) (x:=.tmp 19) w3 rfl rfl rfl L2).trans Ax
   .rintro e w4 ⟨FH,dB,tZ,nr⟩
    have eZ:∀{k'},C.J k' (λb=>(M b\/G b)/\¬G b) dB w4->St X k' (λb=>(M b\/G b)/\¬G b) dB es w4:=λhj=>Ew.after hj (λb hg hm=>by have:=st.lt b hm;have:=hg.1;omega) FH tZ
    obtain⟨b,rfl,hR⟩:∃b:Bool,e=.returned (.bool b)/\R (.returned (.bool b)) w4:=by
     rcases nr with⟨rfl,c_⟩|⟨rfl,EJ⟩
     .exact⟨true,rfl,by rw[<-hc];exact⟨_,_,.inl ⟨rfl,eZ c_⟩⟩⟩
     .exact⟨false,rfl,by rw[<-hc];exact⟨_,_,.inr ⟨rfl,EJ⟩⟩⟩
    refine⟨_,rfl,?_⟩
    have Qf:(a.put (some 20) (.bool b)).tmps.getD 20 undef=.bool b:=by simp[Act.put,fr.size]
    refine aK rfl rfl (by rfl) (v:=.bool b) (w':=w4) ((run_assign (x:=.tmp 20) w4 rfl).trans (congrArg (λv=>Result.ok (Next.value v) w4) Qf)) ?_;show Code.wpIn _ _ _ _ _ _ _;refine wpIn_ret ⟨fr.defers,.bool b,?_,hR⟩
    have h8:((a.put (some 20) (.bool b)).put (some 8) (.bool b)).tmps.getD 8 undef=.bool b:=by simp[Act.put,fr.size]
    show(results f123 ((a.put (some 20) (.bool b)).put (some 8) (.bool b)).tmps).run prog w4=_;exact results_tmp results123 h8
 |false=>
  have hn:n<all.length:=by
   have:¬n=all.length:=λh=>by have:=hbn.2 h;cases this
   omega
  simp only[Bool.false_eq_true,if_false];refine wpIn_skip ?_;show Code.wpIn _ _ _ _ _ a w2;refine wpIn_seq (wpIn_seq ?_);refine dK hG cV (ac:=ae.qa c123.qb.qb.qa) (W:=W7) (by kernel_rfl) (by kernel_rfl) (by kernel_rfl) (C.gi st.j) (λ_ _=>True) (iw l all es out fA X.fv n .bh) fr.size fr.defers (st.gO fr (h9 _ _)) (K:=λS' _=>S' 9=.int .i64 n) ?_ ?_
  .simp[c123,ae.qa,ae.qb,bD,bg,ar,aM,ao,aB,aD.S,aD.H,ev,aq,aH,iw,aZ,AV.aA,ee,aW]
  rintro g S' H' a w3 hg R1 yF aY;have fr:=fr.step R1.size (by rw[R1.defers,hg];rfl) aY;have st:=st.grow (by have:=R1.below;rwa [R1.base]at this);have HV:=R1.slot 9 (by decide) (λh=>h);rw[yF]at HV;have RM:=HV.int_eq;clear HV aY;show Code.wpIn _ _ _ _ _ a w3
  obtain⟨rem,zI⟩:∃rem:Nat->List (List End),rem=λi=>if es.length<rows then lp es (all.drop i) (rows-es.length-1)else[]:=⟨_,rfl⟩
  have Nu:ch es (all.drop n) (rows-es.length)=rem n:=by
   have bQ:all.drop n≠[]:=by intro h;have:=congrArg List.length h;simp at this;omega
   rw[zI];unfold ch;rw[if_neg bQ]
   by_cases av:es.length<rows
   .simp only[if_pos av]
    obtain⟨m,hm⟩:∃m,rows-es.length=m+1:=⟨rows-es.length-1,by omega⟩
    rw[hm];rfl
   .simp only[if_neg av]
    have:rows-es.length=0:=by omega
    rw[this]
  rw[Nu]at iC hc
  refine wpIn_block (wpIn_loop (λa w=>∃i k' M' dB,Fr X n a/\a.tmps.getD 9 undef=.int .i64 (i:Nat)/\n<=i/\i<=all.length/\St X k' M' dB es w/\xs.drop k'=(rem i).map (aQ out)++tail/\k'+(rem i).length=k+(rem n).length)
   (λa _=>match a.tmps.getD 9 undef with|.int _ i=>all.length-i.toNat|_=>0) ⟨n,k,M,Pr,fr,RM,Nat.le_refl _,by omega,st,iC,rfl⟩ ?_)
  clear yF RM R1 hg iC st fr;rintro a w ⟨i,k',M,Pr,fr,Xa,DA,dN,st,iC,l4⟩
  have h9':(AV.int .i64 (i:Int)).aA=.int .i64 (i:Int)/\RV (λ_ _=>True) bU w (.int .i64 (i:Int)) (a.tmps.getD 9 undef):=⟨rfl,by rw[Xa];exact .data _ _ (.int _ _)⟩
  refine wpIn_seq (wpIn_seq ?_);refine dK hG cV (ac:=ae.qa c123.qb.qb.qa.qb.qb.qb.qa) (W:=W7) (by kernel_rfl) (by kernel_rfl) (by kernel_rfl) (C.gi st.j) (λ_ _=>True) (iw l all es out fA X.fv n (.int .i64 (i:Int))) fr.size fr.defers (st.gO fr h9') (K:=λS' _=>S' 9=.int .i64 i/\∃b,S' 33=.bool b/\(b=true↔i<all.length/\es.length<rows)) ?_ ?_
  .by_cases av:i<all.length
   .have km:(i:Int)<all.length:=by omega
    simp[c123,ae.qa,ae.qb,bD,bg,ar,aM,ao,aB,aD.S,aD.H,ev,aq,aH,iw,aZ,AV.aA,ee,aW,av,X.f9,bG];omega
   .have km:¬(i:Int)<all.length:=by omega
    simp[c123,ae.qa,ae.qb,bD,bg,ar,aM,ao,aB,aD.S,aD.H,ev,aq,aH,iw,aZ,AV.aA,ee,aW,av,X.f9,bG]
  rintro g S' H' a' w' hg R1 ⟨Wq,b,hb,Qs⟩ aY;have F8:=fr.step R1.size (by rw[R1.defers,hg];rfl) aY;have rG:=st.grow (by have:=R1.below;rwa [R1.base]at this);have HV:=R1.slot 9 (by decide) (λh=>h);rw[Wq]at HV;have Rx:=HV.int_eq;have Pt:=R1.slot 33 (by decide) (λh=>h);rw[hb]at Pt;have N_:=Pt.fB;show Code.wpIn _ _ _ _ _ a' w';refine wpIn_cond (t:=b) N_ ?_
  cases b with
  |false=>
   simp only[Bool.false_eq_true,if_false];refine wpIn_exit ?_
   have dZ:¬(i<all.length/\es.length<rows):=λh=>by have:=Qs.2 h;cases this
   have OZ:rem i=[]:=by
    rw[zI]
    by_cases av:es.length<rows
    .have:i=all.length:=by
      rcases Nat.lt_or_ge i all.length with h|h
      .exact absurd ⟨h,av⟩ dZ
      .omega
     simp only[if_pos av,this,List.drop_length]
     rfl
    .simp only[if_neg av]
   rw[OZ]at l4;simp only[Exit.then,Exit.inBlock,if_true];refine wpIn_seq ?_;refine wpIn_region ?_;show wpOpsIn _ _ _ _ _ [0] a' w';refine aK rfl rfl (by rfl) (v:=.bool true) (w':=w') (run_assign (x:=.const (.bool true)) w' rfl) ?_;show Code.wpIn _ _ _ _ _ _ _;refine wpIn_ret ⟨F8.defers,.bool true,?_,?_⟩
   .have h8:(a'.put (some 8) (.bool true)).tmps.getD 8 undef=.bool true:=by simp[Act.put,F8.size]
    show(results f123 (a'.put (some 8) (.bool true)).tmps).run prog w'=_;exact results_tmp results123 h8
   .rw[<-hc];refine⟨M,Pr,.inl ⟨rfl,?_⟩⟩;rw[<-l4];exact rG
  |true=>
   obtain⟨av,SN⟩:=Qs.1 rfl;simp only[if_true];refine wpIn_skip ?_;show Code.wpIn _ _ _ _ _ a' w';clear Pt N_ HV hb Wq R1 hg aY;refine wpIn_seq (wpIn_block (wpIn_seq ?_));obtain⟨v,ty,j5,hN,Oo,cE,sy,G7⟩:=rG.now;obtain⟨i116,C7,pF⟩:=iZ 214 2
   have Vd:(aW es).length=es.length:=by simp[aW]
   refine BU cV (n:=53) (ac:=ae.qa uK.qb.qa.qb) (by kernel_rfl) (by kernel_rfl) (by kernel_rfl) (W:=BN) (by kernel_rfl) (λb k=>X.MI b\/Pr b k)
    (λt=>match t with|1=>.ref [.slice .view (aW all)]|4=>.box 4 0|9=>.int .i64 (i:Int)|_=>.bh) (nm:=4) (tp:=4) (es:=aW es) (es':=aW (es++[all[i]])) (by decide) rfl F8.t4 F8.size F8.defers hN C7 (by rw[pF,Vd];exact cE) (by rw[pF];exact sy.mono (aL.same λ_ _ _ h=>h.elim)) ?_ ?_ (by rw[pF];exact tm _) (AK _) ?_
   .intro t ht;split
    .exact⟨rfl,.inr (by rw[F8.t1];exact rG.RX)⟩
    .exact⟨rfl,.inl ⟨rfl,F8.t4⟩⟩
    .exact⟨rfl,.inr (by rw[Rx];exact .data _ _ (.int _ _))⟩
    .exact⟨rfl,.inr (.bh _)⟩
   .have bQ:¬(i:Int)<0:=by omega
    have uF:es.length+1<1048576:=by omega
    cases zz:v.ownBlock with
    |none=>
     have he:es=[]:=by
      rcases cE.2 with⟨_,h⟩|⟨gg,cap,cur,rfl,_⟩
      .exact List.eq_nil_of_length_eq_zero h
      .cases zz
     subst he;simp[c123,uK,ae.qa,ae.qb,bD,dL,cG,aU,dc,ar,fL,ao,aM,aD.S,aD.H,ev,aq,aH,aZ,AV.aA,AV.vw,AV.cells,AV.storable,AV.bF,aB,kz,zz,HR.okB,a_,aW,bq,av,aF,aR,AV.bm,bQ]
    |some bv=>
     simp[c123,uK,ae.qa,ae.qb,bD,dL,cG,aU,dc,ar,fL,ao,aM,aD.S,aD.H,ev,aq,aH,aZ,AV.aA,AV.vw,AV.cells,AV.storable,AV.bF,aB,kz,zz,HR.okB,a_,aW,bq,av,aF,aR,AV.bm,bQ,uF]
   .intro a2 w2 v' sU SA AU FZ gM MY qi zg gf pV;have Ge:=F8.step AU FZ (eF.weaken gM λt ht=>by simp[W7]at ht;simp[BN];omega);have PN:a2.tmps.getD 9 undef=.int .i64 (i:Int):=(gM 9 rfl).trans Rx
    have Bo:∀b,(b=X.bN\/v.ownBlock=some b)->M b/\¬X.MI b:=by
     rintro b (rfl|hb)
     .exact⟨Oo,λh=>(rG.mi _ h).2.1 rfl⟩
     .exact G7 b hb
    have lO:aL Pr Pr w' w2:=aL.iO λb k av hp=>gf.block b av λhm=>C.apart rG.j b k (Bo b hm).1 hp
    have Cq:∀b,X.MI b->w2.heap[b]?=w'.heap[b]?:=λb h=>gf.block b (rG.lt b (rG.mi b h).1) λhm=>(Bo b hm).2 h
    have Oh:(aW (es++[all[i]])).length=(es++[all[i]]).length:=by simp[aW]
    have Lm:St X k' (λb=>M b\/(w'.heap.size<=b/\b<w2.heap.size)) Pr (es++[all[i]]) w2:=by
     refine⟨C.eP rG.j (M':=λb=>M b\/(w'.heap.size<=b/\b<w2.heap.size)) ⟨gf.os,gf.tape,gf.output,gf.size,λb hb hm=>gf.block b hb λh=>hm (Bo b h).1⟩ λb hb=>?_,λb hb=>?_,λb h=>⟨.inl (rG.mi b h).1,(rG.mi b h).2.1,(Cq b h).trans (rG.mi b h).2.2⟩,⟨v',sU,SA,MY,.inl Oo,?_,?_,λb hb=>?_⟩,rG.f.mono lO λ_ _ h=>h,rG.o.mono lO λ_ _ h=>h,rG.e.mono (yQ Cq lO)⟩
     .rcases hb with hb|hb
      .exact⟨Nat.lt_of_lt_of_le (rG.lt b hb) gf.size,.inl hb⟩
      .exact⟨hb.2,.inr hb.1⟩
     .rcases hb with hb|hb
      .exact Nat.lt_of_lt_of_le (rG.lt b hb) gf.size
      .exact hb.2
     .rw[pF,Oh]at qi;exact qi
     .rw[pF]at zg;exact zg
     .rcases pV b hb with h|h
      .exact⟨.inl (G7 b h).1,(G7 b h).2⟩
      .refine⟨.inr ⟨h,(qi.lt b hb).2⟩,λhm=>?_⟩;have:=rG.lt b (rG.mi b hm).1;omega
    clear Bo lO Cq pV qi zg MY gf;show Code.wpIn _ _ _ _ _ a2 w2
    have Z0:(AV.int .i64 (i:Int)).aA=.int .i64 (i:Int)/\RV (λ_ _=>True) bU w2 (.int .i64 (i:Int)) (a2.tmps.getD 9 undef):=⟨rfl,by rw[PN];exact .data _ _ (.int _ _)⟩
    refine wpIn_seq (wpIn_seq ?_);refine mP hG (p:=3) (l2:=[3,4]) rfl (by kernel_rfl) (by kernel_rfl) (l:=(uK.qb.qa.qb.qb.qa.qa.dl).take 3) (by kernel_rfl) (by decide) (W:=BN) (by kernel_rfl) (C.gi Lm.j) (λ_ _=>True) (iw l all (es++[all[i]]) out fA X.fv n (.int .i64 (i:Int))) Ge.size Ge.defers (Lm.gO Ge Z0) (K:=λS' _=>S' 43=.val X.fv/\S' 45=.int .i64 ((i+1:Nat):Int)) ?_ ?_
    .have uS:IntKind.i64.wrap ((i:Int)+1)=i+1:=bf (by omega);simp[c123,uK,ae.qa,ae.qb,ae.dl,bg,ar,aM,ao,aD.S,aD.H,ev,aq,aH,iw,aZ,AV.aA,ee,uS]
    rintro g S' H' a3 w3 hg R1 ⟨h43,Sr⟩ oe;have NY:=Ge.step R1.size (by rw[R1.defers,hg];rfl) (eF.weaken oe λt ht=>by simp[W7]at ht;simp[BN];omega);have Ew:=Lm.grow (by have:=R1.below;rwa [R1.base]at this);have h93:a3.tmps.getD 9 undef=.int .i64 (i:Int):=(oe 9 rfl).trans PN;have LC:=R1.slot 43 (by decide) (λh=>h);rw[h43]at LC;have LC:=LC.gp;have JU:=R1.slot 45 (by decide) (λh=>h);rw[Sr]at JU;have JU:=JU.int_eq;clear R1 hg oe;have Ad:all.drop i=all[i]::all.drop (i+1):=List.drop_eq_getElem_cons av
    have OZ:rem i=ch (es++[all[i]]) (all.drop (i+1)) (rows-(es++[all[i]]).length)++rem (i+1):=by
     rw[zI];simp only[if_pos SN,Ad,OH]
     congr 2
     simp;omega
    rw[OZ]at iC l4;rw[List.map_append,List.append_assoc]at iC;have jv:=ih (all.length-(i+1)) (by omega) (i+1) (es++[all[i]]) k' _ Pr w3 _ (by omega) (by simp;omega) Ew iC;refine ik rfl rfl (by rfl) (rf (f:=.tmp 43) (x:=.tmp 45) w3 rfl rfl rfl LC (by kernel_rfl)) (R:=λe w'=>∃M' dB,(e=.returned (.bool true)/\St X (k'+(ch (es++[all[i]]) (all.drop (i+1)) (rows-(es++[all[i]]).length)).length) M' dB (es++[all[i]]) w')\/(e=.returned (.bool false)/\C.X M' dB w')) ?_ ?_
    .have : #[a3.eval (.tmp 45)] ++ #[X.cA,X.cY,X.cO,.pointer (some ⟨X.bN,0,none⟩),X.cF,X.cR] = #[.int .i64 ((i+1:Nat):Int),X.cA,X.cY,X.cO,.pointer (some ⟨X.bN,0,none⟩),X.cF,X.cR]:=by
      show #[a3.tmps.getD 45 undef]++_=_;rw[JU];rfl
     rw[this];exact jv
    rintro e w4 ⟨M4,vn,nr⟩
    obtain⟨b,rfl⟩:∃b:Bool,e=.returned (.bool b):=by rcases nr with⟨rfl,_⟩|⟨rfl,_⟩<;>exact⟨_,rfl⟩
    refine⟨_,rfl,?_⟩
    have h46:(a3.put (some 46) (.bool b)).tmps.getD 46 undef=.bool b:=by simp[Act.put,NY.size]
    refine aK rfl rfl (by rfl) (v:=.bool !b) (w':=w4) (wg (x:=.tmp 46) w4 rfl h46) ?_;show Code.wpIn _ _ _ _ _ ((a3.put (some 46) (.bool b)).put (some 47) (.bool !b)) w4
    obtain⟨a4,hZ⟩:∃a4,(a3.put (some 46) (.bool b)).put (some 47) (.bool !b)=a4:=⟨_,rfl⟩
    rw[hZ]
    have cz:∀(a:Act)(d t:Nat)(c:Value),t≠d->(a.put (some d) c).tmps.getD t undef=a.tmps.getD t undef:=λa d t c h=>by
     simp[Act.put,Array.getElem?_setIfInBounds_ne (Ne.symm h)]
    have FH:eF BN a3 a4:=λt ht=>by
     have:t<36:=by simp[BN]at ht;omega
     rw[<-hZ,cz _ _ _ _ (by omega),cz _ _ _ _ (by omega)]
    have FX:a4.tmps.size=53:=by rw[<-hZ];simp[Act.put,NY.size]
    have XJ:a4.defers=[]:=by rw[<-hZ];exact NY.defers
    have y5:=NY.step FX XJ (eF.weaken FH λt ht=>by simp[W7]at ht;simp[BN];omega);have h94:a4.tmps.getD 9 undef=.int .i64 (i:Int):=(FH 9 rfl).trans h93
    have h47:a4.tmps.getD 47 undef=.bool !b:=by rw[<-hZ];simp[Act.put,NY.size]
    refine wpIn_cond (t:=!b) h47 ?_
    cases b with
    |false=>
     have hX:C.X M4 vn w4:=by
      rcases nr with⟨h,_⟩|⟨_,h⟩
      .cases h
      .exact h
     simp only[Bool.not_false,if_true];refine wpIn_seq ?_;refine wpIn_region ?_;show wpOpsIn _ _ _ _ _ [0] a4 w4;refine aK rfl rfl (by rfl) (v:=.bool false) (w':=w4) (run_assign (x:=.const (.bool false)) w4 rfl) ?_;show Code.wpIn _ _ _ _ _ _ _;refine wpIn_ret ⟨y5.defers,.bool false,?_,?_⟩
     .have h8:(a4.put (some 8) (.bool false)).tmps.getD 8 undef=.bool false:=by simp[Act.put,y5.size]
      show(results f123 (a4.put (some 8) (.bool false)).tmps).run prog w4=_;exact results_tmp results123 h8
     .rw[<-hc];exact⟨M4,vn,.inr ⟨rfl,hX⟩⟩
    |true=>
     have mb:St X (k'+(ch (es++[all[i]]) (all.drop (i+1)) (rows-(es++[all[i]]).length)).length) M4 vn (es++[all[i]]) w4:=by
      rcases nr with⟨_,h⟩|⟨h,_⟩
      .exact h
      .cases h
     simp only[Bool.not_true,Bool.false_eq_true,if_false];refine wpIn_skip ?_;show Code.wpIn _ _ _ _ _ a4 w4;obtain⟨v4,Lj,Eu,KP,AD,zj,MR,O2⟩:=mb.now
     have U6:Eu.length=(es.length+1)*2:=by have:=zj.1;simpa using this
     obtain⟨i29,Ys,Ws⟩:=iZ 106 1;refine wpIn_region ?_;show wpOpsIn _ _ _ _ _ [0,1,2,3,4,5] a4 w4
     refine NF (P:=prog) (n:=53) (T:=106) (el:=214) (p:=4) (t1:=48) (t2:=49) (t3:=50) (t4:=51) (t5:=52) (bN:=X.bN) (i:=i116) (iT:=i29) (v:=v4) (ty:=Lj) (k:=es.length) (xs:=Eu.take (es.length*2)) (last:=Eu.drop (es.length*2))
      rfl rfl rfl rfl rfl rfl ⟨rfl,rfl,rfl⟩ ⟨rfl,rfl,rfl⟩ ⟨rfl,rfl,rfl⟩ ⟨rfl,rfl,rfl⟩ ⟨rfl,rfl,rfl⟩ ⟨rfl,rfl,rfl⟩ rfl rfl rfl (by kernel_rfl) Ys Ws C7 (by decide) y5.size (by decide) y5.t4 KP (by rw[List.take_append_drop,pF];simpa using zj) (by rw[pF,List.length_take,U6];omega) (by omega) ?_
     intro a5 v5 Wt XR XN Vr aax Dq
     have tC:∀b,v5.ownBlock=some b->M4 b/\¬X.MI b:=λb hb=>O2 b (by rw[<-Vr];exact hb)
     have lY:∀b,b≠X.bN->(w4.setRow X.bN #[v5]).heap[b]?=w4.heap[b]?:=λb hb=>setRow_other w4 X.bN b #[v5] hb
     have sN:(w4.setRow X.bN #[v5]).heap.size=w4.heap.size:=by simp
     have Lg:aL vn vn w4 (w4.setRow X.bN #[v5]):=aL.iO λb k _ hp=>lY b (by rintro rfl;exact C.apart mb.j _ k AD hp)
     have Hx:St X (k'+(ch (es++[all[i]]) (all.drop (i+1)) (rows-(es++[all[i]]).length)).length) M4 vn es (w4.setRow X.bN #[v5]):=by
      refine⟨C.eP mb.j ⟨rfl,rfl,rfl,by rw[sN];exact Nat.le_refl _,λb _ hm=>lY b (by rintro rfl;exact hm AD)⟩ λb hb=>⟨by rw[sN];exact mb.lt b hb,.inl hb⟩,λb hb=>by rw[sN];exact mb.lt b hb,λb h=>⟨(mb.mi b h).1,(mb.mi b h).2.1,(lY b (mb.mi b h).2.1).trans (mb.mi b h).2.2⟩,
       ⟨v5,Lj,Eu.take (es.length*2),setRow_heap w4 X.bN _ #[v5] Lj (0,0) KP,AD,?_,?_,tC⟩,mb.f.mono Lg λ_ _ h=>h,mb.o.mono Lg λ_ _ h=>h,mb.e.mono (yQ (λb h=>lY b (mb.mi b h).2.1) Lg)⟩
      .rw[pF]at Dq;refine⟨Dq.1,?_⟩
       rcases Dq.2 with h|⟨gg,cap,cur,rfl,mz,Nl,rest⟩
       .exact .inl h
       .exact .inr ⟨gg,cap,cur,rfl,mz,(lY gg (by omega)).trans Nl,rest⟩
      .refine⟨tm es,λj hj k hk=>?_⟩
       have Pv:j<es.length:=by simpa[aW]using hj
       have c_:j<(aW (es++[all[i]])).length:=by simp[aW];omega
       have j0:(aW (es++[all[i]]))[j]=(aW es)[j]:=by
        simp only[aW,List.map_append,List.map_cons,List.map_nil];exact List.getElem_append_left (by simpa using Pv)
       obtain⟨u,u1,u2⟩:=MR.2 j c_ k (by rw[j0];exact hk);refine⟨u,?_,?_⟩
       .have lO:k < 2:=by
         have:=tm es _ (List.getElem_mem hj);rw[this.1]at hk;exact hk
        rw[List.getElem?_take_of_lt (by omega)];exact u1
       .simp only[j0]at u2;exact u2.mono (aL.of_eq λ_ _ h=>h.elim)
     have Ms:eF BN a4 a5:=λt ht=>by
      have:t<36:=by simp[BN]at ht;omega
      exact XN t (by omega) (by omega) (by omega) (by omega) (by omega)
     have P8:=y5.step Wt (XR.trans y5.defers) (eF.weaken Ms λt ht=>by simp[W7]at ht;simp[BN];omega);have h95:a5.tmps.getD 9 undef=.int .i64 (i:Int):=(Ms 9 rfl).trans h94;clear lY tC Lg Dq Ms XN sN;generalize w4.setRow X.bN #[v5]=w5 at Hx⊢;simp only[Exit.then,Exit.inBlock]
     have Zy:(AV.int .i64 (i:Int)).aA=.int .i64 (i:Int)/\RV (λ_ _=>True) bU w5 (.int .i64 (i:Int)) (a5.tmps.getD 9 undef):=⟨rfl,by rw[h95];exact .data _ _ (.int _ _)⟩
     refine dK hG cV (ac:=ae.qb uK.qb) (W:=W7) (by kernel_rfl) (by kernel_rfl) (by kernel_rfl) (C.gi Hx.j) (λ_ _=>True) (iw l all es out fA X.fv n (.int .i64 (i:Int))) P8.size P8.defers (Hx.gO P8 Zy) (K:=λS' _=>S' 9=.int .i64 ((i+1:Nat):Int)) ?_ ?_
     .have uS:IntKind.i64.wrap ((i:Int)+1)=i+1:=bf (by omega);simp[c123,uK,ae.qa,ae.qb,bD,bg,ar,aM,ao,aB,aD.S,aD.H,ev,aq,aH,iw,AV.aA,ee,uS]
     intro g S' H' a6 w6 hg R1 h96 Qq;have fr6:=P8.step R1.size (by rw[R1.defers,hg];rfl) Qq;have st6:=Hx.grow (by have:=R1.below;rwa [R1.base]at this);have O3:=R1.slot 9 (by decide) (λh=>h);rw[h96]at O3;have O3:=O3.int_eq;refine⟨⟨i+1,_,M4,vn,fr6,O3,by omega,by omega,st6,?_,?_⟩,?_⟩
     .rw[<-List.drop_drop,iC,List.drop_append_of_le_length (by simp)];simp
     .have e:=@List.length_append _ (ch (es++[all[i]]) (all.drop (i+1)) (rows-(es++[all[i]]).length)) (rem (i+1));omega
     .rw[O3,Xa];show all.length-((i+1:Nat):Int).toNat<all.length-(i:Int).toNat;rw[Int.toNat_natCast,Int.toNat_natCast];omega
end Go.Proofs.Tryz
namespace Go.Proofs.Tryz
open Go Go.AL Go.RowKit Go.Proofs Go.Proofs.Tram
variable{GI:World->Prop}
def j6{vs:Array Value}(h:vs.size=1):∃v,vs=#[v]:=⟨vs[0],by
 apply Array.ext
 .simpa using h
 .intro i h1 h2
  have:i=0:=by simpa using h2
  subst this;rfl⟩
def JB{P:Program}{t:TypeId}(h:(P.underlying t).map eB=some false):∃d,P.underlying t=some d/\eB d=false:=by
 cases hi:P.underlying t with
 |none=>rw[hi]at h;cases h
 |some i=>rw[hi]at h;exact⟨i,rfl,Option.some.inj h⟩
def vZ(t:TypeId)(h:(prog.underlying t).map eB=some false:=by kernel_rfl):∃d,prog.underlying t=some d/\eB d=false:=JB h
def nq:AV.bF∘AV.aA=AV.bF:=by
 funext v
 cases v<;>try rfl
 rename_i o es;cases o<;>rfl
def RD.zU{Pr:Nat->Nat->Prop}{w:World}{o:Ow}{es:List AV}{c:Value}(h:RD Pr w (.slice o es) c):RD Pr w (.slice .view es) c:=by
 cases h with
 |gy=>exact .gy _
 |slice _ _ b off cap size cs dX hn aI h1 hc hr=>exact .slice _ _ b off cap size cs dX (λh=>by cases h) aI h1 hc hr
 |iF _ a=>exact .iF _ a
def Tk (hG:aw GI) {oE:Ow} {all:List End} {out:List Int} {fA:List AV} {rows:Nat} (eD:all.length≤1000) (NI:rows≤1000) (ml:out.length≤1000) (sy:fA.length=11) (Qk:∀ x∈fA.take 10,x.storable=true∧x.one=true∧x.aA=x) (h9:fA[9]? = some (.int .i64 rows))
  (Up:AC prog GI 122 [.agg ((fA.take 10).map AV.bF),vI out] (.ret (.slice oE (aW all)))):
  nK prog GI 121 [.ref fA,.ref [vI out]] ((ch [] all rows).map (aQ out)):=by
 intro l C w Pr bp hJ hlen hr
 obtain⟨cF,cO,rfl⟩:∃cF cO,bp=#[cF,cO]:=by
  have:bp.size=2:=by simpa using hlen.symm
  exact⟨bp[0],bp[1],by
   apply Array.ext
   .simpa using this
   .intro i h1 h2
    match i,h2 with
    |0,_=>rfl
    |1,_=>rfl⟩
 have TD:=hr 0 (by simp) (by simp);have TV:=hr 1 (by simp) (by simp);simp only[List.getElem_cons_zero,List.getElem_cons_succ,List.getElem_toArray]at TD TV;refine(eA (ro:=none) (m:=0)).1 (callsIn_of_wp func121 rfl trivial ?_);have bP:=C.gi hJ
 have R:Rel prog w 14 bu _ (AL.start [.val (.func (.yield l) #[] #[]),.ref fA,.ref [vI out]]) (λ_=>none) { tmps:=(#[.func (.yield l) #[] #[]]++#[cF,cO])++Array.replicate (f121.ntmps-(#[Value.func (.yield l) #[] #[]]++#[cF,cO]).size) undef,defers:=[] } w:=Rel.begin (args:=[.val (.func (.yield l) #[] #[]),.ref fA,.ref [vI out]]) (old:=Pr) ntmps121 (by simp) rfl (λi h h'=>by
  match i,h with
  |0,_=>exact .data _ _ (.val _ rfl)
  |1,_=>exact TD
  |2,_=>exact TV)
 have e1:({ tmps:=(#[Value.func (.yield l) #[] #[]]++#[cF,cO])++Array.replicate (f121.ntmps-(#[Value.func (.yield l) #[] #[]]++#[cF,cO]).size) undef,defers:=[] }:Act).tmps.getD 1 undef=cF:=ef _ _ 1 (by simp);have e2:({ tmps:=(#[Value.func (.yield l) #[] #[]]++#[cF,cO])++Array.replicate (f121.ntmps-(#[Value.func (.yield l) #[] #[]]++#[cF,cO]).size) undef,defers:=[] }:Act).tmps.getD 2 undef=cO:=ef _ _ 2 (by simp)
 have W3:∃W:Nat->Bool,W=λt=>decide (3<=t):=⟨_,rfl⟩
 refine wpIn_seq ?_;refine dT R hG bP cV (ac:=ae.qa c121) (W:=λt=>decide (3<=t)) (by kernel_rfl) (by kernel_rfl) (by kernel_rfl) (λ_ h=>h) (K:=λS' H'=>S' 1=.ref fA/\S' 2=.ref [vI out]/\S' 3=.box 3 0/\H' 3=some [.val (.func (.yield l) #[] #[])]) ?_ ?_
 .simp[c121,ae.qa,bD,bg,ar,aM,aB,ev,AL.start,AV.aA,AV.cells,AV.storable,aq,aT,vI]
 rintro g1 S1 H1 a1 w1 lH R1 ⟨s1,s2,s3,h3⟩ BS;refine wpIn_seq ?_;refine dT R1 hG bP cV (ac:=ae.qa c121.qb) (W:=λt=>decide (3<=t)) (by kernel_rfl) (by kernel_rfl) (by kernel_rfl) (by rw[lH];exact λ_ h=>h) (K:=λS' H'=>S' 3=.box 3 0/\S' 4=.box 4 0/\H' 3=some [.val (.func (.yield l) #[] #[])]/\H' 4=some [.slice oE (aW all)]) ?_ ?_
 .simp[c121,ae.qa,ae.qb,bD,bg,ar,aM,aB,ev,ao,aD.S,aD.H,aH,aZ,s1,s2,s3,h3,aq,AV.aA,vI,sy,jB]
  have e8:fz H1 (.agg (List.take 10 (List.map AV.aA fA)))=.agg ((fA.take 10).map AV.bF):=by
   simp only[fz,fM,AV.vw,<-List.map_take,List.map_map,nq]
  have e9:fz H1 (.slice .view (ints out))=vI out:=rfl;rw[e8,e9];refine⟨by kernel_rfl,_,Up,by simp[bR],?_⟩
  cases oE<;>simp[lR,aT,AV.cells,AV.storable,HR.okB,a_,aR,AV.bm,aq,AV.aA,s3,h3]
 rintro g2 S2 H2 a2 w2 oV R2 ⟨t3,t4,k3,k4⟩ DR;have gx:g2.base=w.heap.size:=R2.base
 have fW:Below w.heap.size w w2:=by have:=R2.below;rwa [gx]at this
 obtain⟨bY,hY⟩:∃b,g2.al 3=some b/\a2.tmps.getD 3 undef=.pointer (some ⟨b,0,none⟩):=by
  have h:=R2.slot 3 (by decide) (λh=>h);rw[t3]at h;generalize a2.tmps.getD 3 undef=c at h
  cases h with
  |data _ _ h=>cases h
  |box _ _ b h=>exact⟨b,h,rfl⟩
 obtain⟨bA,hA⟩:∃b,g2.al 4=some b/\a2.tmps.getD 4 undef=.pointer (some ⟨b,0,none⟩):=by
  have h:=R2.slot 4 (by decide) (λh=>h);rw[t4]at h;generalize a2.tmps.getD 4 undef=c at h
  cases h with
  |data _ _ h=>cases h
  |box _ _ b h=>exact⟨b,h,rfl⟩
 obtain⟨csY,vsY,tyY,q1,q2,q3,q4,q5,q6,q7,q8,q9⟩:=R2.box 3 bY hY.1;rw[k3]at q1;cases q1
 have hvY:vsY=#[.func (.yield l) #[] #[]]:=by
  have h0:=q7 0 (by simp) (by rw[<-q6];simp);simp only[List.getElem_cons_zero]at h0;apply Array.ext
  .rw[<-q6];rfl
  .intro i h1 h2
   have:i=0:=by simpa using h2
   subst this;exact(RV.data (al:=bU) _ _ h0).gp
 subst hvY;obtain⟨csA,vsA,tyA,r1,r2,r3,r4,r5,r6,r7,r8,r9⟩:=R2.box 4 bA hA.1;rw[k4]at r1;cases r1;obtain⟨BF,rfl⟩:=j6 (vs:=vsA) (by rw[<-r6];rfl);have Lo:=r7 0 (by simp) (by simp);have hO0:=r8 0 (by simp) (by simp);simp only[List.getElem_cons_zero,List.getElem_toArray]at Lo hO0
 have kY:RD (λb k=>(b<w.heap.size/\Pr b k)\/(w.heap.size<=b/\b<w2.heap.size)) w2 (.slice .view (aW all)) BF:=by
  have hd:=Lo.aA
  have hd:RD g2.Pr w2 (.slice .view (aW all)) BF:=by
   have e:RD g2.Pr w2 (.slice oE (aW all)) BF:=Lo;exact RD.zU e
  refine hd.mono (aL.of_eq λb k hp=>⟨?_,rfl⟩)
  rcases hp with⟨h1,h2⟩|⟨h1,h2⟩
  .rw[oV,lH]at h2;exact .inl ⟨by rw[<-gx];exact h1,h2⟩
  .refine .inr ⟨by rw[<-gx];exact h1,?_⟩
   by_cases av:b<w2.heap.size
   .exact av
   .rw[(R2.fresh b (by omega)).1]at h2;omega
 have hbY:w.heap.size<=bY/\bY<w2.heap.size:=⟨by rw[<-gx];exact q2,(Array.getElem?_eq_some_iff.1 q3).1⟩
 have Oe:w.heap.size<=bA/\bA<w2.heap.size:=⟨by rw[<-gx];exact r2,(Array.getElem?_eq_some_iff.1 r3).1⟩
 have e1:a2.tmps.getD 1 undef=cF:=((BS.trans DR) 1 rfl).trans e1;have e2:a2.tmps.getD 2 undef=cO:=((BS.trans DR) 2 rfl).trans e2;have AU:a2.tmps.size=14:=R2.size
 have FZ:a2.defers=[]:=by rw[R2.defers,oV,lH];rfl
 obtain⟨bN,MQ⟩:∃bN,w2.heap.size=bN:=⟨_,rfl⟩
 have cz:∀(a:Act)(d t:Nat)(c:Value),t≠d->(a.put (some d) c).tmps.getD t undef=a.tmps.getD t undef:=λa d t c h=>by
  simp[Act.put,Array.getElem?_setIfInBounds_ne (Ne.symm h)]
 have eO:∀(a:Act)(d:Nat)(c:Value),a.tmps.size=14->d<14->(a.put (some d) c).tmps.getD d undef=c:=λa d c h hd=>by
  simp[Act.put,h,hd]
 have fJ:∀(a:Act)(d:Option Nat)(c:Value),(a.put d c).tmps.size=a.tmps.size:=λa d c=>by cases d<;>simp[Act.put]
 have vU:∀(a:Act)(d:Option Nat)(c:Value),(a.put d c).defers=a.defers:=λa d c=>by cases d<;>rfl
 refine wpIn_seq (wpIn_region ?_);show wpOpsIn _ _ _ _ _ [0] a2 w2;refine aK rfl rfl (by rfl) (ju (t:=106) (z:=.slice none 0 0) rfl (by kernel_rfl)) ?_;show Code.wpIn _ _ _ _ _ (a2.put (some 5) (.pointer (some ⟨w2.heap.size,0,none⟩))) (w2.alloc (.cells #[.slice none 0 0] 106))
 obtain⟨a3,l8⟩:∃a3,a2.put (some 5) (.pointer (some ⟨w2.heap.size,0,none⟩))=a3:=⟨_,rfl⟩
 obtain⟨w3,mW⟩:∃w3,w2.alloc (.cells #[.slice none 0 0] 106)=w3:=⟨_,rfl⟩
 have MT:w3.heap.size=bN+1:=by rw[<-mW,<-MQ];simp
 have ZS:w3.heap[bN]?=some (.cells #[.slice none 0 0] 106 (0,0)):=by rw[<-mW,<-MQ];exact World.alloc_heap_new w2 _
 have Xy:∀b,b<bN->w3.heap[b]?=w2.heap[b]?:=λb hb=>by rw[<-mW];exact Below.heap_alloc _ _ _ (by omega)
 rw[l8,mW];refine wpIn_seq (wpIn_region ?_);show wpOpsIn _ _ _ _ _ [0] a3 w3;refine aK rfl rfl (by rfl) (ju (t:=121) (z:=.nilFunc) rfl (by kernel_rfl)) ?_;show Code.wpIn _ _ _ _ _ (a3.put (some 6) (.pointer (some ⟨w3.heap.size,0,none⟩))) (w3.alloc (.cells #[.nilFunc] 121))
 obtain⟨a4,hZ⟩:∃a4,a3.put (some 6) (.pointer (some ⟨w3.heap.size,0,none⟩))=a4:=⟨_,rfl⟩
 obtain⟨w4,ib⟩:∃w4,w3.alloc (.cells #[.nilFunc] 121)=w4:=⟨_,rfl⟩
 have Z_:w4.heap.size=bN+2:=by rw[<-ib];simp[MT]
 have Rt:w4.heap[bN+1]?=some (.cells #[.nilFunc] 121 (0,0)):=by rw[<-ib,<-MT];exact World.alloc_heap_new w3 _
 have RC:∀b,b<bN+1->w4.heap[b]?=w3.heap[b]?:=λb hb=>by rw[<-ib];exact Below.heap_alloc _ _ _ (by omega)
 rw[hZ,ib]
 have z3:a3.tmps.size=14:=by rw[<-l8,fJ];exact AU
 have z4:a4.tmps.size=14:=by rw[<-hZ,fJ];exact z3
 have u5:a4.tmps.getD 5 undef=.pointer (some ⟨bN,0,none⟩):=by rw[<-hZ,cz _ _ _ _ (by decide),<-l8,eO _ _ _ AU (by decide),MQ]
 have u6:a4.tmps.getD 6 undef=.pointer (some ⟨bN+1,0,none⟩):=by rw[<-hZ,eO _ _ _ z3 (by decide),MT]
 have u:∀t,t<5->a4.tmps.getD t undef=a2.tmps.getD t undef:=λt ht=>by rw[<-hZ,cz _ _ _ _ (by omega),<-l8,cz _ _ _ _ (by omega)]
 refine wpIn_seq (wpIn_region ?_);show wpOpsIn _ _ _ _ _ [0,1] a4 w4;refine aK rfl rfl (by rfl) (oB (fn:=.func 123) (c:=#[.tmp 4,.tmp 3,.tmp 2,.tmp 5,.tmp 1,.tmp 6]) rfl) ?_
 have dX:(#[Operand.tmp 4,.tmp 3,.tmp 2,.tmp 5,.tmp 1,.tmp 6].map a4.eval)=#[.pointer (some ⟨bA,0,none⟩),.pointer (some ⟨bY,0,none⟩),cO,.pointer (some ⟨bN,0,none⟩),cF,.pointer (some ⟨bN+1,0,none⟩)]:=by
  simp only[List.map_toArray,List.map_cons,List.map_nil,Act.eval];rw[u 4 (by omega),u 3 (by omega),u 2 (by omega),u5,u 1 (by omega),u6,hA.2,hY.2,e2,e1]
 rw[dX]
 obtain⟨fv,rK⟩:∃fv:Value,fv=.func (.func 123) #[] #[.pointer (some ⟨bA,0,none⟩),.pointer (some ⟨bY,0,none⟩),cO,.pointer (some ⟨bN,0,none⟩),cF,.pointer (some ⟨bN+1,0,none⟩)]:=⟨_,rfl⟩
 rw[<-rK]
 obtain⟨a5,yI⟩:∃a5,a4.put (some 11) fv=a5:=⟨_,rfl⟩
 show wpOpsIn _ _ _ _ _ [1] (a4.put (some 11) fv) w4;rw[yI]
 have z5:a5.tmps.size=14:=by rw[<-yI,fJ];exact z4
 have u11:a5.tmps.getD 11 undef=fv:=by rw[<-yI];exact eO _ _ _ z4 (by decide)
 have ZP:a5.tmps.getD 6 undef=.pointer (some ⟨bN+1,0,none⟩):=by rw[<-yI,cz _ _ _ _ (by decide)];exact u6
 obtain⟨i33,xA,vF⟩:=iZ 121 1;refine dh rfl rfl (by rfl) (gK (x:=.tmp 6) (y:=.tmp 11) rfl ZP xA vF Rt u11 (by rw[rK];rfl)) ?_
 obtain⟨w5,ue⟩:∃w5,w4.setRow (bN+1) #[fv]=w5:=⟨_,rfl⟩
 show Code.wpIn _ _ _ _ _ (a5.put none undef) (w4.setRow (bN+1) #[fv]);rw[ue]
 have aaH:w5.heap.size=bN+2:=by rw[<-ue];simpa using Z_
 have Ro:w5.heap[bN+1]?=some (.cells #[fv] 121 (0,0)):=by rw[<-ue];exact setRow_heap w4 _ _ _ _ _ Rt
 have RH:∀b,b<bN+1->w5.heap[b]?=w4.heap[b]?:=λb hb=>by rw[<-ue];exact setRow_other w4 _ _ _ (by omega)
 have Gv:∀b,b<bN->w5.heap[b]?=w2.heap[b]?:=λb hb=>by rw[RH b (by omega),RC b (by omega),Xy b hb]
 refine wpIn_region ?_;show wpOpsIn _ _ _ _ _ [0,1] a5 w5;obtain⟨d33,Wi,T9⟩:=vZ 121;refine aK rfl rfl (by rfl) (gV (x:=.tmp 6) (v:=fv) rfl ZP Wi T9 (by simp[World.cell?,Ro])) ?_;show wpOpsIn _ _ _ _ _ [1] (a5.put (some 12) fv) w5
 obtain⟨a6,Qn⟩:∃a6,a5.put (some 12) fv=a6:=⟨_,rfl⟩
 rw[Qn]
 have z6:a6.tmps.size=14:=by rw[<-Qn,fJ];exact z5
 have u12:a6.tmps.getD 12 undef=fv:=by rw[<-Qn];exact eO _ _ _ z5 (by decide)
 have aad:a6.defers=[]:=by rw[<-Qn,vU,<-yI,vU,<-hZ,vU,<-l8,vU];exact FZ
 have hc6:∀{P':Nat->Nat->Prop},(∀b k,P' b k->b<bN)->aL P' P' w2 w5:=λh=>aL.of_eq λb k hp=>⟨hp,Gv b (h b k hp)⟩
 let X:Fx C all out fA rows:={
  bN:=bN
  cA:=.pointer (some ⟨bA,0,none⟩)
  cY:=.pointer (some ⟨bY,0,none⟩)
  cO:=cO
  cF:=cF
  cR:=.pointer (some ⟨bN+1,0,none⟩)
  MI:=λb=>w.heap.size<=b/\b<bN+2/\b≠bN
  wI:=w5
  bA:=bA
  BF:=BF
  Lo:=rfl
  QM:=⟨⟨Oe.1,by omega,by omega⟩,by omega⟩
  ZE:=⟨tyA,(Gv bA (by omega)).trans r3⟩
  hY:=by
   refine .data _ _ (.ref _ _ _ (λ_=>.func (.yield l) #[] #[]) (λi hi=>?_) (λk hk=>⟨?_,?_⟩) (λk hk=>?_))
   .have:i=0:=by simpa using hi
    subst this;rfl
   .exact⟨hbY.1,by omega,by omega⟩
   .have:k=0:=by simpa using hk
    subst this;have:w5.heap[bY]?=some (.cells #[.func (.yield l) #[] #[]] tyY (0,0)):=(Gv bY (by omega)).trans q3;simp[World.cell?,this]
   .have:k=0:=by simpa using hk
    subst this;exact .val _ rfl
  hR:=by
   refine .data _ _ (.ref _ _ _ (λ_=>fv) (λi hi=>?_) (λk hk=>⟨?_,?_⟩) (λk hk=>?_))
   .have:i=0:=by simpa using hi
    subst this;rfl
   .exact⟨by omega,by omega,by omega⟩
   .have:k=0:=by simpa using hk
    subst this;simp[World.cell?,Ro]
   .have:k=0:=by simpa using hk
    subst this;rw[rK];exact .val _ rfl
  f9:=h9 }
 have gf:ft (λ_=>False) w w5:=by
  refine⟨?_,?_,?_,by omega,λb hb _=>(Gv b (by omega)).trans (fW.block b hb)⟩
  .rw[<-ue,<-ib,<-mW];exact fW.os
  .rw[<-ue,<-ib,<-mW];exact fW.tape
  .rw[<-ue,<-ib,<-mW];exact fW.output
 have qp:aL Pr Pr w w5:=aL.iO λb k hb _=>gf.block b hb (λh=>h)
 have st:St X 0 (λb=>w.heap.size<=b/\b<bN+2) Pr [] w5:=by
  refine⟨C.eP hJ gf λb hb=>⟨by omega,.inr hb.1⟩,λb hb=>by omega,λb hb=>⟨⟨hb.1,hb.2.1⟩,hb.2.2,rfl⟩,⟨.slice none 0 0,106,[],?_,?_,⟨rfl,.inl ⟨rfl,rfl⟩⟩,⟨λx hx=>(by cases hx),λj hj=>(by simp[aW]at hj)⟩,λb hb=>(by cases hb)⟩,TD.mono qp λ_ _ h=>h,TV.mono qp λ_ _ h=>h,kY.mono (aL.of_eq λb k hp=>?_)⟩
  .show w5.heap[bN]?=_;rw[RH bN (by omega),RC bN (by omega)];exact ZS
  .show w.heap.size<=bN/\bN<bN+2;exact⟨by rw[<-MQ];exact fW.size,by omega⟩
  .have aI:=fW.size
   have av:b<bN:=by
    rcases hp with h|h<;>omega
   refine⟨⟨av,?_⟩,Gv b av⟩;rcases hp with h|h
   .exact .inr h.2
   .exact .inl (show w.heap.size<=b/\b<bN+2/\b≠bN from⟨h.1,by omega,by omega⟩)
 have Da:=Py hG X eD NI ml all.length 0 [] 0 _ Pr w5 [] (by omega) (Nat.le_refl _) st (by simp)
 have oC:(#[a6.eval (.const (.int .i64 0))]++#[.pointer (some ⟨bA,0,none⟩),.pointer (some ⟨bY,0,none⟩),cO,.pointer (some ⟨bN,0,none⟩),cF,.pointer (some ⟨bN+1,0,none⟩)])=#[.int .i64 ((0:Nat):Int),X.cA,X.cY,X.cO,.pointer (some ⟨X.bN,0,none⟩),X.cF,X.cR]:=by
  simp[Act.eval,X]
 rw[<-oC]at Da;have V3:a6.eval (.tmp 12)=.func (.func 123) #[] #[.pointer (some ⟨bA,0,none⟩),.pointer (some ⟨bY,0,none⟩),cO,.pointer (some ⟨bN,0,none⟩),cF,.pointer (some ⟨bN+1,0,none⟩)]:=u12.trans rK;refine ik rfl rfl (by rfl) (rf (f:=.tmp 12) (x:=.const (.int .i64 0)) w5 rfl rfl rfl V3 (by kernel_rfl)) Da ?_;rintro e w6 ⟨M',dB,nr⟩
 obtain⟨b,rfl,hv⟩:∃b:Bool,e=.returned (.bool b)/\(C.J ((ch [] all rows).map (aQ out)).length M' dB w6\/C.X M' dB w6):=by
  rcases nr with⟨rfl,h⟩|⟨rfl,h⟩
  .refine⟨true,rfl,.inl ?_⟩;have:=h.j;simpa using this
  .exact⟨false,rfl,.inr h⟩
 refine⟨_,rfl,?_⟩;show bodyPost prog f121 _ .normal (a6.put (some 13) (.bool b)) w6;refine⟨by rw[vU];exact aad,.tuple #[],?_,.tuple #[],_,_,rfl,hv⟩;simp[results,results121]
def Li:TypeDesc→Bool
  |.interface _=>true
  |_=>false
def D2 {P:Program} {t:TypeId} (h:(P.underlying t).map Li=some true):∃ ms,P.underlying t=some (.interface ms):=by
  cases hi:P.underlying t with
  |none=>rw[hi]at h;cases h
  |some d =>
    rw[hi]at h
    cases d<;>first|(cases h;done)|exact⟨_,rfl⟩
def Nh (T:Nat) (v:Value) (w:World):(binOp .eql 20 (.iface T v) .nilIface).run prog w = .ok (.bool false) w:=by
  have:(Op.equal 20 (.iface T v) .nilIface).run prog w = .ok false w:=by
    obtain⟨ms,hm⟩:=D2 (P:=prog) (t:=20) (by kernel_rfl);unfold Op.equal Op.maxDepth Op.equalIn;simp[run_underlying hm]
  simp[binOp,this]
def oL {a:Act} {o:Oper} {T:Nat} {v:Value} {x:Operand} (w:World) (ho:o.op = .binOp .eql 20 x (.const .nilIface) 20) (hx:a.eval x = .iface T v):(execOp a.eval o).run prog w = .ok (.value (.bool false)) w:=by
  have h0:(eqGuard .eql 20 x (.const .nilIface) (.iface T v) .nilIface).run prog w=.ok () w:=gv _ _ _ _ _ _ rfl;have hc:a.eval (.const .nilIface)=.nilIface:=rfl;simp[execOp,ho,hx,hc,h0,Nh]
def F3 {bE:Nat} {u:Value} {ty:TypeId} (w:World) (hE:w.heap[bE]? = some (.cells #[u] ty (0,0))) (n:Int) :
    CallsD prog 176 #[.pointer (some ⟨bE,0,none⟩)] (.panicking [{ v := .iface 257 (.agg #[.int .i64 n]),recovered:=false }]) w fun e u' w' =>
      e=.returned (.tuple #[])/\u'=.panicking [{ v:=.iface 257 (.agg #[.int .i64 n]),recovered:=true }]/\∃w1,Below w.heap.size w w1/\w'=w1.setRow bE #[.int .i64 5]:=by
  refine callsD_of_wpS func176 rfl λtJ cs hu=>?_
  apply wpS_seq;apply wpS_region;simp[wpOpsS,go_sem,recoverD,hu,ntmps176,Exit.thenS];refine wpS_of_wp ?_;refine(gz (m:=0)).1 ?_;refine fc (λa=>a.tmps.size=14/\a.defers=[]/\a.tmps.getD 0 undef=.pointer (some ⟨bE,0,none⟩)/\a.tmps.getD 5 undef=.iface 257 (.agg #[.int .i64 n])) ⟨by simp,rfl,by simp,by simp⟩ ?_;rintro a ⟨aI,cD,h0,h5⟩;have av:=(Array.getElem?_eq_some_iff.1 hE).1;refine wpIn_block (wpIn_seq (wpIn_region ?_));show wpOpsIn _ _ _ _ _ [0] a w;refine aK rfl rfl (by rfl) (oL (x:=.tmp 5) w rfl h5) ?_;show Code.wpIn _ _ _ _ _ (a.put (some 7) (.bool false)) w
  have h7:(a.put (some 7) (.bool false)).tmps.getD 7 undef=.bool false:=by simp[Act.put,aI]
  refine wpIn_cond (t:=false) h7 ?_;simp only[Bool.false_eq_true,if_false];refine fc (λa=>a.tmps.size=14/\a.defers=[]/\a.tmps.getD 0 undef=.pointer (some ⟨bE,0,none⟩)/\a.tmps.getD 5 undef=.iface 257 (.agg #[.int .i64 n])) ⟨by simp[Act.put,aI],cD,by simpa[Act.put,Array.getElem?_setIfInBounds_ne]using h0,by simpa[Act.put,Array.getElem?_setIfInBounds_ne]using h5⟩ ?_;clear h7 h5 h0 cD aI a;rintro a ⟨aI,cD,h0,h5⟩
  have hS:∀ (a:Act) (w:World),a.tmps.getD 5 undef = .iface 257 (.agg #[.int .i64 n])→∀ t,t < 14→((fun t=>if t=5 then AV.iface 257 (.agg [.int .i64 n]) else AV.bh:af) t).aA=(fun t=>if t=5 then AV.iface 257 (.agg [.int .i64 n]) else AV.bh:af) t ∧
      RV (λ_ _=>True) bU w ((λt=>if t=5 then AV.iface 257 (.agg [.int .i64 n])else AV.bh:af) t) (a.tmps.getD t undef):=by
    intro a w h5 t ht
    by_cases h:t=5
    . subst h
      rw[h5];refine⟨rfl,.data _ _ (.iface _ _ _ (.agg _ _ rfl (λi hi=>?_) (λi hi ck=>?_)))⟩
      . have:i=0:=by simpa using hi
        subst this;rfl
      . have:i=0:=by simpa using hi
        subst this;exact .int _ _
    . simp only[h,if_false];exact⟨rfl,.bh _⟩
  refine wpIn_seq ?_;refine dK (GI:=λ_=>True) (λ_ _ _ _=>trivial) cV (ac:=ae.qa c176.qb.qb.qb.qb) (W:=λt=>decide (8<=t)) (by kernel_rfl) (by kernel_rfl) (by kernel_rfl) trivial (λ_ _=>True) _ aI cD (hS a w h5) (K:=λS' _=>S' 9=.bool true/\S' 10=.agg [.int .i64 n]) ?_ ?_
  . simp[c176,ae.qa,ae.qb,bD,bg,ar,aM,ao,aB,aD.S,aD.H,ev,aq,aH,AV.aA]
  rintro g S' H' a' w' hg R1 ⟨h9,jK⟩ aY;have t9:=R1.slot 9 (by decide) (λh=>h);rw[h9]at t9;have t9:=t9.fB;have t10:=R1.slot 10 (by decide) (λh=>h);rw[jK]at t10
  have b1:Below w.heap.size w w':=by have:=R1.below;rwa [R1.base]at this
  show Code.wpIn _ _ _ _ _ a' w';refine wpIn_cond (t:=true) t9 ?_;simp only[if_true];refine wpIn_seq ?_;refine dT R1 (GI:=λ_=>True) (λ_ _ _ _=>trivial) trivial cV (ac:=ae.qa c176.qb.qb.qb.qb.qb.qa) (W:=λt=>decide (1<=t)) (by kernel_rfl) (by kernel_rfl) (by kernel_rfl) (by rw[hg];exact λ_ h=>h) (K:=λ_ _=>True) ?_ ?_
  . simp[c176,ae.qa,ae.qb,bD,bg,ar,aM,ao,aB,aD.S,aD.H,ev,aq,aH,AV.aA,jK,aT,HR.okB,AV.cells,AV.storable,aR,AV.bm,a_]
  rintro g2 S2 H2 a2 w2 n9 R2 _ gM
  have b2:Below w.heap.size w w2:=by have:=R2.below;rwa [R2.base]at this
  have e0:a2.tmps.getD 0 undef=.pointer (some ⟨bE,0,none⟩):=(gM 0 rfl).trans ((aY 0 rfl).trans h0);have C1:w2.heap[bE]?=some (.cells #[u] ty (0,0)):=(b2.block bE av).trans hE;obtain⟨i36,mT,nk⟩:=iZ 43 1;show Code.wpIn _ _ _ _ _ a2 w2;refine wpIn_region ?_;show wpOpsIn _ _ _ _ _ [0] a2 w2;refine dh rfl rfl (by rfl) (gK (x:=.tmp 0) (y:=.const (.int .i64 5)) (v:=.int .i64 5) rfl e0 mT nk C1 rfl rfl) ?_;refine⟨by show a2.defers=[];rw[R2.defers,n9,hg];rfl,_,rfl,.tuple #[],?_,rfl,rfl,w2,b2,rfl⟩;simp[results,results176]
def FO {bE:Nat} {u:Value} {ty:TypeId} (w:World) (hE:w.heap[bE]? = some (.cells #[u] ty (0,0))) (n:List UInt8) :
    CallsD prog 176 #[.pointer (some ⟨bE,0,none⟩)] (.panicking [{ v := .iface 264 (.agg #[.string ⟨n.toArray⟩]),recovered:=false }]) w fun e u' w' =>
      e=.returned (.tuple #[])/\u'=.panicking [{ v:=.iface 264 (.agg #[.string ⟨n.toArray⟩]),recovered:=true }]/\∃w1,Below w.heap.size w w1/\w'=w1.setRow bE #[.int .i64 4]:=by
  refine callsD_of_wpS func176 rfl λtJ cs hu=>?_
  apply wpS_seq;apply wpS_region;simp[wpOpsS,go_sem,recoverD,hu,ntmps176,Exit.thenS];refine wpS_of_wp ?_;refine(gz (m:=0)).1 ?_;refine fc (λa=>a.tmps.size=14/\a.defers=[]/\a.tmps.getD 0 undef=.pointer (some ⟨bE,0,none⟩)/\a.tmps.getD 5 undef=.iface 264 (.agg #[.string ⟨n.toArray⟩])) ⟨by simp,rfl,by simp,by simp⟩ ?_;rintro a ⟨aI,cD,h0,h5⟩;have av:=(Array.getElem?_eq_some_iff.1 hE).1;refine wpIn_block (wpIn_seq (wpIn_region ?_));show wpOpsIn _ _ _ _ _ [0] a w;refine aK rfl rfl (by rfl) (oL (x:=.tmp 5) w rfl h5) ?_;show Code.wpIn _ _ _ _ _ (a.put (some 7) (.bool false)) w
  have h7:(a.put (some 7) (.bool false)).tmps.getD 7 undef=.bool false:=by simp[Act.put,aI]
  refine wpIn_cond (t:=false) h7 ?_;simp only[Bool.false_eq_true,if_false];refine fc (λa=>a.tmps.size=14/\a.defers=[]/\a.tmps.getD 0 undef=.pointer (some ⟨bE,0,none⟩)/\a.tmps.getD 5 undef=.iface 264 (.agg #[.string ⟨n.toArray⟩])) ⟨by simp[Act.put,aI],cD,by simpa[Act.put,Array.getElem?_setIfInBounds_ne]using h0,by simpa[Act.put,Array.getElem?_setIfInBounds_ne]using h5⟩ ?_;clear h7 h5 h0 cD aI a;rintro a ⟨aI,cD,h0,h5⟩
  have hS:∀ (a:Act) (w:World),a.tmps.getD 5 undef = .iface 264 (.agg #[.string ⟨n.toArray⟩])→∀ t,t < 14→((fun t=>if t=5 then AV.iface 264 (.agg [.str n]) else AV.bh:af) t).aA=(fun t=>if t=5 then AV.iface 264 (.agg [.str n]) else AV.bh:af) t ∧
      RV (λ_ _=>True) bU w ((λt=>if t=5 then AV.iface 264 (.agg [.str n])else AV.bh:af) t) (a.tmps.getD t undef):=by
    intro a w h5 t ht
    by_cases h:t=5
    . subst h
      rw[h5];refine⟨rfl,.data _ _ (.iface _ _ _ (.agg _ _ rfl (λi hi=>?_) (λi hi ck=>?_)))⟩
      . have:i=0:=by simpa using hi
        subst this;rfl
      . have:i=0:=by simpa using hi
        subst this;exact .str _
    . simp only[h,if_false];exact⟨rfl,.bh _⟩
  refine wpIn_seq ?_;refine dK (GI:=λ_=>True) (λ_ _ _ _=>trivial) cV (ac:=ae.qa c176.qb.qb.qb.qb) (W:=λt=>decide (8<=t)) (by kernel_rfl) (by kernel_rfl) (by kernel_rfl) trivial (λ_ _=>True) _ aI cD (hS a w h5) (K:=λS' _=>S' 9=.bool false/\S' 5=.iface 264 (.agg [.str n])) ?_ ?_
  . simp[c176,ae.qa,ae.qb,bD,bg,ar,aM,ao,aB,aD.S,aD.H,ev,aq,aH,AV.aA]
  rintro g0 S0 H0 a0 Tl ER R0 ⟨LO,Vz⟩ EO;have t90:=R0.slot 9 (by decide) (λh=>h);rw[LO]at t90;have t90:=t90.fB;show Code.wpIn _ _ _ _ _ a0 Tl;refine wpIn_cond (t:=false) t90 ?_;simp only[Bool.false_eq_true,if_false];refine wpIn_seq ?_;refine dT R0 (GI:=λ_=>True) (λ_ _ _ _=>trivial) trivial cV (ac:=ae.qa c176.qb.qb.qb.qb.qb.qb) (W:=λt=>decide (8<=t)) (by kernel_rfl) (by kernel_rfl) (by kernel_rfl) (by rw[ER];exact λ_ h=>h) (K:=λS' _=>S' 12=.bool true/\S' 13=.agg [.str n]) ?_ ?_
  . simp[c176,ae.qa,ae.qb,bD,bg,ar,aM,ao,aB,aD.S,aD.H,ev,aq,aH,AV.aA,Vz]
  rintro g S' H' a' w' hg R1 ⟨h9,jK⟩ Dy;have aY:=EO.trans Dy;rw[ER]at hg;have t9:=R1.slot 12 (by decide) (λh=>h);rw[h9]at t9;have t9:=t9.fB;have t10:=R1.slot 13 (by decide) (λh=>h);rw[jK]at t10
  have b1:Below w.heap.size w w':=by have:=R1.below;rwa [R1.base]at this
  show Code.wpIn _ _ _ _ _ a' w';refine wpIn_cond (t:=true) t9 ?_;simp only[if_true];refine wpIn_seq ?_;refine dT R1 (GI:=λ_=>True) (λ_ _ _ _=>trivial) trivial cV (ac:=ae.qa c176.qb.qb.qb.qb.qb.qb.qb.qa) (W:=λt=>decide (1<=t)) (by kernel_rfl) (by kernel_rfl) (by kernel_rfl) (by rw[hg];exact λ_ h=>h) (K:=λ_ _=>True) ?_ ?_
  . simp[c176,ae.qa,ae.qb,bD,bg,ar,aM,ao,aB,aD.S,aD.H,ev,aq,aH,AV.aA,jK,aT,HR.okB,AV.cells,AV.storable,aR,AV.bm,a_]
  rintro g2 S2 H2 a2 w2 n9 R2 _ gM
  have b2:Below w.heap.size w w2:=by have:=R2.below;rwa [R2.base]at this
  have e0:a2.tmps.getD 0 undef=.pointer (some ⟨bE,0,none⟩):=(gM 0 rfl).trans ((aY 0 rfl).trans h0);have C1:w2.heap[bE]?=some (.cells #[u] ty (0,0)):=(b2.block bE av).trans hE;obtain⟨i36,mT,nk⟩:=iZ 43 1;show Code.wpIn _ _ _ _ _ a2 w2;refine wpIn_region ?_;show wpOpsIn _ _ _ _ _ [0] a2 w2;refine dh rfl rfl (by rfl) (gK (x:=.tmp 0) (y:=.const (.int .i64 4)) (v:=.int .i64 4) rfl e0 mT nk C1 rfl rfl) ?_;refine⟨by show a2.defers=[];rw[R2.defers,n9,hg];rfl,_,rfl,.tuple #[],?_,rfl,rfl,w2,b2,rfl⟩;simp[results,results176]
def Fi (p:Addr) (w:World) :
    CallsD prog 176 #[.pointer (some p)] .returning w λe u' w'=>e=.returned (.tuple #[])/\u'=.returning/\w'=w:=by
  refine callsD_of_wpS func176 rfl λtJ cs hu=>?_
  apply wpS_seq;apply wpS_region;simp[wpOpsS,go_sem,recoverD,hu,ntmps176,Exit.thenS];refine wpS_of_wp ?_
  go_wp2
  cases tJ
  simp_all[bodyPostS,results,results176]
def mY {P:Program} {a:Act} {o:Oper} {cl:Call} {f:Operand} {k:Nat} {cap:Array Value} (w:World) (ho:o.op = .call cl) (hc:cl.callee = .value f) (ha:cl.args = #[]) (hf:a.eval f = .func (.func k) #[] cap) (hk:dz P k=true) :
    (execOp a.eval o).run P w=.ok (.enter k cap) w:=by
  unfold execOp;simp[ho,eu hc,hf,Deferred.ofValue,invoke,ha,fC hk]
def run_move {P:Program} {a:Act} {o:Oper} {x:Operand} (w:World) (ho:o.op = .move x):(execOp a.eval o).run P w = .ok (.value (a.eval x)) w:=by
  unfold execOp;simp only[ho]
  rfl
def yK{w:World}{b:Nat}{v u:Value}{ty:TypeId}(h:w.heap[b]?=some (.cells #[u] ty (0,0))):(w.setRow b #[v]).heap[b]?=some (.cells #[v] ty (0,0)):=setRow_heap w b _ _ _ _ h
def Ky {a:Act} {w:World} {b:Nat} {v:Value} {ty:TypeId} (h2:a.tmps.getD 2 undef = .pointer (some ⟨b,0,none⟩)) (h:w.heap[b]? = some (.cells #[v] ty (0,0))):(results f169 a.tmps).run prog w = .ok v w:=by
  obtain⟨d,yt,pR⟩:=vZ 43
  have jL:(isAgg 43).run prog w = .ok false w:=by
    unfold isAgg;rw[Sem.run_bind,run_underlying yt w]
    cases d<;>simp_all[eB]
  have hl:(loadVar 43 ⟨b,0,none⟩).run prog w = .ok v w:=by
    simp[loadVar,Sem.run_bind,jL,World.cell?,h]
  have hr:f169.results=#[.cell 2 43]:=rfl
  have Ez:a.tmps[2]?.getD undef=.pointer (some ⟨b,0,none⟩):=by rw[<-h2];simp
  simp[results,hr,Ez,asAddr,hl]
def A0 {k:Nat} {us:Array Value} {w:World} {R1 R:Ending→World→Prop} (lF:dz prog k=true) (hc:Calls prog k us (w.alloc (.cells #[.int .i64 0] 43)) R1)
    (h:∀ e w2,R1 e w2→w.heap.size < w2.heap.size∧(∃ u ty,w2.heap[w.heap.size]? = some (.cells #[u] ty (0,0))) ∧
      ((∃c,e=.returned c/\R (.returned (.int .i64 0)) (w2.setRow w.heap.size #[.int .i64 0]))\/
       (∃n,e=.panicked [{ v:=.iface 257 (.agg #[.int .i64 n]),recovered:=false }]/\∀w3,Below w2.heap.size w2 w3->R (.returned (.int .i64 5)) (w3.setRow w.heap.size #[.int .i64 5]))\/
       (∃s:List UInt8,e=.panicked [{ v:=.iface 264 (.agg #[.string ⟨s.toArray⟩]),recovered:=false }]/\∀w3,Below w2.heap.size w2 w3->R (.returned (.int .i64 4)) (w3.setRow w.heap.size #[.int .i64 4])))):
    Calls prog 169 #[.func (.func k) #[] us] w R:=by
  refine calls_of_wp_defers func169 rfl ?_;refine(gz (m:=0)).1 ?_;refine fc (λa=>a.tmps.size=6/\a.defers=[]/\a.tmps.getD 0 undef=.func (.func k) #[] us) ⟨by simp[ntmps169],rfl,ef _ _ 0 (by simp)⟩ ?_;rintro a ⟨aI,cD,h0⟩
  obtain⟨bE,Nx⟩:∃bE,w.heap.size=bE:=⟨_,rfl⟩
  have cz:∀ (a:Act) (d t:Nat) (c:Value),t≠d→(a.put (some d) c).tmps.getD t undef=a.tmps.getD t undef:=fun a d t c h=>by
    simp[Act.put,Array.getElem?_setIfInBounds_ne (Ne.symm h)]
  have eO:∀ (a:Act) (d:Nat) (c:Value),a.tmps.size=6→d < 6→(a.put (some d) c).tmps.getD d undef=c:=fun a d c h hd=>by
    simp[Act.put,h,hd]
  have fJ:∀(a:Act)(d:Option Nat)(c:Value),(a.put d c).tmps.size=a.tmps.size:=λa d c=>by cases d<;>simp[Act.put]
  refine wpIn_seq (wpIn_region ?_);show wpOpsIn _ _ _ _ _ [0] a w;refine aK rfl rfl (by rfl) (ju (t:=43) (z:=.int .i64 0) rfl (by kernel_rfl)) ?_;show Code.wpIn _ _ _ _ _ (a.put (some 2) (.pointer (some ⟨w.heap.size,0,none⟩))) (w.alloc (.cells #[.int .i64 0] 43));rw[Nx]at h;simp only[Nx]
  obtain⟨w1,ig⟩:∃w1,w.alloc (.cells #[.int .i64 0] 43)=w1:=⟨_,rfl⟩
  rw[ig]at hc⊢;refine fc (λa=>a.tmps.size=6/\a.defers=[]/\a.tmps.getD 0 undef=.func (.func k) #[] us/\a.tmps.getD 2 undef=.pointer (some ⟨bE,0,none⟩)) ⟨by rw[fJ];exact aI,cD,by rw[cz _ _ _ _ (by decide)];exact h0,eO _ _ _ aI (by decide)⟩ ?_;clear h0 cD aI a;rintro a ⟨aI,cD,h0,h2⟩;refine wpIn_seq (wpIn_region ?_);show wpOpsIn _ _ _ _ _ [0,1] a w1;refine aK rfl rfl (by rfl) (oB (fn:=.func 176) (c:=#[.tmp 2]) rfl) ?_
  have dX:(#[Operand.tmp 2].map a.eval) = #[.pointer (some ⟨bE,0,none⟩)]:=by
    simp only[List.map_toArray,List.map_cons,List.map_nil,Act.eval];rw[h2]
  rw[dX];show wpOpsIn _ _ _ _ _ [1] (a.put (some 3) (.func (.func 176) #[] #[.pointer (some ⟨bE,0,none⟩)])) w1
  obtain⟨a2,gu⟩:∃a2,a.put (some 3) (.func (.func 176) #[] #[.pointer (some ⟨bE,0,none⟩)])=a2:=⟨_,rfl⟩
  rw[gu]
  have z2:a2.tmps.size=6:=by rw[<-gu,fJ];exact aI
  have u3:a2.tmps.getD 3 undef=.func (.func 176) #[] #[.pointer (some ⟨bE,0,none⟩)]:=by rw[<-gu];exact eO _ _ _ aI (by decide)
  have u0:a2.tmps.getD 0 undef=.func (.func k) #[] us:=by rw[<-gu,cz _ _ _ _ (by decide)];exact h0
  have u2:a2.tmps.getD 2 undef=.pointer (some ⟨bE,0,none⟩):=by rw[<-gu,cz _ _ _ _ (by decide)];exact h2
  have ud:a2.defers=[]:=by rw[<-gu];exact cD
  refine so rfl rfl (d:={ target:=.fn (.func 176) #[.pointer (some ⟨bE,0,none⟩)],args:=#[] }) (w':=w1) ?_ ?_
  . unfold execOp
    simp[eu,Deferred.ofValue,Act.eval,u3]
  have Hu:∀ (w:World),(invoke (.fn (.func 176) #[.pointer (some ⟨bE,0,none⟩)]) #[]).run prog w = .ok (.enter 176 #[.pointer (some ⟨bE,0,none⟩)]) w:=fun w=>by
    simp[invoke,fC (P:=prog) (f:=176) (by kernel_rfl)]
  show Code.wpIn _ _ _ _ _ { a2 with defers:={ target:=.fn (.func 176) #[.pointer (some ⟨bE,0,none⟩)],args:=#[] }::a2.defers } w1;refine fc (λa=>a.tmps.size=6/\a.defers=[{ target:=.fn (.func 176) #[.pointer (some ⟨bE,0,none⟩)],args:=#[] }]/\a.tmps.getD 0 undef=.func (.func k) #[] us/\a.tmps.getD 2 undef=.pointer (some ⟨bE,0,none⟩)) ⟨z2,by show _::a2.defers=_;rw[ud],u0,u2⟩ ?_;clear u0 u2 u3 ud z2 gu a2 h0 h2 cD aI dX a;rintro a ⟨aI,cD,h0,h2⟩;refine wpIn_seq (wpIn_region ?_);show wpOpsIn _ _ _ _ _ [0,1] a w1;refine aK rfl rfl (by rfl) (run_move (x:=.tmp 0) w1 rfl) ?_;have e0:a.eval (.tmp 0)=.func (.func k) #[] us:=h0;rw[e0];show wpOpsIn _ _ _ _ _ [1] (a.put (some 4) (.func (.func k) #[] us)) w1
  obtain⟨a2,gu⟩:∃a2,a.put (some 4) (.func (.func k) #[] us)=a2:=⟨_,rfl⟩
  rw[gu]
  have z2:a2.tmps.size=6:=by rw[<-gu,fJ];exact aI
  have u4:a2.eval (.tmp 4)=.func (.func k) #[] us:=by show a2.tmps.getD 4 undef=_;rw[<-gu];exact eO _ _ _ aI (by decide)
  have u2:a2.tmps.getD 2 undef=.pointer (some ⟨bE,0,none⟩):=by rw[<-gu,cz _ _ _ _ (by decide)];exact h2
  have ud:a2.defers=[{ target:=.fn (.func 176) #[.pointer (some ⟨bE,0,none⟩)],args:=#[] }]:=by rw[<-gu];exact cD
  refine pk rfl rfl (by rfl) (mY (f:=.tmp 4) w1 rfl rfl rfl u4 lF) hc ?_;intro e w2 he;obtain⟨av,⟨uE,Tv,hE⟩,nF⟩:=h e w2 he
  have rL:∀ {args:Array Value} {u:FrameMode} {w:World} {R R':Ending→FrameMode→World→Prop},CallsD prog 176 args u w R→(∀ e u w,R e u w→R' e u w)→CallsD prog 176 args u w R':=fun h hr c cs hu =>
    let⟨e,u',w',fr,r,rest⟩:=h c cs hu;⟨e,u',w',fr,hr _ _ _ r,rest⟩
  have vD:∀ (p:PanicEntry) (v:Value) (hv:CallsD prog 176 #[.pointer (some ⟨bE,0,none⟩)] (.panicking [p]) w2 fun e u' w'=>e = .returned (.tuple #[])∧u' = .panicking [{ p with recovered:=true }]∧∃ w1,Below w2.heap.size w2 w1∧w'=w1.setRow bE #[v]),
      p.goexit=false->(∀w3,Below w2.heap.size w2 w3->R (.returned v) (w3.setRow bE #[v]))->Leaves prog f169 a2.tmps R a2.defers (.panicking [p]) w2:=by
    intro p v hv iE hR;rw[ud];refine leaves_cons (by simp) (Hu w2) (rL hv ?_);rintro e u' w' ⟨rfl,rfl,w3,oA,rfl⟩;have On:w3.heap[bE]?=some (.cells #[uE] Tv (0,0)):=(oA.block bE av).trans hE;show Leaves prog f169 a2.tmps R [] .returning (w3.setRow bE #[v]);exact⟨v,Ky u2 (yK On),hR w3 oA⟩
  rcases nF with⟨c,rfl,hR⟩|⟨n,rfl,hR⟩|⟨s,rfl,hR⟩
  . show Code.wpIn _ _ _ _ _ (a2.put (some 5) c) w2
    have N6:(a2.put (some 5) c).tmps.getD 2 undef=.pointer (some ⟨bE,0,none⟩):=by rw[cz _ _ _ _ (by decide)];exact u2
    refine wpIn_seq (wpIn_region ?_);show wpOpsIn _ _ _ _ _ [0] (a2.put (some 5) c) w2;obtain⟨i36,mT,nk⟩:=iZ 43 1;refine dh rfl rfl (by rfl) (gK (x:=.tmp 2) (y:=.const (.int .i64 0)) (v:=.int .i64 0) rfl N6 mT nk hE rfl rfl) ?_;show Code.wpIn _ _ _ _ _ (a2.put (some 5) c) (w2.setRow bE #[.int .i64 0]);refine wpIn_ret ?_;show Leaves prog f169 (a2.put (some 5) c).tmps R a2.defers .returning (w2.setRow bE #[.int .i64 0]);rw[ud];refine leaves_cons (by simp) (Hu _) (rL (Fi _ _) ?_);rintro e u' w' ⟨rfl,rfl,rfl⟩;exact⟨_,Ky N6 (yK hE),hR⟩
  . exact vD _ _ (F3 w2 hE n) rfl hR
  . exact vD _ _ (FO w2 hE s) rfl hR
def Pc (hG:aw GI) {k:Nat} {caps:List AV} {out:iS} {r:Int} (lF:dz prog k=true) (Of:AC prog GI k caps out)
    (ml:(∃v,out=.ret v/\r=0)\/(∃n,out=.panic (.iface 257 (.agg [.int .i64 n]))/\r=5)\/(∃s,out=.panic (.iface 264 (.agg [.str s]))/\r=4)):
    AC prog GI 169 [.func (.func k) [] caps] (.ret (.int .i64 r)):=by
  intro w old bp jI hlen hr;obtain⟨fv,rfl⟩:∃fv,bp=#[fv]:=j6 (by simpa using hlen.symm);have h0:=hr 0 (by simp) (by simp);simp only[List.getElem_cons_zero,List.getElem_toArray]at h0
  obtain ⟨us,rfl,hl,Bz⟩:∃ us:Array Value,fv = .func (.func k) #[] us∧caps.length=us.size∧∀ i (h:i < caps.length) (h':i < us.size),RV old (fun _=>none) w caps[i] us[i]:=by
    cases h0 with
    |data _ _ h=>cases h
    |func _ _ _ vs us h1 h2 r1 r2 =>
      have:vs=#[]:=Array.eq_empty_of_size_eq_zero (by simpa using h1.symm);subst this;exact⟨us,rfl,h2,r2⟩
  have l_:Below w.heap.size w (w.alloc (.cells #[.int .i64 0] 43)):=(Below.refl _ _).alloc (Nat.le_refl _) _
  have hk:aL old old w (w.alloc (.cells #[.int .i64 0] 43)):=aL.fI (λb h=>l_.block b h) λ_ _ _ h=>h
  have hN:(w.alloc (.cells #[.int .i64 0] 43)).heap[w.heap.size]?=some (.cells #[.int .i64 0] 43 (0,0)):=World.alloc_heap_new w _;refine A0 lF (Of (w.alloc (.cells #[.int .i64 0] 43)) old us (hG _ _ jI l_) hl (λi h h'=>(Bz i h h').mono hk λ_ _ h=>h)) ?_;rintro e w2 ⟨iU,hi,rP,nF⟩
  have Wk:w.heap.size<w2.heap.size:=by have:=iU.size;simp at this;omega
  have C1:w2.heap[w.heap.size]?=some (.cells #[.int .i64 0] 43 (0,0)):=(iU.block _ (by simp)).trans hN;refine⟨Wk,⟨_,_,C1⟩,?_⟩
  have fin:∀ (w3:World) (r:Int),Below w2.heap.size w2 w3→AL.Ends prog old w (.ret (.int .i64 r)) (.returned (.int .i64 r)) (w3.setRow w.heap.size #[.int .i64 r]):=by
    intro w3 r oA
    have fW:Below w.heap.size w w3:=by
      have h1:=l_.trans (iU.mono (by simp));exact h1.trans (oA.mono (by omega))
    refine⟨⟨fW.os,fW.tape,fW.output,by simpa using fW.size,λb hb=>(setRow_other w3 _ b _ (by omega)).trans (fW.block b hb)⟩,λ_=>0,λ_ _=>rfl,_,rfl,.data _ _ (.int _ _),trivial⟩
  rcases ml with⟨v,rfl,rfl⟩|⟨n,rfl,rfl⟩|⟨s,rfl,rfl⟩
  . obtain ⟨c,rfl,_,_⟩:=nF
    exact .inl ⟨c,rfl,fin w2 0 (Below.refl _ _)⟩
  . obtain ⟨c,rfl,hc⟩:=nF
    obtain rfl:c = .iface 257 (.agg #[.int .i64 n]):=by
      cases hc with
      |iface _ _ c h =>
        cases h with
        |agg _ vs hl h1 hr =>
          obtain⟨u,rfl⟩:=j6 (vs:=vs) (by rw[<-hl];rfl);have:=hr 0 (by simp) (by simp);have:=(RV.data (al:=bU) _ _ this).int_eq;simp only[List.getElem_toArray,List.getElem_cons_zero]at this;rw[this]
    exact .inr (.inl ⟨n,rfl,λw3 h3=>fin w3 5 h3⟩)
  . obtain ⟨c,rfl,hc⟩:=nF
    obtain rfl:c = .iface 264 (.agg #[.string ⟨s.toArray⟩]):=by
      cases hc with
      |iface _ _ c h =>
        cases h with
        |agg _ vs hl h1 hr =>
          obtain⟨u,rfl⟩:=j6 (vs:=vs) (by rw[<-hl];rfl);have:=hr 0 (by simp) (by simp);simp only[List.getElem_toArray,List.getElem_cons_zero]at this;cases this;rfl
    exact .inr (.inr ⟨s,rfl,λw3 h3=>fin w3 4 h3⟩)
def L_{GI:World->Prop}(hG:aw GI){n:Nat}{ro:Option Nat}{Q:fH}{old:Old}{S:af}{H:ah}{x y:Code}(ac:ae)(bI:∀d∈ac.names,¬old.bx d)(K:af->ah->Prop)(h:bD prog GI ac (aB K) S H)(hy:∀S' H',K S' H'->SW prog GI n ro y Q old S' H')(hc:jV x=true:=by kernel_rfl)(jN:de prog n x=ac:=by kernel_rfl):SW prog GI n ro (.seq x y) Q old S H:=SW.cut hG cV hc jN bI K h hy
def dR{GI:World->Prop}(hG:aw GI){n:Nat}{ro:Option Nat}{Q:fH}{old:Old}{S:af}{H:ah}{x y:Code}(ac:ae)(K:af->ah->Prop)(h:bD prog GI ac (aB K) S H)(hy:∀S' H',K S' H'->SW prog GI n ro y Q old S' H')(bI:∀d∈ac.names,¬old.bx d:=by exact λ_ _ h=>h)(hc:jV x=true:=by kernel_rfl)(jN:de prog n x=ac:=by kernel_rfl):SW prog GI n ro (.seq x y) Q old S H:=SW.cut hG cV hc jN bI K h hy
def gI:AV.aA∘AV.aA=AV.aA:=by funext v;exact AV.idem v
def HE:AV.bF∘AV.bF=AV.bF:=by funext v;cases v<;>rfl
def Ra(hG:aw GI){fA:List AV}{out:List Int}(hl:fA.length=11):AC prog GI 49 [.agg fA,vI out] (.ret (.func (.func 121) [] [.ref (fA.map AV.bF),.ref [vI out]])):=by
 refine AC.wH hG cV func49 rfl ntmps49 (by simp) (ac:=c49) (by kernel_rfl) ?_;simp[c49,bD,bg,ar,aM,ao,cS,ev,aD.S,aD.H,aq,aH,AL.start,AV.aA,AV.cells,AV.storable,hl,aT,iQ,a_,vI];refine⟨4,.func 121,[],[.box 2 0,.box 3 0],rfl,by decide,by simp[aq],?_⟩;simp[aq,fz,fM,AV.bF,nq]
def DX(out:List Int)(l:List (List End)):AV:=.slice (if l.isEmpty then .nil else .own 108) (l.map (aQ out))
def DY(out:List Int)(l:List (List End)):AV:=.slice (if l.isEmpty then .nil else .view) (l.map (aQ out))
def Xk (hG:aw GI) {fA:List AV} {out:List Int} {eV:List (List End)} {p:List End→Bool} (hl:fA.length=11) (eZ:∀ x∈fA,x.one=true) (hlen:eV.length≤100000) (aI:∀ es∈eV,es.length < 1000)
  (my:nK prog GI 121 [.ref (fA.map AV.bF),.ref [vI out]] (eV.map (aQ out))) (Jv:∀es∈eV,AC prog GI 138 [.agg (fA.map AV.bF),aQ out es,.int .i64 0] (.ret (.bool (p es)))):
  AC prog GI 96 [.agg fA,vI out] (.ret (DY out (eV.filter p))):=by
 refine AC.iL func96 rfl ntmps96 (by simp) λcc w=>?_
 refine dR hG c96.qa (λS' H'=>S' 1=vI out/\S' 2=.box 2 0/\H' 2=some (fA.map AV.aA)) ?_ ?_
 .simp[c96,ae.qa,bD,bg,ar,aM,ao,ev,aD.S,aD.H,aq,aH,AL.start,AV.aA,AV.cells,AV.storable,hl,aT,a_,vI,aB]
 rintro S1 H1 ⟨s1,s2,h2⟩;refine dR hG c96.qb.qa (λS' H'=>S' 1=vI out/\S' 2=.box 2 0/\S' 5=.box 5 0/\H' 2=some (fA.map AV.aA)/\H' 5=some [.slice .nil []]) ?_ ?_
 .simp[c96,ae.qa,ae.qb,bD,bg,ar,aM,aq,aT,vI,aB,s1,s2,h2]
 rintro S2 H2 ⟨s1,s2,s5,h2,h5⟩;refine SW.seq (dR hG c96.qb.qb.qa.qa (λS' H'=>S' 2=.box 2 0/\S' 5=.box 5 0/\S' 9=.func (.func 121) [] [.ref (fA.map AV.bF),.ref [vI out]]/\H' 2=some (fA.map AV.aA)/\H' 5=some [.slice .nil []]) ?_ ?_)
 .have e7:fz H2 (.agg (fA.map AV.aA))=.agg (fA.map AV.bF):=by simp only[fz,fM,AV.vw,List.map_map,nq]
  have xB:=Ra hG (fA:=fA.map AV.bF) (out:=out) (GI:=GI) (by simpa using hl);simp only[List.map_map,HE]at xB;simp[c96,ae.qa,ae.qb,bD,bg,ar,aM,ao,ev,aD.S,aD.H,aq,aH,aZ,s1,s2,s5,h2,h5,aB,jB,hl,HR.okB,gI];have ht:List.take 11 (List.map AV.aA fA)=fA.map AV.aA:=List.take_of_length_le (by simp;omega);rw[ht,e7];refine⟨by kernel_rfl,_,xB,by simp[bR,vI,AV.aA],?_⟩;simp[lR,aq,s2,s5,h2,h5]
 rintro S3 H3 ⟨s2,s5,s9,h2,h5⟩
 refine SW.block (SW.range hG cV (E3:=.tmp 9) (y:=.t 9) (p:=10) (f:=121) (caps:=[.ref (fA.map AV.bF),.ref [vI out]]) (xs:=eV.map (aQ out)) rfl s9 (by kernel_rfl) rfl my (by decide) (λx hx=>by obtain⟨e,_,rfl⟩:=List.mem_map.1 hx;rfl)
  (λd=>d==6) (aa:=.ops [⟨(some 6),none,.alloc 108 [(.slice .nil []),(.slice .nil [])]⟩,⟨none,none,.store .any 2 (.t 6) (.t 10)⟩]) (ab:=.block 1 (.seq (.ops [⟨some 11,none,.load .any true 11 (.t 2)⟩,⟨some 12,none,.load .any true 2 (.t 6)⟩,⟨some 13,none,.call 138 [(.t 11),(.t 12),(.c (.int .i64 0))]⟩]) (.cond (.t 13) (.ops [⟨some 14,none,.loadT .any (.t 5)⟩,⟨some 15,none,.load .any true 2 (.t 6)⟩,⟨some 16,none,.buildSlice 180 108 2 [(.t 15)]⟩,⟨some 17,none,.append 180 108 2 48 (.t 14) (.t 16)⟩,⟨none,none,.store .any 1 (.t 5) (.t 17)⟩]) .skip)))
  (by kernel_rfl) (by kernel_rfl) (by simp[ae.names,bl.fX,dS.fX]) (by simp[ae.names,bl.fX,dS.fX]) (λ_ _ h=>h) (by kernel_rfl) (by kernel_rfl)
  (λk H'=>H' 2=some (fA.map AV.aA)/\H' 5=some [DX out ((eV.take k).filter p)]) (λ_ _=>False) ⟨h2,h5⟩ ?_ ?_ ?_)
 .rintro k hk H' ⟨h2,h5⟩
  have eK:k<eV.length:=by simpa using hk
  have ui:(eV.map (aQ out))[k]=aQ out eV[k]:=by simp
  have hf:=Jv eV[k] (List.getElem_mem eK)
  have ng:eV.take (k+1)=eV.take k++[eV[k]]:=by rw[List.take_succ_eq_append_getElem eK]
  have e7:∀H,fz H (.agg (fA.map AV.aA))=.agg (fA.map AV.bF):=λH=>by simp only[fz,fM,AV.vw,List.map_map,nq]
  have e8:∀H,fz H (.agg [.slice .view (ints out),.slice .view (aW eV[k])])=aQ out eV[k]:=λH=>rfl
  have e9:∀H,fz H (.int .i64 0)=.int .i64 0:=λH=>rfl
  have ht:List.take 11 (List.map AV.aA fA)=fA.map AV.aA:=List.take_of_length_le (by simp;omega)
  have sH:lG (λd=>d==6) (S3 2)=.box 2 0:=by rw[s2];rfl
  have nD:lG (λd=>d==6) (S3 5)=.box 5 0:=by rw[s5];rfl
  rw[ui,ng,List.filter_append];simp[bD,bg,ar,aM,ao,ev,aD.S,aD.H,aq,aH,aB,aT,sH,nD,h2,h5,HR.okB,aQ,AV.cells,AV.storable,AV.aA,aR,AV.bm,a_,cS,cg,aZ,gI,ht,jB,hl,e7,e8,e9];refine⟨by kernel_rfl,_,hf,by simp[bR],?_⟩;have hL:(List.filter p (List.take k eV)).length<=100000:=Nat.le_trans (List.length_filter_le _ _) (by simp;omega);generalize List.filter p (List.take k eV)=L at hL h5⊢
  have bB:aF 2 (L.map (aQ out))=true:=by simp[aF,aQ,AV.storable,AV.cells]
  cases hp:p eV[k]with
  |false=>simp[lR,lK,h2,h5,hp,aq]
  |true=>
   cases L with
   |nil=>simp[lR,lK,hp,aF,AV.storable,AV.cells,AV.vw,AV.bF,DX,AV.aA,HR.okB,aq,aR,AV.bm,aQ,nD,h2]
   |cons x L=>
    have uF:L.length+1+1<1048576:=by simp at hL;omega
    simp[lR,lK,hp,aF,AV.storable,AV.cells,AV.vw,AV.bF,DX,AV.aA,HR.okB,aq,aR,AV.bm,aQ,nD,uF,h2]
 .rintro D H' hD ⟨h2,h5⟩;show SW prog GI 19 none (.seq _ .ret) _ _ _ _
  have nD:lG (λd=>d==6) (S3 5)=.box 5 0:=by rw[s5];rfl
  have ng:List.take (eV.map (aQ out)).length eV=eV:=List.take_of_length_le (by simp);rw[ng]at h5;refine dR hG c96.qb.qb.qb.qa (λS' _=>S' 4=DY out (eV.filter p)) ?_ ?_
  .generalize eV.filter p=L at h5⊢
   cases L<;>simp[c96,ae.qa,ae.qb,bD,bg,ar,aM,ao,ev,aD.S,aD.H,aq,aH,aZ,nD,h5,HR.okB,aB,DX,DY,AV.aA,a_]
  intro S4 H4 s4;refine SW.ret ⟨(ea.plain rfl).mark hD,rfl,_,?_,rfl⟩;show cn prog 19 [.tmp 4] S4 H4=_;simp[cn,ct,cw,s4,DY,AV.bC,AV.out]
 .exact λ_ _ _ _ _ h=>h.elim
def V_ (hG:aw GI) {fA:List AV} {out:List Int} {eV:List (List End)} {p:List End→Bool} (hl:fA.length=11)
  (my:nK prog GI 121 [.ref (fA.map AV.bF),.ref [vI out]] (eV.map (aQ out))) (Jv:∀es∈eV,AC prog GI 138 [.agg (fA.map AV.bF),aQ out es,.int .i64 0] (.ret (.bool (p es)))):
  AC prog GI 66 [.agg fA,vI out] (.ret (.bool (eV.any p))):=by
 refine AC.iL func66 rfl ntmps66 (by simp) λcc w=>?_
 refine dR hG c66.qa (λS' H'=>S' 1=vI out/\S' 2=.box 2 0/\H' 2=some (fA.map AV.aA)) ?_ ?_
 .simp[c66,ae.qa,bD,bg,ar,aM,ao,ev,aD.S,aD.H,aq,aH,AL.start,AV.aA,AV.cells,AV.storable,hl,aT,a_,vI,aB]
 rintro S1 H1 ⟨s1,s2,h2⟩;refine SW.scope (dR hG (.ops [⟨some 5,none,.alloc 4 [.bool false]⟩,⟨none,none,.store .any 1 (.t 5) (.c (.bool false))⟩]) (λS' H'=>S' 1=vI out/\S' 2=.box 2 0/\S' 5=.box 5 0/\H' 2=some (fA.map AV.aA)/\H' 5=some [.bool false]) ?_ ?_)
 .simp[bD,bg,ar,aM,aq,aT,vI,aB,s1,s2,h2,ao,ev,aD.S,aD.H,HR.okB,AV.cells,AV.storable,aR,AV.bm,a_,aH]
 rintro S2 H2 ⟨s1,s2,s5,h2,h5⟩;refine SW.seq (SW.label ?_);show SW prog GI 15 none (.seq (.seq _ (.block _ _)) _) _ _ _ _;refine SW.seq (dR hG (.ops [⟨some 7,none,.load .any true 11 (.t 2)⟩,⟨some 8,none,.mv false (.t 1)⟩,⟨some 9,none,.call 49 [(.t 7),(.t 8)]⟩]) (λS' H'=>S' 2=.box 2 0/\S' 5=.box 5 0/\S' 9=.func (.func 121) [] [.ref (fA.map AV.bF),.ref [vI out]]/\H' 2=some (fA.map AV.aA)/\H' 5=some [.bool false]) ?_ ?_)
 .have e7:fz H2 (.agg (fA.map AV.aA))=.agg (fA.map AV.bF):=by simp only[fz,fM,AV.vw,List.map_map,nq]
  have xB:=Ra hG (fA:=fA.map AV.bF) (out:=out) (GI:=GI) (by simpa using hl);simp only[List.map_map,HE]at xB;simp[bD,bg,ar,aM,ao,ev,aD.S,aD.H,aq,aH,aZ,s1,s2,s5,h2,h5,aB,jB,hl,HR.okB,gI];have ht:List.take 11 (List.map AV.aA fA)=fA.map AV.aA:=List.take_of_length_le (by simp;omega);rw[ht,e7];refine⟨by kernel_rfl,_,xB,by simp[bR,vI,AV.aA],?_⟩;simp[lR,aq,s2,s5,h2,h5]
 rintro S3 H3 ⟨s2,s5,s9,h2,h5⟩
 have sH:lG (λd=>d==6) (S3 2)=.box 2 0:=by rw[s2];rfl
 have nD:lG (λd=>d==6) (S3 5)=.box 5 0:=by rw[s5];rfl
 have rest:∀ (D:Nat) (H':ah) (r:Bool),(Old.plain cc w).keep D=none->H' 5=some [.bool r]->r=eV.any p->SW prog GI 15 none (.seq (Code.region 6 #[{ dst:=some 14,op := .load 4 (.tmp 5),type:=4,pos := "name.go:54",after := #[],guard:=none },{ dst:=some 4,op := .assign (.tmp 14),type:=4,pos := "name.go:54",after := #[{ on:=0,ground := .data },{ on:=0,ground := .phase }],guard:=none }] false) .ret) (pv prog 15 f66.results.toList (.ret (.bool (eV.any p))) cc) ((Old.plain cc w).mark D) (λt=>lG (λd=>d==6) (S3 t)) H':=by
  intro D H' r hD h5 hr;refine dR hG (.ops [⟨some 14,none,.load .any false 1 (.t 5)⟩,⟨some 4,none,.mv true (.t 14)⟩]) (λS' _=>S' 4=.bool r) ?_ ?_
  .simp[bD,bg,ar,aM,ao,ev,aD.S,aD.H,aq,aH,aZ,nD,h5,HR.okB,aB,AV.aA,a_]
  intro S4 H4 s4;refine SW.ret ⟨(ea.plain rfl).mark hD,rfl,.bool r,?_,by rw[hr]⟩;show cn prog 15 [.tmp 4] S4 H4=_;simp[cn,ct,cw,s4,AV.bC,AV.out]
 refine SW.block (SW.range hG cV (E3:=.tmp 9) (y:=.t 9) (p:=10) (f:=121) (caps:=[.ref (fA.map AV.bF),.ref [vI out]]) (xs:=eV.map (aQ out)) rfl s9 (by kernel_rfl) rfl my (by decide) (λx hx=>by obtain⟨e,_,rfl⟩:=List.mem_map.1 hx;rfl)
  (λd=>d==6) (aa:=.ops [⟨(some 6),none,.alloc 108 [(.slice .nil []),(.slice .nil [])]⟩,⟨none,none,.store .any 2 (.t 6) (.t 10)⟩]) (ab:=.block 1 (.seq (.ops [⟨some 11,none,.load .any true 11 (.t 2)⟩,⟨some 12,none,.load .any true 2 (.t 6)⟩,⟨some 13,none,.call 138 [(.t 11),(.t 12),(.c (.int .i64 0))]⟩]) (.cond (.t 13) (.seq (.ops [⟨none,none,.store .any 1 (.t 5) (.c (.bool true))⟩]) (.exit 0)) .skip)))
  (by kernel_rfl) (by kernel_rfl) (by simp[ae.names,bl.fX,dS.fX]) (by simp[ae.names,bl.fX,dS.fX]) (λ_ _ h=>h) (by kernel_rfl) (by kernel_rfl)
  (λk H'=>H' 2=some (fA.map AV.aA)/\H' 5=some [.bool false]/\(eV.take k).any p=false) (λe H'=>e=.exit 0/\H' 5=some [.bool true]/\eV.any p=true) ⟨h2,h5,rfl⟩ ?_ ?_ ?_)
 .rintro k hk H' ⟨h2,h5,dZ⟩
  have eK:k<eV.length:=by simpa using hk
  have ui:(eV.map (aQ out))[k]=aQ out eV[k]:=by simp
  have hf:=Jv eV[k] (List.getElem_mem eK)
  have ng:eV.take (k+1)=eV.take k++[eV[k]]:=by rw[List.take_succ_eq_append_getElem eK]
  have e7:∀H,fz H (.agg (fA.map AV.aA))=.agg (fA.map AV.bF):=λH=>by simp only[fz,fM,AV.vw,List.map_map,nq]
  have e8:∀H,fz H (.agg [.slice .view (ints out),.slice .view (aW eV[k])])=aQ out eV[k]:=λH=>rfl
  have e9:∀H,fz H (.int .i64 0)=.int .i64 0:=λH=>rfl
  have ht:List.take 11 (List.map AV.aA fA)=fA.map AV.aA:=List.take_of_length_le (by simp;omega);rw[ui,ng,List.any_append];simp[bD,bg,ar,aM,ao,ev,aD.S,aD.H,aq,aH,aB,aT,sH,nD,h2,h5,HR.okB,aQ,AV.cells,AV.storable,AV.aA,aR,AV.bm,a_,cS,cg,aZ,gI,ht,jB,hl,e7,e8,e9];refine⟨by kernel_rfl,_,hf,by simp[bR],?_⟩
  cases hp:p eV[k]with
  |false=>simp[lR,lK,h2,h5,hp,aq];simpa using dZ
  |true=>
   have Zb:∃x,x∈eV/\p x=true:=⟨_,List.getElem_mem eK,hp⟩
   simp[lR,lK,hp,aq,h2,Zb]
 .rintro D H' hD ⟨h2,h5,dZ⟩;have ng:List.take (eV.map (aQ out)).length eV=eV:=List.take_of_length_le (by simp);rw[ng]at dZ;exact rest D H' false hD h5 dZ.symm
 .rintro D e H' hD _ ⟨rfl,h5,hy⟩;exact rest D H' true hD h5 hy.symm
structure nS where
 l:Int
 r:Int
 lo:Int
 hi:Int
def ir(p:nS):AV:=.agg [.int .i64 p.l,.int .i64 p.r,.int .i64 p.lo,.int .i64 p.hi]
def rp(p:nS):AV:=.agg [.int .i64 p.l,.int .i64 p.r]
def nx(p:nS):AV:=.agg [.int .i64 p.lo,.int .i64 p.hi]
def bH(ps:List nS):AV:=.map (ps.map rp) (ps.map nx)
def VQ(es:Array MapEntry)(ps:List nS):Prop:=es.size=ps.length/\∀i (h:i<es.size)(h':i<ps.length),(es[i]).key=.agg #[.int .i64 (ps[i]).l,.int .i64 (ps[i]).r]/\(es[i]).val=.agg #[.int .i64 (ps[i]).lo,.int .i64 (ps[i]).hi]
def Ke{Pr:Nat->Nat->Prop}{w:World}(x y:Int):RD Pr w (.agg [.int .i64 x,.int .i64 y]) (.agg #[.int .i64 x,.int .i64 y]):=by
 refine .agg _ _ rfl (λi hi=>?_) (λi hi ck=>?_)
 .match i,hi with
  |0,_=>rfl
  |1,_=>rfl
 .match i,hi with
  |0,_=>exact .int _ _
  |1,_=>exact .int _ _
def xD(x y:Int):∀(ps:List nS),(∀p∈ps,¬(p.l=x/\p.r=y))->mm [x,y] (ps.map rp) (ps.map nx)=some none
 |[],_=>rfl
 |p::ps,h=>by
  have hp:([x,y]==[p.l,p.r])=false:=by
   have:=h p List.mem_cons_self;simp only[beq_eq_false_iff_ne,ne_eq,List.cons.injEq,and_true];rintro⟨rfl,rfl⟩;exact this ⟨rfl,rfl⟩
  show mm [x,y] (rp p::ps.map rp) (nx p::ps.map nx)=some none;unfold mm;simp only[rp,kC,Option.map_some];simp only[List.length_cons,List.length_nil,ne_eq,not_true_eq_false,if_false,hp,Bool.false_eq_true]
  exact xD x y ps λq hq=>h q (List.mem_cons_of_mem _ hq)
def oM(cc:Nat->Nat->Prop)(w:World)(b:Nat)(es:Array MapEntry)(clock:Nat):Old:={ Old.plain cc w with keep:=aq (λ_=>none) b (some (.map es clock)) }
def Hc(sA:List AV)(ps:List nS)(z:List AV)(b j:Nat)(S:af)(H:ah):Prop:=
 S 2=.box 2 0/\S 3=.box 3 0/\S 10=.slice .view (ps.map ir)/\S 11=.int .i64 ps.length/\S 12=.int .i64 (j:Nat)/\H 2=some z/\H 3=some (sA.map AV.aA++[.val (.map (some b))])
def G_{Pr:Nat->Nat->Prop}{al:Nat->Option Nat}{w:World}{x y:Int}{c:Value}(h:RV Pr al w (.agg [.int .i64 x,.int .i64 y]) c):c=.agg #[.int .i64 x,.int .i64 y]:=by
 cases h with
 |data _ _ h=>
  cases h with
  |agg _ vs hl h1 hr=>
   congr 1
   apply Array.ext
   .rw[<-hl];rfl
   .intro i hi ck
    have nB:i<2:=by simpa using ck
    match i,nB with
    |0,_=>exact(RV.data (al:=bU) _ _ (hr 0 (by simp) hi)).int_eq
    |1,_=>exact(RV.data (al:=bU) _ _ (hr 1 (by simp) hi)).int_eq
def IA{b:Nat}{ks vs:List AV}{x:AV}(h:isVal x=false):pJ b ks vs x.aA=x.aA:=by
 cases x<;>first|rfl|(cases h;done)|skip
 rename_i o es;cases o<;>rfl
def Jh{P:Program}{t kt el:TypeId}(h:(P.underlying t).map (λd=>match d with|.map k e=>some (k,e)|_=>none)=some (some (kt,el))):P.underlying t=some (.map kt el):=by
 cases hi:P.underlying t with
 |none=>rw[hi]at h;cases h
 |some d=>
  rw[hi]at h
  cases d<;>simp at h
  obtain⟨rfl,rfl⟩:=h;rfl
def zH:TypeDesc->Bool
 |.struct _=>true
 |_=>false
def Bk{P:Program}{t:TypeId}(h:(P.underlying t).map zH=some true):∃fs,P.underlying t=some (.struct fs):=by
 cases hi:P.underlying t with
 |none=>rw[hi]at h;cases h
 |some d=>
  rw[hi]at h
  cases d<;>first|(cases h;done)|exact⟨_,rfl⟩
def uZ(t:TypeId)(h:(prog.underlying t).map zH=some true:=by kernel_rfl):∃fs,prog.underlying t=some (.struct fs):=Bk h
noncomputable def vE:ae:=ae.qb c48.qb.qb.qa.qb.qb.qb.qb
def YF (hG:aw GI) {sA:List AV} {ps:List nS} (hl:sA.length=10) (BS:sA[1]? = some (.slice .view (ps.map ir))) (eZ:∀ x∈sA,x.storable=true∧isVal x=false) (hlen:ps.length≤100000) (cT:∀ i j (hi:i < ps.length) (hj:j < ps.length),i < j→¬ ((ps[i]).l=(ps[j]).l∧(ps[i]).r=(ps[j]).r)) :
  AC prog GI 48 [.agg sA] (.ret (.agg ((sA++[bH ps]).map AV.bF))):=by
 refine AC.iL func48 rfl ntmps48 (by simp) λcc w=>?_
 refine dR hG c48.qa (λS' H'=>S' 1=.box 1 0/\S' 2=.box 2 0/\H' 1=some (sA.map AV.aA)/\∃z,H' 2=some z/\z.length=11) ?_ ?_
 .simp[c48,ae.qa,bD,bg,ar,aM,ao,ev,aD.S,aD.H,aq,aH,AL.start,AV.aA,AV.cells,AV.storable,hl,aT,a_,aB]
 rintro S1 H1 ⟨s1,s2,h1,z,h2,hz⟩
 refine SW.seq (SW.mid hG (p:=1) (oh:={ dst:=some 7,op := .makeMap 123 none,type:=123,pos := "letter.go:113",after := #[],guard:=none }) (jT:=[_]) (jC:=[_,_,_]) (l2:=[2,3,4]) rfl rfl rfl rfl (by kernel_rfl) rfl (λ_ h=>h) (nN:=(c48.qb.qa.dl).take 1) (mF:=(c48.qb.qa.dl).drop 2) (by kernel_rfl) (by kernel_rfl) (by kernel_rfl) (by kernel_rfl)
  (K1:=λS' H'=>S' 1=.box 1 0/\S' 2=.box 2 0/\S' 6=.agg (sA.map AV.aA)/\H' 1=some (sA.map AV.aA)/\H' 2=some z)
  (K2:=λo S' H'=>∃b,o=oM cc w b #[] 0/\S' 1=.box 1 0/\S' 2=.box 2 0/\S' 6=.agg (sA.map AV.aA)/\S' 7=.val (.map (some b))/\H' 1=some (sA.map AV.aA)/\H' 2=some z)
  (K3:=λo S' H'=>∃b,o=oM cc w b #[] 0/\S' 1=.box 1 0/\S' 2=.box 2 0/\S' 3=.box 3 0/\H' 1=some (sA.map AV.aA)/\H' 2=some z/\H' 3=some (sA.map AV.aA++[.val (.map (some b))])) ?_ ?_ ?_ ?_)
 .have ht:List.take 10 (sA.map AV.aA)=sA.map AV.aA:=List.take_of_length_le (by simp;omega);simp[c48,ae.qa,ae.qb,ae.dl,bg,ar,aM,ao,ev,aD.S,aD.H,aq,aH,aZ,s1,s2,h1,h2,HR.okB,hl,gI,ht]
 .rintro w0 g S2 H2 a w2 ho R ⟨s1,s2,s6,h1,h2⟩;have R2:=R.AQ (.map #[] 0);refine⟨_,_,_,aq S2 7 (.val (.map (some w2.heap.size))),H2,.inl (run_makeMap rfl),R2.put 7 (.val (.map (some w2.heap.size))) _ (by decide) (.data _ _ (.val _ rfl)) trivial,w2.heap.size,?_,by simp[aq,s1],by simp[aq,s2],by simp[aq,s6],by simp[aq],h1,h2⟩;show({ g.old with keep:=aq g.old.keep w2.heap.size (some (.map #[] 0)) }:Old)=_;rw[ho];rfl
 .rintro o S2 H2 ⟨b,rfl,s1,s2,s6,s7,h1,h2⟩;refine⟨λ_ h=>h,?_⟩
  have gE:∀x∈sA.map AV.aA,x.storable=true:=by
   intro x hx;obtain⟨y,hy,rfl⟩:=List.mem_map.1 hx;rw[AV.pN];exact(eZ y hy).1
  have jP:∀c:AV,aR (aR [.slice .nil [],.slice .nil [],.int .i64 0,.int .i64 0,.int .i64 0,.int .i64 0,.int .i64 0,.slice .nil [],.int .i64 0,.int .i64 0,.map [] []] 0 (sA.map AV.aA)) 10 [c]=sA.map AV.aA++[c]:=by
   intro c
   have e1:aR [.slice .nil [],.slice .nil [],.int .i64 0,.int .i64 0,.int .i64 0,.int .i64 0,.int .i64 0,.slice .nil [],.int .i64 0,.int .i64 0,.map [] []] 0 (sA.map AV.aA)=sA.map AV.aA++[AV.map [] []]:=by
    simp[aR,hl]
   rw[e1];simp[aR,hl]
  have aaA:∀c:AV,aR [.slice .nil [],.slice .nil [],.int .i64 0,.int .i64 0,.int .i64 0,.int .i64 0,.int .i64 0,.slice .nil [],.int .i64 0,.int .i64 0,.map [] []] 0 (sA.map AV.aA++[c])=sA.map AV.aA++[c]:=by
   intro c;simp[aR,hl]
  have BH:(aR [AV.slice .nil [],.slice .nil [],.int .i64 0,.int .i64 0,.int .i64 0,.int .i64 0,.int .i64 0,.slice .nil [],.int .i64 0,.int .i64 0,.map [] []] 0 (sA.map AV.aA)).length=11:=by simp[aR,hl]
  simp[c48,ae.qa,ae.qb,ae.dl,bg,ar,aM,ao,ev,aD.S,aD.H,aq,aH,cL,s6,s7,AV.cells,AV.aA,AV.storable,hl,BH,jP]
  have e3:(List.map AV.aA sA++[AV.val (Value.map (some b))]).map AV.aA=List.map AV.aA sA++[AV.val (Value.map (some b))]:=by simp[gI,AV.aA]
  simp[HR.okB,aT,a_,AV.bm,hl,gI,AV.aA,aq,h1,h2,s1,s2];simp[aR,hl]
 .rintro o S2 H2 ⟨b,rfl,s1,s2,s3,h1,h2,h3⟩;show SW prog GI 27 none (.seq (.seq _ (.block 0 (.loop _))) (.seq _ .ret)) _ _ _ _;refine SW.seq (dR hG c48.qb.qb.qa.qa (λS' H'=>S' 2=.box 2 0/\S' 3=.box 3 0/\S' 10=.slice .view (ps.map ir)/\S' 11=.int .i64 ps.length/\S' 12=.int .i64 0/\H' 2=some z/\H' 3=some (sA.map AV.aA++[.val (.map (some b))])) ?_ ?_)
  .have yt:(sA.map AV.aA)[1]?=some (.slice .view (ps.map ir)):=by rw[List.getElem?_map,BS];rfl
   simp[c48,ae.qa,ae.qb,bD,bg,ar,aM,ao,aB,ev,aD.S,aD.H,aq,aH,aZ,s1,s2,s3,h1,h2,h3,HR.okB,yt,AV.aA]
  rintro S3 H3 ⟨s2,s3,fu,dV,bK,h2,h3⟩
  refine SW.block (SW.loop (λo S' H'=>∃j es clock,j<=ps.length/\o=oM cc w b es clock/\VQ es (ps.take j)/\S' 2=.box 2 0/\S' 3=.box 3 0/\S' 10=.slice .view (ps.map ir)/\S' 11=.int .i64 ps.length/\S' 12=.int .i64 (j:Nat)/\H' 2=some z/\H' 3=some (sA.map AV.aA++[.val (.map (some b))]))
   (λS' _=>match S' 12 with|.int _ j=>ps.length-j.toNat|_=>0) ⟨0,#[],0,Nat.zero_le _,rfl,⟨by simp,λi h=>by simp at h⟩,s2,s3,fu,dV,bK,h2,h3⟩ ?_)
  rintro o S4 H4 ⟨j,es,clock,hj,rfl,rz,s2,s3,fu,dV,bK,h2,h3⟩;have m12:=bK;show SW prog GI 27 none (.seq _ (.seq (.cond _ _ _) (.seq (.block 1 (.seq _ _)) _))) _ _ _ _;refine dR hG c48.qb.qb.qa.qb.qb.qb.qa (λS' H'=>S' 13=.bool (decide (j<ps.length))/\Hc sA ps z b j S' H') ?_ ?_
  .simp[c48,ae.qa,ae.qb,bD,bg,ar,aM,ao,aB,ev,aD.S,aD.H,aq,aH,Hc,s2,s3,fu,dV,bK,h2,h3,ee]
  rintro S5 H5 ⟨dW,hF⟩
  by_cases av:j<ps.length
  case neg=>
   refine SW.seq (SW.cond rfl false (by show S5 13=_;rw[dW];simp[av]) (SW.exit ?_))
   have wU:j=ps.length:=by omega
   subst wU;rw[List.take_length]at rz;obtain⟨s2,s3,fu,dV,bK,h2,h3⟩:=hF;show SW prog GI 27 none (.seq _ .ret) _ _ _ _;refine dR hG c48.qb.qb.qb.qa (λS' H'=>S' 2=.box 2 0/\H' 2=some (sA.map AV.aA++[.val (.map (some b))])) ?_ ?_
   .have e3:(List.map AV.aA sA++[AV.val (Value.map (some b))]).map AV.aA=List.map AV.aA sA++[AV.val (Value.map (some b))]:=by simp[gI,AV.aA]
    have ht:List.take 11 (List.map AV.aA sA++[AV.val (Value.map (some b))])=List.map AV.aA sA++[AV.val (Value.map (some b))]:=List.take_of_length_le (by simp[hl]);have Sq:List.drop 11 z=[]:=List.drop_eq_nil_of_le (by omega);simp[c48,ae.qa,ae.qb,bD,bg,ar,aM,ao,aB,ev,aD.S,aD.H,aq,aH,s2,s3,h2,h3,aZ,HR.okB,hl,AV.cells,AV.storable,AV.bm,aR,a_,gI,AV.aA,ht,hz,Sq]
   rintro S6 H6 ⟨s2,h2⟩;refine SW.ghost (K:=λo S' H'=>ea o/\o.c=cc/\S' 2=.box 2 0/\H' 2=some (sA.map AV.aA++[bH ps])) ?_ ?_
   .intro w0 g a w' hg R
    have hk:g.old.keep b=some (.map es clock):=by rw[hg];show aq (λ_=>none) b _ b=_;exact aJ _ _ _
    obtain⟨g2,n9,R2⟩:=R.MA hk (ps.map rp) (ps.map nx) (by simpa using rz.1.symm) (by simpa using rz.1.symm) (λi h h'=>by
     simp only[List.length_map]at h;simp only[List.getElem_map,(rz.2 i h' h).1]
     exact Ke _ _) (λi h h'=>by
     simp only[List.length_map]at h;simp only[List.getElem_map,(rz.2 i h' h).2]
     exact Ke _ _) (by rw[hg];rfl)
    refine⟨g2,_,_,R2,ea.plain (by rw[n9,hg];rfl),by rw[n9,hg];rfl,by simp[s2],?_⟩
    have hgm:(sA.map AV.aA).map (pJ b (ps.map rp) (ps.map nx))=sA.map AV.aA:=by
     rw[List.map_map]
     exact List.map_congr_left λx hx=>IA (eZ x hx).2
    show(H6 2).map _=_;rw[h2];simp only[Option.map_some,List.map_append,hgm,List.map_cons,List.map_nil];simp[pJ,bH]
   .rintro o S7 H7 ⟨hm,hc,s2,h2⟩;obtain⟨i103,UM,UP⟩:=iZ 125 11;obtain⟨fs,iD⟩:=uZ 125;refine SW.ret ⟨hm,hc,_,?_,rfl⟩;show cn prog 27 [.cell 2 125] S7 H7=_;have ht:List.take 11 (sA.map AV.aA++[bH ps])=sA.map AV.aA++[bH ps]:=List.take_of_length_le (by simp[hl]);have jP:(bH ps).aA=bH ps:=rfl;have JZ:(bH ps).bF=bH ps:=rfl;simp[cn,ct,cw,s2,h2,UM,iD,UP,aZ,eB,hl,AV.out,jP,JZ,gI,nq];exact List.take_of_length_le (by simp[hl])
  case pos=>
   refine SW.seq (SW.cond rfl true (by show S5 13=_;rw[dW];simp[av]) (SW.skip ?_));show SW prog GI 27 none (.seq (.block 1 (.seq _ _)) _) _ _ _ _;obtain⟨s2,s3,fu,dV,bK,h2,h3⟩:=hF;refine SW.seq (SW.block (dR hG c48.qb.qb.qa.qb.qb.qb.qb.qb.qa.qb.qa (λS' H'=>S' 5=.box 5 0/\H' 5=some (ir ps[j]).cells/\Hc sA ps z b j S' H') ?_ ?_))
   .have bQ:¬(j:Int)<0:=by omega
    simp[c48,ae.qa,ae.qb,bD,bg,ar,aM,ao,aB,ev,aD.S,aD.H,aq,aH,Hc,s2,s3,fu,dV,bK,h2,h3,av,aZ,ir,AV.cells,AV.aA,aT,HR.okB,AV.storable,aR,AV.bm,a_]
   rintro S6 H6 ⟨s5,h5,s2,s3,fu,dV,bK,h2,h3⟩
   have TC:∀q∈ps.take j,¬(q.l=ps[j].l/\q.r=ps[j].r):=by
    intro q hq;obtain⟨i,hi,rfl⟩:=List.getElem_of_mem hq
    have nc:i<j:=by simp at hi;omega
    rw[List.getElem_take];exact cT i j (by omega) av nc
   refine SW.mid hG (p:=9) (oh:={ dst:=none,op := .mapUpdate 123 (.tmp 17) (.tmp 22) (.tmp 24),type:=0,pos := "letter.go:115",after:=_,guard:=none }) (jT:=[_,_,_,_,_,_,_,_,_]) (jC:=[]) (l2:=[]) rfl rfl rfl rfl (by kernel_rfl) rfl (λ_ h=>h) (nN:=(vE.qa.qb.qb.dl).take 9) (mF:=[]) (by kernel_rfl) rfl (by kernel_rfl) rfl
    (K1:=λS' H'=>S' 17=.val (.map (some b))/\S' 22=.agg [.int .i64 ps[j].l,.int .i64 ps[j].r]/\S' 24=.agg [.int .i64 ps[j].lo,.int .i64 ps[j].hi]/\Hc sA ps z b j S' H')
    (K2:=λo S' H'=>o=oM cc w b (es.push { key:=.agg #[.int .i64 ps[j].l,.int .i64 ps[j].r],val:=.agg #[.int .i64 ps[j].lo,.int .i64 ps[j].hi],born:=clock }) (clock+1)/\Hc sA ps z b j S' H')
    (K3:=λo S' H'=>o=oM cc w b (es.push { key:=.agg #[.int .i64 ps[j].l,.int .i64 ps[j].r],val:=.agg #[.int .i64 ps[j].lo,.int .i64 ps[j].hi],born:=clock }) (clock+1)/\Hc sA ps z b j S' H') ?_ ?_ ?_ ?_
   .have Yq:(List.map AV.aA sA++[AV.val (Value.map (some b))])[10]? = some (.val (.map (some b))):=by
     rw[List.getElem?_append_right (by simp[hl])];simp[hl]
    have XL:List.drop 10 (List.map AV.aA sA++[AV.val (Value.map (some b))])=[AV.val (Value.map (some b))]:=by
     rw[List.drop_append_of_le_length (by simp[hl]),List.drop_eq_nil_of_le (by simp[hl])];rfl
    simp[c48,vE,ae.qa,ae.qb,ae.dl,bg,ar,aM,ao,ev,aD.S,aD.H,aq,aH,Hc,s2,s3,s5,fu,dV,bK,h2,h3,h5,aZ,ir,AV.cells,AV.aA,HR.okB,AV.storable,cL,aR,Yq,XL]
   .rintro w0 g S7 H7 a w7 hg R ⟨OM,DF,pP,hF⟩;have t17:=R.slot 17 (by decide) (λh=>h);rw[OM]at t17;have t17:=t17.gp;have t22:=R.slot 22 (by decide) (λh=>h);rw[DF]at t22;have t22:=G_ t22;have t24:=R.slot 24 (by decide) (λh=>h);rw[pP]at t24;have t24:=G_ t24
    have hk:g.old.keep b=some (.map es clock):=by rw[hg];show aq (λ_=>none) b _ b=_;exact aJ _ _ _
    have hb:=(R.kept b _ hk).2.1;have eI:=Jh (P:=prog) (t:=123) (kt:=208) (el:=33) (by kernel_rfl);obtain⟨fs,iD⟩:=uZ 208;have GN:(ps.take j).length=es.size:=rz.1.symm;refine⟨undef,_,_,S7,H7,.inr ⟨Gy (Pr:=λ_ _=>False) (ks:=(ps.take j).map rp) (vs:=(ps.take j).map nx) (key:=[ps[j].l,ps[j].r]) rfl eI iD (k:=2) (by kernel_rfl) t17 t22 t24 hb rfl (by simpa using GN) (by simpa using GN) (λi h h'=>?_) (λi h h'=>?_) (xD _ _ _ TC),rfl⟩,R.qh hk _,?_,hF⟩
    .simp only[List.length_map]at h;simp only[List.getElem_map,(rz.2 i h' h).1];exact Ke _ _
    .simp only[List.length_map]at h;simp only[List.getElem_map,(rz.2 i h' h).2];exact Ke _ _
    .show({ g.old with keep:=aq g.old.keep b _ }:Old)=_;rw[hg];simp only[oM,Old.mk.injEq,true_and,and_true]
     funext c
     by_cases hc:c=b
     .subst hc;simp[aq,dw]
     .simp[aq,hc]
   .rintro o S7 H7 h;exact⟨by rw[h.1];exact λ_ h=>h,h⟩
   .rintro o S7 H7 ⟨rfl,s2,s3,fu,dV,bK,h2,h3⟩;show SW prog GI 27 none _ _ _ _ _;refine SW.pt hG cV (by kernel_rfl) (λ_ _ h=>h) (ac:=ae.qb vE) (by kernel_rfl) ?_;have uS:IntKind.i64.wrap ((j:Int)+1)=j+1:=bf (by omega)
    have SH:VQ (es.push { key:=.agg #[.int .i64 ps[j].l,.int .i64 ps[j].r],val:=.agg #[.int .i64 ps[j].lo,.int .i64 ps[j].hi],born:=clock }) (ps.take (j+1)):=by
     have hts:ps.take (j+1)=ps.take j++[ps[j]]:=by rw[List.take_succ_eq_append_getElem av]
     rw[hts];refine⟨by simp[rz.1];omega,λi h h'=>?_⟩
     by_cases hi:i<es.size
     .have nB:i<(ps.take j).length:=by rw[<-rz.1];exact hi
      have:=rz.2 i hi nB;rw[Array.getElem_push_lt hi,List.getElem_append_left nB];exact this
     .have va:i=es.size:=by simp at h;omega
      subst va
      have nB:(ps.take j).length<=es.size:=by rw[<-rz.1];exact Nat.le_refl _
      rw[Array.getElem_push_eq,List.getElem_append_right nB];simp
    simp[c48,vE,ae.qa,ae.qb,bD,bg,ar,aM,ao,ev,aD.S,aD.H,aq,aH,s2,s3,fu,dV,bK,h2,h3,ee,AV.aA,uS,fH.bD,thenS];refine⟨⟨j+1,av,_,⟨_,rfl⟩,SH,by omega⟩,?_⟩;rw[m12];show ps.length-(j+1)<ps.length-(j:Int).toNat;rw[Int.toNat_natCast];omega
structure Wd where
 PV:List AV
 cut:Bool
def Dw(l:Wd):AV:=.agg [.slice .view l.PV,.bool l.cut]
def gD(x:Nat×Nat):End:=((x.1:Int),(x.2:Int))
end Go.Proofs.Tryz
namespace Go.AL
def rN{cs:List AV}{i:Nat}(v:AV)(h:i<cs.length):aR cs i [v]=cs.set i v:=by
 unfold aR;rw[List.set_eq_take_append_cons_drop,if_pos h];simp
def J':Code->Code
 |.seq _ y=>y
 |c=>c
def Sh(f:Func):Code:=f.body.getD .skip
def FK{α:Type}(d:AV->Option α):List AV->Option (List α)
 |[]=>some []
 |x::l=>match d x with
  |some a=>match FK d l with
   |some r=>some (a::r)
   |none=>none
  |none=>none
def XZ:AV->Option Int
 |.int .i64 n=>some n
 |_=>none
def Qr:AV->Option (List Int)
 |.slice .view es=>FK XZ es
 |_=>none
section
variable{P:Program}{GI:World->Prop}
def kO(P:Program)(GI:World->Prop)(rest:List bl)(K:af->ah->Prop)(Qp:AV->Prop)(S:af)(dst:Option Nat)(H:ah)(v:AV):Prop:=bg P GI rest K Qp (aH S dst v) H
def kD(P:Program)(GI:World->Prop)(rest:List bl)(K:af->ah->Prop)(S:af)(dst:Option Nat)(H:ah)(v:AV):Prop:=dc P GI rest K (aH S dst v) H
def fS(P:Program)(GI:World->Prop)(y:ae)(Q:dQ->af->ah->Prop)(e:dQ)(S:af)(H:ah):Prop:=cS (bD P GI y Q) Q e S H
def gL(Q:dQ->af->ah->Prop)(S:af)(H:ah)(v:AV):Prop:=Q (.panic v) S H
def dG(K Qp S H):bg P GI [] K Qp S H=K S H:=(Eq.refl _).trans (Eq.refl _)
def cI(K S H):dc P GI [] K S H=K S H:=(Eq.refl _).trans (Eq.refl _)
def cJ (f args d g rest K Qp S H):bg P GI (⟨d,g,.call f args⟩::rest) K Qp S H=(match ar S g with
  |some true=>jB P GI f (args.map λy=>fz H (ev S y)) (args.any λy=>bR (ev S y)) (kO P GI rest K Qp S d H) Qp
  |some false=>bg P GI rest K Qp (aH S d bG) H
  |none=>False):=(Eq.refl _).trans (Eq.refl _)
def cb (f args d g rest K Qp S H):bg P GI (⟨d,g,.gR f args⟩::rest) K Qp S H=(match ar S g with
  |some true=>(match ev S f with
   |.func (.func k) first cap=>jB P GI k ((first++args.map (ev S)++cap).map (fz H)) ((first++args.map (ev S)++cap).any bR) (kO P GI rest K Qp S d H) Qp
   |_=>False)
  |some false=>bg P GI rest K Qp (aH S d bG) H
  |none=>False):=(Eq.refl _).trans (Eq.refl _)
abbrev OE(P:Program)(GI:World->Prop)(op:dS):Prop:=∀d g rest K Qp S H,bg P GI (⟨d,g,op⟩::rest) K Qp S H=(match ar S g with|some true=>(match ao S H op with|some e=>bg P GI rest K Qp (e.S S d) (e.H H)|none=>False)|some false=>bg P GI rest K Qp (aH S d bG) H|none=>False)
abbrev DE(P:Program)(GI:World->Prop)(op:dS):Prop:=∀d g rest K S H,dc P GI (⟨d,g,op⟩::rest) K S H=(match ar S g with|some true=>(match ao S H op with|some e=>dc P GI rest K (e.S S d) (e.H H)|none=>False)|some false=>dc P GI rest K (aH S d bG) H|none=>False)
def cd(t zero d rest K Qp S H):bg P GI (⟨some d,none,.alloc t zero⟩::rest) K Qp S H=bg P GI rest K Qp (aq (λt=>aT d (S t)) d (.box d 0)) (aq H d (some zero)):=(Eq.refl _).trans (Eq.refl _)
def dE(t size x d rest K Qp S H):bg P GI (⟨some d,none,.box t size x⟩::rest) K Qp S H=((ev S x).cells.length=size/\(ev S x).storable=true/\bg P GI rest K Qp (aq (λt=>aT d (S t)) d (.box d 0)) (aq H d (some ((ev S x).cells.map AV.aA)))):=(Eq.refl _).trans (Eq.refl _)
def b_ (f args d g rest K S H):dc P GI (⟨d,g,.call f args⟩::rest) K S H=(match ar S g with
  |some true=>(args.any λy=>bR (ev S y))=false/\jB P GI f (args.map λy=>fz H (ev S y)) (args.any λy=>bR (ev S y)) (kD P GI rest K S d H) (λ_=>False)
  |some false=>dc P GI rest K (aH S d bG) H
  |none=>False):=(Eq.refl _).trans (Eq.refl _)
def bL(t zero d rest K S H):dc P GI (⟨some d,none,.alloc t zero⟩::rest) K S H=dc P GI rest K (aq S d (.box d 0)) H:=(Eq.refl _).trans (Eq.refl _)
def fk(rest K Qp S d H v):kO P GI rest K Qp S d H v=bg P GI rest K Qp (aH S d v) H:=(Eq.refl _).trans (Eq.refl _)
def fj(rest K S d H v):kD P GI rest K S d H v=dc P GI rest K (aH S d v) H:=(Eq.refl _).trans (Eq.refl _)
def dP :
  (∀x0 x1,OE P GI (.mv x0 x1))/\
  (∀x0 x1 x2,OE P GI (.pick x0 x1 x2))/\
  (∀x0 x1,OE P GI (.build x0 x1))/\
  (∀x0 x1 x2 x3,OE P GI (.buildSlice x0 x1 x2 x3))/\
  (∀x0 x1 x2 x3,OE P GI (.load x0 x1 x2 x3))/\
  (∀x0 x1,OE P GI (.loadT x0 x1))/\
  (∀x0 x1 x2 x3,OE P GI (.store x0 x1 x2 x3))/\
  (∀x0 x1 x2,OE P GI (.bin x0 x1 x2))/\
  (∀x0 x1 x2,OE P GI (.zS x0 x1 x2))/\
  (∀x0 x1 x2 x3,OE P GI (.eqs x0 x1 x2 x3))/\
  (∀x0 x1 x2 x3 x4,OE P GI (.mN x0 x1 x2 x3 x4))/\
  (∀x0,OE P GI (.vy x0))/\
  (∀x0,OE P GI (.mM x0))/\
  (∀x0 x1 x2,OE P GI (.mL x0 x1 x2))/\
  (∀x0 x1 x2 x3,OE P GI (.lookup x0 x1 x2 x3))/\
  (∀x0,OE P GI (.not x0))/\
  (∀x0 x1,OE P GI (.conv x0 x1))/\
  (∀x0 x1,OE P GI (.iface x0 x1))/\
  (∀x0 x1 x2,OE P GI (.BQ x0 x1 x2))/\
  (∀x0 x1 x2,OE P GI (.mO x0 x1 x2))/\
  (∀x0 x1 x2 x3,OE P GI (.lZ x0 x1 x2 x3))/\
  (∀x0 x1,OE P GI (.ot x0 x1))/\
  (∀x0 x1,OE P GI (.fieldAddr x0 x1))/\
  (∀x0 x1 x2,OE P GI (.indexAddr x0 x1 x2))/\
  (∀x0 x1,OE P GI (.mK x0 x1))/\
  (∀x0 x1,OE P GI (.extract x0 x1))/\
  (∀x0,OE P GI (.uW x0))/\
  (∀x0,OE P GI (.pn x0))/\
  (∀x0 x1,OE P GI (.isNil x0 x1))/\
  (∀x0,OE P GI (.empty x0))/\
  (∀x0 x1 x2 x3 x4 x5,OE P GI (.append x0 x1 x2 x3 x4 x5))/\
  (∀x0 x1,OE P GI (.max x0 x1))/\
  (∀x0 x1,OE P GI (.min x0 x1))/\
  (∀x0 x1 x2,OE P GI (.assert x0 x1 x2)):=by
 refine⟨?_,?_,?_,?_,?_,?_,?_,?_,?_,?_,?_,?_,?_,?_,?_,?_,?_,?_,?_,?_,?_,?_,?_,?_,?_,?_,?_,?_,?_,?_,?_,?_,?_,?_⟩<;>intros<;>intro d<;>intros<;>rfl
def db :
  (∀x0 x1,DE P GI (.mv x0 x1))/\
  (∀x0 x1 x2,DE P GI (.pick x0 x1 x2))/\
  (∀x0 x1,DE P GI (.build x0 x1))/\
  (∀x0 x1 x2 x3,DE P GI (.buildSlice x0 x1 x2 x3))/\
  (∀x0 x1 x2 x3,DE P GI (.load x0 x1 x2 x3))/\
  (∀x0 x1,DE P GI (.loadT x0 x1))/\
  (∀x0 x1 x2 x3,DE P GI (.store x0 x1 x2 x3))/\
  (∀x0 x1 x2,DE P GI (.bin x0 x1 x2))/\
  (∀x0 x1 x2,DE P GI (.zS x0 x1 x2))/\
  (∀x0 x1 x2 x3,DE P GI (.eqs x0 x1 x2 x3))/\
  (∀x0 x1 x2 x3 x4,DE P GI (.mN x0 x1 x2 x3 x4))/\
  (∀x0,DE P GI (.vy x0))/\
  (∀x0,DE P GI (.mM x0))/\
  (∀x0 x1 x2,DE P GI (.mL x0 x1 x2))/\
  (∀x0 x1 x2 x3,DE P GI (.lookup x0 x1 x2 x3))/\
  (∀x0,DE P GI (.not x0))/\
  (∀x0 x1,DE P GI (.conv x0 x1))/\
  (∀x0 x1,DE P GI (.iface x0 x1))/\
  (∀x0 x1 x2,DE P GI (.BQ x0 x1 x2))/\
  (∀x0 x1 x2,DE P GI (.mO x0 x1 x2))/\
  (∀x0 x1 x2 x3,DE P GI (.lZ x0 x1 x2 x3))/\
  (∀x0 x1,DE P GI (.ot x0 x1))/\
  (∀x0 x1,DE P GI (.fieldAddr x0 x1))/\
  (∀x0 x1 x2,DE P GI (.indexAddr x0 x1 x2))/\
  (∀x0 x1,DE P GI (.mK x0 x1))/\
  (∀x0 x1,DE P GI (.extract x0 x1))/\
  (∀x0,DE P GI (.uW x0))/\
  (∀x0,DE P GI (.pn x0))/\
  (∀x0 x1,DE P GI (.isNil x0 x1))/\
  (∀x0,DE P GI (.empty x0))/\
  (∀x0 x1 x2 x3 x4 x5,DE P GI (.append x0 x1 x2 x3 x4 x5))/\
  (∀x0 x1,DE P GI (.max x0 x1))/\
  (∀x0 x1,DE P GI (.min x0 x1))/\
  (∀x0 x1 x2,DE P GI (.assert x0 x1 x2)):=by
 refine⟨?_,?_,?_,?_,?_,?_,?_,?_,?_,?_,?_,?_,?_,?_,?_,?_,?_,?_,?_,?_,?_,?_,?_,?_,?_,?_,?_,?_,?_,?_,?_,?_,?_,?_⟩<;>intros<;>intro d<;>intros<;>rfl
def dI :
  (∀Q S H,bD P GI .skip Q S H=Q .normal S H)/\
  (∀l Q S H,bD P GI (.ops l) Q S H=bg P GI l (Q .normal) (gL Q S H) S H)/\
  (∀l Q S H,bD P GI (.dc l) Q S H=dc P GI l (Q .normal) (dL l S) (cG l H))/\
  (∀x y Q S H,bD P GI (.seq x y) Q S H=bD P GI x (fS P GI y Q) S H)/\
  (∀c x y Q S H,bD P GI (.cond c x y) Q S H=(match ev S c with
   |.bool true=>bD P GI x Q S H
   |.bool false=>bD P GI y Q S H
   |.kI=>bD P GI x Q S H/\bD P GI y Q S H
   |_=>False))/\
  (∀id c Q S H,bD P GI (.block id c) Q S H=bD P GI c (cg id Q) S H)/\
  (∀id Q S H,bD P GI (.exit id) Q S H=Q (.exit id) S H)/\
  (∀Q S H,bD P GI .ret Q S H=Q .ret S H)/\
  (∀y Q S H,fS P GI y Q .normal S H=bD P GI y Q S H)/\
  (∀y Q id S H,fS P GI y Q (.exit id) S H=Q (.exit id) S H)/\
  (∀y Q S H,fS P GI y Q .ret S H=Q .ret S H)/\
  (∀y Q v S H,fS P GI y Q (.panic v) S H=Q (.panic v) S H):=by
 refine⟨?_,?_,?_,?_,?_,?_,?_,?_,?_,?_,?_,?_⟩<;>intros<;>rfl
def eb :
  (∀id Q S H,cg id Q .normal S H=Q .normal S H)/\
  (∀id j Q S H,cg id Q (.exit j) S H=if j=id then Q .normal S H else Q (.exit j) S H)/\
  (∀id Q S H,cg id Q .ret S H=Q .ret S H)/\
  (∀id Q v S H,cg id Q (.panic v) S H=Q (.panic v) S H)/\
  (∀K Q S H,cS K Q .normal S H=K S H)/\
  (∀K Q id S H,cS K Q (.exit id) S H=Q (.exit id) S H)/\
  (∀K Q S H,cS K Q .ret S H=Q .ret S H)/\
  (∀K Q v S H,cS K Q (.panic v) S H=Q (.panic v) S H)/\
  (∀K S H,aB K .normal S H=K S H)/\
  (∀K id S H,aB K (.exit id) S H=False)/\
  (∀K S H,aB K .ret S H=False)/\
  (∀K v S H,aB K (.panic v) S H=False)/\
  (∀Q S H v,gL Q S H v=Q (.panic v) S H)/\
  (∀v K Qp,lR (.ret v) K Qp=K v)/\
  (∀v K Qp,lR (.panic v) K Qp=Qp v):=by
 refine⟨?_,?_,?_,?_,?_,?_,?_,?_,?_,?_,?_,?_,?_,?_,?_⟩<;>intros<;>rfl
end
section
variable{P:Program}{GI:World->Prop}
def xG{f:Nat}{args:List AV}{b:Bool}{K K':AV->Prop}{Qp FT:AV->Prop}(hK:∀v,K v->K' v)(hQ:∀v,Qp v->FT v)(h:jB P GI f args b K Qp):jB P GI f args b K' FT:=by
 obtain⟨out,h1,h2,h3,h4⟩:=h;refine⟨out,h1,h2,h3,?_⟩
 cases out with
 |ret v=>exact hK _ h4
 |panic v=>exact hQ _ h4
def pd{op:dS}{dst:Option Nat}{K K':af->ah->Prop}{Qp FT:AV->Prop}(hK:∀S H,K S H->K' S H)(hQ:∀v,Qp v->FT v){S:af}{H:ah}(h:aM P GI op dst K Qp S H):aM P GI op dst K' FT S H:=by
 by_cases hc:op.calm=true
 .rw[xp hc]at h⊢;split at h
  .exact hK _ _ h
  .exact h
 .cases op<;>first|(exfalso;exact hc rfl)|skip
  case alloc=>simp only[aM]at h⊢;split at h<;>first|exact hK _ _ h|exact h
  case box=>simp only[aM]at h⊢;split at h<;>first|exact⟨h.1,h.2.1,hK _ _ h.2.2⟩|exact h
  case call=>exact xG (λv=>hK _ _) hQ h
  case gR=>simp only[aM]at h⊢;split at h<;>first|exact xG (λv=>hK _ _) hQ h|exact h
  case panic=>simp only[aM]at h⊢;split at h<;>first|exact hQ _ h|exact h
  case other=>exact h
def uA{K K':af->ah->Prop}{Qp FT:AV->Prop}(hK:∀S H,K S H->K' S H)(hQ:∀v,Qp v->FT v):∀(l:List bl)(S:af)(H:ah),bg P GI l K Qp S H->bg P GI l K' FT S H
 |[],S,H,h=>hK S H h
 |o::rest,S,H,h=>by
  simp only[bg]at h⊢;split at h
  .exact pd (λS H=>uA hK hQ rest S H) hQ h
  .exact uA hK hQ rest _ _ h
  .exact h
def FV{op:dS}{dst:Option Nat}{K K':af->ah->Prop}(hK:∀S H,K S H->K' S H){S:af}{H:ah}(h:fL P GI op dst K S H):fL P GI op dst K' S H:=by
 cases op
 case alloc=>simp only[fL]at h⊢;split at h<;>first|exact hK _ _ h|exact h
 case call=>exact⟨h.1,pd hK (λ_ h=>h) h.2⟩
 case gR=>exact⟨h.1,pd hK (λ_ h=>h) h.2⟩
 case box=>exact h.elim
 case panic=>exact h.elim
 case other=>exact h.elim
 all_goals
  simp only[fL]at h⊢;exact pd hK (λ_ h=>h) h
def ub{K K':af->ah->Prop}(hK:∀S H,K S H->K' S H):∀(l:List bl)(S:af)(H:ah),dc P GI l K S H->dc P GI l K' S H
 |[],S,H,h=>hK S H h
 |o::rest,S,H,h=>by
  simp only[dc]at h⊢;split at h
  .exact FV (λS H=>ub hK rest S H) h
  .exact ub hK rest _ _ h
  .exact h
def px{K K':af->ah->Prop}{Q Q':dQ->af->ah->Prop}(hK:∀S H,K S H->K' S H)(h:∀e S H,Q e S H->Q' e S H)(e:dQ)(S:af)(H:ah)(hq:cS K Q e S H):cS K' Q' e S H:=by
 cases e with
 |normal=>exact hK S H hq
 |exit id=>exact h _ S H hq
 |ret=>exact h _ S H hq
 |panic v=>exact h _ S H hq
def ic:∀(c:ae){Q Q':dQ->af->ah->Prop}(_:∀e S H,Q e S H->Q' e S H){S:af}{H:ah},bD P GI c Q S H->bD P GI c Q' S H
 |.skip,_,_,h,_,_,hq=>h _ _ _ hq
 |.ops l,_,_,h,_,_,hq=>uA (λS H=>h _ S H) (λv=>h _ _ _) l _ _ hq
 |.dc l,_,_,h,_,_,hq=>ub (λS H=>h _ S H) l _ _ hq
 |.seq x y,_,_,h,_,_,hq=>ic x (px (λ_ _=>ic y h) h) hq
 |.cond c x y,_,_,h,S,H,hq=>by
  simp only[bD]at hq⊢;split at hq
  .exact ic x h hq
  .exact ic y h hq
  .exact⟨ic x h hq.1,ic y h hq.2⟩
  .exact hq
 |.block id c,Q,Q',h,_,_,hq=>ic c (fun e S H hb=>by
   cases e with
   |normal=>exact h _ S H hb
   |exit j=>
    by_cases hj:j=id
    .simp only[cg,if_pos hj]at hb⊢;exact h _ S H hb
    .simp only[cg,if_neg hj]at hb⊢;exact h _ S H hb
   |ret=>exact h _ S H hb
   |panic v=>exact h _ S H hb) hq
 |.loop c,_,_,h,_,_,⟨I,μ,h0,hi⟩=>⟨I,μ,h0,λS H hI=>ic c (px (λ_ _ h=>h) h) (hi S H hI)⟩
 |.exit id,_,_,h,_,_,hq=>h _ _ _ hq
 |.ret,_,_,h,_,_,hq=>h _ _ _ hq
 |.bad,_,_,_,_,_,hq=>hq
def ba{x y:ae}{Q:dQ->af->ah->Prop}{S:af}{H:ah}(K:af->ah->Prop)(hx:bD P GI x (aB K) S H)(hy:∀S' H',K S' H'->bD P GI y Q S' H'):bD P GI (.seq x y) Q S H:=by
 refine ic x (λe S H h=>?_) hx
 cases e with
 |normal=>exact hy S H h
 |exit id=>exact h.elim
 |ret=>exact h.elim
 |panic v=>exact h.elim
def Kg{c:cm}{y z:ae}{Q:dQ->af->ah->Prop}{S:af}{H:ah}(h:ev S c=.bool true)(hy:bD P GI y Q S H):bD P GI (.seq (.cond c .skip z) y) Q S H:=by
 simp only[bD,h];exact hy
def Kr{id:Nat}{c y:ae}{Q:dQ->af->ah->Prop}{S:af}{H:ah}(h:bD P GI c (cg id (fS P GI y Q)) S H):bD P GI (.seq (.block id c) y) Q S H:=h
def dg {c:ae} {Q:dQ→af→ah→Prop} {S:af} {H:ah} (t n:Nat) (I:Nat→af→ah→Prop) (MJ:∀ i S H,I i S H→S t = .int .i64 (i:Nat)) (h0:I 0 S H)
  (hs:∀i,i<=n->∀S H,I i S H->bD P GI c (cS (λS' H'=>i<n/\I (i+1) S' H') Q) S H):bD P GI (.loop c) Q S H:=by
 refine⟨λS H=>∃i,i<=n/\I i S H,λS _=>match S t with|.int _ k=>n-k.toNat|_=>0,⟨0,Nat.zero_le _,h0⟩,?_⟩;rintro S H ⟨i,hi,hI⟩;refine ic c (px (λS' H' h=>?_) (λ_ _ _ h=>h)) (hs i hi S H hI);refine⟨⟨i+1,h.1,h.2⟩,?_⟩;have e1:=MJ _ _ _ hI;have e2:=MJ _ _ _ h.2;simp only[e1,e2,Int.toNat_natCast];have:=h.1;omega
end
def jd{α:Type}(p:α->Bool)(l:List α):Int:=if l.any p then(l.findIdx p:Nat)else-1
def lg {α:Type} {p:α→Bool} {l:List α} {i:Nat} (hi:i < l.length) (hp:p l[i]=true) (hb:∀ j (hj:j < l.length),j < i→p l[j]=false):jd p l=(i:Nat):=by
  unfold jd;rw[if_pos (List.any_eq_true.2 ⟨l[i],List.getElem_mem hi,hp⟩),(List.findIdx_eq hi).2 ⟨hp,λj eE=>hb j (by omega) eE⟩]
def jE {α:Type} {p:α→Bool} {l:List α} (hb:∀ j (hj:j < l.length),p l[j]=false):jd p l = -1:=by
  unfold jd;rw[if_neg];intro h;obtain⟨x,hx,hp⟩:=List.any_eq_true.1 h;obtain⟨j,hj,rfl⟩:=List.getElem_of_mem hx;rw[hb j hj]at hp;cases hp
def kf {α:Type} {p:α→Bool} {l:List α}:decide (0≤jd p l)=l.any p:=by
  unfold jd
  cases h:l.any p<;>simp
def pq{α:Type}(p:α->Bool)(lt:α->α->Bool)(l:List α):Bool:=l.all p&&(List.range (l.length-1)).all λi=>match l[i]?,l[i+1]? with|some a,some b=>lt a b|_,_=>true
def xX{α:Type}{p:α->Bool}{lt:α->α->Bool}{l:List α}{i:Nat}(hi:i<l.length)(hp:p l[i]=false):pq p lt l=false:=by
 unfold pq;rw[Bool.and_eq_false_iff];exact .inl (List.all_eq_false.2 ⟨_,List.getElem_mem hi,by simp[hp]⟩)
def vf{α:Type}{p:α->Bool}{lt:α->α->Bool}{l:List α}{i:Nat}(hi:i+1<l.length)(hp:lt (l[i]'(by omega)) l[i+1]=false):pq p lt l=false:=by
 unfold pq;rw[Bool.and_eq_false_iff];refine .inr (List.all_eq_false.2 ⟨i,List.mem_range.2 (by omega),?_⟩);simp[hi,show i<l.length by omega,hp]
def Al{α:Type}{p:α->Bool}{lt:α->α->Bool}{l:List α}(h1:∀j (hj:j<l.length),p l[j]=true)(h2:∀j (hj:j+1<l.length),lt (l[j]'(by omega)) l[j+1]=true):pq p lt l=true:=by
 unfold pq;rw[Bool.and_eq_true]
 constructor
 .rw[List.all_eq_true];intro x hx;obtain⟨j,hj,rfl⟩:=List.getElem_of_mem hx;exact h1 j hj
 .rw[List.all_eq_true];intro j hj;rw[List.mem_range]at hj;simp[show j<l.length by omega,show j+1<l.length by omega,h2 j (by omega)]
def AC.rR{P:Program}{GI:World->Prop}{f:Nat}{args:List AV}{o:Ow}{es:List AV}(h:AC P GI f args (.ret (.slice o es))):AC P GI f args (.ret (.slice .view es)):=by
 intro w old bp h1 h2 h3;refine(h w old bp h1 h2 h3).mono ?_;rintro e w' ⟨hb,hi,h0,c,rfl,hv,_⟩;refine⟨hb,hi,h0,c,rfl,?_,trivial⟩
 cases hv with
 |data _ _ h=>exact .data _ _ (Go.Proofs.Tryz.RD.zU h)
def qe(l:List Int):aF 1 (ints l)=true:=by simp[aF,ints,AV.storable,AV.cells]
def kB{α:Type}{p:α->Bool}{lt:α->α->Bool}{l:List α}:pq p lt l=true↔(∀x∈l,p x=true)/\∀j (hj:j+1<l.length),lt (l[j]'(by omega)) l[j+1]=true:=by
 unfold pq;rw[Bool.and_eq_true,List.all_eq_true,List.all_eq_true]
 constructor
 .rintro⟨h1,h2⟩;refine⟨h1,λj hj=>?_⟩;have:=h2 j (List.mem_range.2 (by omega));simpa[show j<l.length by omega,hj]using this
 .rintro⟨h1,h2⟩;refine⟨h1,λj hj=>?_⟩;rw[List.mem_range]at hj;have:=h2 j (by omega);simpa[show j<l.length by omega,show j+1<l.length by omega]using this
def Dz{l:List Int}(h:∀j (hj:j+1<l.length),l[j]<l[j+1]):l.Pairwise λa b=>a<b:=by
 rw[List.pairwise_iff_getElem];intro i j hi hj nc
 obtain⟨d,rfl⟩:∃d,j=i+1+d:=⟨j-i-1,by omega⟩
 clear nc
 induction d with
 |zero=>exact h i hj
 |succ d ih=>
  have h1:=ih (by omega);have h2:=h (i+1+d) hj;exact Int.lt_trans h1 h2
section
variable{P:Program}{GI:World->Prop}
def IY {c:ae} {Q:dQ→af→ah→Prop} {S:af} {H:ah} (t n:Nat) (I:Nat→af→ah→Prop) (MJ:∀ i S H,I i S H→S t = .int .i64 ((i:Nat) - 1)) (h0:I n S H)
  (hs:∀i,i<=n->∀S H,I i S H->bD P GI c (cS (λS' H'=>0<i/\I (i-1) S' H') Q) S H):bD P GI (.loop c) Q S H:=by
 refine⟨λS H=>∃i,i<=n/\I i S H,λS _=>match S t with|.int _ k=>(k+1).toNat|_=>0,⟨n,Nat.le_refl _,h0⟩,?_⟩;rintro S H ⟨i,hi,hI⟩;refine ic c (px (λS' H' h=>?_) (λ_ _ _ h=>h)) (hs i hi S H hI);refine⟨⟨i-1,by omega,h.2⟩,?_⟩;have e1:=MJ _ _ _ hI;have e2:=MJ _ _ _ h.2;simp only[e1,e2];have:=h.1;omega
end
section
variable{P:Program}{GI:World->Prop}
def tw :
  (∀x0 x1,OE P GI (.mv x0 x1))/\
  (∀x0 x1 x2,OE P GI (.pick x0 x1 x2))/\
  (∀x0 x1,OE P GI (.build x0 x1))/\
  (∀x0 x1 x2 x3,OE P GI (.buildSlice x0 x1 x2 x3))/\
  (∀x0 x1 x2 x3,OE P GI (.load x0 x1 x2 x3))/\
  (∀x0 x1,OE P GI (.loadT x0 x1))/\
  (∀x0 x1 x2 x3,OE P GI (.store x0 x1 x2 x3))/\
  (∀x0 x1 x2,OE P GI (.bin x0 x1 x2))/\
  (∀x0 x1 x2,OE P GI (.zS x0 x1 x2))/\
  (∀x0 x1 x2 x3,OE P GI (.eqs x0 x1 x2 x3))/\
  (∀x0 x1 x2 x3 x4,OE P GI (.mN x0 x1 x2 x3 x4))/\
  (∀x0,OE P GI (.vy x0))/\
  (∀x0,OE P GI (.mM x0))/\
  (∀x0 x1 x2,OE P GI (.mL x0 x1 x2))/\
  (∀x0 x1 x2 x3,OE P GI (.lookup x0 x1 x2 x3))/\
  (∀x0,OE P GI (.not x0))/\
  (∀x0 x1,OE P GI (.conv x0 x1))/\
  (∀x0 x1,OE P GI (.iface x0 x1))/\
  (∀x0 x1 x2,OE P GI (.BQ x0 x1 x2))/\
  (∀x0 x1 x2,OE P GI (.mO x0 x1 x2))/\
  (∀x0 x1 x2 x3,OE P GI (.lZ x0 x1 x2 x3))/\
  (∀x0 x1,OE P GI (.ot x0 x1))/\
  (∀x0 x1,OE P GI (.fieldAddr x0 x1))/\
  (∀x0 x1 x2,OE P GI (.indexAddr x0 x1 x2))/\
  (∀x0 x1,OE P GI (.mK x0 x1))/\
  (∀x0 x1,OE P GI (.extract x0 x1))/\
  (∀x0,OE P GI (.uW x0))/\
  (∀x0,OE P GI (.pn x0))/\
  (∀x0 x1,OE P GI (.isNil x0 x1))/\
  (∀x0,OE P GI (.empty x0))/\
  (∀x0 x1,OE P GI (.max x0 x1))/\
  (∀x0 x1,OE P GI (.min x0 x1))/\
  (∀x0 x1 x2,OE P GI (.assert x0 x1 x2)):=by
 refine⟨?_,?_,?_,?_,?_,?_,?_,?_,?_,?_,?_,?_,?_,?_,?_,?_,?_,?_,?_,?_,?_,?_,?_,?_,?_,?_,?_,?_,?_,?_,?_,?_,?_⟩<;>intros<;>intro d<;>intros<;>rfl
def qH :
  (∀x0 x1,DE P GI (.mv x0 x1))/\
  (∀x0 x1 x2,DE P GI (.pick x0 x1 x2))/\
  (∀x0 x1,DE P GI (.build x0 x1))/\
  (∀x0 x1 x2 x3,DE P GI (.buildSlice x0 x1 x2 x3))/\
  (∀x0 x1 x2 x3,DE P GI (.load x0 x1 x2 x3))/\
  (∀x0 x1,DE P GI (.loadT x0 x1))/\
  (∀x0 x1 x2 x3,DE P GI (.store x0 x1 x2 x3))/\
  (∀x0 x1 x2,DE P GI (.bin x0 x1 x2))/\
  (∀x0 x1 x2,DE P GI (.zS x0 x1 x2))/\
  (∀x0 x1 x2 x3,DE P GI (.eqs x0 x1 x2 x3))/\
  (∀x0 x1 x2 x3 x4,DE P GI (.mN x0 x1 x2 x3 x4))/\
  (∀x0,DE P GI (.vy x0))/\
  (∀x0,DE P GI (.mM x0))/\
  (∀x0 x1 x2,DE P GI (.mL x0 x1 x2))/\
  (∀x0 x1 x2 x3,DE P GI (.lookup x0 x1 x2 x3))/\
  (∀x0,DE P GI (.not x0))/\
  (∀x0 x1,DE P GI (.conv x0 x1))/\
  (∀x0 x1,DE P GI (.iface x0 x1))/\
  (∀x0 x1 x2,DE P GI (.BQ x0 x1 x2))/\
  (∀x0 x1 x2,DE P GI (.mO x0 x1 x2))/\
  (∀x0 x1 x2 x3,DE P GI (.lZ x0 x1 x2 x3))/\
  (∀x0 x1,DE P GI (.ot x0 x1))/\
  (∀x0 x1,DE P GI (.fieldAddr x0 x1))/\
  (∀x0 x1 x2,DE P GI (.indexAddr x0 x1 x2))/\
  (∀x0 x1,DE P GI (.mK x0 x1))/\
  (∀x0 x1,DE P GI (.extract x0 x1))/\
  (∀x0,DE P GI (.uW x0))/\
  (∀x0,DE P GI (.pn x0))/\
  (∀x0 x1,DE P GI (.isNil x0 x1))/\
  (∀x0,DE P GI (.empty x0))/\
  (∀x0 x1,DE P GI (.max x0 x1))/\
  (∀x0 x1,DE P GI (.min x0 x1))/\
  (∀x0 x1 x2,DE P GI (.assert x0 x1 x2)):=by
 refine⟨?_,?_,?_,?_,?_,?_,?_,?_,?_,?_,?_,?_,?_,?_,?_,?_,?_,?_,?_,?_,?_,?_,?_,?_,?_,?_,?_,?_,?_,?_,?_,?_,?_⟩<;>intros<;>intro d<;>intros<;>rfl
def au(x0 x1 x2 x3 x4 x5):OE P GI (.append x0 x1 x2 x3 x4 x5):=dP.2.2.2.2.2.2.2.2.2.2.2.2.2.2.2.2.2.2.2.2.2.2.2.2.2.2.2.2.2.2.1 x0 x1 x2 x3 x4 x5
def ai(x0 x1 x2 x3 x4 x5):DE P GI (.append x0 x1 x2 x3 x4 x5):=db.2.2.2.2.2.2.2.2.2.2.2.2.2.2.2.2.2.2.2.2.2.2.2.2.2.2.2.2.2.2.1 x0 x1 x2 x3 x4 x5
def grow(e:Nat)(l:List AV):AV:=.slice (if l=[]then .nil else .own e) l
def Lr(e:Nat):grow e []=.slice .nil []:=by unfold grow;rw[if_pos rfl]
def Rd {S:af} {H:ah} {t e size cap i j:Nat} {l:List AV} {v:AV} {o:Ow} (hi:S i=grow e l) (hj:S j = .slice o [v]) (hv:aF size [v]=true) (hl:aF size l=true) (hn:l.length+1 < 1048576) :
  ∃dm,(dm=none\/dm=some i)/\ao S H (.append t e size cap (.t i) (.t j))=some { v:=grow e (l++[v]),dm:=dm }:=by
 have ei:ev S (.t i)=grow e l:=hi;have ej:ev S (.t j)=.slice o [v]:=hj
 cases l with
 |nil=>
  refine⟨none,.inl rfl,?_⟩;simp only[ao];rw[ei,ej,Lr];simp[hv,grow]
 |cons x l=>
  refine⟨some i,.inr rfl,?_⟩
  have wN:l.length+1+1<1048576:=by simpa using hn
  simp only[ao];rw[ei,ej];simp[grow,hv,hl,a_,wN]
def v_{S:af}{i d:Nat}{dm:Option Nat}(hd:dm=none\/dm=some i)(v:AV):(aD.S { v:=v,dm:=dm } S (some d)) d=v/\∀k,k≠d->k≠i->aD.S { v:=v,dm:=dm } S (some d) k=S k:=by
 rcases hd with rfl|rfl
 .refine⟨by simp[aD.S,aH,aq],λk h1 _=>by simp[aD.S,aH,aq,h1]⟩
 .refine⟨by simp[aD.S,aH,aq],λk h1 h2=>by simp[aD.S,aH,aq,h1,h2]⟩
def mo {K:af→ah→Prop} {Qp:AV→Prop} {S:af} {H:ah} {t e size cap d i j:Nat} {rest:List bl} (l:List AV) (v:AV) (o:Ow) (hi:S i=grow e l) (hj:S j = .slice o [v]) (hv:aF size [v]=true) (hl:aF size l=true) (hn:l.length+1 < 1048576)
  (h:∀S',S' d=grow e (l++[v])->(∀k,k≠d->k≠i->S' k=S k)->bg P GI rest K Qp S' H):bg P GI (⟨some d,none,.append t e size cap (.t i) (.t j)⟩::rest) K Qp S H:=by
 obtain⟨dm,CU,j4⟩:=Rd (t:=t) (cap:=cap) (H:=H) hi hj hv hl hn;obtain⟨k1,k2⟩:=v_ (S:=S) (d:=d) CU (grow e (l++[v]));rw[dP.2.2.2.2.2.2.2.2.2.2.2.2.2.2.2.2.2.2.2.2.2.2.2.2.2.2.2.2.2.2.1];simp only[ar,j4];exact h _ k1 k2
def pT {K:af→ah→Prop} {S:af} {H:ah} {t e size cap d i j:Nat} {rest:List bl} (l:List AV) (v:AV) (o:Ow) (hi:S i=grow e l) (hj:S j = .slice o [v]) (hv:aF size [v]=true) (hl:aF size l=true) (hn:l.length+1 < 1048576)
  (h:∀S',S' d=grow e (l++[v])->(∀k,k≠d->k≠i->S' k=S k)->dc P GI rest K S' H):dc P GI (⟨some d,none,.append t e size cap (.t i) (.t j)⟩::rest) K S H:=by
 obtain⟨dm,CU,j4⟩:=Rd (t:=t) (cap:=cap) (H:=H) hi hj hv hl hn;obtain⟨k1,k2⟩:=v_ (S:=S) (d:=d) CU (grow e (l++[v]));rw[db.2.2.2.2.2.2.2.2.2.2.2.2.2.2.2.2.2.2.2.2.2.2.2.2.2.2.2.2.2.2.1];simp only[ar,j4];exact h _ k1 k2
def kl{α:Type}{f:α->AV}{size:Nat}{l:List α}(h:∀a,(f a).storable=true/\(f a).cells.length=size):aF size (l.map f)=true:=by
 simp[aF,h]
end
def Jc {P:Program} {GI:World→Prop} (x d rest K Qp S H):bg P GI (⟨d,none,.panic x⟩::rest) K Qp S H=(match ev S x with
  |.iface t v=>Qp (.iface t v)
  |_=>False):=rfl
end Go.AL
namespace Go.Proofs.Tryz
open Go Go.AL Go.RowKit Go.Proofs Go.Sort
variable{GI:World->Prop}
def B6 (n x:Int) (B:Nat) (W:World) (hc:W.cell? ⟨B,0,none⟩=some (.int .i64 n)) :
  FnGives prog 137 #[.pointer (some ⟨B,0,none⟩)] #[.int .i64 x] (.bool (decide (n<=x))) W:=by
 show Calls prog 137 #[.int .i64 x,.pointer (some ⟨B,0,none⟩)] W _
 go_enter func137,ntmps137
 go_wp2
 all_goals (go_ret;exact⟨by simp_all,0,rfl⟩)
def JP(hG:aw GI):AC prog GI 147 [.slice .view [],.bh] (.ret (.int .i64 (-1))):=by
 refine dM hG func147 ntmps147 c147 ?_;simp only[c147,aP,bD,bg,ar,aM,ao,ev,aD.S,aD.H,a_,cS,cg];refine⟨λS H=>S 8=.int .i64 0/\S 7=.int .i64 0,λS H=>0,by simp[aq,aH,AL.start,AV.aA],?_⟩;rintro S H ⟨h8,h7⟩;simp[aq,aH,h8,h7,AV.aA,ee,post,cn,ct,cw,AV.out,AV.bC]
def IQ(hG:aw GI):AC prog GI 136 [.slice .view [],.bh] (.ret (.slice .view [])):=by
 refine dM hG func136 ntmps136 c136 ?_;have h:=JP hG;simp[c136,bD,bg,ar,aM,ao,ev,aD.S,aD.H,a_,cS,cg,aq,aH,AL.start,AV.aA,fz,fM,AV.vw,AV.bF,bR];refine⟨_,by kernel_rfl,h,by simp,?_⟩;simp[lR,ee,post,cn,ct,cw,AV.out,AV.bC,AV.aA,aq,aH,AL.start]
def sn(w w2:World)(v:Value)(l:List Int):Prop:=
 (RD (λ_ _=>False) w2 (.slice .view []) v/\l=[])\/∃g cap,v=.slice (some ⟨g,0,none⟩) l.length cap/\w.heap.size<=g/\g<w2.heap.size/\l.length<=cap/\cap<=9223372036854775807/\Holds (Value.int .i64) w2 g 0 l.toArray
def JO {Pr:Nat→Nat→Prop} {w:World} {l:List Int} {b off size:Nat} {cs:Nat→Value} (hc:∀ k,k < (ints l).length * size→Pr b (off+k)∧w.cell? ⟨b,off+k,none⟩=some (cs k)) (aI:∀ i (h:i < (ints l).length),((ints l)[i]).cells.length=size)
  (hr:∀i (h:i<(ints l).length) j (hj:j<((ints l)[i]).cells.length),RD Pr w (((ints l)[i]).cells[j]) (cs (i*size+j))) (k:Nat) (hk:k<l.length):w.cell? ⟨b,off+k,none⟩=some (.int .i64 l[k]):=by
 have eK:k<(ints l).length:=by rw[bz];exact hk
 have h1:size=1:=by rw[<-aI k eK,bW];rfl
 subst h1;rw[(hc k (by omega)).2];have h2:=hr k eK 0 (by rw[bW];exact Nat.zero_lt_one)
 have h3:((ints l)[k]).cells[0]'(by rw[bW];exact Nat.zero_lt_one)=.int .i64 l[k]:=by simp[ints,AV.cells]
 rw[h3]at h2;have e:=(RV.data (al:=bU) _ _ h2).int_eq;simp only[Nat.mul_one,Nat.add_zero]at e;rw[e]
def CY {w:World} {c:Value} {l:List Int} {Pr:Nat→Nat→Prop} (hr:RD Pr w (vI l) c) (hl:l.length < 1000000) :
  Calls prog 124 #[c] w λe w1=>∃v1,e=.returned v1/\Below w.heap.size w w1/\sn w w1 v1 l:=by
 obtain⟨ie,va,hs⟩:=iZ 3 1;unfold vI at hr;generalize iM:ints l=es at hr
 have hle:es.length=l.length:=by rw[<-iM,bz]
 cases hr with
 |gy=>
  have r_:l=[]:=List.eq_nil_of_length_eq_zero (by rw[<-hle];rfl);subst r_;refine(Tryz.slices_Clone_nil 0 0 w).mono ?_;rintro e w' ⟨rfl,rfl⟩;exact⟨_,rfl,Below.refl _ _,.inl ⟨.gy _,rfl⟩⟩
 |iF _ a0=>
  have r_:l=[]:=List.eq_nil_of_length_eq_zero (by rw[<-hle];rfl);subst r_
  have hG:aw (λ_=>True):=λ_ _ _ _=>trivial
  refine(JD hG [] rfl (by simp) w (λ_ _=>False) #[.slice (some a0) 0 0] trivial rfl (λi h h'=>?_)).mono ?_
  .match i,h with
   |0,_=>exact .data _ _ (.iF _ _)
  .rintro e w1 ⟨hb,hi,rP,c,rfl,h1,_⟩;have h2:=h1.dA rfl;exact⟨c,rfl,hb,.inl ⟨h2.vB,rfl⟩⟩
 |slice _ _ b off cap size cs dX hn aI h1 hc hr=>
  subst iM;have vv:=JO hc aI hr;rw[bz]
  obtain⟨z,hz⟩:∃z,ie.zero=some z/\z.cells.size=1/\ie.bytes=8:=by
   have h:(prog.info? 3).map (λi=>(i.zero.map λz=>z.cells.size,i.bytes))=some (some 1,8):=by kernel_rfl
   rw[va]at h;simp only[Option.map_some,Option.some.injEq,Prod.mk.injEq,Option.map_eq_some_iff]at h;obtain⟨⟨z,h1,h2⟩,h3⟩:=h;exact⟨z,h1,h2,h3⟩
  have MV:∀w,(Go.sizeOf 3).run prog w=.ok 1 w:=λw=>by simp[sizeOf,typeInfo,va,hs,Sem.run_bind]
  have jr:=Tryz.slices_Clone ie z 1 8 va hz.1 hs hz.2.2 hz.2.1 (by omega) MV b off l.length cap (l.map (Value.int .i64)) w (by simp) (by unfold maxLen;omega) (by omega) (λj u hj=>by
   simp only[List.getElem?_map,Option.map_eq_some_iff]at hj;obtain⟨x,hx,rfl⟩:=hj;obtain⟨hj,rfl⟩:=List.getElem?_eq_some_iff.1 hx
   exact vv j hj) (λu hu=>by
   obtain⟨x,_,rfl⟩:=List.mem_map.1 hu
   rfl)
  refine jr.mono ?_;rintro e w1 ⟨v1,rfl,cE,bQ,hb⟩;refine⟨v1,rfl,hb,.inr ?_⟩
  rcases cE.2 with⟨h0,_⟩|⟨g,tQ,cur,rfl,mz,hg,Ti,FN,lS,oI⟩
  .exact absurd h0 bQ
  .simp only[Nat.mul_one]at lS oI;refine⟨g,tQ,rfl,mz,(Array.getElem?_eq_some_iff.1 hg).1,Ti,by unfold maxLen at FN;omega,λj hj=>?_⟩
   have c_:j<l.length:=by simpa using hj
   have KL:cur[j]?=some (.int .i64 l[j]):=by
    have:=congrArg (·[j]?) oI;simp only[List.getElem?_take,List.getElem?_map]at this;rw[if_pos c_,List.getElem?_eq_getElem c_]at this;rw[<-Array.getElem?_toList];exact this
   have hjc:j<cur.size:=(Array.getElem?_eq_some_iff.1 KL).1;rw[Nat.zero_add]
   constructor
   .simp[World.cell?,hg,KL,c_]
   .simp[World.frozen?,hg]
def BV{w w1:World}{g:Nat}(hb:Below w.heap.size w w1)(hg:w.heap.size<=g)(q:Nat)(d:Array Int):Below w.heap.size w (putRow (Value.int .i64) (Sort.ahead w1 q) g 0 d):=by
 refine hb.trans ⟨rfl,rfl,rfl,by rw[size_putRow];exact Nat.le_refl _,λk hk=>?_⟩;show((w1.heap.modify g _)[k]?)=_;rw[Array.getElem?_modify,if_neg (by omega)]
def CS{w1:World}{g q:Nat}{d0 d1 l:List Int}(h0:Holds (Value.int .i64) w1 g 0 d0.toArray)(hs:(l++d1).length=d0.length):Holds (Value.int .i64) (putRow (Value.int .i64) (Sort.ahead w1 q) g 0 (l++d1).toArray) g 0 l.toArray:=by
 have h:=holds_putRow (Value.int .i64) (Sort.ahead w1 q) g 0 d0.toArray (l++d1).toArray (holds_ahead _ _ q _ _ _ h0) (by simpa using hs);intro j hj
 have c_:j<l.length:=by simpa using hj
 obtain⟨h1,h2⟩:=h j (by simp;omega)
 have e:(l++d1).toArray[j]! =l.toArray[j]!:=by
  rw[getElem!_pos _ j (by simp;omega),getElem!_pos _ j (by simpa using c_)];simp[c_,List.getElem_append_left]
 rw[e]at h1;exact⟨h1,h2⟩
def T8(w:World):(zeroValue 3).run prog w=.ok (.int .i64 0) w:=by
 obtain⟨ie,va,_⟩:=iZ 3 1
 have hz:ie.zero=some (.int .i64 0):=by
  have h:(prog.info? 3).map (·.zero)=some (some (.int .i64 0)):=by kernel_rfl
  rw[va]at h;simpa using h
 simp[zeroValue,typeInfo,va,hz,Sem.run_bind]
def By (hG:aw GI) {w w1:World} (hb:Below w.heap.size w w1) (Ox:GI w1) {v1:Value} {l:List Int} (hf:sn w w1 v1 l) (hl:l.length < 1000000) {n:Int} {B:Nat} (hB:B < w.heap.size) (hc:w1.cell? ⟨B,0,none⟩=some (.int .i64 n)) :
  Calls prog 136 #[v1,.func (.func 137) #[] #[.pointer (some ⟨B,0,none⟩)]] w1 λe w2=>∃v2,e=.returned v2/\Below w.heap.size w w2/\sn w w2 v2 (l.filter λx=>!decide (n<=x)):=by
 rcases hf with⟨e_,rfl⟩|⟨g,cap,rfl,Ve,hg,dX,FN,hH⟩
 .refine(IQ hG w1 (λ_ _=>False) #[v1,.func (.func 137) #[] #[.pointer (some ⟨B,0,none⟩)]] Ox rfl (λi h h'=>?_)).mono ?_
  .match i,h with
   |0,_=>exact .data _ _ e_
   |1,_=>exact .bh _
  .rintro e w2 ⟨iU,hi,rP,c,rfl,h1,_⟩;have Yl:Below w.heap.size w1 w2:=iU.mono hb.size;have hcd:RD (ji w1.heap.size (λ_ _=>False) hi) w2 (.slice .view []) c:=h1.dA rfl;exact⟨c,rfl,hb.trans Yl,.inl ⟨hcd.vB,rfl⟩⟩
 .have hBg:B≠g:=by omega
  have eg:∀args w,(callFunc 137 args).run prog w=.ok (.enter 137 args) w:=enters_of func137 (by kernel_rfl) rfl;have av:B<w1.heap.size:=Nat.lt_of_lt_of_le hB hb.size
  have Ry:=Tryz.slices_DeleteFunc (Value.int .i64) (λ_=>rfl) (λx=>decide (n<=x)) 137 #[.pointer (some ⟨B,0,none⟩)] eg 0 T8 g 0 cap l.toArray w1
   (λW x hbW=>B6 n x B W ((hbW.cell (p:=⟨B,0,none⟩) av).trans hc))
   (λm os dk x _=>B6 n x B _ (by
    unfold sortWorld;rw[cell?_grow _ _ _ (by show B<(putRow _ _ _ _ _).heap.size;rw[size_putRow];exact av),cell?_putRow_other _ _ g 0 _ _ (Or.inl hBg)]
    exact hc)) hH (by simp;omega) (by simpa using dX)
  simp only[List.size_toArray]at Ry;refine Ry.mono ?_;rintro e w2 ⟨rfl,q,rfl⟩;have hlen:(l.filter λx=>!decide (n<=x)).length<=l.length:=List.length_filter_le _ _;refine⟨_,rfl,BV hb Ve q _,.inr ⟨g,cap,rfl,Ve,by rw[size_putRow];exact hg,by omega,FN,?_⟩⟩;exact CS hH (by simp;omega)
def I5 {n:Nat} {w0:World} {g:Gh} {S:af} {H:ah} {a:Act} {w w2:World} {v:Value} {l:List Int} (R:Rel prog w0 n bu g S H a w) (hb:Below w.heap.size w w2) (hf:sn w w2 v l) :
  ∃g',g'.old=g.old/\Rel prog w0 n bu g' S H a w2/\RD g'.Pr w2 (vI l) v:=by
 have hle:g.base<=w.heap.size:=by rw[R.base];exact R.below.size
 rcases hf with⟨hv,rfl⟩|⟨b,cap,rfl,Ve,hg,dX,_,hH⟩
 .exact⟨g,rfl,R.kP hb,hv.vB⟩
 .refine⟨{ g with hi:=aq g.hi b l.length },rfl,R.grow hb rfl rfl rfl (λc hc=>⟨aG _ _ (by omega),rfl⟩) (λc hc=>⟨by show aq g.hi b l.length c=0;rw[aG _ _ (by omega)];exact(R.fresh c (Nat.le_trans hb.size hc)).1,(R.fresh c (Nat.le_trans hb.size hc)).2⟩),?_⟩;unfold vI;have e:l.length=(ints l).length:=(bz l).symm;have key:∀m,m=(ints l).length->RD (Gh.Pr { g with hi:=aq g.hi b l.length }) w2 (.slice .view (ints l)) (.slice (some ⟨b,0,none⟩) m cap):=?_
  .exact key _ e
  rintro m rfl;refine .slice .view (ints l) b 0 cap 1 (λk=>.int .i64 (l.getD k 0)) (by rw[<-e];exact dX) (λh=>by cases h) (λi hi=>by rw[bW];rfl) (λi hi j hj=>?_) (λk hk=>?_) (λi hi j hj=>?_)
  .have:(ints l)[i].cells=[.int .i64 (l[i]'(by simpa[bz]using hi))]:=by rw[bW];rfl
   have CO:j=0:=by rw[this]at hj;simpa using hj
   subst CO;simp only[this];rfl
  .rw[bz,Nat.mul_one]at hk;obtain⟨h1,_⟩:=hH k (by simpa using hk);refine⟨.inr ⟨by show g.base<=b;omega,by show 0+k<aq g.hi b l.length b;rw[aJ];omega⟩,?_⟩;rw[h1,getElem!_pos _ k (by simpa using hk)];simp[hk]
  .have dN:i<l.length:=by simpa[bz]using hi
   have:(ints l)[i].cells=[.int .i64 l[i]]:=by rw[bW];rfl
   have CO:j=0:=by rw[this]at hj;simpa using hj
   subst CO
   have e2:(ints l)[i].cells[0]=.int .i64 l[i]:=by simp only[this];rfl
   rw[e2,Nat.mul_one,Nat.add_zero]
   have:(l.getD i 0)=l[i]:=by simp[dN]
   rw[this];exact .int _ _
end Go.Proofs.Tryz
namespace Go.Proofs.Tryz
open Go Go.AL Go.RowKit Go.Proofs Go.Proofs.Tram
variable{GI:World->Prop}
structure Word where
 bc:List Int
 d_:List Int
 free:Bool
def cU(w:Word):AV:=.agg [vI w.bc,vI w.d_,.bool w.free]
def D4 {n:Nat} {ro:Option Nat} {m:Nat} {ops:Array Oper} {i1 i2 i3 tc tb t1 t2 t3:Nat} {o1 o2 o3:Oper} {c1 c3:Call} (hG:aw GI)
  (lH:ops[i1]?=some o1) (wm:o1.guard=none) (Xn:o1.op=.call c1) (jf:c1.callee=.value (.func 124)) (yE:c1.args=#[.tmp tc]) (yt:o1.dst=some t1)
  (oV:ops[i2]?=some o2) (n9:o2.guard=none) (Yb:o2.op=.makeFunc (.func 137) #[] #[.tmp tb]) (pR:o2.dst=some t2)
  (pH:ops[i3]?=some o3) (Ps:o3.guard=none) (Zj:o3.op=.call c3) (Mb:c3.callee=.value (.func 136)) (l8:c3.args=#[.tmp t1,.tmp t2]) (BB:o3.dst=some t3)
  (htb:tb≠t1) (Pw:t1≠t2) (hn1:t1<n) (hn2:t2<n) (hn3:t3<n) (BE:tc<n) (G9:tb<n)
  {w0:World} {g:Gh} {S:af} {H:ah} {a:Act} {w:World} (bP:GI w0) (R:Rel prog w0 n bu g S H a w) {l:List Int} (hl:l.length<1000000) {x:Int} (Qe:S tc=vI l) (hSb:S tb=.box tb 0) (hHb:H tb=some [.int .i64 x])
  {K2:Old->af->ah->Prop} (hK:K2 g.old (aq (aq (aq S t1 .bh) t2 .bh) t3 (vI (l.filter λk=>!decide (x<=k)))) H):
  wpOpsIn (FR ro) m prog ops (HQ prog w0 n K2) [i1,i2,i3] a w:=by
 have ZJ:cW o1.op=true:=by rw[Xn];rfl
 have W0:cW o2.op=true:=by rw[Yb];rfl
 have Xp:cW o3.op=true:=by rw[Zj];rfl
 have aI:=R.size;have vc:=R.slot tc BE id;rw[Qe]at vc;have vc:=vc.dA rfl;have vb:=R.slot tb G9 id;rw[hSb]at vb
 obtain⟨B,hB,WV⟩:∃B,a.tmps.getD tb undef=.pointer (some ⟨B,0,none⟩)/\g.al tb=some B:=by
  generalize a.tmps.getD tb undef=c at vb
  cases vb with
  |data _ _ h=>cases h
  |box _ _ b h=>exact⟨b,rfl,h⟩
 obtain⟨cs,vs,ty,e0,b1,b2,b3,b4,b5,b6,b7,b8⟩:=R.box tb B WV;rw[hHb]at e0;cases e0;have Re:B<w.heap.size:=(Array.getElem?_eq_some_iff.1 b2).1
 have fT:w.cell? ⟨B,0,none⟩=some (.int .i64 x):=by
  have h0:0<vs.size:=by rw[<-b5];exact Nat.zero_lt_one
  have hv:=(RV.data (al:=bU) _ _ (b6 0 (by simp) h0)).int_eq;simp[World.cell?,b2,h0,hv]
 have hle:g.base<=w.heap.size:=by rw[R.base];exact R.below.size
 have oP:=R.below;rw[R.base]at oP hle;refine ik lH wm ZJ (fV (k:=124) (args:=#[a.tmps.getD tc undef]) w Xn jf (by rw[yE];simp only[List.map_toArray,List.map_cons,List.map_nil];rfl) (by kernel_rfl)) (CY vc hl) ?_;rintro e w1 ⟨v1,rfl,l_,Qk⟩;refine⟨v1,rfl,?_⟩;rw[yt];have Ox:GI w1:=hG w0 w1 bP (oP.trans (l_.mono hle));refine aK oV n9 W0 (oB Yb) ?_
 have dX:(#[Operand.tmp tb].map (a.put (some t1) v1).eval)=#[.pointer (some ⟨B,0,none⟩)]:=by
  simp only[List.map_toArray,List.map_cons,List.map_nil,ke _ _ _ _ (show t1<a.tmps.size by omega),if_neg htb];rw[show a.eval (.tmp tb)=a.tmps.getD tb undef from rfl,hB]
 rw[dX,pR];have PB:w1.cell? ⟨B,0,none⟩=some (.int .i64 x):=(l_.cell (p:=⟨B,0,none⟩) Re).trans fT;refine ik pH Ps Xp (fV (k:=136) (args:=#[v1,.func (.func 137) #[] #[.pointer (some ⟨B,0,none⟩)]]) w1 Zj Mb ?_ (by kernel_rfl)) (By hG l_ Ox Qk hl Re PB) ?_
 .rw[l8];simp only[List.map_toArray,List.map_cons,List.map_nil,ke _ _ _ _ (show t2<(a.put (some t1) v1).tmps.size by rw[K8];omega),ke _ _ _ _ (show t1<a.tmps.size by omega),if_neg Pw,if_true]
 .rintro e w2 ⟨v2,rfl,iU,FQ⟩;refine⟨v2,rfl,?_⟩;obtain⟨g',E8,R',df⟩:=I5 R iU FQ;rw[BB];refine⟨g',_,H,((R'.put t1 .bh v1 (by omega) (.bh _) trivial).put t2 .bh _ (by omega) (.bh _) trivial).put t3 _ _ (by omega) (.data _ _ df) trivial,?_⟩;rw[E8];exact hK
def eQ:List Word->Nat->List Word
 |[],_=>[]
 |w::ws,k=>if k=0 then[]else{ bc:=w.bc.take (min k w.bc.length),d_:=w.d_.filter λc=>!decide (((min k w.bc.length:Nat):Int)<=c),free:=w.free }::eQ ws (k-min k w.bc.length)
def K0:AV.bF∘AV.aA=AV.bF:=by
 funext v
 cases v<;>first|rfl|skip
 rename_i o es;cases o<;>rfl
def wT(l:List Word):AV:=.slice (if l.isEmpty then .nil else .own 58) (l.map cU)
def jO(sA:List AV)(ws done:List Word)(j lj:Nat)(z:List AV)(S:af)(H:ah):Prop:=
 S 1=.int .i64 (lj:Nat)/\S 4=.box 4 0/\S 5=.box 5 0/\S 12=.slice .view (ws.map cU)/\S 13=.int .i64 ws.length/\S 14=.int .i64 (j:Nat)/\H 4=some z/\H 5=some ((sA.map AV.aA).set 7 (wT done))
noncomputable def gG:ae:=ae.qb c65.qb.qb.qb.qa.qb.qb.qb.qb.qb.qa
def ZC (hG:aw GI) {sA:List AV} {ws:List Word} {L:Nat} (hl:sA.length=10) (hs7:sA[7]? = some (.slice .view (ws.map cU))) (eZ:∀ x∈sA,x.storable=true) (hlen:ws.length≤100000) (hsg:∀ w∈ws,w.bc.length < 1000000∧w.d_.length < 1000000) (hL:L < 4611686018427387904) :
  AC prog GI 65 [.agg sA,.int .i64 (L:Nat)] (.ret (.agg ((sA.set 7 (.slice .view ((eQ ws L).map cU))).map AV.bF))):=by
 refine AC.iL func65 rfl ntmps65 (by simp) λcc w=>?_
 refine dR hG c65.qa (λS' H'=>S' 1=.int .i64 (L:Nat)/\S' 2=.box 2 0/\S' 4=.box 4 0/\H' 2=some (sA.map AV.aA)/\∃z,H' 4=some z/\z.length=10) ?_ ?_
 .simp[c65,ae.qa,bD,bg,ar,aM,ao,ev,aD.S,aD.H,aq,aH,AL.start,AV.aA,AV.cells,AV.storable,hl,aT,a_,aB]
 rintro S1 H1 ⟨s1,s2,s4,h2,z,h4,hz⟩;have nj:List.take 10 (sA.map AV.aA)=sA.map AV.aA:=List.take_of_length_le (by simp;omega)
 have gJ:∀x∈sA.map AV.aA,x.storable=true:=by
  intro x hx;obtain⟨y,hy,rfl⟩:=List.mem_map.1 hx;rw[AV.pN];exact eZ y hy
 refine dR hG c65.qb.qa (λS' H'=>S' 1=.int .i64 (L:Nat)/\S' 2=.box 2 0/\S' 4=.box 4 0/\S' 5=.box 5 0/\H' 2=some (sA.map AV.aA)/\H' 4=some z/\H' 5=some (sA.map AV.aA)) ?_ ?_
 .simp[c65,ae.qa,ae.qb,bD,bg,ar,aM,ao,aB,ev,aD.S,aD.H,aq,aH,aZ,s1,s2,s4,h2,h4,HR.okB,hl,gI,nj,aT,AV.cells,AV.storable,AV.bm,a_,AV.aA,aR]
 rintro S2 H2 ⟨s1,s2,s4,s5,h2,h4,h5⟩;refine dR hG c65.qb.qb.qa (λS' H'=>S' 1=.int .i64 (L:Nat)/\S' 2=.box 2 0/\S' 4=.box 4 0/\S' 5=.box 5 0/\H' 2=some (sA.map AV.aA)/\H' 4=some z/\H' 5=some ((sA.map AV.aA).set 7 (wT []))) ?_ ?_
 .simp[c65,ae.qa,ae.qb,bD,bg,ar,aM,ao,aB,ev,aD.S,aD.H,aq,aH,s1,s2,s4,s5,h2,h4,h5,HR.okB,hl,AV.cells,AV.storable,AV.bm,a_,AV.aA,rN,wT]
 rintro S3 H3 ⟨s1,s2,s4,s5,h2,h4,h5⟩
 have hd7:(sA.map AV.aA)[7]?=some (.slice .view (ws.map cU)):=by rw[List.getElem?_map,hs7];rfl
 show SW prog GI 47 none (.seq (.seq _ (.block 0 (.loop _))) (.seq _ .ret)) _ _ _ _;refine SW.seq (dR hG c65.qb.qb.qb.qa.qa (λS' H'=>jO sA ws [] 0 L z S' H') ?_ ?_)
 .simp[c65,ae.qa,ae.qb,bD,bg,ar,aM,ao,aB,ev,aD.S,aD.H,aq,aH,aZ,s1,s2,s4,s5,h2,h4,h5,HR.okB,hd7,AV.aA,jO]
 intro S4 H4 hF
 have rest:∀S' H' done j lj,jO sA ws done j lj z S' H'->done=eQ ws L->SW prog GI 47 none (J' (J' (J' (J' (Sh f65))))) (pv prog 47 f65.results.toList (.ret (.agg ((sA.set 7 (.slice .view ((eQ ws L).map cU))).map AV.bF))) cc) (Old.plain cc w) S' H':=by
  rintro S' H' done j lj ⟨-,s4,s5,-,-,-,h4,h5⟩ hd
  obtain⟨C,hC⟩:∃C,(sA.map AV.aA).set 7 (wT done)=C:=⟨_,rfl⟩
  rw[hC]at h5
  have VU:C.length=10:=by rw[<-hC];simp[hl]
  have hCd:(C.map AV.aA).map AV.bF=(sA.set 7 (.slice .view ((eQ ws L).map cU))).map AV.bF:=by
   rw[<-hC,<-hd,List.map_map];have e:(AV.bF∘AV.aA)=AV.bF:=K0;rw[e,List.map_set,List.map_set,List.map_map,e]
   congr 1
  have ht:List.take 10 (C.map AV.aA)=C.map AV.aA:=List.take_of_length_le (by simp;omega);show SW prog GI 47 none (.seq _ .ret) _ _ _ _;refine dR hG c65.qb.qb.qb.qb.qa (λS' H'=>S' 4=.box 4 0/\H' 4=some (C.map AV.aA)) ?_ ?_
  .have Sq:List.drop 10 z=[]:=List.drop_eq_nil_of_le (by omega);simp[c65,ae.qa,ae.qb,bD,bg,ar,aM,ao,aB,ev,aD.S,aD.H,aq,aH,s4,s5,h4,h5,aZ,HR.okB,VU,AV.cells,AV.storable,AV.bm,aR,a_,ht,hz,Sq,gI,AV.aA]
  rintro S6 H6 ⟨s4,h4⟩;obtain⟨i28,N8,OL⟩:=iZ 36 10;obtain⟨fs,iD⟩:=uZ 36;refine SW.ret ⟨ea.plain rfl,rfl,_,?_,rfl⟩;show cn prog 47 [.cell 4 36] S6 H6=_;rw[<-hCd];simp[cn,ct,cw,s4,h4,N8,iD,OL,aZ,eB,VU,AV.out,gI,nq,ht]
 refine SW.block (SW.loop (λo S' H'=>∃done j lj,o=Old.plain cc w/\j<=ws.length/\lj<=L/\done.length<=j/\eQ ws L=done++eQ (ws.drop j) lj/\jO sA ws done j lj z S' H')
  (λS' _=>match S' 14 with|.int _ j=>ws.length-j.toNat|_=>0) ⟨[],0,L,rfl,Nat.zero_le _,Nat.le_refl _,Nat.le_refl _,rfl,hF⟩ ?_)
 rintro o S5 H5 ⟨done,j,lj,rfl,hj,Bf,hdj,eH,hF⟩;have m14:S5 14=.int .i64 (j:Nat):=hF.2.2.2.2.2.1;show SW prog GI 47 none (.seq _ (.seq (.cond _ _ _) (.seq (.block 1 _) _))) _ _ _ _;refine dR hG c65.qb.qb.qb.qa.qb.qb.qb.qa (λS' H'=>S' 15=.bool (decide (j<ws.length))/\jO sA ws done j lj z S' H') ?_ ?_
 .obtain⟨s1,s4,s5,bK,dW,fo,h4,h5⟩:=hF;simp[c65,ae.qa,ae.qb,bD,bg,ar,aM,ao,aB,ev,aD.S,aD.H,aq,aH,jO,s1,s4,s5,bK,dW,fo,h4,h5,ee]
 rintro S6 H6 ⟨Bx,hF⟩
 by_cases av:j<ws.length
 case neg=>
  refine SW.seq (SW.cond rfl false (by show S6 15=_;rw[Bx];simp[av]) (SW.exit ?_))
  have wU:j=ws.length:=by omega
  subst wU;rw[List.drop_length,show eQ [] lj=[]from rfl,List.append_nil]at eH;exact rest S6 H6 done _ lj hF eH.symm
 case pos=>
  refine SW.seq (SW.cond rfl true (by show S6 15=_;rw[Bx];simp[av]) (SW.skip ?_));show SW prog GI 47 none (.seq (.block 1 _) _) _ _ _ _;obtain⟨s1,s4,s5,bK,dW,fo,h4,h5⟩:=hF;have RK:=hsg ws[j] (List.getElem_mem av);have Ad:ws.drop j=ws[j]::ws.drop (j+1):=List.drop_eq_getElem_cons av
  obtain⟨wd,Pn⟩:∃wd,ws[j]=wd:=⟨_,rfl⟩
  rw[Pn]at RK Ad;refine SW.seq (SW.block ?_);show SW prog GI 47 none (.seq _ (.seq (.seq _ (.cond _ _ _)) (.seq _ (.seq _ (.seq _ (.seq _ _)))))) _ _ _ _;refine dR hG gG.qa (λS' H'=>S' 7=.box 7 0/\H' 7=some [vI wd.bc,vI wd.d_,.bool wd.free]/\jO sA ws done j lj z S' H') ?_ ?_
  .have bQ:¬(j:Int)<0:=by omega
   have FP:(ws.map cU)[j]?=some (cU wd):=by rw[List.getElem?_map,List.getElem?_eq_getElem av,Pn];rfl
   simp[c65,gG,ae.qa,ae.qb,bD,bg,ar,aM,ao,aB,ev,aD.S,aD.H,aq,aH,jO,s1,s4,s5,bK,dW,fo,h4,h5,FP,av,aZ,cU,vI,AV.cells,AV.aA,aT,HR.okB,AV.storable,aR,AV.bm,a_,Pn]
  rintro S7 H7 ⟨s7,h7,hF⟩;refine SW.seq (dR hG gG.qb.qa.qa (λS' H'=>S' 19=.bool ((lj:Int)==0)/\S' 7=.box 7 0/\H' 7=some [vI wd.bc,vI wd.d_,.bool wd.free]/\jO sA ws done j lj z S' H') ?_ ?_)
  .obtain⟨s1,s4,s5,bK,dW,fo,h4,h5⟩:=hF;simp[c65,gG,ae.qa,ae.qb,bD,bg,ar,aM,ao,aB,ev,aD.S,aD.H,aq,aH,jO,s1,s4,s5,s7,bK,dW,fo,h4,h5,h7,ee,AV.aA]
  rintro S8 H8 ⟨K_,s7,h7,hF⟩
  by_cases r_:lj=0
  case pos=>
   subst r_;refine SW.cond rfl true (by show S8 19=_;rw[K_];rfl) (SW.exit ?_)
   have EP:eQ (ws.drop j) 0=[]:=by rw[Ad];simp[eQ]
   rw[EP,List.append_nil]at eH;exact rest S8 H8 done j 0 hF eH.symm
  case neg=>
   have oP:((lj:Int)==0)=false:=by simp;omega
   refine SW.cond rfl false (by show S8 19=_;rw[K_,oP]) (SW.skip ?_)
   obtain⟨nn,Iw⟩:∃nn,min lj wd.bc.length=nn:=⟨_,rfl⟩
   have wR:nn<=lj:=by omega
   have PD:nn<=wd.bc.length:=by omega
   obtain⟨s1,s4,s5,bK,dW,fo,h4,h5⟩:=hF;show SW prog GI 47 none (.seq _ (.seq _ (.seq _ (.seq _ _)))) _ _ _ _;refine dR hG gG.qb.qb.qa (λS' H'=>S' 8=.box 8 0/\H' 8=some [.int .i64 nn]/\S' 7=.box 7 0/\H' 7=some [vI wd.bc,vI wd.d_,.bool wd.free]/\jO sA ws done j lj z S' H') ?_ ?_
   .have zi:min (lj:Int) (wd.bc.length:Int)=(nn:Int):=by omega
    simp[c65,gG,ae.qa,ae.qb,bD,bg,ar,aM,ao,aB,ev,aD.S,aD.H,aq,aH,jO,s1,s4,s5,s7,bK,dW,fo,h4,h5,h7,aZ,vI,bz,zi,AV.cells,AV.aA,aT,HR.okB,AV.storable,aR,AV.bm,a_]
   rintro S9 H9 ⟨s8,h8,s7,h7,s1,s4,s5,bK,dW,fo,h4,h5⟩;refine dR hG gG.qb.qb.qb.qa (λS' H'=>S' 8=.box 8 0/\H' 8=some [.int .i64 nn]/\S' 7=.box 7 0/\H' 7=some [vI wd.bc,vI wd.d_,.bool wd.free]/\jO sA ws done j (lj-nn) z S' H') ?_ ?_
   .have hw:IntKind.i64.wrap ((lj:Int)-(nn:Int))=((lj-nn:Nat):Int):=by rw[bf (by omega)];omega
    simp[c65,gG,ae.qa,ae.qb,bD,bg,ar,aM,ao,aB,ev,aD.S,aD.H,aq,aH,jO,s1,s4,s5,s7,s8,bK,dW,fo,h4,h5,h7,h8,aZ,AV.aA,HR.okB,ee,hw,a_]
   rintro S10 H10 ⟨s8,h8,s7,h7,s1,s4,s5,bK,dW,fo,h4,h5⟩;refine dR hG gG.qb.qb.qb.qb.qa (λS' H'=>S' 8=.box 8 0/\H' 8=some [.int .i64 nn]/\S' 7=.box 7 0/\H' 7=some [vI (wd.bc.take nn),vI wd.d_,.bool wd.free]/\jO sA ws done j (lj-nn) z S' H') ?_ ?_
   .have bB:aF 1 (ints wd.bc)=true:=by simp[aF,ints,AV.storable,AV.cells]
    have ng:(ints wd.bc).take nn=ints (wd.bc.take nn):=by simp[ints]
    simp[c65,gG,ae.qa,ae.qb,bD,bg,ar,aM,ao,aB,ev,aD.S,aD.H,aq,aH,jO,s1,s4,s5,s7,s8,bK,dW,fo,h4,h5,h7,h8,aZ,vI,bz,AV.cells,AV.aA,HR.okB,AV.storable,aR,AV.bm,a_,bound,bB,ng,PD]
   rintro S11 H11 ⟨s8,h8,s7,h7,hF⟩;show SW prog GI 47 none (.seq _ _) _ _ _ _
   obtain⟨cf,P6⟩:∃cf,(wd.d_.filter λc=>!decide (((nn:Nat):Int)<=c))=cf:=⟨_,rfl⟩
   refine SW.seq (SW.hand hG (p:=2) (lm:=[2,3,4]) (l2:=[5,6]) (jT:=[_,_]) (oh:=[_,_,_]) (jC:=[_,_]) rfl rfl rfl rfl (by kernel_rfl) (λ_ h=>h)
    (nN:=(gG.qb.qb.qb.qb.qb.qa.dl).take 2) (mF:=(gG.qb.qb.qb.qb.qb.qa.dl).drop 5) (by kernel_rfl) (by kernel_rfl) (by kernel_rfl) (by kernel_rfl)
    (K1:=λS' H'=>S' 34=vI wd.d_/\S' 8=.box 8 0/\H' 8=some [.int .i64 nn]/\S' 7=.box 7 0/\H' 7=some [vI (wd.bc.take nn),vI wd.d_,.bool wd.free]/\jO sA ws done j (lj-nn) z S' H')
    (K2:=λo S' H'=>o=Old.plain cc w/\S' 37=vI cf/\S' 7=.box 7 0/\H' 7=some [vI (wd.bc.take nn),vI wd.d_,.bool wd.free]/\jO sA ws done j (lj-nn) z S' H')
    (K3:=λo S' H'=>o=Old.plain cc w/\S' 7=.box 7 0/\H' 7=some [vI (wd.bc.take nn),vI cf,.bool wd.free]/\jO sA ws done j (lj-nn) z S' H') ?_ ?_ ?_ ?_)
   .obtain⟨s1,s4,s5,bK,dW,fo,h4,h5⟩:=hF;simp[c65,gG,ae.qa,ae.qb,ae.dl,bg,ar,aM,ao,ev,aD.S,aD.H,aq,aH,jO,s1,s4,s5,s7,s8,bK,dW,fo,h4,h5,h7,h8,aZ,vI,AV.aA,HR.okB]
   .rintro w0 g QN Qo a w2 m bP ho R ⟨s34,s8,h8,s7,h7,hF⟩;refine D4 hG rfl rfl rfl rfl rfl rfl rfl rfl rfl rfl rfl rfl rfl rfl rfl rfl (by decide) (by decide) (by decide) (by decide) (by decide) (by decide) (by decide) bP R RK.2 s34 s8 h8 ?_;obtain⟨s1,s4,s5,bK,dW,fo,h4,h5⟩:=hF;refine⟨ho,by rw[<-P6];exact aJ _ _ _,by simp[aq,s7],h7,by simp[aq,s1],by simp[aq,s4],by simp[aq,s5],by simp[aq,bK],by simp[aq,dW],by simp[aq,fo],h4,h5⟩
   .rintro o QN Qo ⟨rfl,s37,s7,h7,s1,s4,s5,bK,dW,fo,h4,h5⟩;refine⟨λ_ h=>h,?_⟩;simp[c65,gG,ae.qa,ae.qb,ae.dl,bg,ar,aM,ao,ev,aD.S,aD.H,aq,aH,jO,s1,s4,s5,s7,s37,bK,dW,fo,h4,h5,h7,aZ,vI,AV.aA,HR.okB,AV.cells,AV.storable,AV.bm,aR,a_]
   .rintro o QN Qo ⟨rfl,s7,h7,s1,s4,s5,bK,dW,fo,h4,h5⟩
    have aac:eQ ws L=(done++[⟨wd.bc.take nn,cf,wd.free⟩])++eQ (ws.drop (j+1)) (lj-nn):=by
     rw[eH,Ad,List.append_assoc];simp only[eQ,if_neg r_,Iw,P6,List.singleton_append]
    have Pp:done.length<=100000:=by omega
    have bB:aF 3 (done.map cU)=true:=by simp[aF,cU,AV.storable,AV.cells]
    have VZ:∀c,((sA.map AV.aA).set 7 c)[7]?=some c:=λc=>by simp[hl]
    have Rz:∀c,List.drop 7 ((sA.map AV.aA).set 7 c)=c::List.drop 8 (sA.map AV.aA):=λc=>by
     rw[List.drop_set,if_neg (by omega),Nat.sub_self,List.drop_eq_getElem_cons (by simp[hl])];rfl
    refine SW.mono (Q:=λe o S' H'=>e=.normal/\o=Old.plain cc w/\jO sA ws (done++[⟨wd.bc.take nn,cf,wd.free⟩]) j (lj-nn) z S' H') ?_ (SW.pt hG cV (by kernel_rfl) (λ_ _ h=>h) (ac:=ae.qb gG.qb.qb.qb.qb.qb) (by kernel_rfl) ?_)
    .rintro e o S' H' ⟨rfl,rfl,hF⟩;show SW prog GI 47 none _ _ _ _ _;obtain⟨s1,s4,s5,bK,dW,fo,h4,h5⟩:=hF;refine SW.pt hG cV (by kernel_rfl) (λ_ _ h=>h) (ac:=ae.qb c65.qb.qb.qb.qa.qb.qb.qb.qb.qb) (by kernel_rfl) ?_;have uS:IntKind.i64.wrap ((j:Int)+1)=j+1:=bf (by omega);simp[c65,ae.qa,ae.qb,bD,bg,ar,aM,ao,ev,aD.S,aD.H,aq,aH,s1,s4,s5,bK,dW,fo,h4,h5,ee,AV.aA,uS,fH.bD,thenS,jO];refine⟨⟨done++[⟨wd.bc.take nn,cf,wd.free⟩],?_⟩,?_⟩
     .exact⟨j+1,by omega,lj-nn,by omega,by simp;omega,aac,rfl,by omega,rfl⟩
     rw[m14];show ws.length-(j+1)<ws.length-(j:Int).toNat;rw[Int.toNat_natCast];omega
    .unfold fH.bD
     cases done with
     |nil=>simp[c65,gG,ae.qa,ae.qb,ae.dl,bD,bg,ar,aM,ao,ev,aD.S,aD.H,aq,aH,jO,s1,s4,s5,s7,bK,dW,fo,h4,h5,h7,aZ,vI,AV.aA,HR.okB,AV.cells,AV.storable,AV.bm,rN,a_,hl,VZ,Rz,wT,aF,AV.vw,AV.bF,cU]
     |cons d done=>
      have uF:done.length+1+1<1048576:=by simp at Pp;omega
      simp[c65,gG,ae.qa,ae.qb,ae.dl,bD,bg,ar,aM,ao,ev,aD.S,aD.H,aq,aH,jO,s1,s4,s5,s7,bK,dW,fo,h4,h5,h7,aZ,vI,AV.aA,HR.okB,AV.cells,AV.storable,AV.bm,rN,a_,hl,VZ,Rz,wT,aF,AV.vw,AV.bF,cU,uF]
def UW:AV->Option Word
 |.agg [s,c,.bool b]=>match Qr s with
  |some s=>match Qr c with
   |some c=>some ⟨s,c,b⟩
   |none=>none
  |none=>none
 |_=>none
def TX:AV->Option nS
 |.agg [.int .i64 a,.int .i64 b,.int .i64 c,.int .i64 d]=>some ⟨a,b,c,d⟩
 |_=>none
def Z6:AV->Option End
 |.agg [.int .i64 a,.int .i64 b]=>some (a,b)
 |_=>none
deriving instance DecidableEq for nS
deriving instance DecidableEq for Word
structure aE where
 dq:List Int
 dF:List nS
 ov:Int
 nZ:Int
 zn:Int
 Aq:Int
 fe:Int
 words:List Word
 wide:Int
 rows:Int
deriving DecidableEq
def an(s:aE):List AV:=[vI s.dq,.slice .view (s.dF.map ir),.int .i64 s.ov,.int .i64 s.nZ,.int .i64 s.zn,.int .i64 s.Aq,.int .i64 s.fe,.slice .view (s.words.map cU),.int .i64 s.wide,.int .i64 s.rows]
def ec(s:aE):AV:=.agg (an s)
def C8:AV->Option aE
 |.agg [w,.slice .view ps,.int .i64 a,.int .i64 b,.int .i64 c,.int .i64 d,.int .i64 e,.slice .view ws,.int .i64 f,.int .i64 g]=>match Qr w with
  |some w=>match FK TX ps with
   |some ps=>match FK UW ws with
    |some ws=>some ⟨w,ps,a,b,c,d,e,ws,f,g⟩
    |none=>none
   |none=>none
  |none=>none
 |_=>none
def Co:AV->Option (List Int×List End)
 |.agg [o,.slice .view es]=>match Qr o with
  |some o=>match FK Z6 es with
   |some es=>some (o,es)
   |none=>none
  |none=>none
 |_=>none
def q1(s:aE)(out:iS):List AV->Option iS
 |[a]=>match C8 a with
  |some x=>bif decide (x=s)then some out else none
  |none=>none
 |_=>none
def q2(s:aE)(es:List End)(out:iS):List AV->Option iS
 |[a,b]=>match C8 a with
  |some x=>match Co b with
   |some y=>bif decide (x=s)&&decide (y=([],es))then some out else none
   |none=>none
  |none=>none
 |_=>none
def q3(s:aE)(es:List End)(n:Int)(out:iS):List AV->Option iS
 |[a,b,.int .i64 k]=>match C8 a with
  |some x=>match Co b with
   |some y=>bif decide (x=s)&&decide (y=([],es))&&decide (k=n)then some out else none
   |none=>none
  |none=>none
 |_=>none
def CG(l:List End):aF 2 (l.map bq)=true:=kl λa=>⟨rfl,rfl⟩
end Go.Proofs.Tryz
namespace Go.Proofs.Tryz
open Go Go.AL Go.RowKit Go.Proofs Go.Proofs.Tram
attribute [local simp] dI eb dP db dG cI cJ cb cd dE b_ bL fk fj ar ao ev aD.S aD.H a_ aq aH AL.start AV.cells AV.storable AV.bm aR aT ee aZ HR.okB post cn ct cw AV.out AV.bC bz bW fz fM AV.vw bR vI int bG aB cS cg fS gL dL cG aU AV.aA AV.bF
variable{GI:World->Prop}
def da(n lo hi:Int):Bool:=decide (lo<=n)&&decide (n<=hi)
def mr(hG:aw GI)(n lo hi:Int):AC prog GI 113 [.int .i64 n,.int .i64 lo,.int .i64 hi] (.ret (.bool (da n lo hi))):=by
 refine dM hG func113 ntmps113 c113 ?_
 by_cases h1:lo<=n<;>by_cases h2:n<=hi<;>simp[c113,da,h1,h2]
def nG(lo hi a most:Int):Bool:=da lo a most&&da hi lo most
def I3(hG:aw GI)(lo hi a most:Int):AC prog GI 117 [.agg [.int .i64 lo,.int .i64 hi],.int .i64 a,.int .i64 most] (.ret (.bool (nG lo hi a most))):=by
 refine dM hG func117 ntmps117 c117 ?_;simp[c117];refine oc (mr hG lo a most) ?_;cases h1:da lo a most
 .simp[nG,h1]
 .simp;refine oc (mr hG hi lo most) ?_;simp[nG,h1]
def mA(s:aE)(n:Int):Bool:=da n 0 (s.dq.length-1)
def oR(s:aE)(p:nS):Bool:=mA s p.l&&mA s p.r&&nG p.lo p.hi 0 9
def TB(hG:aw GI)(s:aE)(hs:s.dq.length<1000)(p:nS):AC prog GI 114 [ec s,ir p] (.ret (.bool (oR s p))):=by
 refine dM hG func114 ntmps114 c114 ?_;have hw:IntKind.i64.wrap ((s.dq.length:Int)-1)=s.dq.length-1:=bf (by omega);refine ba (λS H=>S 2=.box 2 0/\S 3=.box 3 0/\H 2=some (an s)/\H 3=some [.int .i64 p.l,.int .i64 p.r,.int .i64 p.lo,.int .i64 p.hi]) (by simp[ec,an,ir]) ?_;rintro S H ⟨s2,s3,h2,h3⟩;simp[s2,s3,h2,h3,an,hw];refine oc (mr hG p.l 0 (s.dq.length-1)) ?_;cases h1:da p.l 0 (s.dq.length-1)
 .simp[oR,mA,h1]
 .simp[s2,s3,h2,h3,an,hw];refine oc (mr hG p.r 0 (s.dq.length-1)) ?_;cases h4:da p.r 0 (s.dq.length-1)
  .simp[oR,mA,h1,h4]
  .simp[s2,s3,h2,h3,an];refine oc (I3 hG p.lo p.hi 0 9) ?_;simp[oR,mA,h1,h4]
def CX(a b:nS):Bool:=decide (a.l<b.l)||(a.l==b.l&&decide (a.r<b.r))
def U'(hG:aw GI)(a b:nS):AC prog GI 115 [ir a,ir b] (.ret (.bool (CX a b))):=by
 refine dM hG func115 ntmps115 c115 ?_;refine ba (λS H=>S 2=.box 2 0/\S 3=.box 3 0/\H 2=some [.int .i64 a.l,.int .i64 a.r,.int .i64 a.lo,.int .i64 a.hi]/\H 3=some [.int .i64 b.l,.int .i64 b.r,.int .i64 b.lo,.int .i64 b.hi]) (by simp[ir]) ?_;rintro S H ⟨s2,s3,h2,h3⟩
 by_cases h1:a.l<b.l
 .simp[s2,s3,h2,h3,CX,h1]
 .cases h4:a.l==b.l
  .simp[s2,s3,h2,h3,CX,h1,h4]
  .by_cases h5:a.r<b.r<;>simp[s2,s3,h2,h3,CX,h1,h4,h5]
def U_(hG:aw GI)(n:Int):AC prog GI 116 [.int .i64 n] (.ret (.bool (!da n 1 20))):=by
 refine dM hG func116 ntmps116 c116 ?_;simp[c116];refine oc (mr hG n 1 20) ?_;simp
def Vj(hG:aw GI)(s:aE)(hs:s.dq.length<1000)(n:Int):AC prog GI 161 [.int .i64 n,.ref (an s)] (.ret (.bool (!mA s n))):=by
 refine dM hG func161 ntmps161 c161 ?_;have hw:IntKind.i64.wrap ((s.dq.length:Int)-1)=s.dq.length-1:=bf (by omega);simp[c161,an,hw];refine oc (mr hG n 0 (s.dq.length-1)) ?_;simp[mA]
def Ta (hG:aw GI) (l:List Int) (hl:l.length < 1000000) (k:Nat) (caps:List AV) (nM:caps=[]∨∃ c,caps=[.ref c]) (p:Int→Bool) (hk:dz prog k=true) (h:∀ x∈l,AC prog GI k ([.int .i64 x]++caps) (.ret (.bool (p x)))) :
    AC prog GI 147 [.slice .view (l.map (.int .i64)),.func (.func k) [] caps] (.ret (.int .i64 (jd p l))):=by
  refine dM hG func147 ntmps147 c147 ?_
  rcases nM with rfl|⟨c,rfl⟩<;>
  (simp[c147]
   refine dg 8 l.length (λi S H=>S 0=.slice .view (l.map (.int .i64))/\S 1=_/\S 7=.int .i64 l.length/\S 8=.int .i64 (i:Nat)/\∀j (hj:j<l.length),j<i->p l[j]=false) (λi S H h=>h.2.2.2.1) ⟨by simp,by simp<;>rfl,by simp,by simp,by simp⟩ ?_;rintro i hi S H ⟨s0,s1,s7,s8,hb⟩
   by_cases av:i<l.length
   . have hw:IntKind.i64.wrap ((i:Int)+1)=i+1:=bf (by omega)
     have hx:=h l[i] (List.getElem_mem av);cases hp:p l[i]
     . simp [List.getElem_map,s0,s1,s7,s8,av]
       refine⟨_,hk,hx,by simp[bR],?_⟩;simp[s0,s1,s7,s8,av,hp,hw];intro j hj eE
       by_cases sB:j=i
       . subst sB;exact hp
       . exact hb j hj (by omega)
     . simp [List.getElem_map,s0,s1,s7,s8,av]
       refine⟨_,hk,hx,by simp[bR],?_⟩;simp[s0,s1,s7,s8,av,hp,hw];exact lg av hp hb
   . have dN:i=l.length:=by omega
     subst dN;simp[s0,s1,s7,s8]
     exact jE λj hj=>hb j hj hj)
def Kv (hG:aw GI) (l:List Int) (hl:l.length < 1000000) (k:Nat) (caps:List AV) (nM:caps=[]∨∃ c,caps=[.ref c]) (p:Int→Bool) (hk:dz prog k=true) (h:∀ x∈l,AC prog GI k ([.int .i64 x]++caps) (.ret (.bool (p x)))) :
    AC prog GI 77 [.slice .view (l.map (.int .i64)),.func (.func k) [] caps] (.ret (.bool (l.any p))):=by
  have hF:=Ta hG l hl k caps nM p hk h;refine dM hG func77 ntmps77 c77 ?_
  rcases nM with rfl|⟨c,rfl⟩<;>
  (simp[c77]
   refine⟨_,by kernel_rfl,hF,λ_=>rfl,?_⟩;simp
   exact kf.symm)
def T7 (hG:aw GI) (l:List Word) (hl:l.length < 1000000) (k:Nat) (caps:List AV) (nM:caps=[]∨∃ c,caps=[.ref c]) (p:Word→Bool) (hk:dz prog k=true) (h:∀ x∈l,AC prog GI k ([cU x]++caps) (.ret (.bool (p x)))) :
    AC prog GI 160 [.slice .view (l.map cU),.func (.func k) [] caps] (.ret (.int .i64 (jd p l))):=by
  refine dM hG func160 ntmps160 c160 ?_
  rcases nM with rfl|⟨c,rfl⟩<;>
  (simp[c160]
   refine dg 8 l.length (λi S H=>S 0=.slice .view (l.map cU)/\S 1=_/\S 7=.int .i64 l.length/\S 8=.int .i64 (i:Nat)/\∀j (hj:j<l.length),j<i->p l[j]=false) (λi S H h=>h.2.2.2.1) ⟨by simp,by simp<;>rfl,by simp,by simp,by simp⟩ ?_;rintro i hi S H ⟨s0,s1,s7,s8,hb⟩
   by_cases av:i<l.length
   . have hw:IntKind.i64.wrap ((i:Int)+1)=i+1:=bf (by omega)
     have hx:=h l[i] (List.getElem_mem av);cases hp:p l[i]
     . simp [List.getElem_map,cU,s0,s1,s7,s8,av]
       refine⟨_,hk,hx,by simp[bR],?_⟩;simp[s0,s1,s7,s8,av,hp,hw];intro j hj eE
       by_cases sB:j=i
       . subst sB;exact hp
       . exact hb j hj (by omega)
     . simp [List.getElem_map,cU,s0,s1,s7,s8,av]
       refine⟨_,hk,hx,by simp[bR],?_⟩;simp[s0,s1,s7,s8,av,hp,hw];exact lg av hp hb
   . have dN:i=l.length:=by omega
     subst dN;simp[s0,s1,s7,s8]
     exact jE λj hj=>hb j hj hj)
def VJ (hG:aw GI) (l:List Word) (hl:l.length < 1000000) (k:Nat) (caps:List AV) (nM:caps=[]∨∃ c,caps=[.ref c]) (p:Word→Bool) (hk:dz prog k=true) (h:∀ x∈l,AC prog GI k ([cU x]++caps) (.ret (.bool (p x)))) :
    AC prog GI 118 [.slice .view (l.map cU),.func (.func k) [] caps] (.ret (.bool (l.any p))):=by
  have hF:=T7 hG l hl k caps nM p hk h;refine dM hG func118 ntmps118 c118 ?_
  rcases nM with rfl|⟨c,rfl⟩<;>
  (simp[c118]
   refine⟨_,by kernel_rfl,hF,λ_=>rfl,?_⟩;simp
   exact kf.symm)
def kG(l:List Int)(lo hi:Int):Bool:=pq (da · lo hi) (λa b=>decide (a<b)) l
def TW(hG:aw GI)(l:List Int)(hl:l.length<1000000)(lo hi:Int):AC prog GI 162 [vI l,.int .i64 lo,.int .i64 hi] (.ret (.bool (kG l lo hi))):=by
 refine dM hG func162 ntmps162 c162 ?_;simp[c162];refine dg 11 l.length (λi S H=>S 0=vI l/\S 1=.int .i64 lo/\S 2=.int .i64 hi/\S 9=vI l/\S 10=.int .i64 l.length/\S 11=.int .i64 (i:Nat)/\(∀j (hj:j<l.length),j<i->da l[j] lo hi=true)/\∀j (hj:j+1<l.length),j+1<i->decide (l[j]<l[j+1])=true) (λi S H h=>h.2.2.2.2.2.1) ⟨by simp,by simp,by simp,by simp,by simp,by simp,by simp,by simp⟩ ?_;rintro i ck S H ⟨s0,s1,s2,s9,fu,dV,hb,hc⟩
 by_cases av:i<l.length
 .have hw:IntKind.i64.wrap ((i:Int)+1)=i+1:=bf (by omega);simp[s0,s1,s2,s9,fu,dV,av];refine⟨_,by kernel_rfl,mr hG l[i] lo hi,λ_=>rfl,?_⟩;cases hp:da l[i] lo hi
  .simp[s0,s1,s2,s9,fu,dV,av,hw];exact xX av hp
  .cases i with
   |zero=>
    simp[s0,s1,s2,s9,fu,dV,av];exact⟨bf (by omega),λj hj CO=>by subst CO;exact hp⟩
   |succ k=>
    have hk:((k+1:Nat):Int)-1=(k:Nat):=by omega
    have yA:IntKind.i64.wrap (k:Int)=k:=bf (by omega);have kc:IntKind.i64.wrap ((k:Int)+1+1)=k+1+1:=bf (by omega)
    have nv:k<l.length:=by omega
    have h0:(0:Int)<(k:Int)+1:=by omega
    by_cases hle:l[k+1]<=l[k]
    .simp[s0,s1,s2,s9,fu,dV,av,yA,nv,hle,h0];exact vf (lt:=λa b=>decide (a<b)) av (by simpa using hle)
    .simp[s0,s1,s2,s9,fu,dV,av,yA,nv,hle,h0,kc];refine⟨λj hj yz=>?_,λj hj yz=>?_⟩
     .by_cases e:j=k+1
      .subst e;exact hp
      .exact hb j hj (by omega)
     .by_cases e:j=k
      .subst e;omega
      .simpa using hc j hj (by omega)
 .have dN:i=l.length:=by omega
  subst dN;simp[s0,s1,s2,s9,fu,dV];exact Al (λj hj=>hb j hj hj) (λj hj=>hc j hj hj)
def kh(s:aE)(w:Word):Bool:=da w.bc.length 1 6&&!(w.bc.any λn=>!mA s n)&&kG w.d_ 1 (w.bc.length-1)
def TQ(hG:aw GI)(s:aE)(hs:s.dq.length<1000)(w:Word)(h1:w.bc.length<1000)(h2:w.d_.length<1000):AC prog GI 120 [ec s,cU w] (.ret (.bool (kh s w))):=by
 have O9:=Kv hG w.bc (by omega) 161 [.ref (an s)] (.inr ⟨_,rfl⟩) (λn=>!mA s n) (by kernel_rfl) (λn _=>Vj hG s hs n);have hw:IntKind.i64.wrap ((w.bc.length:Int)-1)=w.bc.length-1:=bf (by omega);refine dM hG func120 ntmps120 c120 ?_;refine ba (λS H=>S 2=.box 2 0/\S 3=.box 3 0/\H 2=some (an s)/\H 3=some [vI w.bc,vI w.d_,.bool w.free]) (by simp[ec,an,cU]) ?_;rintro S H ⟨s2,s3,e2,e3⟩;simp[s2,s3,e2,e3];refine⟨_,by kernel_rfl,mr hG w.bc.length 1 6,λ_=>rfl,?_⟩;cases h3:da w.bc.length 1 6
 .simp[kh,h3]
 .simp[s2,s3,e2,e3,an];refine⟨_,by kernel_rfl,O9,λ_=>rfl,?_⟩
  cases h4:w.bc.any λn=>!mA s n
  .simp[s2,s3,e2,e3,hw];refine⟨_,by kernel_rfl,TW hG w.d_ (by omega) 1 (w.bc.length-1),λ_=>rfl,?_⟩;simp[kh,h3,h4]
  .simp[kh,h3,h4]
def SV(hG:aw GI)(s:aE)(hs:s.dq.length<1000)(w:Word)(h1:w.bc.length<1000)(h2:w.d_.length<1000):AC prog GI 119 [cU w,.ref (an s)] (.ret (.bool (!kh s w))):=by
 refine dM hG func119 ntmps119 c119 ?_;simp[c119,cU,an];refine⟨_,by kernel_rfl,TQ hG s hs w h1 h2,λ_=>rfl,?_⟩;simp
structure tR(s:aE):Prop where
 dq:s.dq.length<1000
 dF:s.dF.length<1000
 words:s.words.length<1000
 bc:∀w∈s.words,w.bc.length<1000
 d_:∀w∈s.words,w.d_.length<1000
def sM(s:aE):Bool:=!(s.dq.any λn=>!da n 1 20)&&nG s.ov s.nZ 0 9&&nG s.zn s.Aq 0 20&&da s.fe 1 20&&!(s.words.any λw=>!kh s w)&&da s.wide 1 400&&da s.rows 1 3
def br(s:aE):Bool:=da s.dq.length 1 6&&decide (s.dF.length<=6)&&da s.words.length 1 4&&pq (oR s) CX s.dF&&sM s
def GV(hG:aw GI)(s:aE)(hs:tR s):AC prog GI 47 [ec s] (.ret (.bool (br s))):=by
 have O9:=Kv hG s.dq (by have:=hs.dq;omega) 116 [] (.inl rfl) (λn=>!da n 1 20) (by kernel_rfl) (λn _=>U_ hG n);have YI:=VJ hG s.words (by have:=hs.words;omega) 119 [.ref (an s)] (.inr ⟨_,rfl⟩) (λw=>!kh s w) (by kernel_rfl) (λw hw=>SV hG s hs.dq w (hs.bc w hw) (hs.d_ w hw));refine dM hG func47 ntmps47 c47 ?_;refine ba (λS H=>S 1=.box 1 0/\H 1=some (an s)) (by simp[ec,an]) ?_;rintro S H ⟨s1,e1⟩;simp[s1,e1,an];refine⟨_,by kernel_rfl,mr hG s.dq.length 1 6,λ_=>rfl,?_⟩;cases h1:da s.dq.length 1 6
 .simp[br,h1]
 by_cases h2:(6:Int)<s.dF.length
 .simp[s1,e1,an,h2]
  have:¬s.dF.length<=6:=by omega
  simp[br,this]
 simp[s1,e1,an,h2];refine⟨_,by kernel_rfl,mr hG s.words.length 1 4,λ_=>rfl,?_⟩;cases h3:da s.words.length 1 4
 .simp[br,h3]
 simp[s1,e1,an]
 have Ez:s.dF.length<=6:=by omega
 refine dg 27 s.dF.length (λi S H=>S 1=.box 1 0/\H 1=some (an s)/\S 25=.slice .view (s.dF.map ir)/\S 26=.int .i64 s.dF.length/\S 27=.int .i64 (i:Nat)/\(∀j (hj:j<s.dF.length),j<i->oR s s.dF[j]=true)/\∀j (hj:j+1<s.dF.length),j+1<i->CX s.dF[j] s.dF[j+1]=true) (λi S H h=>h.2.2.2.2.1) ⟨by simp[s1],by simp[e1,an],by simp,by simp,by simp,by simp,by simp⟩ ?_;clear s1 e1 S H;rintro i hi S H ⟨s1,e1,kQ,pU,n_,hb,hc⟩
 by_cases av:i<s.dF.length
 case neg=>
  have dN:i=s.dF.length:=by omega
  subst dN;have Wx:pq (oR s) CX s.dF=true:=Al (λj hj=>hb j hj hj) (λj hj=>hc j hj hj);simp[s1,e1,kQ,pU,n_,an];refine⟨_,by kernel_rfl,O9,λ_=>rfl,?_⟩
  cases h4:s.dq.any λn=>!da n 1 20
  case true=>simp[br,sM,h4]
  simp[s1,e1,an];refine⟨_,by kernel_rfl,I3 hG s.ov s.nZ 0 9,λ_=>rfl,?_⟩;cases h5:nG s.ov s.nZ 0 9
  .simp[br,sM,h5]
  simp[s1,e1,an];refine⟨_,by kernel_rfl,I3 hG s.zn s.Aq 0 20,λ_=>rfl,?_⟩;cases h6:nG s.zn s.Aq 0 20
  .simp[br,sM,h6]
  simp[s1,e1,an];refine⟨_,by kernel_rfl,mr hG s.fe 1 20,λ_=>rfl,?_⟩;cases h7:da s.fe 1 20
  .simp[br,sM,h7]
  simp[s1,e1,an];refine⟨_,by kernel_rfl,YI,λ_=>rfl,?_⟩
  cases h8:s.words.any λw=>!kh s w
  case true=>simp[br,sM,h8]
  simp[s1,e1,an];refine⟨_,by kernel_rfl,mr hG s.wide 1 400,λ_=>rfl,?_⟩;cases h9:da s.wide 1 400
  .simp[br,sM,h9]
  simp[s1,e1,an];refine⟨_,by kernel_rfl,mr hG s.rows 1 3,λ_=>rfl,?_⟩;simp[br,sM,h1,Ez,h3,Wx,h4,h5,h6,h7,h8,h9]
 case pos=>
  have hw:IntKind.i64.wrap ((i:Int)+1)=i+1:=bf (by omega);refine ba (λS H=>S 28=.bool true/\S 1=.box 1 0/\H 1=some (an s)/\S 25=.slice .view (s.dF.map ir)/\S 26=.int .i64 s.dF.length/\S 27=.int .i64 (i:Nat)) (by simp[s1,e1,kQ,pU,n_,av]) ?_;clear s1 e1 kQ pU n_ S H;rintro S H ⟨sq,s1,e1,kQ,pU,n_⟩;refine Kg sq (Kr ?_);refine ba (λS H=>S 4=.box 4 0/\H 4=some (ir s.dF[i]).cells/\S 3=.int .i64 (i:Nat)/\S 1=.box 1 0/\H 1=some (an s)/\S 25=.slice .view (s.dF.map ir)/\S 26=.int .i64 s.dF.length/\S 27=.int .i64 (i:Nat)) (by simp[s1,e1,kQ,pU,n_,av,ir]) ?_;clear s1 e1 kQ pU n_ sq S H;rintro S H ⟨s4,e4,s3,s1,e1,kQ,pU,n_⟩;simp[s1,e1,s3,s4,e4,an,ir];refine⟨_,by kernel_rfl,TB hG s hs.dq s.dF[i],λ_=>rfl,?_⟩;cases hp:oR s s.dF[i]
  .simp;simp[br,xX av hp]
  cases i with
  |zero=>
   simp[s1,s3,s4,kQ,pU,n_,av];exact⟨e1,bf (by omega),λj hj CO=>by subst CO;exact hp⟩
  |succ k=>
   have yA:IntKind.i64.wrap (k:Int)=k:=bf (by omega);have kc:IntKind.i64.wrap ((k:Int)+1+1)=k+1+1:=bf (by omega)
   have nv:k<s.dF.length:=by omega
   have h0:(0:Int)<(k:Int)+1:=by omega
   simp[s1,e1,s3,s4,e4,av,yA,nv,h0,an,ir];refine⟨_,by kernel_rfl,U' hG s.dF[k] s.dF[k+1],λ_=>rfl,?_⟩;cases hq:CX s.dF[k] s.dF[k+1]
   .simp;simp[br,vf (p:=oR s) av hq]
   .simp[s1,e1,s3,s4,kQ,pU,n_,av,kc];refine⟨rfl,λj hj yz=>?_,λj hj yz=>?_⟩
    .by_cases e:j=k+1
     .subst e;exact hp
     .exact hb j hj (by omega)
    .by_cases e:j=k
     .subst e;exact hq
     .exact hc j hj (by omega)
def Th(hG:aw GI)(l:List Int)(hl:l.length<1000000)(v:Int):AC prog GI 148 [vI l,.int .i64 v] (.ret (.int .i64 (jd (v==·) l))):=by
 refine dM hG func148 ntmps148 c148 ?_;simp[c148];refine dg 8 l.length (λi S H=>S 0=vI l/\S 1=.int .i64 v/\S 7=.int .i64 l.length/\S 8=.int .i64 (i:Nat)/\∀j (hj:j<l.length),j<i->(v==l[j])=false) (λi S H h=>h.2.2.2.1) ⟨by simp,by simp,by simp,by simp,by simp⟩ ?_;rintro i hi S H ⟨s0,s1,s7,s8,hb⟩
 by_cases av:i<l.length
 .have hw:IntKind.i64.wrap ((i:Int)+1)=i+1:=bf (by omega);cases he:v==l[i]
  .simp[s0,s1,s7,s8,av,he,hw];intro j hj eE
   by_cases e:j=i
   .subst e;simpa using he
   .simpa using hb j hj (by omega)
  .simp[s0,s1,s7,s8,av,he,hw];exact lg av he hb
 .have dN:i=l.length:=by omega
  subst dN;simp[s0,s1,s7,s8]
  exact jE λj hj=>hb j hj hj
def Rq(hG:aw GI)(l:List Int)(hl:l.length<1000000)(v:Int):AC prog GI 81 [vI l,.int .i64 v] (.ret (.bool (l.contains v))):=by
 refine dM hG func81 ntmps81 c81 ?_;simp[c81];refine⟨_,by kernel_rfl,Th hG l hl v,λ_=>rfl,?_⟩;simp;have:=kf (p:=(v==·)) (l:=l);rw[Bool.eq_iff_iff]at this;simpa using this.symm
def Nd(a b:Int):kC [.int .i64 a,.int .i64 b]=some [a,b]:=rfl
structure bO where
 dY:List End
 work:List Int
 eG:List End
def cK(s:bO):List AV:=[.slice .view (aW s.dY),vI s.work,.slice .view (aW s.eG)]
def mc(s:bO):AV:=.agg (cK s)
def AO(hG:aw GI)(n lo hi:Int):AC prog GI 72 [.int .i64 n,.int .i64 lo,.int .i64 hi] (.ret (.bool (da n lo hi))):=by
 refine dM hG func72 ntmps72 c72 ?_
 by_cases h1:lo<=n<;>by_cases h2:n<=hi<;>simp[c72,da,h1,h2]
def qE(x:End):Bool:=!da x.1 0 24||!da x.2 x.1 24
def B4(x:End):Bool:=!da x.1 1 288||!da x.2 x.1 400
def WS(hG:aw GI)(x:End):AC prog GI 71 [bq x] (.ret (.bool (qE x))):=by
 refine dM hG func71 ntmps71 c71 ?_;simp[c71,bq];refine oc (AO hG x.1 0 24) ?_;cases h1:da x.1 0 24
 .simp[qE,h1]
 .simp;refine oc (AO hG x.2 x.1 24) ?_;simp[qE,h1]
def Z7(hG:aw GI)(x:End):AC prog GI 73 [bq x] (.ret (.bool (B4 x))):=by
 refine dM hG func73 ntmps73 c73 ?_;simp[c73,bq];refine oc (AO hG x.1 1 288) ?_;cases h1:da x.1 1 288
 .simp[B4,h1]
 .simp;refine oc (AO hG x.2 x.1 400) ?_;simp[B4,h1]
def th(s:bO)(n:Int):Bool:=da n 0 ((s.dY.length:Int)-1)
def V4(hG:aw GI)(s:bO)(hs:s.dY.length<1000000)(n:Int):AC prog GI 79 [mc s,.int .i64 n] (.ret (.bool (th s n))):=by
 have hw:IntKind.i64.wrap ((s.dY.length:Int)-1)=s.dY.length-1:=bf (by omega);refine dM hG func79 ntmps79 c79 ?_;simp[c79,mc,cK,aW,hw];refine oc (AO hG n 0 (s.dY.length-1)) ?_;simp[th]
def Wb(hG:aw GI)(s:bO)(hs:s.dY.length<1000000)(n:Int):AC prog GI 78 [.int .i64 n,.ref (cK s)] (.ret (.bool (!th s n))):=by
 refine dM hG func78 ntmps78 c78 ?_;simp[c78,cK];refine oc (V4 hG s hs n) ?_;simp
def td(l:List Int):Bool:=(List.range l.length).all λj=>!decide (j+1<l.length)||decide (l.getD j 0<l.getD (j+1) 0)
def sk(l:List Int):td l=true↔∀j,j+1<l.length->l.getD j 0<l.getD (j+1) 0:=by
 simp only[td,List.all_eq_true,List.mem_range,Bool.or_eq_true,Bool.not_eq_true',decide_eq_false_iff_not,decide_eq_true_eq]
 constructor
 .intro h j hj;rcases h j (by omega)with h|h
  .exact absurd hj h
  .exact h
 .intro h j _
  by_cases hj:j+1<l.length
  .exact .inr (h j hj)
  .exact .inl hj
def ZZ(hG:aw GI)(l:List Int)(hl:l.length<1000000):AC prog GI 76 [vI l] (.ret (.bool (td l))):=by
 refine dM hG func76 ntmps76 c76 ?_;simp[c76];refine dg 7 l.length (λi S H=>S 0=vI l/\S 5=vI l/\S 6=.int .i64 l.length/\S 7=.int .i64 (i:Nat)/\∀j,j+1<i->l.getD j 0<l.getD (j+1) 0) (λi S H h=>h.2.2.2.1) ⟨by simp,by simp,by simp,by simp,by simp⟩ ?_;rintro i hi S H ⟨s0,s5,s6,s7,hb⟩
 by_cases av:i<l.length
 .have hw:IntKind.i64.wrap ((i:Int)+1)=i+1:=bf (by omega);have kc:IntKind.i64.wrap ((i:Int)-1)=i-1:=bf (by omega)
  by_cases h0:i=0
  .subst h0;have ig:IntKind.i64.wrap 1=1:=bf (by omega);simp[s0,s5,s6,s7,av,ig]
  .have vW:0<i:=by omega
   have qd:((i:Int)-1).toNat=i-1:=by omega
   have oG:¬(i:Int)-1<0:=by omega
   have Kj:i-1<l.length:=by omega
   have h1:(1:Int)<=i:=by omega
   have h2:(i:Int)-1<l.length:=by omega
   by_cases hr:l[i]<=l[i-1]
   .simp[s0,s5,s6,s7,av,hw,kc,vW,qd,oG,Kj,hr,h0,h1,h2];rw[<-Bool.not_eq_true,sk];intro h;have:=h (i-1) (by omega);rw[show i-1+1=i by omega]at this;simp[List.getD_eq_getElem?_getD,av,Kj]at this;omega
   .simp[s0,s5,s6,s7,av,hw,kc,vW,qd,oG,Kj,hr,h0,h1,h2];intro j hj
    by_cases eE:j+1<i
    .exact hb j eE
    .have:j=i-1:=by omega
     subst this;rw[show i-1+1=i by omega];simp[List.getD_eq_getElem?_getD,av,Kj];omega
 .have dN:i=l.length:=by omega
  subst dN;simp[s0,s5,s6,s7];rw[sk];exact hb
def Uq (hG:aw GI) (l:List End) (hl:l.length < 1000000) (k:Nat) (p:End→Bool) (hk:dz prog k=true) (h:∀ x∈l,AC prog GI k [bq x] (.ret (.bool (p x)))) :
  AC prog GI 145 [.slice .view (l.map bq),.func (.func k) [] []] (.ret (.int .i64 (jd p l))):=by
 refine dM hG func145 ntmps145 c145 ?_;simp[c145];refine dg 8 l.length (λi S H=>S 0=.slice .view (l.map bq)/\S 1=_/\S 7=.int .i64 l.length/\S 8=.int .i64 (i:Nat)/\∀j (hj:j<l.length),j<i->p l[j]=false) (λi S H h=>h.2.2.2.1) ⟨by simp,by simp<;>rfl,by simp,by simp,by simp⟩ ?_;rintro i hi S H ⟨s0,s1,s7,s8,hb⟩
 by_cases av:i<l.length
 .have hw:IntKind.i64.wrap ((i:Int)+1)=i+1:=bf (by omega);have hx:=h l[i] (List.getElem_mem av);cases hp:p l[i]
  .simp[List.getElem_map,bq,s0,s1,s7,s8,av];refine⟨_,hk,hx,by simp[bR],?_⟩;simp[s0,s1,s7,s8,av,hp,hw];intro j hj eE
   by_cases sB:j=i
   .subst sB;exact hp
   .exact hb j hj (by omega)
  .simp[List.getElem_map,bq,s0,s1,s7,s8,av];refine⟨_,hk,hx,by simp[bR],?_⟩;simp[s0,s1,s7,s8,av,hp,hw];exact lg av hp hb
 .have dN:i=l.length:=by omega
  subst dN;simp[s0,s1,s7,s8]
  exact jE λj hj=>hb j hj hj
def Ze (hG:aw GI) (l:List End) (hl:l.length < 1000000) (k:Nat) (p:End→Bool) (hk:dz prog k=true) (h:∀ x∈l,AC prog GI k [bq x] (.ret (.bool (p x)))) :
  AC prog GI 74 [.slice .view (l.map bq),.func (.func k) [] []] (.ret (.bool (l.any p))):=by
 have hF:=Uq hG l hl k p hk h;refine dM hG func74 ntmps74 c74 ?_;simp[c74];refine⟨_,by kernel_rfl,hF,λ_=>rfl,?_⟩;simp;exact kf.symm
def Si (hG:aw GI) (l:List End) (hl:l.length < 1000000) (k:Nat) (p:End→Bool) (hk:dz prog k=true) (h:∀ x∈l,AC prog GI k [bq x] (.ret (.bool (p x)))) :
  AC prog GI 146 [.slice .view (l.map bq),.func (.func k) [] []] (.ret (.int .i64 (jd p l))):=by
 refine dM hG func146 ntmps146 c146 ?_;simp[c146];refine dg 8 l.length (λi S H=>S 0=.slice .view (l.map bq)/\S 1=_/\S 7=.int .i64 l.length/\S 8=.int .i64 (i:Nat)/\∀j (hj:j<l.length),j<i->p l[j]=false) (λi S H h=>h.2.2.2.1) ⟨by simp,by simp<;>rfl,by simp,by simp,by simp⟩ ?_;rintro i hi S H ⟨s0,s1,s7,s8,hb⟩
 by_cases av:i<l.length
 .have hw:IntKind.i64.wrap ((i:Int)+1)=i+1:=bf (by omega);have hx:=h l[i] (List.getElem_mem av);cases hp:p l[i]
  .simp[List.getElem_map,bq,s0,s1,s7,s8,av];refine⟨_,hk,hx,by simp[bR],?_⟩;simp[s0,s1,s7,s8,av,hp,hw];intro j hj eE
   by_cases sB:j=i
   .subst sB;exact hp
   .exact hb j hj (by omega)
  .simp[List.getElem_map,bq,s0,s1,s7,s8,av];refine⟨_,hk,hx,by simp[bR],?_⟩;simp[s0,s1,s7,s8,av,hp,hw];exact lg av hp hb
 .have dN:i=l.length:=by omega
  subst dN;simp[s0,s1,s7,s8]
  exact jE λj hj=>hb j hj hj
def Xx (hG:aw GI) (l:List End) (hl:l.length < 1000000) (k:Nat) (p:End→Bool) (hk:dz prog k=true) (h:∀ x∈l,AC prog GI k [bq x] (.ret (.bool (p x)))) :
  AC prog GI 75 [.slice .view (l.map bq),.func (.func k) [] []] (.ret (.bool (l.any p))):=by
 have hF:=Si hG l hl k p hk h;refine dM hG func75 ntmps75 c75 ?_;simp[c75];refine⟨_,by kernel_rfl,hF,λ_=>rfl,?_⟩;simp;exact kf.symm
def oD(s:bO):Bool:=da s.dY.length 1 12&&da s.eG.length 1 5&&!s.dY.any qE&&!s.eG.any B4&&td s.work&&!s.work.any (λn=>!th s n)
def ZF(hG:aw GI)(s:bO)(h1:s.dY.length<1000000)(h2:s.work.length<1000000)(h3:s.eG.length<1000000):AC prog GI 29 [mc s] (.ret (.bool (oD s))):=by
 refine dM hG func29 ntmps29 c29 ?_;simp[c29,mc,cK,aW];refine oc (AO hG s.dY.length 1 12) ?_;cases e1:da s.dY.length 1 12
 .simp[oD,e1]
 simp;refine oc (AO hG s.eG.length 1 5) ?_;cases e2:da s.eG.length 1 5
 .simp[oD,e1,e2]
 simp;refine oc (Ze hG s.dY h1 71 qE (by kernel_rfl) (λx _=>WS hG x)) ?_;cases e3:s.dY.any qE
 case true=>simp[oD,e1,e2,e3]
 simp;refine oc (Xx hG s.eG h3 73 B4 (by kernel_rfl) (λx _=>Z7 hG x)) ?_;cases e4:s.eG.any B4
 case true=>simp[oD,e1,e2,e3,e4]
 simp;refine oc (ZZ hG s.work h2) ?_;cases e5:td s.work
 .simp[oD,e1,e2,e3,e4,e5]
 simp;refine⟨_,by kernel_rfl,Kv hG s.work h2 78 [.ref (cK s)] (.inr ⟨_,rfl⟩) (λn=>!th s n) (by kernel_rfl) (λn _=>Wb hG s h1 n),λ_=>rfl,?_⟩;simp[oD,e1,e2,e3,e4,e5]
def im:Int→List Int→List Int
  |a,[]=>[a]
  |a,x::l=>a::im (a+x) l
def lA (l:List Int):∀ a,(im a l).length=l.length+1:=by
  induction l with
  |nil=>intro a;rfl
  |cons x l ih=>intro a;simp[im,ih]
def xi (l:List Int):∀ a i,i≤l.length→(im a l)[i]? = some (a+(l.take i).sum):=by
  induction l with
  | nil => intro a i hi; have : i = 0 := by simpa using hi
           subst this;simp[im]
  |cons x l ih =>
    intro a i hi
    cases i with
    |zero=>simp[im]
    |succ i =>
      simp only[im,List.getElem?_cons_succ,List.take_succ_cons,List.sum_cons];rw[ih _ i (by simpa using hi)]
      congr 1;omega
def AY (l:List Int) (x:Int):∀ a,im a (l++[x])=im a l++[a+l.sum+x]:=by
  induction l with
  |nil=>intro a;simp[im]
  |cons y l ih=>intro a;simp only[List.cons_append,im,ih,List.sum_cons];congr 3;omega
def eU(s:bO):List Int:=s.dY.map (·.1)
def dO(s:bO):List Int:=s.dY.map (·.2)
def cC(s:bO):List AV:=cK s++[vI (im 0 (eU s)),vI (im 0 (dO s))]
def fb(s:bO):AV:=.agg (cC s)
def lL(s:bO):Prop:=∀x∈s.dY,0<=x.1/\x.1<=24/\0<=x.2/\x.2<=24
def AM (l:List Int) (h:∀ x∈l,0≤x∧x≤24):0≤l.sum∧l.sum≤24 * l.length:=by
  induction l with
  |nil=>simp
  |cons x l ih =>
    have h1:=h x (by simp)
    have h2:=ih λy hy=>h y (List.mem_cons_of_mem _ hy)
    simp only[List.sum_cons,List.length_cons];omega
def uz {s:bO} (hb:lL s) (i:Nat):0≤((eU s).take i).sum∧((eU s).take i).sum≤24 * s.dY.length:=by
  have h:=AM ((eU s).take i) fun x hx=>by
    obtain⟨y,hy,rfl⟩:=List.mem_map.1 (List.mem_of_mem_take hx);have:=hb y hy;omega
  have:((eU s).take i).length<=s.dY.length:=by simp[eU];omega
  omega
def sZ {s:bO} (hb:lL s) (i:Nat):0≤((dO s).take i).sum∧((dO s).take i).sum≤24 * s.dY.length:=by
  have h:=AM ((dO s).take i) fun x hx=>by
    obtain⟨y,hy,rfl⟩:=List.mem_map.1 (List.mem_of_mem_take hx);have:=hb y hy;omega
  have:((dO s).take i).length<=s.dY.length:=by simp[dO];omega
  omega
def OD {u0 u1 u2 c7 c8:Value} (h7:c7.oneCell'=true) (h8:c8.oneCell'=true):prog.built 89 [(0,.agg #[u0,u1,u2]),(1,c7),(2,c8)]=some #[u0,u1,u2,c7,c8]:=by
  have e:∀c c7 c8:Value,prog.built 89 [(0,c),(1,c7),(2,c8)]=Instr.fill (λx=>#[(0,3),(3,1),(4,1)][x]?) #[.slice none 0 0,.slice none 0 0,.slice none 0 0,.slice none 0 0,.slice none 0 0] [(0,c),(1,c7),(2,c8)]:=by intro c c7 c8;kernel_rfl
  rw[e];have e6:(Value.agg #[u0,u1,u2]).cells=#[u0,u1,u2]:=rfl;simp[Instr.fill,jS h7,jS h8,e6]
def Gr (s:bO) (i:Nat) (S:af) (H:ah):Prop :=
  S 2=.box 2 0/\(∃cs,H 2=some cs/\cs.length=5)/\S 3=.box 3 0/\H 3=some (cK s++[.slice (.own 3) (ints (im 0 ((eU s).take i))),.slice (.own 3) (ints (im 0 ((dO s).take i)))])/\
  S 11=.slice .view (aW s.dY)/\S 12=.int .i64 s.dY.length/\S 13=.int .i64 (i:Nat)
noncomputable def ZY:List bl:=[⟨(some 18),none,.fieldAddr 3 (.t 3)⟩,
  ⟨(some 19),none,.loadT (.box 3) (.t 18)⟩,
  ⟨(some 20),none,.fieldAddr 3 (.t 3)⟩,
  ⟨(some 21),none,.load (.box 3) false 1 (.t 20)⟩,
  ⟨(some 22),none,.mv false (.t 4)⟩,
  ⟨(some 23),none,.indexAddr 1 (.t 21) (.t 22)⟩,
  ⟨(some 24),none,.load .ref false 1 (.t 23)⟩,
  ⟨(some 25),none,.fieldAddr 0 (.t 5)⟩,
  ⟨(some 26),none,.load (.box 5) false 1 (.t 25)⟩,
  ⟨(some 27),none,.bin .add (.t 24) (.t 26)⟩,
  ⟨(some 28),none,.buildSlice 28 3 1 [(.t 27)]⟩,
  ⟨(some 29),none,.append 28 3 1 8 (.t 19) (.t 28)⟩,
  ⟨(some 30),none,.fieldAddr 4 (.t 3)⟩,
  ⟨(some 31),none,.loadT (.box 3) (.t 30)⟩,
  ⟨(some 32),none,.fieldAddr 4 (.t 3)⟩,
  ⟨(some 33),none,.load (.box 3) false 1 (.t 32)⟩,
  ⟨(some 34),none,.mv false (.t 4)⟩,
  ⟨(some 35),none,.indexAddr 1 (.t 33) (.t 34)⟩,
  ⟨(some 36),none,.load .ref false 1 (.t 35)⟩,
  ⟨(some 37),none,.fieldAddr 1 (.t 5)⟩,
  ⟨(some 38),none,.load (.box 5) false 1 (.t 37)⟩,
  ⟨(some 39),none,.bin .add (.t 36) (.t 38)⟩,
  ⟨(some 40),none,.buildSlice 28 3 1 [(.t 39)]⟩,
  ⟨(some 41),none,.append 28 3 1 8 (.t 31) (.t 40)⟩,
  ⟨(some 42),none,.fieldAddr 3 (.t 3)⟩,
  ⟨none,none,.store (.box 3) 1 (.t 42) (.t 29)⟩,
  ⟨(some 43),none,.fieldAddr 4 (.t 3)⟩,
  ⟨none,none,.store (.box 3) 1 (.t 43) (.t 41)⟩]
def F1 {P:Program} {a:Act} {o:Oper} {t:TypeId} {x y z:Operand} {i j k:Nat} {cells:Array Value} (w:World) (ho:o.op = .build t #[(i,x),(j,y),(k,z)]) (hb:P.built t [(i,a.eval x),(j,a.eval y),(k,a.eval z)]=some cells):(execOp a.eval o).run P w = .ok (.value (.agg cells)) w:=by
  have h:=run_build (P:=P) w t #[(i,a.eval x),(j,a.eval y),(k,a.eval z)] cells hb;unfold execOp;simp only[ho,Sem.run_bind,List.map_toArray,List.map_cons,List.map_nil,h,Result.andThen_ok]
  rfl
def JG {vs:Array Value} (h:vs.size=3):∃ u0 u1 u2,vs = #[u0,u1,u2]:=⟨vs[0],vs[1],vs[2],by
  apply Array.ext
  . simpa using h
  . intro i h1 h2
    match i,h2 with
    |0,_=>rfl
    |1,_=>rfl
    |2,_=>rfl⟩
def BA (w:World) {b:Nat} {vs jq Md:Array Value} {ty:TypeId} (h:w.heap[b]? = some (.cells vs ty (0,0))):(w.setRow b jq).setRow b Md=w.setRow b Md:=by
  have h1:=setRow_heap w b vs jq ty (0,0) h;rw[kj _ h1 (cs':=Md),kj w h (cs':=jq),kj w h (cs':=Md)];simp[World.putObj]
def rW:List AV:=[.slice .nil [],.slice .nil [],.slice .nil [],.slice .nil [],.slice .nil []]
def Jg (Pr:Nat→Nat→Prop) (w:World):ni Pr w rW #[.slice none 0 0,.slice none 0 0,.slice none 0 0,.slice none 0 0,.slice none 0 0]:=by
  refine⟨rfl,λi h h'=>?_,λi h=>?_⟩
  . match i,h with
    |0,_|1,_|2,_|3,_|4,_=>exact .gy _
  . match i,h with
    |0,_|1,_|2,_|3,_|4,_=>rfl
noncomputable def CL:ae:=ae.qb c31.qb.qb.qa.qb.qb
def XB (hG:aw GI) (s:bO) (hl:s.dY.length≤1000) (hb:lL s):AC prog GI 31 [mc s] (.ret (fb s)):=by
  refine AC.iL func31 rfl ntmps31 (by simp) λcc w=>?_
  refine dR hG c31.qa (λS' H'=>S' 1=.box 1 0/\H' 1=some (cK s)/\S' 2=.box 2 0/\H' 2=some rW) ?_ ?_
  . simp[c31,ae.qa,mc,cK,rW]
  rintro S1 H1 ⟨s1,h1,s2,h2⟩
  refine SW.seq (SW.hand hG (p:=3) (lm:=[3,4,5]) (l2:=[]) (jT:=[_,_,_]) (oh:=[_,_,_]) (jC:=[]) rfl rfl rfl rfl (by kernel_rfl) (fun _ h=>h)
    (nN:=(c31.qb.qa.dl).take 3) (mF:=[]) (by kernel_rfl) rfl (by kernel_rfl) rfl
    (K1:=λS H=>S 1=.box 1 0/\H 1=some (cK s)/\S 2=.box 2 0/\H 2=some rW/\S 6=mc s/\S 7=.slice (.own 3) [.int .i64 0]/\S 8=.slice (.own 3) [.int .i64 0])
    (K2:=λo S H=>o=Old.plain cc w/\S 1=.box 1 0/\H 1=some (cK s)/\S 2=.box 2 0/\H 2=some rW/\S 3=.box 3 0/\H 3=some (cK s++[.slice (.own 3) [.int .i64 0],.slice (.own 3) [.int .i64 0]]))
    (K3:=λo S H=>o=Old.plain cc w/\S 1=.box 1 0/\H 1=some (cK s)/\S 2=.box 2 0/\H 2=some rW/\S 3=.box 3 0/\H 3=some (cK s++[.slice (.own 3) [.int .i64 0],.slice (.own 3) [.int .i64 0]])) ?_ ?_ ?_ ?_)
  . simp[c31,ae.qa,ae.qb,ae.dl,mc,cK,aF,s1,h1,s2,h2]
  . rintro w0 g S2 H2 a w' m bP ho R ⟨s1,h1,s2,h2,s6,s7,s8⟩
    have aI:=R.size;have r6:=R.slot 6 (by decide) id;rw[s6]at r6
    obtain ⟨u0,u1,u2,e6⟩:∃ u0 u1 u2,a.tmps.getD 6 undef = .agg #[u0,u1,u2]:=by
      generalize a.tmps.getD 6 undef=c at r6
      cases r6 with
      |data _ _ h =>
        cases h with
        |agg cs vs hl lC hr =>
          obtain⟨u0,u1,u2,rfl⟩:=JG (vs:=vs) (by rw[<-hl]<;>rfl);exact⟨u0,u1,u2,rfl⟩
    rw[e6]at r6
    have QJ:∀ j (h:j < (cK s).length) (h':j < #[u0,u1,u2].size),RD g.Pr w' (cK s)[j] #[u0,u1,u2][j]:=by
      cases r6 with
      |data _ _ h =>
        cases h with
        |agg cs vs hl lC hr=>exact hr
    have r7:RD g.Pr w' (.slice (.own 3) [.int .i64 0]) (a.tmps.getD 7 undef):=by
      have:=R.slot 7 (by decide) id;rw[s7]at this;exact this.dA rfl
    have r8:RD g.Pr w' (.slice (.own 3) [.int .i64 0]) (a.tmps.getD 8 undef):=by
      have:=R.slot 8 (by decide) id;rw[s8]at this;exact this.dA rfl
    obtain⟨c7,e7⟩:∃c,a.tmps.getD 7 undef=c:=⟨_,rfl⟩
    obtain⟨c8,e8⟩:∃c,a.tmps.getD 8 undef=c:=⟨_,rfl⟩
    rw[e7]at r7;rw[e8]at r8;have o7:c7.oneCell'=true:=r7.one rfl;have o8:c8.oneCell'=true:=r8.one rfl
    have cz:∀ (a:Act) (d t:Nat) (c:Value),t≠d→(a.put (some d) c).tmps.getD t undef=a.tmps.getD t undef:=fun a d t c h=>by
      simp[Act.put,Array.getElem?_setIfInBounds_ne (Ne.symm h)]
    have eO:∀ (a:Act) (d:Nat) (c:Value),a.tmps.size=46→d < 46→(a.put (some d) c).tmps.getD d undef=c:=fun a d c h hd=>by
      simp[Act.put,h,hd]
    refine aK rfl rfl (by rfl) (F1 (t:=89) (x:=.tmp 6) (y:=.tmp 7) (z:=.tmp 8) w' rfl (cells:=#[u0,u1,u2,c7,c8]) ?_) ?_
    . show prog.built 89 [(0,a.tmps.getD 6 undef),(1,a.tmps.getD 7 undef),(2,a.tmps.getD 8 undef)]=_
      rw[e6,e7,e8];exact OD o7 o8
    have R3:=R.forget 9 (by decide) (.agg #[u0,u1,u2,c7,c8])
    obtain⟨a3,l8⟩:∃a3,a.put (some 9) (.agg #[u0,u1,u2,c7,c8])=a3:=⟨_,rfl⟩
    show wpOpsIn _ _ _ _ _ [4,5] (a.put (some 9) _) w';rw[l8]at R3⊢;have z3:a3.tmps.size=46:=R3.size
    have f9:a3.tmps.getD 9 undef=.agg #[u0,u1,u2,c7,c8]:=by rw[<-l8];exact eO _ _ _ aI (by decide)
    have f7:a3.tmps.getD 7 undef=c7:=by rw[<-l8,cz _ _ _ _ (by decide)];exact e7
    have f8:a3.tmps.getD 8 undef=c8:=by rw[<-l8,cz _ _ _ _ (by decide)];exact e8
    obtain⟨it,hi,hz⟩:=Option.bind_eq_some_iff.1 (show(prog.info? 89).bind (·.zero)=some (.agg #[.slice none 0 0,.slice none 0 0,.slice none 0 0,.slice none 0 0,.slice none 0 0]) by kernel_rfl)
    have yB:it.size=5:=by
      have:(prog.info? 89).map (·.size)=some 5:=by kernel_rfl
      rw[hi]at this;exact Option.some.inj this
    refine aK rfl rfl (by rfl) (mS (t:=89) rfl hi hz) ?_
    obtain ⟨g4,q1,q2,q3,q4,q5,R4⟩:=R3.D' 3 (by decide) (by rw [ho];exact fun h=>h) rW _ 89 (Jg _ _) (fun g' j h h'=>by
      match j,h with
      |0,_|1,_|2,_|3,_|4,_=>exact⟨trivial,trivial⟩)
    obtain⟨b,hb⟩:∃b,w'.heap.size=b:=⟨_,rfl⟩
    obtain⟨w4,ib⟩:∃w4,w'.alloc (.cells #[.slice none 0 0,.slice none 0 0,.slice none 0 0,.slice none 0 0,.slice none 0 0] 89)=w4:=⟨_,rfl⟩
    have tN:w4.heap[b]?=some (.cells #[.slice none 0 0,.slice none 0 0,.slice none 0 0,.slice none 0 0,.slice none 0 0] 89 (0,0)):=by rw[<-ib,<-hb];exact World.alloc_heap_new w' _
    have fW:Below w'.heap.size w' w4:=by rw[<-ib];exact(Below.refl _ _).alloc (Nat.le_refl _) _
    have X9:g4.Pr=g.Pr:=by unfold Gh.Pr;rw[q1,q2,q3]
    have hK4:aL g.Pr g.Pr w' w4:=aL.fI (λb h=>fW.block b h) λ_ _ _ h=>h
    rw[hb]at R4 q5
    obtain⟨a4,hZ⟩:∃a4,a3.put (some 3) (.pointer (some ⟨b,0,none⟩))=a4:=⟨_,rfl⟩
    show wpOpsIn _ _ _ _ _ [5] (a3.put (some 3) (.pointer (some ⟨w'.heap.size,0,none⟩))) (w'.alloc (.cells #[.slice none 0 0,.slice none 0 0,.slice none 0 0,.slice none 0 0,.slice none 0 0] 89));rw[hb,ib,hZ];rw[ib,hZ]at R4
    have g9:a4.tmps.getD 9 undef=.agg #[u0,u1,u2,c7,c8]:=by rw[<-hZ,cz _ _ _ _ (by decide)];exact f9
    have g7:a4.tmps.getD 7 undef=c7:=by rw[<-hZ,cz _ _ _ _ (by decide)];exact f7
    have g8:a4.tmps.getD 8 undef=c8:=by rw[<-hZ,cz _ _ _ _ (by decide)];exact f8
    have g3:a4.tmps.getD 3 undef=.pointer (some ⟨b,0,none⟩):=by rw[<-hZ];exact eO _ _ _ z3 (by decide)
    have lC:∀ u∈(Value.agg #[u0,u1,u2,c7,c8]).cells.toList,u.oneCell'=true:=by
      have h3:∀j (h:j<3),(#[u0,u1,u2][j]).oneCell'=true:=λj h=>(QJ j h h).one (by match j,h with|0,_|1,_|2,_=>rfl)
      intro u hu;simp[Value.cells]at hu;rcases hu with rfl|rfl|rfl|rfl|rfl
      . exact h3 0 (by decide)
      . exact h3 1 (by decide)
      . exact h3 2 (by decide)
      . exact o7
      . exact o8
    refine dh rfl rfl (by rfl) (gC (t:=89) (x:=.tmp 3) (y:=.tmp 9) rfl g3 hi tN g9 (by rw[yB]<;>rfl) (by rw[yB]<;>rfl) lC) ?_;show HQ prog w0 46 _ .normal a4 (w4.setRow b #[u0,u1,u2,c7,c8])
    have BD:∀{v:AV}{c:Value},RD g.Pr w' v c->RD g.Pr w4 v c:=λh=>h.mono hK4
    obtain⟨g5,p1,p2,p3,p4,R5,Kn⟩:=R4.take (x:=.tmp 7) (y:=.t 7) rfl (λ_ _=>id) (.cell 3 3)
    have M_:g5.Pr=g.Pr:=by rw[<-X9];unfold Gh.Pr;rw[p1,p2,p4]
    have ev7:AL.ev (aq (λt=>aT 3 (aq S2 9 .bh t)) 3 (.box 3 0)) (.t 7)=.slice (.own 3) [.int .i64 0]:=by simp[AL.ev,aq,s7,aT]
    rw[ev7]at Kn
    have Kn:dD prog w4 g5 (.cell 3 3) (.slice (.own 3) [.int .i64 0]) c7:=by rw[<-g7];exact Kn
    have R6:=R5.tg 3 b (by rw [p3];exact q5) _ #[u0,u1,u2,c7,c8] 89 tN (cK s++[.slice (.own 3) [.int .i64 0],.slice .view [.int .i64 0]]) rfl (fun j h h'=>by
      rw[M_]
      match j,h with
      |0,_=>exact BD (QJ 0 (by simp[cK]) (by simp))
      |1,_=>exact BD (QJ 1 (by simp[cK]) (by simp))
      |2,_=>exact BD (QJ 2 (by simp[cK]) (by simp))
      |3,_=>exact BD r7
      |4,_=>exact RD.zU (BD r8)) (λj h h'=>by
      match j,h with
      |0,_|1,_|2,_|4,_=>trivial
      |3,_=>exact Kn) (λj h=>by
      match j,h with
      |0,_|1,_|2,_|3,_|4,_=>rfl)
    have Bt:(w4.setRow b #[u0,u1,u2,c7,c8]).heap[b]?=some (.cells #[u0,u1,u2,c7,c8] 89 (0,0)):=setRow_heap w4 b _ _ _ _ tN;obtain⟨NH,t1,t2,t3,t4,R7,J7⟩:=R6.take (x:=.tmp 8) (y:=.t 8) rfl (λ_ _=>id) (.cell 3 4)
    have ev8:AL.ev (vt (aq (λt=>aT 3 (aq S2 9 .bh t)) 3 (.box 3 0)) (.t 7)) (.t 8)=.slice (.own 3) [.int .i64 0]:=by simp[AL.ev,vt,a_,aq,s8,aT]
    rw[ev8]at J7
    have J7:dD prog (w4.setRow b #[u0,u1,u2,c7,c8]) NH (.cell 3 4) (.slice (.own 3) [.int .i64 0]) c8:=by
      have h:=J7
      change dD _ _ _ _ _ (a4.tmps.getD 8 undef)at h
      rw[g8]at h;exact h
    have X8:NH.al 3=some b:=by rw[t3,p3];exact q5
    obtain⟨cs,vs,ty,k0,k1,k2,k3,k4,k5,k6,k7,k8⟩:=R7.box 3 b X8;rw[aJ]at k0;cases k0;rw[Bt]at k2;cases k2
    have Xf:NH.Pr=g.Pr:=by rw[<-M_];unfold Gh.Pr;rw[t1,t2,t4]
    have r8':RD NH.Pr (w4.setRow b #[u0,u1,u2,c7,c8]) (.slice (.own 3) [.int .i64 0]) c8:=by
      have:=R6.slot 8 (by decide) id;have e:vt (aq (λt=>aT 3 (aq S2 9 .bh t)) 3 (.box 3 0)) (.t 7) 8=.slice (.own 3) [.int .i64 0]:=ev8;rw[e,g8]at this;rw[Xf,<-M_];exact this.dA rfl
    have R8:=R7.tg 3 b X8 _ #[u0,u1,u2,c7,c8] 89 Bt (cK s++[.slice (.own 3) [.int .i64 0],.slice (.own 3) [.int .i64 0]]) rfl (fun j h h'=>by
      match j,h with
      |0,_=>exact k6 0 (by simp[cK]) (by simp)
      |1,_=>exact k6 1 (by simp[cK]) (by simp)
      |2,_=>exact k6 2 (by simp[cK]) (by simp)
      |3,_=>exact k6 3 (by simp[cK]) (by simp)
      |4,_=>exact r8') (λj h h'=>by
      match j,h with
      |0,_|1,_|2,_=>trivial
      |3,_=>exact k7 3 (by simp[cK]) (by simp)
      |4,_=>exact J7) (λj h=>by
      match j,h with
      |0,_|1,_|2,_|3,_|4,_=>rfl)
    rw[BA w4 tN]at R8;refine⟨NH,_,_,R8,by rw[t2,p2,q2,ho],by simp[vt,a_,aq,s1,aT],by simp[aq,h1],by simp[vt,a_,aq,s2,aT],by simp[aq,h2],by simp[vt,a_,aq],by simp[aq]⟩
  . rintro o S2 H2 h
    exact⟨λd hd=>by rw[h.1]at hd;exact hd,h⟩
  rintro o S2 H2 ⟨rfl,s1,h1,s2,h2,s3,h3⟩;show SW prog GI 46 none (.seq (.seq _ (.block 0 (.loop _))) (.seq _ .ret)) _ _ _ _;refine SW.seq (dR hG c31.qb.qb.qa.qa (Gr s 0) ?_ ?_)
  . simp[c31,ae.qa,ae.qb,cK,s1,h1,s2,h2,s3,h3,Gr,rW,aW,im,ints]
  intro S3 H3 hF;refine SW.block (SW.loop (λo S' H'=>∃i,o=Old.plain cc w/\i<=s.dY.length/\Gr s i S' H') (λS' _=>match S' 13 with|.int _ j=>s.dY.length-j.toNat|_=>0) ⟨0,rfl,Nat.zero_le _,hF⟩ ?_);rintro o S4 H4 ⟨i,rfl,hi,hF⟩;have m13:S4 13=.int .i64 (i:Nat):=hF.2.2.2.2.2.2;show SW prog GI 46 none (.seq _ (.seq (.cond _ _ _) (.seq (.block 1 (.seq _ _)) _))) _ _ _ _;refine dR hG CL.qa (λS' H'=>S' 14=.bool (decide (i<s.dY.length))/\Gr s i S' H') ?_ ?_
  . obtain ⟨s2,⟨cs,h2,lS⟩,s3,h3,dV,bK,dW⟩:=hF
    simp[c31,CL,ae.qa,ae.qb,Gr,s2,h2,s3,h3,dV,bK,dW,lS]
  rintro S5 H5 ⟨fo,hF⟩
  by_cases av:i<s.dY.length
  case neg =>
    refine SW.seq (SW.cond rfl false (by show S5 14=_;rw[fo];simp[av]) (SW.exit ?_))
    have dN:i=s.dY.length:=by omega
    subst dN;obtain⟨s2,⟨cs,h2,lS⟩,s3,h3,dV,bK,dW⟩:=hF;have el:(eU s).take s.dY.length=eU s:=List.take_of_length_le (by simp[eU]);have eh:(dO s).take s.dY.length=dO s:=List.take_of_length_le (by simp[dO]);rw[el,eh]at h3;show SW prog GI 46 none (.seq _ .ret) _ _ _ _;refine dR hG c31.qb.qb.qb.qa (λS' H'=>S' 2=.box 2 0/\H' 2=some (cC s)) ?_ ?_
    . simp[c31,ae.qa,ae.qb,s2,h2,s3,h3,lS,cK,cC]
    rintro S7 H7 ⟨s2,h2⟩;refine SW.ret ⟨ea.plain rfl,rfl,_,?_,rfl⟩;obtain⟨i89,VT,VR⟩:=iZ 89 5;obtain⟨fs,iD⟩:=uZ 89;show cn prog 46 [.cell 2 89] S7 H7=_;simp[cn,ct,cw,s2,h2,VT,iD,VR,aZ,eB,AV.out,fb,cC,cK,vI,AV.aA,AV.bC]
    try exact⟨rfl,rfl,rfl,rfl,rfl⟩
  case pos =>
    refine SW.seq (SW.cond rfl true (by show S5 14=_;rw[fo];simp[av]) (SW.skip ?_));show SW prog GI 46 none (.seq (.block 1 (.seq _ _)) _) _ _ _ _;refine SW.seq (SW.block (dR hG CL.qb.qb.qa.qb.qa (λS' H'=>S' 4=.int .i64 (i:Nat)/\S' 5=.box 5 0/\H' 5=some [.int .i64 s.dY[i].1,.int .i64 s.dY[i].2]/\Gr s i S' H') ?_ ?_))
    . obtain ⟨s2,⟨cs,h2,lS⟩,s3,h3,dV,bK,dW⟩:=hF
      simp[c31,CL,ae.qa,ae.qb,Gr,s2,h2,s3,h3,dV,bK,dW,lS,aW,bq,av]
    rintro S6 H6 ⟨s4,s5,h5,hF⟩
    have BH:(eU s).length=s.dY.length:=by simp[eU]
    have hhl:(dO s).length=s.dY.length:=by simp[dO]
    have ll:(im 0 ((eU s).take i)).length=i+1:=by rw[lA];simp;omega
    have lh:(im 0 ((dO s).take i)).length=i+1:=by rw[lA];simp;omega
    have gl:(im 0 ((eU s).take i))[i]'(by omega)=((eU s).take i).sum:=by
      have:=xi ((eU s).take i) 0 i (by simp;omega);rw[List.getElem?_eq_getElem (by omega)]at this;simpa[List.take_take]using this
    have gh:(im 0 ((dO s).take i))[i]'(by omega)=((dO s).take i).sum:=by
      have:=xi ((dO s).take i) 0 i (by simp;omega);rw[List.getElem?_eq_getElem (by omega)]at this;simpa[List.take_take]using this
    have Qs:=hb _ (List.getElem_mem av);have wl:IntKind.i64.wrap (((eU s).take i).sum+s.dY[i].1)=((eU s).take i).sum+s.dY[i].1:=bf (by have:=uz hb i;omega);have wh:IntKind.i64.wrap (((dO s).take i).sum+s.dY[i].2)=((dO s).take i).sum+s.dY[i].2:=bf (by have:=sZ hb i;omega)
    have nl:im 0 ((eU s).take i)++[((eU s).take i).sum+s.dY[i].1]=im 0 ((eU s).take (i+1)):=by
      have e:(eU s).take (i+1)=(eU s).take i++[s.dY[i].1]:=by
        rw[List.take_succ,List.getElem?_eq_getElem (by rw[BH];exact av)];simp[eU]
      rw[e,AY];simp
    have nh:im 0 ((dO s).take i)++[((dO s).take i).sum+s.dY[i].2]=im 0 ((dO s).take (i+1)):=by
      have e:(dO s).take (i+1)=(dO s).take i++[s.dY[i].2]:=by
        rw[List.take_succ,List.getElem?_eq_getElem (by rw[hhl];exact av)];simp[dO]
      rw[e,AY];simp
    refine SW.mono (Q:=fun e o S H=>e = .normal∧o=Old.plain cc w∧S 2 = .box 2 0∧(∃ cs,H 2=some cs∧cs.length=5)∧S 3 = .box 3 0∧H 3=some (cK s++[.slice (.own 3) (ints (im 0 ((eU s).take (i+1)))),.slice (.own 3) (ints (im 0 ((dO s).take (i+1))))])∧S 11 = .slice .view (aW s.dY)∧S 12 = .int .i64 s.dY.length∧S 13 = .int .i64 (i:Nat)) ?_
      (SW.Va hG cV (p:=1) (q:=13) [0,12] [2,3,4,5,6,7,8,9,10,11,13,14,15,16,17,18,19,20,21,22,23,24,25,26,27] (by kernel_rfl) (by kernel_rfl) (by decide) (by decide) (l:=ZY) (by kernel_rfl) [_,_] [_,_,_,_,_,_,_,_,_,_,_,_,_,_,_,_,_,_,_,_,_,_,_,_,_] _ _ rfl rfl rfl rfl ?_)
    . rintro e o S7 H7 ⟨rfl,rfl,s2,⟨cs,h2,lS⟩,s3,h3,dV,bK,dW⟩
      show SW prog GI 46 none _ _ _ _ _;have hw:IntKind.i64.wrap ((i:Int)+1)=i+1:=bf (by omega);refine SW.pt hG cV (by kernel_rfl) (λ_ _ h=>h) (ac:=ae.qb CL.qb.qb) (by kernel_rfl) ?_;simp[c31,CL,ae.qa,ae.qb,Gr,thenS,fH.bD,s2,h2,s3,h3,dV,bK,dW,lS,hw];refine⟨⟨i+1,by omega,⟨rfl,rfl⟩,by simp⟩,?_⟩;rw[m13];simp;omega
    . obtain ⟨s2,⟨cs,h2,lS⟩,s3,h3,dV,bK,dW⟩:=hF
      have bQ:¬(i:Int)<0:=by omega
      have uF:i+1+1<1048576:=by omega
      simp only[ints]at h3⊢;simp[dc,ny,ar,fL,ao,aM,aD.S,aD.H,ev,aq,aH,s2,h2,lS,s3,h3,s4,s5,h5,dV,bK,dW,aZ,cK,AV.aA,AV.vw,AV.bF,AV.cells,AV.storable,AV.bm,aR,HR.okB,a_,aF,ee,vI,ints,ll,lh,gl,gh,wl,wh,uF,<-nl,<-nh];exact⟨3,3,⟨rfl,rfl⟩,3,4,⟨rfl,rfl⟩,.inr (by decide)⟩
def jt(l:List Int)(a b:Nat):Int:=(l.take b).sum-(l.take a).sum
def yO(l:List Int){i:Nat}(h:i<=l.length):(im 0 l)[i]'(by rw[lA];omega)=(l.take i).sum:=by
 have:=xi l 0 i h;rw[List.getElem?_eq_getElem (by rw[lA];omega)]at this;simpa using this
def YR(hG:aw GI)(s:bO)(hl:s.dY.length<=1000)(hb:lL s){a b:Nat}(ha:a<=s.dY.length)(fg:b<=s.dY.length):AC prog GI 85 [fb s,.int .i64 (a:Nat),.int .i64 (b:Nat)] (.ret (.int .i64 (jt (eU s) a b))):=by
 have BH:(eU s).length=s.dY.length:=by simp[eU]
 have h1:=uz hb a;have h2:=uz hb b;have hw:IntKind.i64.wrap (((eU s).take b).sum-((eU s).take a).sum)=((eU s).take b).sum-((eU s).take a).sum:=bf (by omega);have e1:=yO (eU s) (i:=a) (by omega);have e2:=yO (eU s) (i:=b) (by omega)
 have g1:a<(im 0 (eU s)).length:=by rw[lA];omega
 have g2:b<(im 0 (eU s)).length:=by rw[lA];omega
 have n1:¬(a:Int)<0:=by omega
 have n2:¬(b:Int)<0:=by omega
 refine dM hG func85 ntmps85 c85 ?_;simp[c85,fb,cC,cK,e1,e2,g1,g2,hw,n1,n2,dc,fL,aM,jt]
def Zt(hG:aw GI)(s:bO)(hl:s.dY.length<=1000)(hb:lL s){a b:Nat}(ha:a<=s.dY.length)(fg:b<=s.dY.length):AC prog GI 86 [fb s,.int .i64 (a:Nat),.int .i64 (b:Nat)] (.ret (.int .i64 (jt (dO s) a b))):=by
 have BH:(dO s).length=s.dY.length:=by simp[dO]
 have h1:=sZ hb a;have h2:=sZ hb b;have hw:IntKind.i64.wrap (((dO s).take b).sum-((dO s).take a).sum)=((dO s).take b).sum-((dO s).take a).sum:=bf (by omega);have e1:=yO (dO s) (i:=a) (by omega);have e2:=yO (dO s) (i:=b) (by omega)
 have g1:a<(im 0 (dO s)).length:=by rw[lA];omega
 have g2:b<(im 0 (dO s)).length:=by rw[lA];omega
 have n1:¬(a:Int)<0:=by omega
 have n2:¬(b:Int)<0:=by omega
 refine dM hG func86 ntmps86 c86 ?_;simp[c86,fb,cC,cK,e1,e2,g1,g2,hw,n1,n2,dc,fL,aM,jt]
def RV.VF {Pr:Nat→Nat→Prop} {al:Nat→Option Nat} {w:World} {f1 f2:Nat} {A:AV} {c:Value} (h:RV Pr al w (.fN [.func (.func f1) [A] [],.func (.func f2) [A] []]) c) (hA:A.bC=true) :
  ∃x1 x2,c=.agg #[.func (.func f1) #[x1] #[],.func (.func f2) #[x2] #[]]/\RD Pr w A x1/\RD Pr w A x2:=by
 have one:∀{f:Nat}{c:Value},RV Pr al w (.func (.func f) [A] []) c->∃x,c=.func (.func f) #[x] #[]/\RD Pr w A x:=by
  intro f c h
  cases h with
  |data _ _ h=>cases h
  |func _ _ _ vs us h1 h2 r1 r2=>
   obtain⟨x,rfl⟩:=j6 (vs:=vs) (by rw[<-h1]<;>rfl);have:us=#[]:=Array.eq_empty_of_size_eq_zero (by simpa using h2.symm);subst this;exact⟨x,rfl,(r1 0 (by simp) (by simp)).dA hA⟩
 cases h with
 |data _ _ h=>cases h
 |fN _ vs hl hr=>
  have hs:vs.size=2:=by rw[<-hl]<;>rfl
  obtain⟨x1,e1,q1⟩:=one (hr 0 (by simp) (by omega));obtain⟨x2,e2,q2⟩:=one (hr 1 (by simp) (by omega));refine⟨x1,x2,?_,q1,q2⟩
  congr 1
  apply Array.ext
  .simpa using hs
  .intro i h1 h2
   match i,h2 with
   |0,_=>exact e1
   |1,_=>exact e2
def jk{w0:World}{n:Nat}{g:Gh}{S:af}{H:ah}{a:Act}{w:World}(R:Rel prog w0 n bu g S H a w){t i:Nat}(ht:t<n)(hs:S t=.box i 0):∃b,g.al i=some b/\a.tmps.getD t undef=.pointer (some ⟨b,0,none⟩):=by
 have h:=R.slot t ht id;rw[hs]at h;generalize a.tmps.getD t undef=c at h
 cases h with
 |data _ _ h=>cases h
 |box _ _ b h=>exact⟨b,h,rfl⟩
def eR{w0:World}{n:Nat}{g:Gh}{S:af}{H:ah}{a:Act}{w:World}(R:Rel prog w0 n bu g S H a w){t:Nat}{k:Int}(ht:t<n)(hs:S t=.int .i64 k):a.tmps.getD t undef=.int .i64 k:=by
 have h:=R.slot t ht id;rw[hs]at h;exact h.int_eq
def JQ(bT:Nat)(f1 f2:Value)(a b l h:Int):Nat->Value
 |13=>.pointer (some ⟨bT,0,none⟩)|14=>f1|15=>.int .i64 a|16=>.int .i64 b|17=>.int .i64 l
 |18=>.pointer (some ⟨bT,1,none⟩)|19=>f2|20=>.int .i64 a|21=>.int .i64 b|22=>.int .i64 h
 |23=>.agg #[.int .i64 l,.int .i64 h]|_=>undef
def OO{c1 c2:Value}(h1:c1.oneCell'=true)(h2:c2.oneCell'=true):prog.built 33 [(0,c1),(1,c2)]=some #[c1,c2]:=by
 have e:∀u v:Value,prog.built 33 [(0,u),(1,v)]=Instr.fill (λx=>#[(0,1),(1,1)][x]?) #[.int .i64 0,.int .i64 0] [(0,u),(1,v)]:=by intro u v;kernel_rfl
 rw[e];simp[Instr.fill,jS h1,jS h2]
def Fb{P:Program}{a:Act}{o:Oper}{t:TypeId}{x y:Operand}{i j:Nat}{cells:Array Value}(w:World)(ho:o.op=.build t #[(i,x),(j,y)])(hb:P.built t [(i,a.eval x),(j,a.eval y)]=some cells):(execOp a.eval o).run P w=.ok (.value (.agg cells)) w:=by
 have h:=run_build (P:=P) w t #[(i,a.eval x),(j,a.eval y)] cells hb;unfold execOp;simp only[ho,Sem.run_bind,List.map_toArray,List.map_cons,List.map_nil,h,Result.andThen_ok]
 rfl
def Xh(hG:aw GI)(s:bO)(hl:s.dY.length<=1000)(hb:lL s){a b:Nat}(ha:a<=s.dY.length)(fg:b<=s.dY.length):AC prog GI 34 [fb s,.int .i64 (a:Nat),.int .i64 (b:Nat)] (.ret (bq (jt (eU s) a b,jt (dO s) a b))):=by
 intro w old bp jI hlen hr;refine(eA (ro:=none) (m:=0)).1 (callsIn_of_wp func34 rfl trivial ?_);have R:Rel prog w 24 bu _ (AL.start [fb s,.int .i64 (a:Nat),.int .i64 (b:Nat)]) (λ_=>none) { tmps:=bp++Array.replicate (f34.ntmps-bp.size) undef,defers:=[] } w:=Rel.begin (old:=old) ntmps34 (by simp) hlen hr;refine wpIn_seq ?_;refine dT R hG jI cV (ac:=ae.qa c34) (W:=λt=>decide (3<=t)) (by kernel_rfl) (by kernel_rfl) (by kernel_rfl) (λ_ h=>h) (K:=λS H=>S 1=.int .i64 (a:Nat)/\S 2=.int .i64 (b:Nat)/\S 3=.box 3 0/\H 3=some (cC s)/\S 6=.box 6 0/\H 6=some [.int .i64 0,.int .i64 0]) ?_ ?_
 .simp[c34,ae.qa,fb,cC,cK]
 rintro g1 S1 H1 a1 w1 lH R1 ⟨s1,s2,s3,h3,s6,h6⟩ BS;show Code.wpIn _ _ _ _ _ a1 w1;refine wpIn_seq ?_
 refine lB R1 hG jI (p:=5) (l2:=[5,6]) rfl (by kernel_rfl) (by kernel_rfl) (l:=(c34.qb.qa.dl).take 5) (by kernel_rfl) (by decide) (W:=λt=>decide (3<=t)) (by kernel_rfl) (by rw[lH];exact λ_ h=>h)
  (K:=λS H=>S 1=.int .i64 (a:Nat)/\S 2=.int .i64 (b:Nat)/\S 6=.box 6 0/\H 6=some [.int .i64 0,.int .i64 0]/\S 12=.fN [.func (.func 85) [fb s] [],.func (.func 86) [fb s] []]) ?_ ?_
 .simp[c34,ae.qa,ae.qb,ae.dl,bg,ar,aM,ao,aD.S,aD.H,ev,aq,aH,s1,s2,s3,h3,s6,h6,aZ,AV.aA,cC,fb,cK,vI,HR.okB,tW]
 rintro g2 S2 H2 a2 w2 oV R2 ⟨s1,s2,s6,h6,bK⟩ DR;obtain⟨x1,x2,Ll,q1,q2⟩:=RV.VF (by have:=R2.slot 12 (by decide) id;rw[bK]at this;exact this) rfl;obtain⟨b6,BJ,e6⟩:=jk R2 (by decide) s6;have e1:=eR R2 (by decide) s1;have e2:=eR R2 (by decide) s2;obtain⟨cs,vs,HO,k0,k1,k2,k3,k4,k5,k6,k7,k8⟩:=R2.box 6 b6 BJ;rw[h6]at k0;cases k0
 have eJ:vs.size=2:=by rw[<-k5]<;>rfl
 have fW:Below w.heap.size w w2:=by have:=R2.below;rwa [R2.base]at this
 have hb6:w.heap.size<=b6:=by rw[<-R2.base];exact k1
 have pR:a2.defers=[]:=by rw[R2.defers,oV,lH]<;>rfl
 have z2:=R2.size
 have cz:∀(a:Act)(d t:Nat)(c:Value),t≠d->(a.put (some d) c).tmps.getD t undef=a.tmps.getD t undef:=λa d t c h=>by
  simp[Act.put,Array.getElem?_setIfInBounds_ne (Ne.symm h)]
 have eO:∀(a:Act)(d:Nat)(c:Value),a.tmps.size=24->d<24->(a.put (some d) c).tmps.getD d undef=c:=λa d c h hd=>by
  simp[Act.put,h,hd]
 obtain⟨it,hi,hz⟩:=Option.bind_eq_some_iff.1 (show(prog.info? 170).bind (·.zero)=some (.agg #[.nilFunc,.nilFunc]) by kernel_rfl)
 have yB:it.size=2:=by
  have:(prog.info? 170).map (·.size)=some 2:=by kernel_rfl
  rw[hi]at this;exact Option.some.inj this
 refine aK rfl rfl (by rfl) (mS (t:=170) rfl hi hz) ?_
 obtain⟨bT,T2⟩:∃bT,w2.heap.size=bT:=⟨_,rfl⟩
 obtain⟨w3,mW⟩:∃w3,w2.alloc (.cells #[.nilFunc,.nilFunc] 170)=w3:=⟨_,rfl⟩
 have XU:w3.heap[bT]?=some (.cells #[.nilFunc,.nilFunc] 170 (0,0)):=by rw[<-mW,<-T2];exact World.alloc_heap_new w2 _
 have oA:Below w2.heap.size w2 w3:=by rw[<-mW];exact(Below.refl _ _).alloc (Nat.le_refl _) _
 obtain⟨a3,l8⟩:∃a3,a2.put (some 7) (.pointer (some ⟨bT,0,none⟩))=a3:=⟨_,rfl⟩
 show wpOpsIn _ _ _ _ _ [6] (a2.put (some 7) (.pointer (some ⟨w2.heap.size,0,none⟩))) (w2.alloc (.cells #[.nilFunc,.nilFunc] 170));rw[T2,mW,l8]
 have z3:a3.tmps.size=24:=by rw[<-l8];simpa[Act.put]using z2
 have d3:a3.defers=[]:=by rw[<-l8];exact pR
 have f7:a3.tmps.getD 7 undef=.pointer (some ⟨bT,0,none⟩):=by rw[<-l8];exact eO _ _ _ z2 (by decide)
 have f12:a3.tmps.getD 12 undef=.agg #[.func (.func 85) #[x1] #[],.func (.func 86) #[x2] #[]]:=by rw[<-l8,cz _ _ _ _ (by decide)];exact Ll
 have f1:a3.tmps.getD 1 undef=.int .i64 (a:Nat):=by rw[<-l8,cz _ _ _ _ (by decide)];exact e1
 have f2:a3.tmps.getD 2 undef=.int .i64 (b:Nat):=by rw[<-l8,cz _ _ _ _ (by decide)];exact e2
 have f6:a3.tmps.getD 6 undef=.pointer (some ⟨b6,0,none⟩):=by rw[<-l8,cz _ _ _ _ (by decide)];exact e6
 refine dh rfl rfl (by rfl) (gC (t:=170) (x:=.tmp 7) (y:=.tmp 12) rfl f7 hi XU f12 (by rw[yB]<;>rfl) (by rw[yB]<;>rfl) (by intro u hu;simp[Value.cells]at hu;rcases hu with rfl|rfl<;>rfl)) ?_
 obtain⟨w4,ib⟩:∃w4,w3.setRow bT #[.func (.func 85) #[x1] #[],.func (.func 86) #[x2] #[]]=w4:=⟨_,rfl⟩
 show Code.wpIn _ _ _ _ _ a3 (w3.setRow bT #[.func (.func 85) #[x1] #[],.func (.func 86) #[x2] #[]]);rw[ib]
 have h4T:w4.heap[bT]?=some (.cells #[.func (.func 85) #[x1] #[],.func (.func 86) #[x2] #[]] 170 (0,0)):=by rw[<-ib];exact setRow_heap w3 bT _ _ _ _ XU
 have VX:∀k,k<bT->w4.heap[k]?=w2.heap[k]?:=λk hk=>by
  rw[<-ib,setRow_other w3 bT k _ (by omega)];exact oA.block k (by omega)
 have h4s:w4.heap.size=bT+1:=by rw[<-ib,<-mW];simp[T2]
 have Wr:Below w2.heap.size w2 w4:=by
  refine⟨?_,?_,?_,by omega,λk hk=>VX k (by omega)⟩
  .rw[<-ib];exact oA.os
  .rw[<-ib];exact oA.tape
  .rw[<-ib];exact oA.output
 have Y9:b6<bT:=by have:=(Array.getElem?_eq_some_iff.1 k2).1;omega
 have call:∀ (f:Nat) (x:Value) (r:Int) (wx:World),Below w4.heap.size w4 wx→RD g2.Pr w2 (fb s) x→AC prog GI f [fb s,.int .i64 (a:Nat),.int .i64 (b:Nat)] (.ret (.int .i64 r)) →
   Calls prog f #[x,.int .i64 (a:Nat),.int .i64 (b:Nat)] wx λe w'=>e=.returned (.int .i64 r)/\Below w4.heap.size w4 w':=by
  intro f x r wx bI hx jN;have Rj:Below w2.heap.size w2 wx:=Wr.trans (bI.mono (by omega));have QX:GI wx:=hG w wx jI (fW.trans (Rj.mono fW.size));refine(jN wx g2.Pr #[x,.int .i64 (a:Nat),.int .i64 (b:Nat)] QX rfl (λi h h'=>?_)).mono ?_
  .match i,h with
   |0,_=>exact .data _ _ (hx.mono (aL.fI (λk hk=>Rj.block k hk) λ_ _ _ h=>h))
   |1,_=>exact .data _ _ (.int _ _)
   |2,_=>exact .data _ _ (.int _ _)
  .rintro e w' ⟨Uy,hh,rP,c,rfl,hc,_⟩;have GQ:=hc.int_eq;subst GQ;exact⟨rfl,bI.trans (Uy.mono bI.size)⟩
 refine wpIn_seq ?_;refine Bh cV (p:=11) (n:=24) (val:=JQ bT (.func (.func 85) #[x1] #[]) (.func (.func 86) #[x2] #[]) a b (jt (eU s) a b) (jt (dO s) a b)) (by kernel_rfl) (by kernel_rfl) (by kernel_rfl) z3 (λwx=>Below w4.heap.size w4 wx) ((Below.refl _ w4).drew) ?_ ?_
 .intro i o l aX wx ho hI hW hw;obtain⟨i170,M3,Tw⟩:=iZ 144 1
  obtain⟨ln,el,Sw,hle⟩:∃len el,prog.underlying 170=some (.array len el)/\(len=2/\el=144):=⟨2,144,by kernel_rfl,rfl,rfl⟩
  obtain⟨rfl,rfl⟩:=hle;obtain⟨d144,Oa,Kp⟩:=vZ 144;have hT:wx.heap[bT]?=some (.cells #[.func (.func 85) #[x1] #[],.func (.func 86) #[x2] #[]] 170 (0,0)):=(hW.block bT (by omega)).trans h4T;have x7:aX.tmps.getD 7 undef=.pointer (some ⟨bT,0,none⟩):=(hI.keep (by kernel_rfl)).trans f7;have Zs:aX.tmps.getD 1 undef=.int .i64 (a:Nat):=(hI.keep (by kernel_rfl)).trans f1;have X2:aX.tmps.getD 2 undef=.int .i64 (b:Nat):=(hI.keep (by kernel_rfl)).trans f2
  match i,ho with
  |0,ho=>
   have e:=Option.some.inj (ho.symm.trans (rfl:_=some _));subst e;exact⟨13,rfl,.inl ⟨wx,(kZ (s:=170) (el:=144) (len:=2) (x1:=.tmp 7) (x2:=.const (.int .i64 ((0:Nat):Int))) (k:=0) rfl Sw M3 x7 rfl (by decide)).trans (by simp[JQ]),hW⟩⟩
  |1,ho=>
   have e:=Option.some.inj (ho.symm.trans (rfl:_=some _));subst e;exact⟨14,rfl,.inl ⟨wx,m_ (t:=144) (x:=.tmp 13) (b:=bT) (off:=0) rfl (hI.at 0 13 ⟨_,rfl,rfl⟩ (hw ⟨0,.data⟩ (by simp) rfl)) Oa Kp hT rfl,hW⟩⟩
  |2,ho=>
   have e:=Option.some.inj (ho.symm.trans (rfl:_=some _));subst e;exact⟨15,rfl,.inl ⟨wx,(run_move (x:=.tmp 1) wx rfl).trans (congrArg (λv=>Result.ok (Next.value v) wx) Zs),hW⟩⟩
  |3,ho=>
   have e:=Option.some.inj (ho.symm.trans (rfl:_=some _));subst e;exact⟨16,rfl,.inl ⟨wx,(run_move (x:=.tmp 2) wx rfl).trans (congrArg (λv=>Result.ok (Next.value v) wx) X2),hW⟩⟩
  |4,ho=>
   have e:=Option.some.inj (ho.symm.trans (rfl:_=some _));subst e;have L2:aX.eval (.tmp 14)=.func (.func 85) #[x1] #[]:=hI.at 1 14 ⟨_,rfl,rfl⟩ (hw ⟨1,.data⟩ (by simp) rfl);have TL:aX.eval (.tmp 15)=.int .i64 (a:Nat):=hI.at 2 15 ⟨_,rfl,rfl⟩ (hw ⟨2,.data⟩ (by simp) rfl);have Sg:aX.eval (.tmp 16)=.int .i64 (b:Nat):=hI.at 3 16 ⟨_,rfl,rfl⟩ (hw ⟨3,.data⟩ (by simp) rfl);refine⟨17,rfl,.inr ⟨85,_,su (f:=.tmp 14) (k:=85) (first:=#[x1]) (cap:=#[]) wx rfl rfl L2 (by kernel_rfl),?_⟩⟩
   have oC:#[x1]++#[Operand.tmp 15,Operand.tmp 16].map aX.eval++#[]=#[x1,.int .i64 (a:Nat),.int .i64 (b:Nat)]:=by simp[TL,Sg]
   rw[oC];exact call 85 x1 _ wx hW q1 (YR hG s hl hb ha fg)
  |5,ho=>
   have e:=Option.some.inj (ho.symm.trans (rfl:_=some _));subst e;exact⟨18,rfl,.inl ⟨wx,(kZ (s:=170) (el:=144) (len:=2) (x1:=.tmp 7) (x2:=.const (.int .i64 ((1:Nat):Int))) (k:=1) rfl Sw M3 x7 rfl (by decide)).trans (by simp[JQ,Tw]),hW⟩⟩
  |6,ho=>
   have e:=Option.some.inj (ho.symm.trans (rfl:_=some _));subst e;exact⟨19,rfl,.inl ⟨wx,m_ (t:=144) (x:=.tmp 18) (b:=bT) (off:=1) rfl (hI.at 5 18 ⟨_,rfl,rfl⟩ (hw ⟨5,.data⟩ (by simp) rfl)) Oa Kp hT rfl,hW⟩⟩
  |7,ho=>
   have e:=Option.some.inj (ho.symm.trans (rfl:_=some _));subst e;exact⟨20,rfl,.inl ⟨wx,(run_move (x:=.tmp 1) wx rfl).trans (congrArg (λv=>Result.ok (Next.value v) wx) Zs),hW⟩⟩
  |8,ho=>
   have e:=Option.some.inj (ho.symm.trans (rfl:_=some _));subst e;exact⟨21,rfl,.inl ⟨wx,(run_move (x:=.tmp 2) wx rfl).trans (congrArg (λv=>Result.ok (Next.value v) wx) X2),hW⟩⟩
  |9,ho=>
   have e:=Option.some.inj (ho.symm.trans (rfl:_=some _));subst e;have Ho:aX.eval (.tmp 19)=.func (.func 86) #[x2] #[]:=hI.at 6 19 ⟨_,rfl,rfl⟩ (hw ⟨6,.data⟩ (by simp) rfl);have Nb:aX.eval (.tmp 20)=.int .i64 (a:Nat):=hI.at 7 20 ⟨_,rfl,rfl⟩ (hw ⟨7,.data⟩ (by simp) rfl);have Tc:aX.eval (.tmp 21)=.int .i64 (b:Nat):=hI.at 8 21 ⟨_,rfl,rfl⟩ (hw ⟨8,.data⟩ (by simp) rfl);refine⟨22,rfl,.inr ⟨86,_,su (f:=.tmp 19) (k:=86) (first:=#[x2]) (cap:=#[]) wx rfl rfl Ho (by kernel_rfl),?_⟩⟩
   have oC:#[x2]++#[Operand.tmp 20,Operand.tmp 21].map aX.eval++#[]=#[x2,.int .i64 (a:Nat),.int .i64 (b:Nat)]:=by simp[Nb,Tc]
   rw[oC];exact call 86 x2 _ wx hW q2 (Zt hG s hl hb ha fg)
  |10,ho=>
   have e:=Option.some.inj (ho.symm.trans (rfl:_=some _));subst e;have e17:aX.eval (.tmp 17)=.int .i64 (jt (eU s) a b):=hI.at 4 17 ⟨_,rfl,rfl⟩ (hw ⟨4,.data⟩ (by simp) rfl);have Sp:aX.eval (.tmp 22)=.int .i64 (jt (dO s) a b):=hI.at 9 22 ⟨_,rfl,rfl⟩ (hw ⟨9,.data⟩ (by simp) rfl);exact⟨23,rfl,.inl ⟨wx,Fb (t:=33) (x:=.tmp 17) (y:=.tmp 22) wx rfl (by rw[e17,Sp];exact OO rfl rfl),hW⟩⟩
  |n+11,ho=>exact absurd ho (by simp)
 .intro aX wx hI hW;show wpOpsIn _ _ _ _ _ [11] aX wx;obtain⟨i33,xA,vF⟩:=iZ 33 2;obtain⟨fs,iD⟩:=uZ 33;have x6:aX.tmps.getD 6 undef=.pointer (some ⟨b6,0,none⟩):=(hI.keep (by kernel_rfl)).trans f6;have x23:aX.tmps.getD 23 undef=.agg #[.int .i64 (jt (eU s) a b),.int .i64 (jt (dO s) a b)]:=hI.at 10 23 ⟨_,rfl,rfl⟩ rfl;have Mz:wx.heap[b6]?=some (.cells vs HO (0,0)):=(hW.block b6 (by omega)).trans ((VX b6 Y9).trans k2);refine dh rfl rfl (by rfl) (gC (t:=33) (x:=.tmp 6) (y:=.tmp 23) rfl x6 xA Mz x23 (by rw[vF]<;>rfl) (by rw[vF];exact eJ) (by intro u hu;simp[Value.cells]at hu;rcases hu with rfl|rfl<;>rfl)) ?_;show Code.wpIn _ _ _ _ _ aX (wx.setRow b6 #[.int .i64 (jt (eU s) a b),.int .i64 (jt (dO s) a b)]);have hr6:=setRow_heap wx b6 vs #[.int .i64 (jt (eU s) a b),.int .i64 (jt (dO s) a b)] HO (0,0) Mz;refine wpIn_ret ⟨by rw[hI.defers];exact d3,_,zY rfl x6 hr6 iD xA vF,?_⟩;have bI:Below w.heap.size w wx:=fW.trans ((Wr.trans (hW.mono (by omega))).mono fW.size);refine⟨⟨bI.os,bI.tape,bI.output,by simpa using bI.size,λk hk=>(setRow_other wx b6 k _ (by omega)).trans (bI.block k hk)⟩,λ_=>0,λ_ _=>rfl,_,rfl,.data _ _ (.agg _ _ rfl (λi hi=>?_) (λi hi ck=>?_)),trivial⟩
  .match i,hi with
   |0,_|1,_=>rfl
  .match i,hi with
   |0,_|1,_=>exact .int _ _
def jb(Zh why:Int):AV:=.iface 93 (.agg [.int .i64 Zh,.int .i64 why])
def uN(s:bO)(k:Nat):Int:=(s.eG.getD k (0,0)).1
def uq(s:bO)(k:Nat):Int:=(s.eG.getD k (0,0)).2
def lM(s:bO)(k a b:Nat)(p:Bool):iS:=
 if jt (eU s) a b<uN s k then .panic (jb k 1)else if p&&decide (uq s k<jt (dO s) a b)then .panic (jb k 2)else .ret (.eS [])
def N'(hG:aw GI)(s:bO)(hl:s.dY.length<=1000)(hb:lL s){k a b:Nat}(p:Bool)(hk:k<s.eG.length)(ha:a<=s.dY.length)(fg:b<=s.dY.length):AC prog GI 84 [fb s,.int .i64 (k:Nat),.int .i64 (a:Nat),.int .i64 (b:Nat),.bool p] (lM s k a b p):=by
 have n1:¬(k:Int)<0:=by omega
 have en:uN s k=s.eG[k].1:=by simp[uN,hk]
 have ep:uq s k=s.eG[k].2:=by simp[uq,hk]
 refine AC.iL func84 rfl ntmps84 (by simp) λcc w=>?_
 refine dR hG c84.qa (λS H=>S 1=.int .i64 (k:Nat)/\S 2=.int .i64 (a:Nat)/\S 3=.int .i64 (b:Nat)/\S 4=.bool p/\S 5=.box 5 0/\H 5=some (cC s)) ?_ ?_
 .simp[c84,ae.qa,fb,cC,cK]
 rintro S1 H1 ⟨s1,s2,s3,s4,s5,h5⟩;refine dR hG c84.qb.qa (λS H=>S 1=.int .i64 (k:Nat)/\S 4=.bool p/\S 10=.box 10 0/\H 10=some [.int .i64 (jt (eU s) a b),.int .i64 (jt (dO s) a b)]/\S 11=.box 11 0/\H 11=some [.int .i64 (uN s k),.int .i64 (uq s k)]) ?_ ?_
 .rw[en,ep];simp[c84,ae.qa,ae.qb,cC,cK,aW,bq,hk,n1,s1,s2,s3,s4,s5,h5,dc,fL,aM];refine oc (Xh hG s hl hb ha fg) ?_;simp[bq,hk,s1,s4]
 rintro S2 H2 ⟨s1,s4,fu,jK,dV,yv⟩;refine SW.pt hG cV (by kernel_rfl) (λ_ _ h=>h) (ac:=ae.qb c84.qb) (by kernel_rfl) ?_;unfold lM
 by_cases h1:jt (eU s) a b<uN s k
 .rw[if_pos h1];simp[c84,ae.qb,fH.bD,pv,s1,s4,fu,jK,dV,yv,h1,jb,cL,bg,aM]
  try exact⟨rfl,rfl⟩
 rw[if_neg h1];cases p
 .simp[c84,ae.qb,fH.bD,pv,s1,s4,fu,jK,dV,yv,h1,jb];exact⟨ea.plain rfl,rfl⟩
 .by_cases h2:uq s k<jt (dO s) a b
  .simp[c84,ae.qb,fH.bD,pv,s1,s4,fu,jK,dV,yv,h1,h2,jb,cL,bg,aM]
   try exact⟨rfl,rfl⟩
  .simp[c84,ae.qb,fH.bD,pv,s1,s4,fu,jK,dV,yv,h1,h2,jb];exact⟨ea.plain rfl,rfl⟩
def tA(c r:Int):Value:=.iface 93 (.agg #[.int .i64 c,.int .i64 r])
def sc{Pr:Nat->Nat->Prop}{al:Nat->Option Nat}{w:World}{x y:Int}{c:Value}(h:RV Pr al w (.agg [.int .i64 x,.int .i64 y]) c):c=.agg #[.int .i64 x,.int .i64 y]:=by
 cases h with
 |data _ _ h=>
  cases h with
  |agg cs vs hl lC hr=>
   have hs:vs.size=2:=by rw[<-hl]<;>rfl
   have h0:=(RV.data (al:=bU) _ _ (hr 0 (by simp) (by omega))).int_eq;have h1:=(RV.data (al:=bU) _ _ (hr 1 (by simp) (by omega))).int_eq
   congr 1
   apply Array.ext
   .simpa using hs
   .intro i h2 h3
    match i,h3 with
    |0,_=>exact h0
    |1,_=>exact h1
def CP {bA bE:Nat} {vs ve:Array Value} {ty te:TypeId} (w:World) (hA:w.heap[bA]? = some (.cells vs ty (0,0))) (hv:vs.size=2) (hE:w.heap[bE]? = some (.cells ve te (0,0))) (hve:ve.size=1) (bQ:bA≠bE) (n r:Int) :
  CallsD prog 149 #[.pointer (some ⟨bA,0,none⟩),.pointer (some ⟨bE,0,none⟩)] (.panicking [{ v:=tA n r,recovered:=false }]) w λe u' w'=>
   e=.returned (.tuple #[])/\u'=.panicking [{ v:=tA n r,recovered:=true }]/\∃w1,Below w.heap.size w w1/\w'=(w1.setRow bA #[.int .i64 n,.int .i64 r]).setRow bE #[.int .i64 7]:=by
 refine callsD_of_wpS func149 rfl λtJ cs hu=>?_
 apply wpS_seq;apply wpS_region;simp[wpOpsS,go_sem,recoverD,hu,ntmps149,Exit.thenS];refine wpS_of_wp ?_;refine(gz (m:=0)).1 ?_;refine fc (λa=>a.tmps.size=16/\a.defers=[]/\a.tmps.getD 0 undef=.pointer (some ⟨bA,0,none⟩)/\a.tmps.getD 1 undef=.pointer (some ⟨bE,0,none⟩)/\a.tmps.getD 6 undef=tA n r) ⟨by simp,rfl,by simp,by simp,by simp⟩ ?_;rintro a ⟨aI,cD,h0,h1,h6⟩;have ZV:=(Array.getElem?_eq_some_iff.1 hA).1;have aaa:=(Array.getElem?_eq_some_iff.1 hE).1;refine wpIn_block (wpIn_seq (wpIn_region ?_));show wpOpsIn _ _ _ _ _ [0] a w;refine aK rfl rfl (by rfl) (oL (x:=.tmp 6) w rfl h6) ?_;show Code.wpIn _ _ _ _ _ (a.put (some 8) (.bool false)) w
 have h8:(a.put (some 8) (.bool false)).tmps.getD 8 undef=.bool false:=by simp[Act.put,aI]
 refine wpIn_cond (t:=false) h8 ?_;simp only[Bool.false_eq_true,if_false];refine fc (λa=>a.tmps.size=16/\a.defers=[]/\a.tmps.getD 0 undef=.pointer (some ⟨bA,0,none⟩)/\a.tmps.getD 1 undef=.pointer (some ⟨bE,0,none⟩)/\a.tmps.getD 6 undef=tA n r) ⟨by simp[Act.put,aI],cD,by simpa[Act.put,Array.getElem?_setIfInBounds_ne]using h0,by simpa[Act.put,Array.getElem?_setIfInBounds_ne]using h1,by simpa[Act.put,Array.getElem?_setIfInBounds_ne]using h6⟩ ?_;clear h8 h6 h1 h0 cD aI a;rintro a ⟨aI,cD,h0,h1,h6⟩
 have hS:∀ t,t < 16→((fun t=>if t=6 then jb n r else AV.bh:af) t).aA=(fun t=>if t=6 then jb n r else AV.bh:af) t ∧
   RV (λ_ _=>True) bU w ((λt=>if t=6 then jb n r else AV.bh:af) t) (a.tmps.getD t undef):=by
  intro t ht
  by_cases h:t=6
  .subst h;rw[h6];refine⟨rfl,.data _ _ (.iface _ _ _ (.agg _ _ rfl (λi hi=>?_) (λi hi ck=>?_)))⟩
   .match i,hi with
    |0,_|1,_=>rfl
   .match i,hi with
    |0,_|1,_=>exact .int _ _
  .simp only[h,if_false];exact⟨rfl,.bh _⟩
 refine wpIn_seq ?_;refine dK (GI:=λ_=>True) (λ_ _ _ _=>trivial) cV (ac:=ae.qa c149.qb.qb.qb.qb) (W:=λt=>decide (9<=t)) (by kernel_rfl) (by kernel_rfl) (by kernel_rfl) trivial (λ_ _=>True) _ aI cD hS (K:=λS' _=>S' 10=.bool true/\S' 11=.agg [.int .i64 n,.int .i64 r]) ?_ ?_
 .simp[c149,ae.qa,ae.qb,bD,bg,ar,aM,ao,aB,aD.S,aD.H,ev,aq,aH,AV.aA,jb]
 rintro g S' H' a' w' hg R1 ⟨jK,yv⟩ aY;have t10:=R1.slot 10 (by decide) (λh=>h);rw[jK]at t10;have t10:=t10.fB;show Code.wpIn _ _ _ _ _ a' w';refine wpIn_cond (t:=true) t10 ?_;simp only[if_true];refine wpIn_seq ?_;refine dT R1 (GI:=λ_=>True) (λ_ _ _ _=>trivial) trivial cV (ac:=ae.qa c149.qb.qb.qb.qb.qb.qa) (W:=λt=>decide (2<=t)) (by kernel_rfl) (by kernel_rfl) (by kernel_rfl) (by rw[hg];exact λ_ h=>h) (K:=λS H=>S 3=.box 3 0/\H 3=some [.int .i64 n,.int .i64 r]) ?_ ?_
 .simp[c149,ae.qa,ae.qb,bD,bg,ar,aM,ao,aB,aD.S,aD.H,ev,aq,aH,AV.aA,yv,aT,HR.okB,AV.cells,AV.storable,aR,AV.bm,a_]
 rintro g2 S2 H2 a2 w2 n9 R2 ⟨s3,k3⟩ gM;show Code.wpIn _ _ _ _ _ a2 w2;refine lB R2 (GI:=λ_=>True) (λ_ _ _ _=>trivial) trivial (p:=1) (l2:=[1,2]) rfl (by kernel_rfl) (by kernel_rfl) (l:=(c149.qb.qb.qb.qb.qb.qa.qb.dl).take 1) (by kernel_rfl) (by decide) (W:=λt=>decide (2<=t)) (by kernel_rfl) (by rw[n9,hg];exact λ_ h=>h) (K:=λS H=>S 12=.agg [.int .i64 n,.int .i64 r]) ?_ ?_
 .simp[c149,ae.qa,ae.qb,ae.dl,bg,ar,aM,ao,aD.S,aD.H,ev,aq,aH,s3,k3,aZ,AV.aA,HR.okB]
 rintro g3 S3 H3 a3 w3 Ps R3 Pw oe
 have b3:Below w.heap.size w w3:=by have:=R3.below;rwa [R3.base]at this
 have Ll:=R3.slot 12 (by decide) id;rw[Pw]at Ll;have Ll:=sc Ll;have e0:a3.tmps.getD 0 undef=.pointer (some ⟨bA,0,none⟩):=(oe 0 rfl).trans ((gM 0 rfl).trans ((aY 0 rfl).trans h0));have e1:a3.tmps.getD 1 undef=.pointer (some ⟨bE,0,none⟩):=(oe 1 rfl).trans ((gM 1 rfl).trans ((aY 1 rfl).trans h1));have hA3:w3.heap[bA]?=some (.cells vs ty (0,0)):=(b3.block bA ZV).trans hA;have On:w3.heap[bE]?=some (.cells ve te (0,0)):=(b3.block bE aaa).trans hE;obtain⟨i93,HD,AT⟩:=iZ 93 2;obtain⟨i43,ND,GF⟩:=iZ 43 1;refine dh rfl rfl (by rfl) (gC (t:=93) (x:=.tmp 0) (y:=.tmp 12) rfl e0 HD hA3 Ll (by rw[AT]<;>rfl) (by rw[AT];exact hv) (by intro u hu;simp[Value.cells]at hu;rcases hu with rfl|rfl<;>rfl)) ?_;show wpOpsIn _ _ _ _ _ [2] a3 (w3.setRow bA #[.int .i64 n,.int .i64 r]);have hE4:(w3.setRow bA #[.int .i64 n,.int .i64 r]).heap[bE]?=some (.cells ve te (0,0)):=(setRow_other w3 bA bE _ (Ne.symm bQ)).trans On;refine dh rfl rfl (by rfl) (gC (t:=43) (x:=.tmp 1) (y:=.const (.int .i64 7)) (c:=.int .i64 7) rfl e1 ND hE4 rfl (by rw[GF]<;>rfl) (by rw[GF];exact hve) (by intro u hu;simp[Value.cells]at hu;subst hu;rfl)) ?_;refine⟨by show a3.defers=[];rw[R3.defers,Ps,n9,hg]<;>rfl,_,rfl,.tuple #[],?_,rfl,rfl,w3,b3,rfl⟩;simp[results,results149]
def C2 (p q:Addr) (w:World) :
  CallsD prog 149 #[.pointer (some p),.pointer (some q)] .returning w λe u' w'=>e=.returned (.tuple #[])/\u'=.returning/\w'=w:=by
 refine callsD_of_wpS func149 rfl λtJ cs hu=>?_
 apply wpS_seq;apply wpS_region;simp[wpOpsS,go_sem,recoverD,hu,ntmps149,Exit.thenS];refine wpS_of_wp ?_
 go_wp2
 cases tJ
 simp_all[bodyPostS,results,results149]
def MK {tmps:Array Value} {w:World} {bA bE:Nat} {u v e:Value} {ty te:TypeId} (h2:tmps.getD 2 undef = .pointer (some ⟨bA,0,none⟩)) (h3:tmps.getD 3 undef = .pointer (some ⟨bE,0,none⟩)) (hA:w.heap[bA]? = some (.cells #[u,v] ty (0,0))) (hE:w.heap[bE]? = some (.cells #[e] te (0,0))) :
  (results f82 tmps).run prog w=.ok (.tuple #[.agg #[u,v],e]) w:=by
 obtain⟨i93,HD,AT⟩:=iZ 93 2;obtain⟨fs,iD⟩:=uZ 93;obtain⟨d43,Zg,aap⟩:=vZ 43;have hr:f82.results=#[.cell 2 93,.cell 3 43]:=rfl
 have Ez:tmps[2]?.getD undef=.pointer (some ⟨bA,0,none⟩):=by rw[<-h2];simp
 have QU:tmps[3]?.getD undef=.pointer (some ⟨bE,0,none⟩):=by rw[<-h3];simp
 have g1:(isAgg 93).run prog w=.ok true w:=by
  unfold isAgg;rw[Sem.run_bind,run_underlying iD w]
  rfl
 have g2:(isAgg 43).run prog w=.ok false w:=by
  unfold isAgg;rw[Sem.run_bind,run_underlying Zg w]
  cases d43<;>simp_all[eB]
 have c0:w.cell? ⟨bA,0,none⟩=some u:=by simp[World.cell?,hA]
 have c1:w.cell? ⟨bA,1,none⟩=some v:=by simp[World.cell?,hA]
 have l1:(loadVar 93 ⟨bA,0,none⟩).run prog w=.ok (.agg #[u,v]) w:=by
  simp[loadVar,Sem.run_bind,g1,sizeOf,typeInfo,HD,AT,loadCells,loadCellsFrom,run_load,Addr.add_lit,c0,c1]
 have l2:(loadVar 43 ⟨bE,0,none⟩).run prog w=.ok e w:=by
  simp[loadVar,Sem.run_bind,g2,World.cell?,hE]
 simp[results,hr,Ez,QU,asAddr,l1,l2]
def F'{P:Program}{a:Act}{o:Oper}{t:TypeId}{cells:Array Value}(w:World)(ho:o.op=.build t #[])(hb:P.built t []=some cells):(execOp a.eval o).run P w=.ok (.value (.agg cells)) w:=by
 have h:=run_build (P:=P) w t #[] cells hb;unfold execOp;simp only[ho,Sem.run_bind,List.map_toArray,List.map_nil,h,Result.andThen_ok]
 rfl
def OC:prog.built 93 []=some #[.int .i64 0,.int .i64 0]:=by kernel_rfl
def zF:Value:=.agg #[.int .i64 0,.int .i64 0]
def Cy(c r e:Int):AV:=.eS [.agg [.int .i64 c,.int .i64 r],.int .i64 e]
def Rl (hG:aw GI) {k:Nat} {caps:List AV} {out:iS} {c r e:Int} (lF:dz prog k=true) (Of:AC prog GI k caps out)
  (ml:(∃v,out=.ret v/\c=0/\r=0/\e=0)\/(out=.panic (jb c r)/\e=7)):
  AC prog GI 82 [.func (.func k) [] caps] (.ret (Cy c r e)):=by
 intro w old bp jI hlen hr;obtain⟨fv,rfl⟩:∃fv,bp=#[fv]:=j6 (by simpa using hlen.symm);have h0:=hr 0 (by simp) (by simp);simp only[List.getElem_cons_zero,List.getElem_toArray]at h0
 obtain⟨us,rfl,hl,Bz⟩:∃us:Array Value,fv=.func (.func k) #[] us/\caps.length=us.size/\∀i (h:i<caps.length)(h':i<us.size),RV old (λ_=>none) w caps[i] us[i]:=by
  cases h0 with
  |data _ _ h=>cases h
  |func _ _ _ vs us h1 h2 r1 r2=>
   have:vs=#[]:=Array.eq_empty_of_size_eq_zero (by simpa using h1.symm);subst this;exact⟨us,rfl,h2,r2⟩
 clear h0 hr;refine calls_of_wp_defers func82 rfl ?_;refine(gz (m:=0)).1 ?_;refine fc (λa=>a.tmps.size=8/\a.defers=[]/\a.tmps.getD 0 undef=.func (.func k) #[] us) ⟨by simp[ntmps82],rfl,ef _ _ 0 (by simp)⟩ ?_;rintro a ⟨aI,cD,h0⟩
 have cz:∀(a:Act)(d t:Nat)(c:Value),t≠d->(a.put (some d) c).tmps.getD t undef=a.tmps.getD t undef:=λa d t c h=>by
  simp[Act.put,Array.getElem?_setIfInBounds_ne (Ne.symm h)]
 have eO:∀(a:Act)(d:Nat)(c:Value),a.tmps.size=8->d<8->(a.put (some d) c).tmps.getD d undef=c:=λa d c h hd=>by
  simp[Act.put,h,hd]
 have fJ:∀(a:Act)(d:Option Nat)(c:Value),(a.put d c).tmps.size=a.tmps.size:=λa d c=>by cases d<;>simp[Act.put]
 obtain⟨bA,Oe⟩:∃b,w.heap.size=b:=⟨_,rfl⟩
 refine wpIn_seq (wpIn_region ?_);show wpOpsIn _ _ _ _ _ [0,1] a w;obtain⟨it,my,hz⟩:=Option.bind_eq_some_iff.1 (show(prog.info? 93).bind (·.zero)=some zF by kernel_rfl)
 have yB:it.size=2:=by
  have:(prog.info? 93).map (·.size)=some 2:=by kernel_rfl
  rw[my]at this;exact Option.some.inj this
 refine aK rfl rfl (by rfl) (mS (t:=93) rfl my hz) ?_;show wpOpsIn _ _ _ _ _ [1] (a.put (some 2) (.pointer (some ⟨w.heap.size,0,none⟩))) (w.alloc (.cells #[.int .i64 0,.int .i64 0] 93));rw[Oe]
 obtain⟨w0,HG⟩:∃w0,w.alloc (.cells #[.int .i64 0,.int .i64 0] 93)=w0:=⟨_,rfl⟩
 have s0:w0.heap.size=bA+1:=by rw[<-HG];simp[Oe]
 have b0:Below w.heap.size w w0:=by rw[<-HG];exact(Below.refl _ _).alloc (Nat.le_refl _) _
 have n0:w0.heap[bA]?=some (.cells #[.int .i64 0,.int .i64 0] 93 (0,0)):=by rw[<-HG,<-Oe];exact World.alloc_heap_new w _
 rw[HG];refine aK rfl rfl (by rfl) (ju (t:=43) (z:=.int .i64 0) rfl (by kernel_rfl)) ?_;show Code.wpIn _ _ _ _ _ ((a.put (some 2) (.pointer (some ⟨bA,0,none⟩))).put (some 3) (.pointer (some ⟨w0.heap.size,0,none⟩))) (w0.alloc (.cells #[.int .i64 0] 43));rw[s0]
 obtain⟨w1,ig⟩:∃w1,w0.alloc (.cells #[.int .i64 0] 43)=w1:=⟨_,rfl⟩
 have s1:w1.heap.size=bA+2:=by rw[<-ig];simp[s0]
 have b1:Below w0.heap.size w0 w1:=by rw[<-ig];exact(Below.refl _ _).alloc (Nat.le_refl _) _
 have l_:Below w.heap.size w w1:=b0.trans (b1.mono (by omega));have nA:w1.heap[bA]?=some (.cells #[.int .i64 0,.int .i64 0] 93 (0,0)):=(b1.block bA (by omega)).trans n0
 have nE:w1.heap[bA+1]?=some (.cells #[.int .i64 0] 43 (0,0)):=by rw[<-ig,<-s0];exact World.alloc_heap_new w0 _
 rw[ig]
 refine fc (λa=>a.tmps.size=8/\a.defers=[]/\a.tmps.getD 0 undef=.func (.func k) #[] us/\a.tmps.getD 2 undef=.pointer (some ⟨bA,0,none⟩)/\a.tmps.getD 3 undef=.pointer (some ⟨bA+1,0,none⟩))
  ⟨by rw[fJ,fJ];exact aI,cD,by rw[cz _ _ _ _ (by decide),cz _ _ _ _ (by decide)];exact h0,by rw[cz _ _ _ _ (by decide)];exact eO _ _ _ aI (by decide),eO _ _ _ (by rw[fJ];exact aI) (by decide)⟩ ?_
 clear h0 cD aI a;rintro a ⟨aI,cD,h0,h2,h3⟩;refine wpIn_seq (wpIn_region ?_);show wpOpsIn _ _ _ _ _ [0,1] a w1;refine aK rfl rfl (by rfl) (oB (fn:=.func 149) (c:=#[.tmp 2,.tmp 3]) rfl) ?_
 have dX:(#[Operand.tmp 2,Operand.tmp 3].map a.eval)=#[.pointer (some ⟨bA,0,none⟩),.pointer (some ⟨bA+1,0,none⟩)]:=by
  simp only[List.map_toArray,List.map_cons,List.map_nil,Act.eval];rw[h2,h3]
 rw[dX]
 obtain⟨dv,Ts⟩:∃dv:Array Value,dv=#[.pointer (some ⟨bA,0,none⟩),.pointer (some ⟨bA+1,0,none⟩)]:=⟨_,rfl⟩
 rw[<-Ts];show wpOpsIn _ _ _ _ _ [1] (a.put (some 4) (.func (.func 149) #[] dv)) w1
 obtain⟨a2,gu⟩:∃a2,a.put (some 4) (.func (.func 149) #[] dv)=a2:=⟨_,rfl⟩
 rw[gu]
 have z2:a2.tmps.size=8:=by rw[<-gu,fJ];exact aI
 have u4:a2.tmps.getD 4 undef=.func (.func 149) #[] dv:=by rw[<-gu];exact eO _ _ _ aI (by decide)
 have u0:a2.tmps.getD 0 undef=.func (.func k) #[] us:=by rw[<-gu,cz _ _ _ _ (by decide)];exact h0
 have u2:a2.tmps.getD 2 undef=.pointer (some ⟨bA,0,none⟩):=by rw[<-gu,cz _ _ _ _ (by decide)];exact h2
 have u3:a2.tmps.getD 3 undef=.pointer (some ⟨bA+1,0,none⟩):=by rw[<-gu,cz _ _ _ _ (by decide)];exact h3
 have ud:a2.defers=[]:=by rw[<-gu];exact cD
 refine so rfl rfl (d:={ target:=.fn (.func 149) dv,args:=#[] }) (w':=w1) ?_ ?_
 .unfold execOp;simp[eu,Deferred.ofValue,Act.eval,u4]
 have Hu:∀(w:World),(invoke (.fn (.func 149) dv) #[]).run prog w=.ok (.enter 149 dv) w:=λw=>by
  simp[invoke,fC (P:=prog) (f:=149) (by kernel_rfl)]
 show Code.wpIn _ _ _ _ _ { a2 with defers:={ target:=.fn (.func 149) dv,args:=#[] }::a2.defers } w1;refine fc (λa=>a.tmps.size=8/\a.defers=[{ target:=.fn (.func 149) dv,args:=#[] }]/\a.tmps.getD 0 undef=.func (.func k) #[] us/\a.tmps.getD 2 undef=.pointer (some ⟨bA,0,none⟩)/\a.tmps.getD 3 undef=.pointer (some ⟨bA+1,0,none⟩)) ⟨z2,by show _::a2.defers=_;rw[ud],u0,u2,u3⟩ ?_;clear u0 u2 u3 u4 ud z2 gu a2 h0 h2 h3 cD aI dX a;rintro a ⟨aI,cD,h0,h2,h3⟩;refine wpIn_seq (wpIn_region ?_);show wpOpsIn _ _ _ _ _ [0,1] a w1;refine aK rfl rfl (by rfl) (run_move (x:=.tmp 0) w1 rfl) ?_;have e0:a.eval (.tmp 0)=.func (.func k) #[] us:=h0;rw[e0];show wpOpsIn _ _ _ _ _ [1] (a.put (some 5) (.func (.func k) #[] us)) w1
 obtain⟨a2,gu⟩:∃a2,a.put (some 5) (.func (.func k) #[] us)=a2:=⟨_,rfl⟩
 rw[gu]
 have z2:a2.tmps.size=8:=by rw[<-gu,fJ];exact aI
 have u5:a2.eval (.tmp 5)=.func (.func k) #[] us:=by show a2.tmps.getD 5 undef=_;rw[<-gu];exact eO _ _ _ aI (by decide)
 have u2:a2.tmps.getD 2 undef=.pointer (some ⟨bA,0,none⟩):=by rw[<-gu,cz _ _ _ _ (by decide)];exact h2
 have u3:a2.tmps.getD 3 undef=.pointer (some ⟨bA+1,0,none⟩):=by rw[<-gu,cz _ _ _ _ (by decide)];exact h3
 have ud:a2.defers=[{ target:=.fn (.func 149) dv,args:=#[] }]:=by rw[<-gu];exact cD
 have Dt:aL old old w w1:=aL.fI (λb h=>l_.block b h) λ_ _ _ h=>h
 refine pk rfl rfl (by rfl) (mY (f:=.tmp 5) w1 rfl rfl rfl u5 lF) (Of w1 old us (hG _ _ jI l_) hl (λi h h'=>(Bz i h h').mono Dt λ_ _ h=>h)) ?_;rintro en w2 ⟨iU,hi,rP,nF⟩;have QG:w2.heap[bA]?=some (.cells #[.int .i64 0,.int .i64 0] 93 (0,0)):=(iU.block bA (by omega)).trans nA;have U1:w2.heap[bA+1]?=some (.cells #[.int .i64 0] 43 (0,0)):=(iU.block (bA+1) (by omega)).trans nE
 have rL:∀{args:Array Value}{u:FrameMode}{w:World}{R R':Ending->FrameMode->World->Prop},CallsD prog 149 args u w R->(∀e u w,R e u w->R' e u w)->CallsD prog 149 args u w R':=λh hr c cs hu=>
  let⟨e,u',w',fr,r,rest⟩:=h c cs hu;⟨e,u',w',fr,hr _ _ _ r,rest⟩
 have fin:∀(w3:World)(c r e:Int),Below w2.heap.size w2 w3->AL.Ends prog old w (.ret (Cy c r e)) (.returned (.tuple #[.agg #[.int .i64 c,.int .i64 r],.int .i64 e])) ((w3.setRow bA #[.int .i64 c,.int .i64 r]).setRow (bA+1) #[.int .i64 e]):=by
  intro w3 c r e oA
  have fW:Below w.heap.size w w3:=by
   have h1:=l_.trans (iU.mono (by omega));exact h1.trans (oA.mono (by have:=iU.size;omega))
  refine⟨⟨fW.os,fW.tape,fW.output,by simpa using fW.size,λb hb=>((setRow_other _ _ b _ (by omega)).trans (setRow_other w3 _ b _ (by omega))).trans (fW.block b hb)⟩,λ_=>0,λ_ _=>rfl,_,rfl,?_,trivial⟩;refine .data _ _ (.eS _ _ rfl (λi hi ck=>?_))
  .match i,hi with
   |0,_=>
    refine .agg _ _ rfl (λi hi=>?_) (λi hi ck=>?_)
    .match i,hi with
     |0,_|1,_=>rfl
    .match i,hi with
     |0,_|1,_=>exact .int _ _
   |1,_=>exact .int _ _
 obtain⟨i93,HD,AT⟩:=iZ 93 2;obtain⟨i43,ND,GF⟩:=iZ 43 1
 rcases ml with⟨v,rfl,rfl,rfl,rfl⟩|⟨rfl,rfl⟩
 .obtain⟨cv,rfl,_,_⟩:=nF;show Code.wpIn _ _ _ _ _ (a2.put (some 6) cv) w2;refine fc (λa=>a.tmps.size=8/\a.defers=[{ target:=.fn (.func 149) dv,args:=#[] }]/\a.tmps.getD 2 undef=.pointer (some ⟨bA,0,none⟩)/\a.tmps.getD 3 undef=.pointer (some ⟨bA+1,0,none⟩)) ⟨by rw[fJ];exact z2,ud,by rw[cz _ _ _ _ (by decide)];exact u2,by rw[cz _ _ _ _ (by decide)];exact u3⟩ ?_;rintro a3 ⟨z3,d3,v2,v3⟩;refine wpIn_seq (wpIn_region ?_);show wpOpsIn _ _ _ _ _ [0,1,2] a3 w2;refine aK rfl rfl (by rfl) (F' (t:=93) w2 rfl OC) ?_
  obtain⟨a4,hZ⟩:∃a4,a3.put (some 7) (.agg #[.int .i64 0,.int .i64 0])=a4:=⟨_,rfl⟩
  show wpOpsIn _ _ _ _ _ [1,2] (a3.put (some 7) (.agg #[.int .i64 0,.int .i64 0])) w2;rw[hZ]
  have y7:a4.tmps.getD 7 undef=.agg #[.int .i64 0,.int .i64 0]:=by rw[<-hZ];exact eO _ _ _ z3 (by decide)
  have y2:a4.tmps.getD 2 undef=.pointer (some ⟨bA,0,none⟩):=by rw[<-hZ,cz _ _ _ _ (by decide)];exact v2
  have y3:a4.tmps.getD 3 undef=.pointer (some ⟨bA+1,0,none⟩):=by rw[<-hZ,cz _ _ _ _ (by decide)];exact v3
  have yd:a4.defers=[{ target:=.fn (.func 149) dv,args:=#[] }]:=by rw[<-hZ];exact d3
  refine dh rfl rfl (by rfl) (gC (t:=93) (x:=.tmp 2) (y:=.tmp 7) rfl y2 HD QG y7 (by rw[AT]<;>rfl) (by rw[AT]<;>rfl) (by intro u hu;simp[Value.cells]at hu;subst hu;rfl)) ?_;show wpOpsIn _ _ _ _ _ [2] a4 (w2.setRow bA #[.int .i64 0,.int .i64 0]);have Q7:(w2.setRow bA #[.int .i64 0,.int .i64 0]).heap[bA+1]?=some (.cells #[.int .i64 0] 43 (0,0)):=(setRow_other w2 bA (bA+1) _ (by omega)).trans U1;refine dh rfl rfl (by rfl) (gC (t:=43) (x:=.tmp 3) (y:=.const (.int .i64 0)) (c:=.int .i64 0) rfl y3 ND Q7 rfl (by rw[GF]<;>rfl) (by rw[GF]<;>rfl) (by intro u hu;simp[Value.cells]at hu;subst hu;rfl)) ?_;show Code.wpIn _ _ _ _ _ a4 ((w2.setRow bA #[.int .i64 0,.int .i64 0]).setRow (bA+1) #[.int .i64 0]);refine wpIn_ret ?_;show Leaves prog f82 a4.tmps _ a4.defers .returning _;rw[yd];refine leaves_cons (by simp) (Hu _) (rL (by rw[Ts];exact C2 _ _ _) ?_);rintro e u' w' ⟨rfl,rfl,rfl⟩;exact⟨_,MK y2 y3 ((setRow_other _ (bA+1) bA _ (by omega)).trans (setRow_heap w2 bA _ _ _ _ QG)) (setRow_heap _ (bA+1) _ _ _ _ Q7),fin w2 0 0 0 (Below.refl _ _)⟩
 .obtain⟨cv,rfl,hc⟩:=nF
  obtain rfl:cv=tA c r:=by
   cases hc with
   |iface _ _ c h=>rw[sc (.data (al:=bU) _ _ h)]<;>rfl
  show Leaves prog f82 a2.tmps _ a2.defers (.panicking [{ v:=tA c r,recovered:=false }]) w2;rw[ud];refine leaves_cons (by simp) (Hu w2) (rL (by rw[Ts];exact CP w2 QG rfl U1 rfl (by omega) c r) ?_);rintro e u' w' ⟨rfl,rfl,w3,oA,rfl⟩;have nA3:w3.heap[bA]?=some (.cells #[.int .i64 0,.int .i64 0] 93 (0,0)):=(oA.block bA (by have:=iU.size;omega)).trans QG;have Q7:w3.heap[bA+1]?=some (.cells #[.int .i64 0] 43 (0,0)):=(oA.block (bA+1) (by have:=iU.size;omega)).trans U1;show Leaves prog f82 a2.tmps _ [] .returning _;exact⟨_,MK u2 u3 ((setRow_other _ (bA+1) bA _ (by omega)).trans (setRow_heap w3 bA _ _ _ _ nA3)) (setRow_heap _ (bA+1) _ _ _ _ ((setRow_other w3 bA (bA+1) _ (by omega)).trans Q7)),fin w3 c r 7 oA⟩
def fU(s:bO)(k a b:Nat)(p:Bool):Bool:=!decide (jt (eU s) a b<uN s k)&&!(p&&decide (uq s k<jt (dO s) a b))
def lX(s:bO)(k a b:Nat)(p:Bool):(fU s k a b p=true/\lM s k a b p=.ret (.eS []))\/(fU s k a b p=false/\∃r,lM s k a b p=.panic (jb k r)):=by
 unfold fU lM
 by_cases h1:jt (eU s) a b<uN s k
 .exact .inr ⟨by simp[h1],1,by simp[h1]⟩
 by_cases h2:(p&&decide (uq s k<jt (dO s) a b))=true
 .exact .inr ⟨by simp[h1,h2],2,by simp[h1,h2]⟩
 .exact .inl ⟨by simp[h1,h2],by simp[h1,h2]⟩
def Ux(hG:aw GI)(s:bO)(hl:s.dY.length<=1000)(hb:lL s){k a:Nat}(hk:k<s.eG.length)(ha:a<=s.dY.length):AC prog GI 171 [.ref (cC s),.ref [.int .i64 (k:Nat)],.ref [.int .i64 (a:Nat)]] (lM s k a s.dY.length false):=by
 have h:=N' hG s hl hb false hk ha (Nat.le_refl _)
 rcases lX s k a s.dY.length false with⟨_,e⟩|⟨_,r,e⟩
 .rw[e]at h⊢;refine dM hG func171 ntmps171 c171 ?_;simp[c171,fb,cC,cK,aW];exact⟨_,by kernel_rfl,h,by simp[bR],by simp⟩
 .rw[e]at h⊢;refine dM hG func171 ntmps171 c171 ?_;simp[c171,fb,cC,cK,aW];exact⟨_,by kernel_rfl,h,by simp[bR,jb,iS.ru],by simp[jb]⟩
def SD(hG:aw GI)(s:bO)(hl:s.dY.length<=1000)(hb:lL s){k a b:Nat}(hk:k<s.eG.length)(ha:a<=s.dY.length)(fg:b<=s.dY.length):AC prog GI 172 [.ref (cC s),.ref [.int .i64 (k:Nat)],.ref [.int .i64 (a:Nat)],.ref [.int .i64 (b:Nat)]] (lM s k a b true):=by
 have h:=N' hG s hl hb true hk ha fg
 rcases lX s k a b true with⟨_,e⟩|⟨_,r,e⟩
 .rw[e]at h⊢;refine dM hG func172 ntmps172 c172 ?_;simp[c172,fb,cC,cK,aW];exact⟨_,by kernel_rfl,h,by simp[bR],by simp⟩
 .rw[e]at h⊢;refine dM hG func172 ntmps172 c172 ?_;simp[c172,fb,cC,cK,aW];exact⟨_,by kernel_rfl,h,by simp[bR,jb,iS.ru],by simp[jb]⟩
def Dj(hG:aw GI)(s:bO){f k a b:Nat}{p:Bool}{caps:List AV}(hf:dz prog f=true)(h:AC prog GI f caps (lM s k a b p)):∃c r,AC prog GI 82 [.func (.func f) [] caps] (.ret (Cy c r (if fU s k a b p then 0 else 7))):=by
 rcases lX s k a b p with⟨e1,e⟩|⟨e1,r,e⟩
 .rw[e]at h;exact⟨0,0,by rw[e1];exact Rl hG hf h (.inl ⟨_,rfl,rfl,rfl,rfl⟩)⟩
 .rw[e]at h;exact⟨k,r,by rw[e1];exact Rl hG hf h (.inr ⟨rfl,rfl⟩)⟩
def fy(s:bO):Nat->Nat->Nat->Bool
 |0,k,d=>fU s k d s.dY.length false
 |r+1,k,d=>s.work.any λx=>decide ((d:Int)<x)&&(fU s k d x.toNat true&&fy s r (k+1) x.toNat)
def Lf(s:bO)(l:List (List Int×Value)):Prop:=∀x∈l,∃k d r:Nat,x=([(k:Int),(d:Int)],.bool (fy s r k d))/\k+r+1=s.eG.length
end Go.Proofs.Tryz
namespace Go.Proofs.Tryz
open Go.AL
noncomputable def c5:ae:=(.seq (.ops [⟨(some 4),none,.mv true (.c (.bool false))⟩]) (.seq (aP 166 f5.cO.cB.cA) (.seq (aP 166 f5.cO.cB.cB.cA) (.seq (aP 166 f5.cO.cB.cB.cB.cA) (.seq (.ops [⟨(some 7),none,.mv true (.c (.int .i64 0))⟩]) (.seq (.seq (.ops [⟨(some 8),none,.mv true (.c (.int .i64 0))⟩]) (.block 0 (.loop (.seq (aP 166 f5.cO.cB.cB.cB.cB.cB.cA.cB.cB.cB.cA) (.seq (.block 1 (.seq (aP 166 f5.cO.cB.cB.cB.cB.cB.cA.cB.cB.cB.cB.cA.cB.cA) (aP 166 f5.cO.cB.cB.cB.cB.cB.cA.cB.cB.cB.cB.cA.cB.cB))) (aP 166 f5.cO.cB.cB.cB.cB.cB.cA.cB.cB.cB.cB.cB)))))) (.seq (aP 166 f5.cO.cB.cB.cB.cB.cB.cB.cA) (.seq (aP 166 f5.cO.cB.cB.cB.cB.cB.cB.cB.cA) (.seq (aP 166 f5.cO.cB.cB.cB.cB.cB.cB.cB.cB.cA) (.seq (aP 166 f5.cO.cB.cB.cB.cB.cB.cB.cB.cB.cB.cA) (.seq (aP 166 f5.cO.cB.cB.cB.cB.cB.cB.cB.cB.cB.cB.cA) (.seq (.seq (aP 166 f5.cO.cB.cB.cB.cB.cB.cB.cB.cB.cB.cB.cB.cA.cA) (.cond (.t 134) (.seq (.ops [⟨(some 4),none,.mv true (.c (.bool false))⟩])<|.ret) (.skip))) (.seq (.ops [⟨(some 19),none,.mv true (.c (.int .i64 0))⟩]) (.seq (.seq (.ops [⟨(some 20),none,.mv true (.c (.int .i64 0))⟩]) (.block 2 (.loop (.seq (aP 166 f5.cO.cB.cB.cB.cB.cB.cB.cB.cB.cB.cB.cB.cB.cB.cA.cB.cB.cB.cA) (.seq (aP 166 f5.cO.cB.cB.cB.cB.cB.cB.cB.cB.cB.cB.cB.cB.cB.cA.cB.cB.cB.cB.cA) (aP 166 f5.cO.cB.cB.cB.cB.cB.cB.cB.cB.cB.cB.cB.cB.cB.cA.cB.cB.cB.cB.cB)))))) (aP 166 f5.cO.cB.cB.cB.cB.cB.cB.cB.cB.cB.cB.cB.cB.cB.cB)))))))))))))))
def jl(a b:End):Bool:=decide (a.1<b.1)||(a.1==b.1&&decide (a.2<b.2))
def nW{a b:End}:jl a b=true↔a.1<b.1\/a.1=b.1/\a.2<b.2:=by
 simp[jl]
section
variable{l:List End}
end
def MD(s:aE)(n:Int):Bool:=match s.words[n.toNat]? with|some w=>!w.free|none=>false
def pY(s:aE)(out:List Int):Bool:=kG out 0 (s.words.length-1)&&decide (out.length<s.words.length)&&!(out.any (MD s))
def jn(s:aE)(out:List Int)(n:Nat):List End:=if out.contains (n:Int)then[]else match s.words[n]? with
 |some w=>(w.d_.map λk=>((n:Int),k))++[((n:Int),(w.bc.length:Int))]
 |none=>[]
def kM(s:aE)(out:List Int):List End:=(List.range s.words.length).flatMap (jn s out)
def uc(out:List Int):Nat->Int
 |0=> -1
 |n+1=>if out.contains (n:Int)then uc out n else n
def Qg(s:aE)(out:List Int)(e:End):Bool:=da e.1 0 (s.words.length-1)&&!out.contains e.1&&match s.words[e.1.toNat]? with
 |some w=>e.2==(w.bc.length:Int)||w.d_.contains e.2
 |none=>false
def Ee(s:aE)(out:List Int):End:=(uc out s.words.length,match s.words[(uc out s.words.length).toNat]? with|some w=>(w.bc.length:Int)|none=>0)
def sh(s:aE)(out:List Int)(es:List End):Bool:=pY s out&&!es.isEmpty&&(pq (Qg s out) jl es&&(es.getLast?.getD (-1,0)==Ee s out))
def AP{s:aE}{out:List Int}{e:End}:e∈kM s out↔Qg s out e=true:=by
 unfold kM Qg da;rw[List.mem_flatMap];simp only[List.mem_range,Bool.and_eq_true,decide_eq_true_eq,Bool.not_eq_true',List.contains_eq_mem,decide_eq_false_iff_not]
 constructor
 .rintro⟨n,hn,he⟩;unfold jn at he;split at he
  .cases he
  rename_i hc
  have hc:¬(n:Int)∈out:=by simpa using hc
  rw[List.getElem?_eq_getElem hn]at he;simp only[List.mem_append,List.mem_map,List.mem_singleton]at he
  have h1:e.1=n:=by rcases he with⟨k,_,rfl⟩|rfl<;>rfl
  rw[h1];refine⟨⟨by omega,hc⟩,?_⟩;rw[Int.toNat_natCast,List.getElem?_eq_getElem hn];simp only[Bool.or_eq_true,beq_iff_eq,decide_eq_true_eq];rcases he with⟨k,hk,rfl⟩|rfl
  .exact .inr hk
  .exact .inl rfl
 .rintro⟨⟨⟨h1,h2⟩,hc⟩,h3⟩;obtain⟨w,k⟩:=e
  obtain⟨n,rfl⟩:∃n:Nat,w=n:=⟨w.toNat,by simp only at h1;omega⟩
  simp only at h1 h2 hc h3
  have hn:n<s.words.length:=by omega
  refine⟨n,hn,?_⟩;unfold jn;rw[if_neg (by simpa using hc)];rw[Int.toNat_natCast,List.getElem?_eq_getElem hn]at h3;rw[List.getElem?_eq_getElem hn];simp only[Bool.or_eq_true,beq_iff_eq,decide_eq_true_eq]at h3;simp only[List.mem_append,List.mem_map,List.mem_singleton];rcases h3 with rfl|h3
  .exact .inr rfl
  .exact .inl ⟨k,h3,rfl⟩
def BM{s:aE}{out:List Int}(hw:∀w∈s.words,kG w.d_ 1 (w.bc.length-1)=true):(kM s out).Pairwise λa b=>jl a b=true:=by
 unfold kM;rw[List.pairwise_flatMap]
 constructor
 .intro n hn;rw[List.mem_range]at hn;unfold jn;split
  .exact .nil
  rw[List.getElem?_eq_getElem hn];have h:=hw s.words[n] (List.getElem_mem hn);unfold kG at h;rw[kB]at h;obtain⟨h1,h2⟩:=h;simp only;rw[List.pairwise_append];refine⟨?_,List.pairwise_singleton _ _,?_⟩
  .rw[List.pairwise_map]
   have:s.words[n].d_.Pairwise λa b=>a<b:=Dz λj hj=>by simpa using h2 j hj
   exact this.imp λh=>by simp[jl,h]
  .intro a ha b hb;rw[List.mem_singleton]at hb;subst hb;obtain⟨k,hk,rfl⟩:=List.mem_map.1 ha;have:=h1 k hk;simp[da]at this;simp[jl];omega
 .refine List.Pairwise.imp_of_mem ?_ List.pairwise_lt_range;intro a b ha hb H_ x hx y hy
  have ma:x.1=a:=by
   unfold jn at hx;split at hx
   .cases hx
   split at hx
   .simp only[List.mem_append,List.mem_map,List.mem_singleton]at hx
    rcases hx with⟨k,_,rfl⟩|rfl<;>rfl
   .cases hx
  have Ax:y.1=b:=by
   unfold jn at hy;split at hy
   .cases hy
   split at hy
   .simp only[List.mem_append,List.mem_map,List.mem_singleton]at hy
    rcases hy with⟨k,_,rfl⟩|rfl<;>rfl
   .cases hy
  rw[nW,ma,Ax];left;omega
def xO{out:List Int}:∀n:Nat,(uc out n= -1/\∀k:Nat,k<n->(k:Int)∈out)\/∃m:Nat,m<n/\uc out n=m/\¬(m:Int)∈out/\∀k:Nat,m<k->k<n->(k:Int)∈out
 |0=>.inl ⟨rfl,λk hk=>by omega⟩
 |n+1=>by
  unfold uc;split
  .rename_i hc
   have hc:(n:Int)∈out:=by simpa using hc
   rcases xO (out:=out) n with⟨h1,h2⟩|⟨m,h1,h2,h3,h4⟩
   .refine .inl ⟨h1,λk hk=>?_⟩
    by_cases e:k=n
    .subst e;exact hc
    .exact h2 k (by omega)
   .refine .inr ⟨m,by omega,h2,h3,λk hk eK=>?_⟩
    by_cases e:k=n
    .subst e;exact hc
    .exact h4 k hk (by omega)
  .rename_i hc;exact .inr ⟨n,by omega,rfl,by simpa using hc,λk h1 h2=>by omega⟩
def L4{s:aE}{out:List Int}(h:pY s out=true):∃m:Nat,m<s.words.length/\uc out s.words.length=m/\¬(m:Int)∈out/\∀k:Nat,m<k->k<s.words.length->(k:Int)∈out:=by
 unfold pY at h;simp only[Bool.and_eq_true,decide_eq_true_eq]at h;obtain⟨⟨h1,h2⟩,_⟩:=h;rcases xO (out:=out) s.words.length with⟨_,h3⟩|h3
 .exfalso;unfold kG at h1;rw[kB]at h1;obtain⟨_,h1⟩:=h1
  have hp:out.Pairwise λa b=>a<b:=Dz λj hj=>by simpa using h1 j hj
  have hp:=List.pairwise_iff_getElem.1 hp
  have key:∀k:Nat,k<s.words.length->∃j,k<=j/\∃hj:j<out.length,out[j]=k:=by
   intro k
   induction k with
   |zero=>
    intro hk;obtain⟨j,hj,e⟩:=List.getElem_of_mem (h3 0 hk);exact⟨j,by omega,hj,e⟩
   |succ k ih=>
    intro hk;obtain⟨j,hkj,hj,e⟩:=ih (by omega);obtain⟨j',c_,e'⟩:=List.getElem_of_mem (h3 (k+1) hk);refine⟨j',?_,c_,e'⟩;rcases Nat.lt_trichotomy j j' with h|h|h
    .omega
    .subst h;omega
    .have:=hp j' j c_ hj h;omega
  obtain⟨j,hkj,hj,_⟩:=key (s.words.length-1) (by omega);omega
 .exact h3
def zb{s:aE}{out:List Int}(h:pY s out=true):(kM s out).getLast?=some (Ee s out):=by
 obtain⟨m,h1,h2,h3,h4⟩:=L4 h
 have hl:Ee s out=((m:Int),((s.words[m]).bc.length:Int)):=by
  unfold Ee;rw[h2,Int.toNat_natCast,List.getElem?_eq_getElem h1]
 rw[hl];unfold kM
 obtain⟨d,hd⟩:∃d,s.words.length=m+1+d:=⟨s.words.length-m-1,by omega⟩
 have key:∀d,m+1+d<=s.words.length->((List.range (m+1+d)).flatMap (jn s out)).getLast?=some ((m:Int),((s.words[m]).bc.length:Int)):=by
  intro d
  induction d with
  |zero=>
   intro _;rw[Nat.add_zero,List.range_succ,List.flatMap_append,List.flatMap_singleton]
   have hm:¬(out.contains (m:Int)=true):=by simpa using h3
   have e:jn s out m=(s.words[m].d_.map λk=>((m:Int),k))++[((m:Int),(s.words[m].bc.length:Int))]:=by
    unfold jn;rw[if_neg hm,List.getElem?_eq_getElem h1]
   rw[e,<-List.append_assoc,List.getLast?_append];simp
  |succ d ih=>
   intro hle;rw[<-Nat.add_assoc,List.range_succ,List.flatMap_append,List.flatMap_singleton]
   have hc:out.contains ((m+1+d:Nat):Int)=true:=by simpa using h4 (m+1+d) (by omega) (by omega)
   have e:jn s out (m+1+d)=[]:=by
    unfold jn;rw[if_pos hc]
   rw[e,List.append_nil];exact ih (by omega)
 rw[hd];exact key d (by omega)
end Go.Proofs.Tryz
