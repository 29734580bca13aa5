/- A part of the proof. -/
import Derived.Test.YtifmgeicigngbaaGreatLf1
set_option maxRecDepth 100000
set_option maxHeartbeats 8000000
set_option linter.all false
namespace Go.Proofs.Tryz
open Go.AL
abbrev Lt:=Int×Int
def bH(s:aD)(g:Nat×Nat):Lt:=((g.1:Int),match s.words[g.1]? with|some w=>w.bD[g.2]?.getD 0|none=>0)
def gN(lo hi st:Int):Int:=lo+((hi-lo)*st).tdiv 10
def gw(s:aD)(a b:Lt):Int×Int:=if a.1=b.1 then match s.dh.find? λp=>p.l==a.2&&p.r==b.2 with
 |some p=>(p.lo,p.hi)
 |none=>(s.nT,s.nS)
 else(s.At,s.zH)
def mg(s:aD)(st:Int)(a b:Lt):Int:=gN (gw s a b).1 (gw s a b).2 st
def jR(s:aD)(a:Lt):Int:=if a.2<0 then s.eZ else s.da[a.2.toNat]?.getD 0
def fT(s:aD)(st:Int)(l:List Lt):Nat->Int
 |0=>0
 |i+1=>fT s st l i+(match l[i]?,l[i+1]? with|some a,some b=>mg s st a b|_,_=>0)
def xO{s:aD}{st:Int}{l:List Lt}{i:Nat}(h:i+1<l.length):fT s st l (i+1)=fT s st l i+mg s st (l[i]'(by omega)) l[i+1]:=by
 show fT s st l i+(match l[i]?,l[i+1]? with|some a,some b=>mg s st a b|_,_=>0)=_;rw[List.getElem?_eq_getElem (by omega),List.getElem?_eq_getElem h]
def fU(s:aD)(l:List Lt):Nat->Int
 |0=>0
 |i+1=>fU s l i+(match l[i]? with|some a=>jR s a|none=>0)
def xE{s:aD}{l:List Lt}{i:Nat}(h:i<l.length):fU s l (i+1)=fU s l i+jR s l[i]:=by
 show fU s l i+(match l[i]? with|some a=>jR s a|none=>0)=_;rw[List.getElem?_eq_getElem h]
def gR(s:aD)(st:Int)(l:List Lt)(cut:Bool):Int:=(fU s l l.length+(if cut then s.eZ else 0))+(fT s st l (l.length-1)+(if cut then gN s.nT s.nS st else 0))
def mc{lo hi st:Int}(h:lo<=hi)(h0:0<=st)(h1:st<=10):lo<=gN lo hi st/\gN lo hi st<=hi:=by
 unfold gN;have a:0<=(hi-lo)*st:=Int.mul_nonneg (by omega) h0;have b:(hi-lo)*st<=(hi-lo)*10:=Int.mul_le_mul_of_nonneg_left h1 (by omega);rw[Int.tdiv_eq_ediv_of_nonneg a];generalize(hi-lo)*st=x at a b⊢;omega
structure oe(s:aD):Prop where
 da:∀n∈s.da,1<=n/\n<=20
 Tm:s.da.length<=6
 dh:∀p∈s.dh,0<=p.l/\0<=p.r/\0<=p.lo/\p.lo<=p.hi/\p.hi<=9
 Tn:s.dh.length<=6
 o:0<=s.nT/\s.nT<=s.nS/\s.nS<=9
 g:0<=s.At/\s.At<=s.zH/\s.zH<=20
 eZ:1<=s.eZ/\s.eZ<=20
 words:1<=s.words.length/\s.words.length<=4
 wide:1<=s.wide/\s.wide<=400
 rows:1<=s.rows/\s.rows<=3
def hO{s:aD}(h:ba s=true):oe s:=by
 unfold ba oF kN dD at h;simp only[Bool.and_eq_true,decide_eq_true_eq,Bool.not_eq_true',List.any_eq_false,jM]at h;obtain⟨⟨⟨⟨h1,h2⟩,h3⟩,h4,_⟩,⟨⟨⟨⟨⟨h5,h6⟩,h7⟩,h8⟩,_⟩,h9⟩,mZ⟩:=h;refine⟨λn hn=>?_,by omega,λp hp=>?_,h2,by omega,by omega,by omega,by omega,h9,mZ⟩
 .have:=h5 n hn;simpa using this
 .have:=h4 p hp;unfold oI kc kN dD at this;simp only[Bool.and_eq_true,decide_eq_true_eq]at this;omega
def th{s:aD}(h:oe s)(a b:Lt):0<=(gw s a b).1/\(gw s a b).1<=(gw s a b).2/\(gw s a b).2<=20:=by
 unfold gw;split
 .split
  .rename_i p hp;have:=h.dh p (List.mem_of_find?_eq_some hp);simp only;omega
  .have:=h.o;simp only;omega
 .have:=h.g;simp only;omega
def wV{s:aD}(h:oe s){st:Int}(h0:0<=st)(h1:st<=10)(a b:Lt):0<=mg s st a b/\mg s st a b<=20:=by
 have h2:=th h a b;have h3:=mc h2.2.1 h0 h1;unfold mg;omega
def HW(s:aD)(a:Lt):Prop:=0<=a.2/\a.2<s.da.length
def xD{s:aD}(h:oe s){a:Lt}(ha:HW s a):1<=jR s a/\jR s a<=20:=by
 unfold jR;rw[if_neg (by have:=ha.1;omega)]
 have ao:a.2.toNat<s.da.length:=by have:=ha.1;have:=ha.2;omega
 rw[List.getElem?_eq_getElem ao];exact h.da _ (List.getElem_mem ao)
def pI{s:aD}(h:oe s){l:List Lt}(hl:∀a∈l,HW s a):∀{i:Nat},i<=l.length->(i:Int)<=fU s l i/\fU s l i<=20*i
 |0,_=>by simp[fU]
 |i+1,hi=>by
  rw[xE (by omega)];have:=pI h hl (i:=i) (by omega);have:=xD h (hl _ (List.getElem_mem (show i<l.length by omega)));omega
def py{s:aD}(h:oe s){st:Int}(h0:0<=st)(h1:st<=10){l:List Lt}:∀{i:Nat},i+1<=l.length->0<=fT s st l i/\fT s st l i<=20*i
 |0,_=>by simp[fT]
 |i+1,hi=>by
  rw[xO hi];have:=py h h0 h1 (l:=l) (i:=i) (by omega);have:=wV h h0 h1 (l[i]'(by omega)) (l[i+1]'hi);omega
def AZ{s:aD}(h:oe s){st:Int}(h0:0<=st)(h1:st<=10){l:List Lt}(hl:l≠[])(ho:∀a∈l,HW s a)(hlen:l.length<=24)(cut:Bool):1<=gR s st l cut/\gR s st l cut<=1000:=by
 have iE:=List.length_pos_iff.2 hl;unfold gR;have:=py h h0 h1 (l:=l) (i:=l.length-1) (by omega);have:=pI h ho (i:=l.length) (by omega);have:=mc h.o.2.1 h0 h1;have:=h.o;have:=h.eZ
 split<;>omega
def jD(s:aD)(out:List Int)(es:List End)(st:Int)(i:Nat):Int:=gR s st ((iB s out es i).map (bH s)) (iH s es i)
def bK(s:aD)(out:List Int)(es:List End)(st:Int):List Int:=(List.range es.length).map (jD s out es st)
def fj(s:aD)(out:List Int)(es:List End)(st:Int):Bool:=decide ((es.length:Int)<=s.rows)&&(bK s out es st).all λn=>decide (n<=s.wide)
def wE(p:Int->Bool):Nat->Int
 |0=> -1
 |n+1=>if p n then n else wE p n
def vH(s:aD)(out:List Int)(es:List End):Int:=wE (fj s out es) 11
def MX{s:aD}(hs:ba s=true){g:Nat×Nat}(h:g.1<s.words.length/\g.2<fM s g.1):HW s (bH s g):=by
 obtain⟨h1,h2⟩:=h;rw[oH h1]at h2;unfold bH HW;simp only;rw[List.getElem?_eq_getElem h1];simp only;rw[List.getElem?_eq_getElem h2];exact(oy hs (List.getElem_mem h1)).sign _ (List.getElem_mem h2)
section
variable{s:aD}{out:List Int}{es:List End}
end
def P5{now es:List End}:∀{all:List End}{m:Nat},all≠[]->all.Nodup->(es∈ch now all m↔∃t,es=now++t/\t.Sublist all/\t.getLast?=all.getLast?/\t.length<=m):=by
 have key:∀(all:List End),all.Nodup->∀(now:List End)(m:Nat),(all≠[]->(es∈ch now all m↔∃t,es=now++t/\t.Sublist all/\t.getLast?=all.getLast?/\t.length<=m))/\(all≠[]->(es∈lp now all m↔∃t,es=now++t/\t.Sublist all/\t.getLast?=all.getLast?/\t.length<=m+1)):=by
  intro all
  induction all with
  |nil=>intro _ now m;exact⟨λh=>absurd rfl h,λh=>absurd rfl h⟩
  |cons a r ih=>
   intro cT;obtain⟨hna,hnr⟩:=List.nodup_cons.1 cT;have ih:=ih hnr
   have YO:∀(now:List End)(m:Nat),es∈lp now (a::r) m↔∃t,es=now++t/\t.Sublist (a::r)/\t.getLast?=(a::r).getLast?/\t.length<=m+1:=by
    intro now m;unfold lp;rw[List.mem_append]
    by_cases hr:r=[]
    .subst hr;rw[if_pos rfl,List.mem_singleton]
     constructor
     .rintro(h|h)
      .exact⟨[a],h,List.Sublist.refl _,rfl,by simp⟩
      .unfold lp at h;cases h
     .rintro⟨t,h1,h2,h3,h4⟩;left
      have:t=[a]:=by
       cases h2 with
       |cons _ h=>rw[List.sublist_nil.1 h]at h3;cases h3
       |cons_cons _ h=>rw[List.sublist_nil.1 h]
      rw[h1,this]
    .rw[if_neg hr]
     have hl:(a::r).getLast?=r.getLast?:=by
      cases r with
      |nil=>exact absurd rfl hr
      |cons b r=>rfl
     have h1:(es∈(match m with|0=>[]|m+1=>lp (now++[a]) r m))↔∃t,es=now++a::t/\t.Sublist r/\t.getLast?=r.getLast?/\t.length<=m:=by
      cases m with
      |zero=>
       constructor
       .intro h;cases h
       .rintro⟨t,_,_,h3,h4⟩;have:t=[]:=List.length_eq_zero_iff.1 (by omega);subst this;exact absurd (List.getLast?_eq_none_iff.1 h3.symm) hr
      |succ m=>
       simp only;rw[(ih (now++[a]) m).2 hr];simp
     rw[hl];refine(or_congr h1 ((ih now m).2 hr)).trans ?_
     constructor
     .rintro(⟨t,a1,a2,a3,a4⟩|⟨t,a1,a2,a3,a4⟩)
      .refine⟨a::t,a1,a2.cons_cons _,?_,by simp;omega⟩
       cases t with
       |nil=>exact absurd (List.getLast?_eq_none_iff.1 a3.symm) hr
       |cons b t=>rw[<-a3];rfl
      .exact⟨t,a1,a2.cons _,a3,a4⟩
     .rintro⟨t,a1,a2,a3,a4⟩
      cases a2 with
      |cons _ h=>exact .inr ⟨t,a1,h,a3,a4⟩
      |cons_cons _ h=>
       rename_i t;left;refine⟨t,a1,h,?_,by simpa using a4⟩
       cases t with
       |nil=>
        exfalso;apply hna;exact List.mem_of_getLast? a3.symm
       |cons b t=>rw[<-a3];rfl
   intro now m;refine⟨λ_=>?_,λ_=>YO now m⟩;unfold ch;rw[if_neg (by simp)]
   cases m with
   |zero=>
    constructor
    .intro h;cases h
    .rintro⟨t,_,_,h3,h4⟩;have:t=[]:=List.length_eq_zero_iff.1 (by omega);subst this
     cases r with
     |nil=>cases h3
     |cons b r=>exact absurd (List.getLast?_eq_none_iff.1 h3.symm) (by simp)
   |succ m=>exact YO now m
 intro all m h cT;exact(key all cT now m).1 h
def sc{a b c:End}(h:ji a b=true)(h':ji b c=true):ji a c=true:=by
 rw[nO]at*;omega
def jH(a:End):ji a a=false:=by
 cases h:ji a a with
 |false=>rfl
 |true=>rw[nO]at h;omega
abbrev mT(l:List End):Prop:=l.Pairwise λa b=>ji a b=true
def mT.nodup{l:List End}(h:mT l):l.Nodup:=h.imp λLR e=>by
 subst e;rw[jH]at LR;cases LR
def rl:∀{all t:List End},mT all->mT t->(∀x∈t,x∈all)->t.Sublist all
 |[],t,_,_,h=>by
  cases t with
  |nil=>exact .slnil
  |cons a t=>exact absurd (h a List.mem_cons_self) (by simp)
 |a::r,[],_,_,_=>List.nil_sublist _
 |a::r,b::t,hs,ht,h=>by
  obtain⟨tW,pR⟩:=List.pairwise_cons.1 hs;obtain⟨Z0,ht2⟩:=List.pairwise_cons.1 ht;rcases List.mem_cons.1 (h b List.mem_cons_self)with e|hb
  .subst e;refine .cons_cons _ (rl pR ht2 λx hx=>?_);rcases List.mem_cons.1 (h x (List.mem_cons_of_mem _ hx))with e|Af
   .subst e;have:=Z0 _ hx;rw[jH]at this;cases this
   .exact Af
  .refine .cons _ (rl pR ht λx hx=>?_);rcases List.mem_cons.1 (h x hx)with e|Af
   .subst e;exfalso;have h1:=tW b hb;rcases List.mem_cons.1 hx with e|kX
    .subst e;rw[jH]at h1;cases h1
    .have:=sc h1 (Z0 _ kX);rw[jH]at this;cases this
   .exact Af
def ss{l:List End}(h:∀j (hj:j+1<l.length),ji (l[j]'(by omega)) l[j+1]=true):mT l:=by
 unfold mT;rw[List.pairwise_iff_getElem];intro i j hi hj pt
 obtain⟨d,rfl⟩:∃d,j=i+1+d:=⟨j-i-1,by omega⟩
 clear pt
 induction d with
 |zero=>exact h i hj
 |succ d ih=>exact sc (ih (by omega)) (h (i+1+d) hj)
section
variable{s:aD}{out:List Int}{es:List End}
def KB(ho:pq s out=true):kM s out≠[]:=by
 intro e;have:=tP ho;rw[e]at this;cases this
def E5(hs:ba s=true):∀w∈s.words,iQ w.er 1 (w.bD.length-1)=true:=λ_ hw=>(oy hs hw).er
def gz(s:aD)(out:List Int)(m:Nat):List (List End):=ch [] (kM s out) m
def wi(hs:ba s=true)(ho:pq s out=true){m:Nat}:es∈gz s out m↔pZ s out es=true/\es.length<=m:=by
 have Hj:=Bp (out:=out) (E5 hs);unfold gz;rw[P5 (KB ho) (mT.nodup Hj)];unfold pZ;rw[ho,Bool.true_and,Bool.and_eq_true,Bool.and_eq_true,jM,Bool.not_eq_true',beq_iff_eq];have hl:=tP ho
 constructor
 .rintro⟨t,h1,h2,h3,h4⟩;rw[List.nil_append]at h1;subst h1;rw[h3,hl]
  have bt:es≠[]:=by
   rintro rfl;rw[hl]at h3;cases h3
  have gx:mT es:=Hj.sublist h2;refine⟨⟨by simpa using bt,⟨λx hx=>tZ.1 (h2.subset hx),λj hj=>List.pairwise_iff_getElem.1 gx j (j+1) _ _ (by omega)⟩,rfl⟩,h4⟩
 .rintro⟨⟨h1,⟨h2,h3⟩,h4⟩,h5⟩
  have bt:es≠[]:=by
   rintro rfl;cases h1
  refine⟨es,rfl,rl Hj (ss h3) λx hx=>tZ.2 (h2 x hx),?_,h5⟩;rw[List.getLast?_eq_some_getLast bt]at h4⊢;rw[hl];exact congrArg some h4
end
def fS(s:aD)(out:List Int):List (List End):=(gz s out s.rows.toNat).filter λes=>fj s out es 0
def Iz{s:aD}{out:List Int}{es:List End}(hs:ba s=true)(ho:pq s out=true):es∈fS s out↔pZ s out es=true/\fj s out es 0=true:=by
 unfold fS;rw[List.mem_filter,wi hs ho]
 constructor
 .rintro⟨⟨h1,_⟩,h2⟩;exact⟨h1,h2⟩
 .rintro⟨h1,h2⟩;refine⟨⟨h1,?_⟩,h2⟩;unfold fj at h2;simp only[Bool.and_eq_true,decide_eq_true_eq]at h2;omega
section
variable{α:Type}
def gZ(better:α->α->Bool)(x:α)(l:List α):α:=l.foldl (λo x=>if better x o then x else o) x
end
def zE:∀{all now:List End},all≠[]->(lp now all 0).length=1
 |[],_,h=>absurd rfl h
 |a::r,now,_=>by
  unfold lp
  by_cases hr:r=[]
  .subst hr;simp[lp]
  .simp only[if_neg hr,List.nil_append];exact zE hr
def zx:∀{all now:List End},(lp now all 1).length=all.length
 |[],_=>rfl
 |a::r,now=>by
  unfold lp
  by_cases hr:r=[]
  .subst hr;simp[lp]
  .simp only[if_neg hr,List.length_append,List.length_cons];rw[zE hr,zx];omega
def Fs:∀{all now:List End},all≠[]->2*(lp now all 2).length=2+all.length*(all.length-1)
 |[],_,h=>absurd rfl h
 |a::r,now,_=>by
  unfold lp
  by_cases hr:r=[]
  .subst hr;simp[lp]
  .simp only[if_neg hr,List.length_append,List.length_cons];rw[zx,Nat.mul_add,Fs hr]
   obtain⟨n,hn⟩:∃n,r.length=n+1:=⟨r.length-1,by have:=List.length_pos_iff.2 hr;omega⟩
   rw[hn];simp only[Nat.add_sub_cancel]
   have e1:(n+1+1)*(n+1)=(n+1)*n+2*(n+1):=by
    rw[Nat.add_mul,Nat.mul_comm (n+1) n,Nat.add_mul n 1];omega
   omega
def Si{all now:List End}{m:Nat}(h:all.length<=24)(hm:m<=3):(ch now all m).length<=277:=by
 unfold ch;split
 .simp
 rename_i bt
 match m,hm with
 |0,_=>simp
 |1,_=>simp only;rw[zE bt];omega
 |2,_=>simp only;rw[zx];omega
 |3,_=>
  simp only;have:=Fs (now:=now) bt;have:all.length*(all.length-1)<=24*23:=Nat.mul_le_mul h (by omega);omega
def vC{l:List Int}{lo hi:Int}(h:iQ l lo hi=true)(hle:lo<=hi+1):(l.length:Int)<=hi+1-lo:=by
 have h':=h;unfold iQ at h;rw[jM]at h;obtain⟨h1,h2⟩:=h
 have key:∀j (hj:j<l.length),lo+j<=l[j]:=by
  intro j
  induction j with
  |zero=>
   intro hj;have:=h1 _ (List.getElem_mem hj);simp[dD]at this;simpa using this.1
  |succ j ih=>
   intro hj;have:=ih (by omega);have:=h2 j hj;simp at this;omega
 by_cases h0:l.length=0
 .omega
 .have a:=key (l.length-1) (by omega);have b:=h1 _ (List.getElem_mem (show l.length-1<l.length by omega));simp[dD]at b;omega
def uo{s:aD}(hs:ba s=true){out:List Int}(n:Nat):(jm s out n).length<=fM s n/\fM s n<=6:=by
 unfold jm fM
 by_cases h:n<s.words.length
 .rw[List.getElem?_eq_getElem h];have hw:=oy hs (List.getElem_mem h);have h1:=hw.JD;have:=vC hw.er (by omega);have:=hw.xe;split
  .simp only[List.length_nil];omega
  .simp only[List.length_append,List.length_map,List.length_cons,List.length_nil];omega
 .rw[List.getElem?_eq_none (by omega)]
  split<;>simp
def zS{s:aD}(hs:ba s=true)(out:List Int):(kM s out).length<=24:=by
 unfold kM;have h4:=(hO hs).words.2
 have key:∀m:Nat,((List.range m).flatMap (jm s out)).length<=6*m:=by
  intro m
  induction m with
  |zero=>simp
  |succ m ih=>
   rw[List.range_succ,List.flatMap_append,List.flatMap_singleton,List.length_append];have:=uo hs (out:=out) m;omega
 have:=key s.words.length;omega
def wk{s:aD}(hs:ba s=true)(out:List Int){m:Nat}(hm:m<=3):(gz s out m).length<=277:=Si (zS hs out) hm
def I2{s:aD}(hs:ba s=true)(out:List Int):(fS s out).length<=277:=
 Nat.le_trans (List.length_filter_le _ _) (wk hs out (by have:=(hO hs).rows;omega))
def gW(l:List Word):Nat:=(l.map λw=>w.bD.length).sum
def rT(s:aD)(k:Nat):aD:={ s with words:=eM s.words k }
section
variable{s x:aD}{m:Nat}{z z':Nat×Nat}
def Pe{s:aD}{out:List Int}{es:List End}(h1:pq s out=true)(h2:es≠[])(h3:∀e∈es,Pc s out e=true)(h4:mT es)(h5:es.getLast?.getD (-1,0)=wo s out):pZ s out es=true:=by
 unfold pZ;simp only[Bool.and_eq_true,jM,Bool.not_eq_true',beq_iff_eq];exact⟨⟨h1,by cases es with|nil=>exact absurd rfl h2|cons _ _=>rfl⟩,⟨h3,λj hj=>List.pairwise_iff_getElem.1 h4 j (j+1) _ _ (by omega)⟩,h5⟩
end
def rS(w:Word)(l:List Word):gW (w::l)=w.bD.length+gW l:=rfl
def I7(l r:List Word):gW (l++r)=gW l+gW r:=by
 induction l with
 |nil=>simp[gW]
 |cons a l ih=>rw[List.cons_append,rS,rS,ih];omega
def AG{s:aD}:ba s=true↔(dD s.da.length 1 6=true/\s.dh.length<=6/\mA (oI s) CX s.dh=true/\(s.da.any λn=>!dD n 1 20)=false/\kN s.nT s.nS 0 9=true/\kN s.At s.zH 0 20=true/\dD s.eZ 1 20=true/\dD s.wide 1 400=true/\dD s.rows 1 3=true)/\dD s.words.length 1 4=true/\(s.words.any λw=>!i_ s w)=false:=by
 unfold ba oF;simp only[Bool.and_eq_true,Bool.not_eq_true',decide_eq_true_eq]
 constructor
 .rintro⟨⟨⟨⟨a,b⟩,c⟩,d⟩,⟨⟨⟨⟨⟨e,f⟩,g⟩,h⟩,i⟩,j⟩,k⟩;exact⟨⟨a,b,d,e,f,g,h,j,k⟩,c,i⟩
 .rintro⟨⟨a,b,d,e,f,g,h,j,k⟩,c,i⟩;exact⟨⟨⟨⟨a,b⟩,c⟩,d⟩,⟨⟨⟨⟨⟨e,f⟩,g⟩,h⟩,i⟩,j⟩,k⟩
def AM{s:aD}(hs:ba s=true){ws:List Word}(h1:1<=ws.length)(h2:ws.length<=4)(h3:∀w∈ws,i_ s w=true):ba { s with words:=ws }=true:=by
 rw[AG]at hs⊢;refine⟨hs.1,?_,?_⟩
 .simp[dD];omega
 .rw[List.any_eq_false];intro w hw;have:i_ { s with words:=ws } w=i_ s w:=rfl;rw[this,h3 w hw];simp
def Ii{s:aD}{w:Word}(hw:Jn s w){k:Nat}(hk:1<=k):i_ s { bD:=w.bD.take (min k w.bD.length),er:=w.er.filter λc=>!decide (((min k w.bD.length:Nat):Int)<=c),free:=w.free }=true:=by
 unfold i_;have h1:=hw.JD;have h6:=hw.xe;simp only[List.length_take,Bool.and_eq_true,Bool.not_eq_true',List.any_eq_false];refine⟨⟨by simp[dD];omega,λn hn=>?_⟩,?_⟩
 .have:=hw.sign n (List.mem_of_mem_take hn);simp[kc,dD];omega
 .have hc:=hw.er;unfold iQ at hc⊢;rw[jM]at hc⊢;refine⟨λc KP=>?_,?_⟩
  .obtain⟨a,b⟩:=List.mem_filter.1 KP;have:=hc.1 c a;simp[dD]at this b⊢;omega
  .have hp:w.er.Pairwise λa b=>a<b:=Dr λj hj=>by simpa using hc.2 j hj
   have hp:=List.pairwise_iff_getElem.1 (hp.sublist (List.filter_sublist (p:=λc=>!decide (((min k w.bD.length:Nat):Int)<=c))));intro j hj;have:=hp j (j+1) (by omega) hj (by omega);simpa using this
def se{s:aD}:∀{l:List Word}{k:Nat},(∀w∈l,Jn s w)->∀w∈eM l k,i_ s w=true
 |[],k,_,w,hw=>by cases hw
 |a::l,k,h,w,hw=>by
  unfold eM at hw;split at hw
  .cases hw
  .rename_i h0;rcases List.mem_cons.1 hw with rfl|hw
   .exact Ii (h a List.mem_cons_self) (by omega)
   .exact se (λx hx=>h x (List.mem_cons_of_mem _ hx)) w hw
def qH:∀{l:List Word}{k:Nat},(eM l k).length<=l.length
 |[],_=>Nat.le_refl _
 |a::l,k=>by
  unfold eM;split
  .simp
  .have:=qH (l:=l) (k:=k-min k a.bD.length);simp only[List.length_cons];omega
def Cs{s:aD}(hs:ba s=true){k:Nat}(hk:1<=k):ba (rT s k)=true:=by
 refine AM hs ?_ ?_ (se λw hw=>oy hs hw)
 .have:=(hO hs).words.1
  match hw:s.words with
  |[]=>rw[hw]at this;simp at this
  |a::l=>
   unfold eM;rw[if_neg (by omega)];simp
 .have:=(hO hs).words.2;have:=qH (l:=s.words) (k:=k);omega
def xl(l:List Int):Int:=l.foldl max 0
def kV(s:aD):Int:=pJ ((gz s [] s.rows.toNat).map λes=>xl (bK s [] es 0))
section
variable{s:aD}
def jK(hs:ba s=true):pq s []=true:=by
 have:=(hO hs).words.1;unfold pq iQ mA;simp;omega
def Mr(hs:ba s=true){m:Nat}(hm:1<=m):gz s [] m≠[]:=by
 obtain⟨k,hk⟩:∃k,s.words.length=k+1:=⟨s.words.length-1,by have:=(hO hs).words.1;omega⟩
 have h:[wo s []]∈gz s [] m:=by
  rw[wi hs (jK hs)];refine⟨Pe (jK hs) (by simp) (λe he=>?_) (List.pairwise_singleton _ _) rfl,by simpa using hm⟩;rw[List.mem_singleton]at he;subst he;exact tZ.1 (List.mem_of_getLast? (tP (jK hs)))
 intro e;rw[e]at h;cases h
end
structure wF(s x:aD)(out:List Int)(k:Nat->Nat)(N:Nat):Prop where
 pos:0<N
 n:x.words.length=N
 lt:∀i,i<N->k i<s.words.length
 mono:∀i,i+1<N->k i<k (i+1)
 inn:∀i,i<N->out.contains (k i:Int)=false
 gap:∀i,i+1<N->∀j,k i<j->j<k (i+1)->out.contains (j:Int)=true
 first:∀j,j<k 0->out.contains (j:Int)=true
 last:∀j,k (N-1)<j->j<s.words.length->out.contains (j:Int)=true
 word:∀i,i<N->x.words[i]?=s.words[k i]?
 h1:x.da=s.da
 h2:x.dh=s.dh
 h3:x.nT=s.nT
 h4:x.nS=s.nS
 h5:x.At=s.At
 h6:x.zH=s.zH
 h7:x.eZ=s.eZ
 h8:x.wide=s.wide
 h9:x.rows=s.rows
section
variable{s x:aD}{out:List Int}{k:Nat->Nat}{N:Nat}
def wF.ID(h:wF s x out k N):∀d i,i+d+1<N->k i<k (i+d+1)
 |0,i,hi=>h.mono i hi
 |d+1,i,hi=>Nat.lt_trans (h.ID d i (by omega)) (h.mono (i+d+1) hi)
def wF.lt_iff(h:wF s x out k N){i j:Nat}(hi:i<N)(hj:j<N):k i<k j↔i<j:=by
 constructor
 .intro hk
  by_cases pt:i<j
  .exact pt
  .by_cases he:i=j
   .subst he;omega
   .have:=h.ID (i-j-1) j (by omega);rw[show j+(i-j-1)+1=i by omega]at this;omega
 .intro pt;have:=h.ID (j-i-1) i (by omega);rwa [show i+(j-i-1)+1=j by omega]at this
def wF.inj(h:wF s x out k N){i j:Nat}(hi:i<N)(hj:j<N)(he:k i=k j):i=j:=by
 have h1:=h.lt_iff hi hj;have h2:=h.lt_iff hj hi;omega
end
def iS(s:aD)(n:Nat):Bool:=!(fS (rT s (gW s.words-n)) []).isEmpty
def vP(s:aD):Nat:=((List.range (gW s.words)).find? (iS s)).getD (gW s.words)
def Mb{s:aD}{n:Nat}(h:n<gW s.words)(hp:iS s n=true)(hb:∀j,j<n->iS s j=false):vP s=n:=by
 unfold vP
 have:(List.range (gW s.words)).find? (iS s)=some n:=by
  rw[List.find?_range_eq_some];exact⟨hp,List.mem_range.2 h,λj hj=>by rw[hb j hj];rfl⟩
 rw[this];rfl
def KK{s:aD}(hb:∀j,j<gW s.words->iS s j=false):vP s=gW s.words:=by
 unfold vP
 have:(List.range (gW s.words)).find? (iS s)=none:=by
  rw[List.find?_eq_none];intro j hj;rw[hb j (List.mem_range.1 hj)];simp
 rw[this];rfl
def p':∀{l:List Word}{b:Nat},(∀w∈l,w.bD.length<=b)->gW l<=b*l.length
 |[],_,_=>by simp[gW]
 |w::l,b,h=>by
  have h1:=h w List.mem_cons_self
  have h2:=p' (l:=l) (b:=b) λx hx=>h x (List.mem_cons_of_mem _ hx)
  rw[rS,List.length_cons,Nat.mul_add];omega
def Gw{l:List Word}{i:Nat}(h:i<l.length):gW (l.take (i+1))=gW (l.take i)+l[i].bD.length:=by
 rw[List.take_succ_eq_append_getElem h,I7];simp[gW]
def CO{s:aD}(hs:ba s=true):gW s.words<=24:=by
 have h4:=(hO hs).words
 have:=p' (l:=s.words) (b:=6) λw hw=>(oy hs hw).xe
 omega
end Go.Proofs.Tryz
namespace Go.Proofs.Tryz
open Go Go.AL Go.RowKit Go.Proofs Go.Proofs.Tram
attribute [local simp] dS eF dR cW dT cV cZ ck cg dQ cd bP fB fC an aq ev aB.S aB.H aY au aH AL.start AV.cells AV.storable AV.bb aQ aZ aP HR.okB post cU cL cI AV.out AV.bu br bU fz fG AV.vw bR vI int bI az ct cb gB il dM cD aR AV.aw AV.bV dO
abbrev GT:World->Prop:=λ_=>True
def eK:av GT:=λ_ _ _ _=>trivial
def E1(k:List Int):Value:=.agg (dC k)
def dN(b:Nat):Value:=.map (some b)
def td(s:bG)(bM:Nat)(l0:List (List Int×Value))(k:Nat)(w:World):Prop:=
 ∃es clock l,w.heap[bM]?=some (.map es clock)/\pX E1 es l/\Lg s l/\∀x∈l,x∈l0\/∃k' d':Nat,x.1=[(k':Int),(d':Int)]/\k<=k'
def FG(s:bG)(k d bM:Nat)(S:af):Prop:=
 S 3=.val (dN bM)/\S 4=.ref (cm s)/\S 5=.ref [.int .i64 (k:Nat)]/\S 6=.ref [.int .i64 (d:Nat)]/\S 9=.ref [.int .i64 (k:Nat),.int .i64 (d:Nat)]
def iL(ops:Array Oper):fy ops (λ_=>true)=true:=by
 unfold fy;rw[Array.all_eq_true'];intro o _
 cases o.dst<;>rfl
def GS(s:bG)(k d bM:Nat)(l0:List (List Int×Value))(wS:World)(o0:Old)(kk:Nat)(E:af->ah->Prop)(a:Act)(w:World):Prop:=
 ∃wB g S H,Rel prog wB 75 bp g S H a w/\g.old=o0/\dG (λb=>b=bM) wS wB/\wB.heap.size=wS.heap.size/\FG s k d bM S/\E S H/\td s bM l0 kk w
section
variable{s:bG}{k d bM kk:Nat}{l0:List (List Int×Value)}{wS:World}{o0:Old}{E E':af->ah->Prop}{a:Act}{w:World}{Q:Exit->Act->World->Prop}{m:Nat}
def td.same{w w':World}{k:Nat}(h:td s bM l0 k w)(he:w'.heap[bM]?=w.heap[bM]?):td s bM l0 k w':=by
 obtain⟨es,clock,l,h1,h2⟩:=h;exact⟨es,clock,l,by rw[he];exact h1,h2⟩
def GS.region (h:GS s k d bM l0 wS o0 kk E a w) (ao:bM < wS.heap.size) (bC:∀ d,¬ o0.bx d) {id:Nat} {ops:Array Oper} {ac:ae} (hc:iW (.region id ops false)=true) (ja:cE prog 75 (.region id ops false)=ac)
  (sg:∀S H,FG s k d bM S->E S H->bq prog GT ac (az λS' H'=>FG s k d bM S'/\E' S' H') S H) (hk:∀a' w',GS s k d bM l0 wS o0 kk E' a' w'->Q .normal a' w'):(Code.region id ops false).wpIn (FR none) m prog Q a w:=by
 obtain⟨wB,g,S,H,R,ho,ht,aL,hF,hE,hM⟩:=h;refine eI R eK trivial bL hc ja (W:=λ_=>true) (iL ops) (by rw[ho];exact bC) (sg S H hF hE) ?_;rintro g' S' H' a' w' kZ R' ⟨hF',D1⟩ _;refine hk a' w' ⟨wB,g',S',H',R',kZ.trans ho,ht,aL,hF',D1,hM.same ?_⟩
 have hb:bM<g.base:=by rw[R.base,aL];exact ao
 have eN:bM<g'.base:=by rw[R'.base,aL];exact ao
 rw[R'.below.block bM eN,R.below.block bM hb]
def GS.bool(h:GS s k d bM l0 wS o0 kk E a w){t:Nat}(ht:t<75){b:Bool}(hS:∀S H,E S H->S t=.bool b):a.tmps.getD t undef=.bool b:=by
 obtain⟨wB,g,S,H,R,ho,_,aL,hF,hE,hM⟩:=h;have:=R.slot t ht id;rw[hS S H hE]at this;exact this.fc
def GS.fin(h:GS s k d bM l0 wS o0 kk E a w)(hd:o0.ds=[]):a.defers=[]/\dG (λb=>b=bM) wS w/\td s bM l0 kk w:=by
 obtain⟨wB,g,S,H,R,ho,ht,aL,hF,hE,hM⟩:=h
 have hb:Below wS.heap.size wB w:=by have:=R.below;rwa [R.base,aL]at this
 refine⟨by rw[R.defers,ho];exact hd,⟨hb.os.trans ht.os,hb.tape.trans ht.tape,hb.output.trans ht.output,by rw[<-aL];have:=hb.size;omega,λb ao bt=>(hb.block b ao).trans (ht.block b ao bt)⟩,hM⟩
def GS.mono(h:GS s k d bM l0 wS o0 kk E a w)(he:∀S H,E S H->E' S H):GS s k d bM l0 wS o0 kk E' a w:=by
 obtain⟨wB,g,S,H,R,ho,ht,aL,hF,hE,hM⟩:=h;exact⟨wB,g,S,H,R,ho,ht,aL,hF,he S H hE,hM⟩
end
noncomputable def jQ:ae:=ae.qb c143.qb.qb.qb
noncomputable def ke:ae:=ae.qa jQ
noncomputable def lr:ae:=ae.qb ke.qb
noncomputable def nw:ae:=ae.qb lr.qb.qb
noncomputable def ma:ae:=ae.qb nw.qb.qb.qa
def ae.vm:ae->ae
 |.cond _ x _=>x
 |c=>c
def td.Oy{s:bG}{bM:Nat}{l0:List (List Int×Value)}{k k':Nat}{w:World}(h:td s bM l0 k w)(hk:k'<=k):td s bM l0 k' w:=by
 obtain⟨es,clock,l,h1,h2,h3,h4⟩:=h;refine⟨es,clock,l,h1,h2,h3,λx hx=>?_⟩
 rcases h4 x hx with h|⟨a,b,e,LR⟩
 .exact .inl h
 .exact .inr ⟨a,b,e,by omega⟩
def yO{wS wB w9 kT:World}{bM k:Nat}{o:Obj}(ht:dG (λb=>b=bM) wS wB)(aL:wB.heap.size=wS.heap.size)(hB:Below k wB w9)(nj:dG (λb=>b=bM) w9 kT):dG (λb=>b=bM) wS (ib wB kT bM o):=by
 refine⟨by simp only[ib];rw[nj.os,hB.os,ht.os],by simp only[ib];rw[nj.tape,hB.tape,ht.tape],by simp only[ib];rw[nj.output,hB.output,ht.output],by simp[ib,aL],λb hb bt=>?_⟩;simp only[ib];rw[Array.getElem?_setIfInBounds_ne (Ne.symm bt)];exact ht.block b hb bt
def Lg.len{s:bG}{l:List (List Int×Value)}(h:Lg s l):∀x∈l,x.1.length=2:=λx hx=>by
 obtain⟨k,d,r,rfl,_⟩:=h x hx
 rfl
def qu(s:bG)(r k d:Nat)(x:Int):Bool:=decide ((d:Int)<x)&&(fI s k d x.toNat true&&fo s r (k+1) x.toNat)
def Ns (s:bG) (hl:s.ef.length≤1000) (hb:mu s) (yb:∀ x∈s.work,0≤x∧x < s.ef.length) (Dh:s.work.length≤1000) (jw:s.eE.length≤1000) :
  ∀(r k d:Nat),k+r+1=s.eE.length->d<=s.ef.length->∀(w:World)(Pr:Nat->Nat->Prop)(bM:Nat)(es:Array MapEntry)(clock:Nat)(l:List (List Int×Value))(c0:Value),
   w.heap[bM]?=some (.map es clock)->pX E1 es l->Lg s l->(∀j,¬Pr bM j)->RD Pr w (fb s) c0->
   Calls prog 143 #[c0,.int .i64 (k:Nat),.int .i64 (d:Nat),dN bM] w λe w'=>e=.returned (.bool (fo s r k d))/\dG (λb=>b=bM) w w'/\td s bM l k w':=by
 intro r
 induction r using Nat.strongRecOn with
 |_ r ih=>
 intro k d hk hd w Pr bM es clock l c0 hM kz vj dp Bg;have ao:bM<w.heap.size:=(Array.getElem?_eq_some_iff.1 hM).1
 have hkc:k<s.eE.length:=by omega
 refine(eA (ro:=none) (m:=0)).1 (callsIn_of_wp func143 rfl trivial ?_)
 have R:Rel prog w 75 bp _ (AL.start [fb s,.int .i64 (k:Nat),.int .i64 (d:Nat),.val (dN bM)]) (λ_=>none) { tmps:=#[c0,.int .i64 (k:Nat),.int .i64 (d:Nat),dN bM]++Array.replicate (f143.ntmps-4) undef,defers:=[] } w:=Rel.begin (old:=Pr) ntmps143 (by simp) rfl (λi h h'=>by
  match i,h with
  |0,_=>exact .data _ _ Bg
  |1,_=>exact .data _ _ (.int _ _)
  |2,_=>exact .data _ _ (.int _ _)
  |3,_=>exact .data _ _ (.val _ rfl))
 refine wpIn_seq ?_;refine eI R eK trivial bL (ac:=ae.qa c143) (W:=λ_=>true) (by kernel_rfl) (by kernel_rfl) (iL _) (λ_ h=>h) (K:=λS H=>S 3=.val (dN bM)/\S 4=.box 4 0/\H 4=some (cm s)/\S 5=.box 5 0/\H 5=some [.int .i64 (k:Nat)]/\S 6=.box 6 0/\H 6=some [.int .i64 (d:Nat)]) ?_ ?_
 .simp[c143,ae.qa,fb,cm,cq]
 rintro g1 S1 H1 a1 w1 lN R1 ⟨s3,s4,h4,s5,h5,s6,h6⟩ _;show Code.wpIn _ _ _ _ _ a1 w1;refine wpIn_seq ?_;refine eI R1 eK trivial bL (ac:=ae.qa c143.qb) (W:=λ_=>true) (by kernel_rfl) (by kernel_rfl) (iL _) (by rw[lN];exact λ_ h=>h) (K:=λS H=>S 3=.val (dN bM)/\S 4=.box 4 0/\H 4=some (cm s)/\S 5=.box 5 0/\H 5=some [.int .i64 (k:Nat)]/\S 6=.box 6 0/\H 6=some [.int .i64 (d:Nat)]/\S 9=.box 9 0/\H 9=some [.int .i64 (k:Nat),.int .i64 (d:Nat)]) ?_ ?_
 .simp[c143,ae.qa,ae.qb,dH,s3,s4,h4,s5,h5,s6,h6]
 rintro g2 S2 H2 a2 w2 im R2 ⟨s3,s4,h4,s5,h5,s6,h6,s9,h9⟩ _;show Code.wpIn _ _ _ _ _ a2 w2;obtain⟨g21,IV,ZG⟩:=R2.freeze h4 (by rw[im,lN]<;>rfl);obtain⟨g22,Lm,Ys⟩:=ZG.freeze (i:=5) (by rw[aJ _ _ (by decide)];exact h5) (by rw[IV,im,lN]<;>rfl);obtain⟨g23,Pq,YF⟩:=Ys.freeze (i:=6) (by rw[aJ _ _ (by decide),aJ _ _ (by decide)];exact h6) (by rw[Lm,IV,im,lN]<;>rfl);obtain⟨g24,Q7,Vk⟩:=YF.freeze (i:=9) (by rw[aJ _ _ (by decide),aJ _ _ (by decide),aJ _ _ (by decide)];exact h9) (by rw[Pq,Lm,IV,im,lN]<;>rfl)
 obtain⟨SF,Xg⟩:∃SF:af,SF=λt=>lO 9 [.int .i64 (k:Nat),.int .i64 (d:Nat)] (lO 6 [.int .i64 (d:Nat)] (lO 5 [.int .i64 (k:Nat)] (lO 4 (cm s) (S2 t)))):=⟨_,rfl⟩
 rw[<-Xg]at Vk
 have hF:FG s k d bM SF:=by
  rw[Xg];refine⟨?_,?_,?_,?_,?_⟩
  .simp[lO,s3,aZ]
  .simp[lO,s4,aZ,cm,cq,vI,AV.aw]
  .simp[lO,s5,aZ,AV.aw]
  .simp[lO,s6,aZ,AV.aw]
  .simp[lO,s9,aZ,AV.aw]
 have hM2:w2.heap[bM]?=some (.map es clock):=by
  rw[R2.below.block bM (by rw[R2.base];exact ao)];exact hM
 have og:∃o0,g24.old=o0/\(∀d,¬o0.bx d)/\o0.ds=[]/\o0.c=Pr/\o0.facts=[]:=⟨_,rfl,by rw[Q7,Pq,Lm,IV,im,lN];exact λ_ h=>h,by rw[Q7,Pq,Lm,IV,im,lN]<;>rfl,by rw[Q7,Pq,Lm,IV,im,lN]<;>rfl,by rw[Q7,Pq,Lm,IV,im,lN]<;>rfl⟩
 obtain⟨o0,YT,bC,c_,Xi,hof⟩:=og
 have LW:prog.underlying 232=some (.map 259 4):=by kernel_rfl
 obtain⟨fs,lM⟩:=uZ 259
 have sW:iX prog 10000 259=some 2:=by kernel_rfl
 obtain⟨i4,Wb,Ma⟩:=Option.bind_eq_some_iff.1 (show(prog.info? 4).bind (·.zero)=some (.bool false) by kernel_rfl);refine wpIn_seq (wpIn_seq ?_)
 refine mW Vk eK trivial (p:=2) (l2:=[2,3,4,5,6,7]) rfl (by kernel_rfl) (by kernel_rfl) (l:=(c143.qb.qb.qa.qa.dl).take 2) (by kernel_rfl) (by decide) (W:=λ_=>true) (iL _) (by rw[YT];exact bC)
  (K:=λS H=>FG s k d bM S/\S 23=.val (dN bM)/\S 24=.agg [.int .i64 (k:Nat),.int .i64 (d:Nat)]) ?_ ?_
 .obtain⟨s3,s4,s5,s6,s9⟩:=hF;simp[c143,ae.qa,ae.qb,ae.dl,aV,an,aI,aq,aB.S,aB.H,ev,au,aH,FG,s3,s4,s5,s6,s9,aP,AV.aw,HR.okB]
 clear hF Xg;rintro g3 S3 H3 a3 w3 pD R3 ⟨hF,Ls,tX⟩ _;rw[YT]at pD
 have f_:bM<g3.base:=by rw[R3.base];exact ao
 have YA:w3.heap[bM]?=some (.map es clock):=by
  rw[R3.below.block bM f_];exact hM
 have NJ:a3.eval (.tmp 23)=dN bM:=by
  have:=R3.slot 23 (by decide) id;rw[Ls]at this;exact this.jf
 have OG:a3.eval (.tmp 24)=.agg (dC [(k:Int),(d:Int)]):=by
  have:=R3.slot 24 (by decide) id;rw[tX]at this;exact Dj this
 have look:∃(b1 b2:Bool),(∀o:Oper,o.op=.lookup 232 (.tmp 23) (.tmp 24) true->(execOp a3.eval o).run prog w3=.ok (.value (.tuple #[.bool b1,.bool b2])) w3)/\(b2=true->b1=fo s r k d)/\(b2=false->∀x∈l,x.1≠[(k:Int),(d:Int)]):=by
  have eO:∀o:Oper,o.op=.lookup 232 (.tmp 23) (.tmp 24) true->_:=λo ho=>uI (P:=prog) (a:=a3) (w:=w3) (t:=232) (x1:=.tmp 23) (x2:=.tmp 24) (key:=[(k:Int),(d:Int)]) ho LW lM sW Wb Ma NJ OG rfl YA kz vj.len
  cases wM:j3 [(k:Int),(d:Int)] l 0 with
  |none=>
   refine⟨false,false,λo ho=>?_,(λh=>by cases h),λ_=>vV wM⟩;have:=eO o ho;rw[wM]at this;exact this
  |some q=>
   obtain⟨j,v⟩:=q;obtain⟨k',d',r',e,Ur⟩:=vj _ (tz wM);simp only[Prod.mk.injEq,List.cons.injEq,and_true]at e;obtain⟨⟨e1,e2⟩,rfl⟩:=e
   have e1:k=k':=by omega
   have e2:d=d':=by omega
   subst e1 e2
   have:r'=r:=by omega
   subst this;refine⟨_,true,λo ho=>?_,λ_=>rfl,(λh=>by cases h)⟩;have:=eO o ho;rw[wM]at this;exact this
 obtain⟨b1,b2,wM,mR,iw⟩:=look;refine aT rfl rfl (by rfl) (wM _ rfl) ?_;show wpOpsIn _ _ _ _ _ [3,4,5,6,7] (a3.put (some 25) (.tuple #[.bool b1,.bool b2])) w3
 have R4:=R3.put 25 (.fZ [.bool b1,.bool b2]) (.tuple #[.bool b1,.bool b2]) (by decide) (.data _ _ (.fZ _ _ rfl (λi hi cy=>by
  match i,hi with
  |0,_|1,_=>exact .bool _))) trivial
 refine ui R4 eK trivial (l2:=[3,4,5,6,7]) (lS:=[_,_,_,_,_]) rfl (by kernel_rfl) (al:=(c143.qb.qb.qa.qa.dl).drop 3) (by kernel_rfl) (by kernel_rfl) (W:=λ_=>true) (iL _) (by rw[pD];exact bC)
  (K:=λS H=>FG s k d bM S/\S 10=.bool b1/\S 11=.bool b2) ?_ ?_
 .obtain⟨s3,s4,s5,s6,s9⟩:=hF;simp[c143,ae.qa,ae.qb,ae.dl,aV,an,aI,aq,aB.S,aB.H,ev,au,aH,FG,s3,s4,s5,s6,s9,aP,AV.aw,HR.okB,aY]
 clear hF;rintro g5 S5 H5 a5 w5 N_ R5 ⟨hF,bW,de⟩ _;rw[pD]at N_
 have Sy:w5.heap[bM]?=some (.map es clock):=by
  rw[R5.below.block bM (by rw[R5.base];exact ao)];exact hM
 have hg:GS s k d bM l w o0 (k+1) (λS _=>S 10=.bool b1/\S 11=.bool b2) a5 w5:=⟨w,g5,S5,H5,R5,N_,dG.refl _ _,rfl,hF,⟨bW,de⟩,es,clock,l,Sy,kz,vj,λx hx=>.inl hx⟩
 clear R5 hF bW de R4 R3 Vk YF Ys ZG R2 R1 R Ls tX NJ OG
 have ret:∀(E:af->ah->Prop)(b:Bool)(a:Act)(w':World)(kk:Nat),GS s k d bM l w o0 kk E a w'->(∀S H,E S H->S 8=.bool b)->k<=kk->b=fo s r k d->bodyPost prog f143 (λe w'=>e=.returned (.bool (fo s r k d))/\dG (λb=>b=bM) w w'/\td s bM l k w') .ret a w':=by
  intro E b a w' kk h he nP gQ;obtain⟨f1,f2,f3⟩:=h.fin c_;refine⟨f1,.bool b,results_tmp results143 (h.bool (by decide) he),by rw[gQ],f2,f3.Oy nP⟩
 show Code.wpIn _ _ _ _ _ a5 w5;refine wpIn_seq (hg.region ao bC (by kernel_rfl) (ac:=ae.qa c143.qb.qb.qa.qb) (by kernel_rfl) (E':=λS _=>S 28=.bool b2/\S 10=.bool b1) ?_ ?_)
 .rintro S H ⟨s3,s4,s5,s6,s9⟩ ⟨bW,de⟩;simp[c143,ae.qa,ae.qb,FG,s3,s4,s5,s6,s9,bW,de]
 intro a6 w6 hg;show Code.wpIn _ _ _ _ _ a6 w6;refine wpIn_cond (t:=b2) (hg.bool (by decide) λ_ _ h=>h.1) ?_
 cases b2 with
 |true=>
  simp only[if_true];refine wpIn_seq (hg.region ao bC (by kernel_rfl) (ac:=ae.qa (ae.vm c143.qb.qb.qa.qb.qb)) (by kernel_rfl) (E':=λS _=>S 8=.bool b1) ?_ ?_)
  .rintro S H ⟨s3,s4,s5,s6,s9⟩ ⟨FM,bW⟩;simp[c143,ae.qa,ae.qb,ae.vm,FG,s3,s4,s5,s6,s9,FM,bW]
  intro a7 w7 hg;exact wpIn_ret (ret _ b1 a7 w7 _ hg (λ_ _ h=>h) (by omega) (mR rfl))
 |false=>
  have Ah:=iw rfl;simp only[Bool.false_eq_true,if_false];refine wpIn_skip ?_;show Code.wpIn _ _ _ _ _ a6 w6;refine wpIn_seq (hg.region ao bC (by kernel_rfl) (ac:=ae.qa c143.qb.qb.qb) (by kernel_rfl) (E':=λS _=>S 12=.bool false) ?_ ?_)
  .rintro S H ⟨s3,s4,s5,s6,s9⟩ ⟨FM,bW⟩;simp[c143,ae.qa,ae.qb,FG,s3,s4,s5,s6,s9]
  clear hg;intro a7 w7 hg;show Code.wpIn _ _ _ _ _ a7 w7;refine wpIn_seq (wpIn_mono (Q:=λe a w'=>e=.normal/\GS s k d bM l w o0 (k+1) (λS _=>S 12=.bool (fo s r k d)) a w') ?_ ?_)
  .
   refine wpIn_seq (hg.region ao bC (by kernel_rfl) (ac:=ae.qa ke) (by kernel_rfl) (E':=λS _=>S 12=.bool false/\S 36=.bool (decide (r=0))) ?_ ?_)
   .rintro S H ⟨s3,s4,s5,s6,s9⟩ bn;have hw:IntKind.i64.wrap ((s.eE.length:Int)-1)=s.eE.length-1:=bl (by omega)
    have hr:((k:Int)=s.eE.length-1)↔r=0:=by omega
    simp[c143,ke,jQ,ae.qa,ae.qb,FG,cm,cq,bz,s3,s4,s5,s6,s9,bn,hw];rw[Bool.eq_iff_iff];simp[hr]
   clear hg;intro a8 w8 hg;show Code.wpIn _ _ _ _ _ a8 w8;refine wpIn_cond (t:=decide (r=0)) (hg.bool (by decide) λ_ _ h=>h.2) ?_
   cases r with
   |zero=>
    simp only[decide_true,if_true];obtain⟨c,e',FP⟩:=Ef eK s (f:=171) (by kernel_rfl) (XC eK s hl hb hkc hd);refine wpIn_seq (hg.region ao bC (by kernel_rfl) (ac:=ae.qa (ae.vm ke.qb)) (by kernel_rfl) (E':=λS _=>S 14=.int .i64 (if fI s k d s.ef.length false then 0 else 7)) ?_ ?_)
    .rintro S H ⟨s3,s4,s5,s6,s9⟩ ⟨bn,s36⟩;simp[c143,ke,jQ,ae.qa,ae.qb,ae.vm,FG,s3,s4,s5,s6,s9];refine⟨_,by kernel_rfl,FP,by simp[bR,qh],?_⟩;simp[BE,s3,s4,s5,s6,s9]
    clear hg;intro a9 w9 hg;show Code.wpIn _ _ _ _ _ a9 w9;refine hg.region ao bC (by kernel_rfl) (ac:=ae.qb (ae.vm ke.qb)) (by kernel_rfl) (E':=λS _=>S 12=.bool (fo s 0 k d)) ?_ ?_
    .rintro S H ⟨s3,s4,s5,s6,s9⟩ fw;simp only[fo]
     cases gx:fI s k d s.ef.length false<;>simp[c143,ke,jQ,ae.qa,ae.qb,ae.vm,FG,s3,s4,s5,s6,s9,fw,gx]
    clear hg;intro ym kT hg;exact⟨rfl,hg⟩
   |succ r=>
    simp only[Nat.succ_ne_zero,decide_false,Bool.false_eq_true,if_false];refine wpIn_seq (hg.region ao bC (by kernel_rfl) (ac:=ae.qa lr) (by kernel_rfl) (E':=λS _=>S 12=.bool false/\S 46=vI s.work/\S 47=.int .i64 s.work.length/\S 48=.int .i64 (0:Nat)) ?_ ?_)
    .rintro S H ⟨s3,s4,s5,s6,s9⟩ ⟨bn,s36⟩;simp[c143,lr,ke,jQ,ae.qa,ae.qb,FG,cm,cq,s3,s4,s5,s6,s9,bn]
    clear hg;intro a9 w9 hg;show Code.wpIn _ _ _ _ _ a9 w9
    obtain⟨EL,vJ⟩:∃EL:Nat->af->ah->Prop,EL=λi S _=>S 12=.bool false/\S 46=vI s.work/\S 47=.int .i64 s.work.length/\S 48=.int .i64 (i:Nat):=⟨_,rfl⟩
    have hg:GS s k d bM l w o0 (k+1) (EL 0) a9 w9:=by rw[vJ];exact hg
    refine wpIn_block (wpIn_loop (λa w'=>∃i,i<=s.work.length/\GS s k d bM l w o0 (k+1) (EL i) a w'/\∀j (hj:j<s.work.length),j<i->qu s r k d s.work[j]=false) (λa _=>match a.tmps.getD 48 undef with|.int _ i=>s.work.length-i.toNat|_=>0) ⟨0,Nat.zero_le _,hg,λj hj h=>absurd h (Nat.not_lt_zero _)⟩ ?_);clear hg;rintro a wl ⟨i,hi,hg,Ke⟩
    have Qq:a.tmps.getD 48 undef=.int .i64 (i:Nat):=by
     obtain⟨wB,g,S,H,R,ho,ht,aL,hF,hE,hM⟩:=hg;rw[vJ]at hE;exact iK R (by decide) hE.2.2.2
    refine wpIn_seq (hg.region ao bC (by kernel_rfl) (ac:=ae.qa nw) (by kernel_rfl) (E':=λS H=>EL i S H/\S 49=.bool (decide (i<s.work.length))) ?_ ?_)
    .rw[vJ];rintro S H ⟨s3,s4,s5,s6,s9⟩ ⟨bn,pz,pA,qX⟩;simp[c143,nw,lr,ke,jQ,ae.qa,ae.qb,FG,s3,s4,s5,s6,s9,bn,pz,pA,qX]
    clear hg;intro ym kT hg;show Code.wpIn _ _ _ _ _ ym kT;refine wpIn_seq (wpIn_cond (t:=decide (i<s.work.length)) (hg.bool (by decide) λ_ _ h=>h.2) ?_)
    by_cases jx:i<s.work.length
    case neg=>
     simp only[jx,decide_false,Bool.false_eq_true,if_false];refine wpIn_exit ?_;refine⟨rfl,hg.mono ?_⟩;rw[vJ];rintro S H ⟨⟨bn,_⟩,_⟩;rw[bn]
     have:fo s (r+1) k d=false:=by
      simp only[fo];rw[List.any_eq_false];intro x hx;obtain⟨j,hj,rfl⟩:=List.getElem_of_mem hx;have:=Ke j hj (by omega);unfold qu at this;rw[this];simp
     rw[this]
    case pos=>
     simp only[jx,decide_true,if_true];refine wpIn_skip ?_;show Code.wpIn _ _ _ _ _ ym kT
     obtain⟨x,hx⟩:∃x,s.work[i]=x:=⟨_,rfl⟩
     have HA:x∈s.work:=by rw[<-hx];exact List.getElem_mem jx
     obtain⟨hx0,hxn⟩:=yb x HA
     obtain⟨xn,rfl⟩:∃xn:Nat,x=xn:=⟨x.toNat,by omega⟩
     refine wpIn_seq (wpIn_block (wpIn_mono (Q:=λe a w'=>((e=.normal\/e=.exit 1)/\GS s k d bM l w o0 (k+1) (EL i) a w'/\qu s r k d xn=false)\/(e=.exit 0/\GS s k d bM l w o0 (k+1) (λS _=>S 12=.bool true) a w'/\qu s r k d xn=true)) ?_ ?_))
     .refine wpIn_seq (hg.region ao bC (by kernel_rfl) (ac:=ae.qa ma) (by kernel_rfl) (E':=λS H=>EL i S H/\S 16=.box 16 0/\H 16=some [.int .i64 (xn:Nat)]) ?_ ?_)
      .rw[vJ];rintro S H ⟨s3,s4,s5,s6,s9⟩ ⟨⟨bn,pz,pA,qX⟩,KH⟩;simp[c143,ma,nw,lr,ke,jQ,ae.qa,ae.qb,FG,s3,s4,s5,s6,s9,bn,pz,pA,qX,jx,hx]
      clear hg;intro Rg Sr hg;show Code.wpIn _ _ _ _ _ Rg Sr
      have hg:GS s k d bM l w o0 (k+1) (λS H=>EL i S H/\S 16=.ref [.int .i64 (xn:Nat)]) Rg Sr:=by
       obtain⟨wB,g,S,H,R,ho,ht,aL,⟨s3,s4,s5,s6,s9⟩,⟨hE,iM,OO⟩,hM⟩:=hg;obtain⟨g',og',R'⟩:=R.freeze OO (by rw[ho];exact hof);refine⟨wB,g',_,_,R',og'.trans ho,ht,aL,⟨?_,?_,?_,?_,?_⟩,?_,hM⟩
       .simp[lO,s3,aZ]
       .simp[lO,s4,aZ]
       .simp[lO,s5,aZ]
       .simp[lO,s6,aZ]
       .simp[lO,s9,aZ]
       .rw[vJ]at hE⊢;obtain⟨bn,pz,pA,qX⟩:=hE;simp[lO,bn,pz,pA,qX,iM,aZ,vI,AV.aw]
      refine wpIn_seq (wpIn_seq (hg.region ao bC (by kernel_rfl) (ac:=ae.qa ma.qb.qa) (by kernel_rfl) (E':=λS H=>(EL i S H/\S 16=.ref [.int .i64 (xn:Nat)])/\S 54=.bool (decide (xn<=d))) ?_ ?_))
      .rw[vJ];rintro S H ⟨s3,s4,s5,s6,s9⟩ ⟨⟨bn,pz,pA,qX⟩,iM⟩;simp[c143,ma,nw,lr,ke,jQ,ae.qa,ae.qb,FG,s3,s4,s5,s6,s9,bn,pz,pA,qX,iM]
      clear hg;intro a12 Oz hg;show Code.wpIn _ _ _ _ _ a12 Oz;refine wpIn_cond (t:=decide (xn<=d)) (hg.bool (by decide) λ_ _ h=>h.2) ?_
      by_cases hle:xn<=d
      .simp only[hle,decide_true,if_true];refine wpIn_exit (.inl ⟨.inr rfl,hg.mono λ_ _ h=>h.1.1,?_⟩)
       have:¬(d:Int)<xn:=by omega
       simp only[qu,this,decide_false,Bool.false_and]
      simp only[hle,decide_false,Bool.false_eq_true,if_false]
      have V2:(d:Int)<xn:=by omega
      refine wpIn_skip ?_;show Code.wpIn _ _ _ _ _ a12 Oz;obtain⟨c,e',FP⟩:=Ef eK s (f:=172) (by kernel_rfl) (Wv eK s hl hb hkc hd (b:=xn) (by omega));refine wpIn_seq (hg.region ao bC (by kernel_rfl) (ac:=ae.qa ma.qb.qb) (by kernel_rfl) (E':=λS H=>(EL i S H/\S 16=.ref [.int .i64 (xn:Nat)])/\S 18=.int .i64 (if fI s k d xn true then 0 else 7)) ?_ ?_)
      .rw[vJ];rintro S H ⟨s3,s4,s5,s6,s9⟩ ⟨⟨⟨bn,pz,pA,qX⟩,iM⟩,s54⟩;simp[c143,ma,nw,lr,ke,jQ,ae.qa,ae.qb,FG,s3,s4,s5,s6,s9,bn,pz,pA,qX,iM];refine⟨_,by kernel_rfl,FP,by simp[bR,qh],?_⟩;simp[BE,s3,s4,s5,s6,s9,bn,pz,pA,qX,iM]
      clear hg;intro a13 w13 hg;show Code.wpIn _ _ _ _ _ a13 w13
      cases gx:fI s k d xn true with
      |false=>
       have hp:qu s r k d xn=false:=by
        simp only[qu,Int.toNat_natCast,gx,Bool.false_and,Bool.and_false]
       refine wpIn_seq (hg.region ao bC (by kernel_rfl) (ac:=ae.qa ma.qb.qb.qb) (by kernel_rfl) (E':=λS H=>EL i S H/\S 69=.bool false) ?_ ?_)
       .rw[vJ,gx];rintro S H ⟨s3,s4,s5,s6,s9⟩ ⟨⟨⟨bn,pz,pA,qX⟩,iM⟩,nb⟩;simp[c143,ma,nw,lr,ke,jQ,ae.qa,ae.qb,FG,s3,s4,s5,s6,s9,bn,pz,pA,qX,iM,nb]
       clear hg;intro a14 w14 hg;show Code.wpIn _ _ _ _ _ a14 w14;refine wpIn_cond (t:=false) (hg.bool (by decide) λ_ _ h=>h.2) ?_;simp only[Bool.false_eq_true,if_false];exact wpIn_skip (.inl ⟨.inl rfl,hg.mono λ_ _ h=>h.1,hp⟩)
      |true=>
       rw[gx]at hg;simp only[if_true]at hg;obtain⟨wB,g,S,H,R,ho,ht,aL,hF,⟨⟨hE,iM⟩,nb⟩,hM⟩:=hg;refine wpIn_seq ?_
       refine mW R eK trivial (p:=8) (l2:=[8,9]) rfl (by kernel_rfl) (by kernel_rfl) (l:=(ma.qb.qb.qb.qa.dl).take 8) (by kernel_rfl) (by decide) (W:=λ_=>true) (iL _) (by rw[ho];exact bC)
        (K:=λS H=>FG s k d bM S/\EL i S H/\S 62=.bool true/\S 63=fb s/\S 65=.int .i64 ((k+1:Nat):Int)/\S 66=.int .i64 (xn:Nat)/\S 67=.val (dN bM)) ?_ ?_
       .rw[vJ]at hE⊢;obtain⟨s3,s4,s5,s6,s9⟩:=hF;obtain⟨bn,pz,pA,qX⟩:=hE;have hw:IntKind.i64.wrap ((k:Int)+1)=k+1:=bl (by omega);simp[c143,ma,nw,lr,ke,jQ,ae.qa,ae.qb,ae.dl,aV,an,aI,aq,aB.S,aB.H,ev,au,aH,FG,fb,cm,cq,s3,s4,s5,s6,s9,bn,pz,pA,qX,iM,nb,aP,AV.aw,dO,hw,vI]
       clear hF hE iM nb;rintro g9 S9 H9 a9 w9 vL R9 ⟨hF,hE,zg,wK,s65,Vj,WX⟩ _;rw[ho]at vL
       have zV:bM<g9.base:=by rw[R9.base,aL];exact ao
       have UT:bM<g.base:=by rw[R.base,aL];exact ao
       have Vz:=hM.same (show w9.heap[bM]?=w13.heap[bM]? by rw[R9.below.block bM zV,R.below.block bM UT]);obtain⟨MB,D3,l9,m1,m2,m3,m4⟩:=Vz
       have Vc:a9.tmps.getD 62 undef=.bool true:=by
        have:=R9.slot 62 (by decide) id;rw[zg]at this;exact this.fc
       have YS:a9.tmps[62]?=some (.bool true):=by
        have hs:=R9.size
        have h2:a9.tmps[62]?=some (a9.tmps.getD 62 undef):=by simp[hs]
        rw[h2,Vc]
       have r63:RD g9.Pr w9 (fb s) (a9.tmps.getD 63 undef):=by
        have:=R9.slot 63 (by decide) id;rw[wK]at this;exact this.bQ rfl
       have e65:a9.tmps.getD 65 undef=.int .i64 ((k+1:Nat):Int):=iK R9 (by decide) s65;have HG:a9.tmps.getD 66 undef=.int .i64 (xn:Nat):=iK R9 (by decide) Vj
       have Vy:a9.tmps.getD 67 undef=dN bM:=by
        have:=R9.slot 67 (by decide) id;rw[WX]at this;exact this.jf
       have ky:=ih r (Nat.lt_succ_self r) (k+1) xn (by omega) (by omega) w9 g9.Pr bM MB D3 l9 (a9.tmps.getD 63 undef) m1 m2 m3 (λj hp=>by
        rcases hp with hp|hp
        .rw[vL,Xi]at hp;exact dp j hp.2
        .omega) r63
       refine pd rfl (by simp[Region.wanted,yielded,ug,YS]) (by rfl) (fJ (k:=143) (args:=#[a9.tmps.getD 63 undef,.int .i64 ((k+1:Nat):Int),.int .i64 (xn:Nat),dN bM]) w9 rfl rfl ?_ (by kernel_rfl)) ky ?_
       .simp only[List.map_toArray,List.map_cons,List.map_nil,Act.eval];rw[e65,HG,Vy]
       rintro e kT ⟨rfl,nj,abb⟩;refine⟨_,rfl,?_⟩;obtain⟨Yr,Zk,l10,n1,n2,n3,n4⟩:=abb;have NH:=R9.DD nj zV (by rw[vL,Xi];exact dp) n1;have R11:=NH.put 68 (.bool (fo s r (k+1) xn)) (.bool (fo s r (k+1) xn)) (by decide) (.data _ _ (.bool _)) trivial
       refine ui R11 eK trivial (l2:=[9]) (lS:=[_]) rfl (by kernel_rfl) (al:=(ma.qb.qb.qb.qa.dl).drop 9) (by kernel_rfl) (by kernel_rfl) (W:=λ_=>true) (iL _) (by rw[vL];exact bC)
        (K:=λS H=>FG s k d bM S/\EL i S H/\S 69=.bool (fo s r (k+1) xn)) ?_ ?_
       .rw[vJ]at hE⊢;obtain⟨s3,s4,s5,s6,s9⟩:=hF;obtain⟨bn,pz,pA,qX⟩:=hE;simp[c143,ma,nw,lr,ke,jQ,ae.qa,ae.qb,ae.dl,aV,an,aI,aq,aB.S,aB.H,ev,au,aH,FG,s3,s4,s5,s6,s9,bn,pz,pA,qX,zg,AV.aw]
       clear hF hE;rintro g12 Rx Rf a12 Oz Yq XB ⟨hF,hE,s69⟩ _
       have aaU:bM<g12.base:=by rw[XB.base];simp only[ib,Array.size_setIfInBounds];rw[aL];exact ao
       have aby:bM<g9.base:=zV
       have hg:GS s k d bM l w o0 (k+1) (λS H=>EL i S H/\S 69=.bool (fo s r (k+1) xn)) a12 Oz:=by
        refine⟨_,g12,Rx,Rf,XB,Yq.trans vL,yO ht aL R9.below nj,by simp[ib,aL],hF,⟨hE,s69⟩,Yr,Zk,l10,?_,n2,n3,λx hx=>?_⟩
        .rw[XB.below.block bM aaU];simp[ib,aL,ao,n1]
        .rcases n4 x hx with h|h
         .exact m4 x h
         .exact .inr h
       show Code.wpIn _ _ _ _ _ a12 Oz;refine wpIn_cond (t:=fo s r (k+1) xn) (hg.bool (by decide) λ_ _ h=>h.2) ?_
       cases ly:fo s r (k+1) xn with
       |false=>
        simp only[Bool.false_eq_true,if_false];exact wpIn_skip (.inl ⟨.inl rfl,hg.mono λ_ _ h=>h.1,by simp only[qu,Int.toNat_natCast,ly,Bool.and_false]⟩)
       |true=>
        simp only[if_true];refine wpIn_seq (hg.region ao bC (by kernel_rfl) (ac:=ae.qa (ae.vm ma.qb.qb.qb.qb)) (by kernel_rfl) (E':=λS _=>S 12=.bool true) ?_ ?_)
        .rintro S H ⟨s3,s4,s5,s6,s9⟩ _;simp[c143,ma,nw,lr,ke,jQ,ae.qa,ae.qb,ae.vm,FG,s3,s4,s5,s6,s9]
        clear hg;intro a15 w15 hg;exact wpIn_exit (.inr ⟨rfl,hg,by simp only[qu,Int.toNat_natCast,gx,ly,V2,decide_true,Bool.and_true]⟩)
     .have hw:IntKind.i64.wrap ((i:Int)+1)=i+1:=bl (by omega);rintro e a2 Uz (⟨rfl|rfl,hg,hp⟩|⟨rfl,hg,hp⟩)
      all_goals try
       show Code.wpIn _ _ _ _ _ a2 Uz;refine hg.region ao bC (by kernel_rfl) (ac:=ae.qb nw.qb.qb) (by kernel_rfl) (E':=EL (i+1)) ?_ ?_
       .rw[vJ];rintro S H ⟨s3,s4,s5,s6,s9⟩ ⟨bn,pz,pA,qX⟩;simp[c143,nw,lr,ke,jQ,ae.qa,ae.qb,FG,s3,s4,s5,s6,s9,bn,pz,pA,qX,hw]
       .intro M0 w16 hg
        have Qu:M0.tmps.getD 48 undef=.int .i64 ((i+1:Nat):Int):=by
         obtain⟨wB,g,S,H,R,ho,ht,aL,hF,hE,hM⟩:=hg;rw[vJ]at hE;exact iK R (by decide) hE.2.2.2
        refine⟨⟨i+1,by omega,hg,λj hj eL=>?_⟩,?_⟩
        .by_cases vE:j=i
         .subst vE;rw[hx];exact hp
         .exact Ke j hj (by omega)
        .simp only[Qu,Qq];simp;omega
      .refine⟨rfl,hg.mono ?_⟩;rintro S H bn;rw[bn]
       have:fo s (r+1) k d=true:=by
        simp only[fo];rw[List.any_eq_true];exact⟨_,HA,hp⟩
       rw[this]
  .rintro e a w8 ⟨rfl,hg⟩;show Code.wpIn _ _ _ _ _ a w8;obtain⟨wB,g,S,H,R,ho,ht,aL,hF,bn,hM⟩:=hg;refine wpIn_seq ?_
   refine mW R eK trivial (p:=3) (l2:=[3]) rfl (by kernel_rfl) (by kernel_rfl) (l:=(jQ.qb.qa.dl).take 3) (by kernel_rfl) (by decide) (W:=λ_=>true) (iL _) (by rw[ho];exact bC)
    (K:=λS H=>FG s k d bM S/\S 12=.bool (fo s r k d)/\S 71=.val (dN bM)/\S 72=.agg [.int .i64 (k:Nat),.int .i64 (d:Nat)]/\S 73=.bool (fo s r k d)) ?_ ?_
   .obtain⟨s3,s4,s5,s6,s9⟩:=hF;simp[c143,jQ,ae.qa,ae.qb,ae.dl,aV,an,aI,aq,aB.S,aB.H,ev,au,aH,FG,s3,s4,s5,s6,s9,bn,aP,AV.aw,HR.okB]
   clear hF bn;rintro g9 S9 H9 a9 w9 vL R9 ⟨hF,bn,XL,WU,Xv⟩ _;rw[ho]at vL
   have zV:bM<g9.base:=by rw[R9.base,aL];exact ao
   have UT:bM<g.base:=by rw[R.base,aL];exact ao
   have Vz:=hM.same (show w9.heap[bM]?=w8.heap[bM]? by rw[R9.below.block bM zV,R.below.block bM UT]);obtain⟨MB,D3,l9,m1,m2,m3,m4⟩:=Vz
   have VT:a9.eval (.tmp 71)=dN bM:=by
    have:=R9.slot 71 (by decide) id;rw[XL]at this;exact this.jf
   have VH:a9.eval (.tmp 72)=.agg (dC [(k:Int),(d:Int)]):=by
    have:=R9.slot 72 (by decide) id;rw[WU]at this;exact Dj this
   have WS:a9.eval (.tmp 73)=.bool (fo s r k d):=by
    have:=R9.slot 73 (by decide) id;rw[Xv]at this;exact this.fc
   have JM:j3 [(k:Int),(d:Int)] l9 0=none:=rI λx hx=>by
    rcases m4 x hx with h|⟨k',d',e,nP⟩
    .exact Ah x h
    .rw[e];intro h;simp only[List.cons.injEq,and_true]at h;omega
   refine eC rfl rfl (by rfl) (uU (t:=232) (x1:=.tmp 71) (x2:=.tmp 72) (x3:=.tmp 73) (key:=[(k:Int),(d:Int)]) rfl LW lM sW VT VH rfl m1 m2 m3.len JM) ?_;rw[WS]
   obtain⟨kT,zG⟩:∃kT,w9.putObj bM (.map (MB.push { key:=.agg (dC [(k:Int),(d:Int)]),val:=.bool (fo s r k d),born:=D3 }) (D3+1))=kT:=⟨_,rfl⟩
   show Code.wpIn _ _ _ _ _ a9 (w9.putObj bM (.map (MB.push { key:=.agg (dC [(k:Int),(d:Int)]),val:=.bool (fo s r k d),born:=D3 }) (D3+1)));rw[zG];have M6:=(Array.getElem?_eq_some_iff.1 m1).1
   have mZ:kT.heap[bM]?=some (.map (MB.push { key:=.agg (dC [(k:Int),(d:Int)]),val:=.bool (fo s r k d),born:=D3 }) (D3+1)):=by rw[<-zG];exact World.putObj_heap_same M6
   have nj:dG (λb=>b=bM) w9 kT:=by
    rw[<-zG];exact⟨rfl,rfl,rfl,by simp[World.putObj],λb _ hb=>World.putObj_heap_other hb⟩
   have NH:=R9.DD nj zV (by rw[vL,Xi];exact dp) mZ
   have hg:GS s k d bM l w o0 k (λS _=>S 12=.bool (fo s r k d)) a9 kT:=by
    refine⟨_,g9,S9,H9,NH,vL,?_,by simp[ib,aL],hF,bn,_,_,l9++[([(k:Int),(d:Int)],.bool (fo s r k d))],mZ,(by exact m2.push [(k:Int),(d:Int)] (.bool (fo s r k d)) D3),?_,?_⟩
    .exact yO ht aL R9.below nj
    .intro x hx;rcases List.mem_append.1 hx with h|h
     .exact m3 x h
     .rw[List.mem_singleton]at h;exact⟨k,d,r,h,hk⟩
    .intro x hx;rcases List.mem_append.1 hx with h|h
     .rcases m4 x h with h|⟨k',d',e,nP⟩
      .exact .inl h
      .exact .inr ⟨k',d',e,by omega⟩
     .rw[List.mem_singleton]at h;exact .inr ⟨k,d,by rw[h],Nat.le_refl _⟩
   refine wpIn_seq (hg.region ao bC (by kernel_rfl) (ac:=ae.qa jQ.qb.qb) (by kernel_rfl) (E':=λS _=>S 8=.bool (fo s r k d)) ?_ ?_)
   .rintro S H ⟨s3,s4,s5,s6,s9⟩ bn;simp[c143,jQ,ae.qa,ae.qb,FG,s3,s4,s5,s6,s9,bn]
   clear hg;intro Rg Sr hg;exact wpIn_ret (ret _ _ Rg Sr _ hg (λ_ _ h=>h) (Nat.le_refl _) rfl)
end Go.Proofs.Tryz
namespace Go.Proofs.Tryz
open Go Go.AL Go.RowKit Go.Proofs Go.Proofs.Tram
def ns(s:bG)(r:Nat)(now:List Int)(x:Int):Bool:=
 (match now.getLast? with|none=>true|some d=>decide (d<x))&&(fo s r now.length x.toNat&&(match now.getLast? with|none=>true|some d=>fI s (now.length-1) d.toNat x.toNat true))
def kl(s:bG):Nat->List Int->List (List Int)
 |0,now=>[now]
 |r+1,now=>s.work.flatMap λx=>if ns s r now x then kl s r (now++[x])else[]
def XI (s:bG) (hl:s.ef.length≤1000) (hb:mu s) {now:List Int} {d x:Nat} (hn:now.length≤s.eE.length) (jw:s.eE.length≤1000) (PE:now.getLast? = some (d:Int)) (hd:d≤s.ef.length) (hx:x≤s.ef.length) :
  AC prog GT 144 [.ref (cm s),.ref [.int .i64 now.length],.ref [vI now],.ref [.int .i64 (x:Nat)]] (ml s (now.length-1) d x true):=by
 have bt:now≠[]:=by rintro rfl;cases PE
 have iE:0<now.length:=by cases now with|nil=>exact absurd rfl bt|cons _ _=>simp
 have hw:IntKind.i64.wrap ((now.length:Int)-1)=((now.length-1:Nat):Int):=by rw[bl (by omega)];omega
 have hg:now[now.length-1]?=some (d:Int):=by rw[<-PE,List.getLast?_eq_getElem?]
 have Cw:now[now.length-1]'(by omega)=(d:Int):=by
  rw[List.getElem?_eq_getElem (by omega)]at hg;exact Option.some.inj hg
 have h:=Nl eK s hl hb true (k:=now.length-1) (by omega) hd hx
 have n1:¬((now.length-1:Nat):Int)<0:=by omega
 have n2:now.length-1<now.length:=by omega
 have n3:((now.length:Int)-1).toNat=now.length-1:=by omega
 refine AC.kP func144 rfl ntmps144 (by simp) λcc w=>?_
 refine SW.Uf eK bL [9] [0,1,2,3,4,5,6,7,8,9] (by kernel_rfl) (by kernel_rfl) (l:=ae.dl c144) (by kernel_rfl) (((ae.dl c144).take 9).map (λo=>(false,o))++((true,⟨some 13,none,.call 84 [.t 4,.t 6,.t 11,.t 12,.c (.bool true)]⟩)::(([]:List bc).map λo=>(false,o)))) rfl ?_;refine p9 _ ?_;simp[c144,ae.dl,cM,an,gV,aI,aq,aB.S,aB.H,ev,au,aH,AL.start,aP,AV.aw,dO,hw,cm,cq,vI,ints,n2,Cw,n1];refine EV (by simp[ev,au,bR,AV.aw]) (by kernel_rfl) (by simpa[ev,au,fz,fG,fb,cm,cq,vI,ints,AV.vw,AV.bV,AV.aw]using h) ?_
 rcases lX s (now.length-1) d x true with⟨_,e⟩|⟨_,r,e⟩
 .rw[e];refine IJ [] ?_;simp only[cM,sj];exact⟨fq.plain rfl,rfl,_,rfl,rfl⟩
 .rw[e];exact⟨rfl,rfl,rfl⟩
variable{l:Nat}{xs:List AV}
structure pv(C:Cons prog GT l xs)(s:bG) where
 bN:Nat
 bM:Nat
 bX:Nat
 oX:Nat
 fx:Nat->Value
 cY:Value
 cP:Value
 cR:Value
 MI:Nat->Prop
 wI:World
 hY:RV (λb _=>MI b) bO wI (.ref [.val (.func (.yield l) #[] #[])]) cY
 hP:RV (λb _=>MI b) bO wI (.ref [.val (dN bM)]) cP
 hR:RV (λb _=>MI b) bO wI (.ref [.val (.func (.func 142) #[] #[.pointer (some ⟨bN,0,none⟩),.pointer (some ⟨bX,oX,none⟩),cY,cP,cR])]) cR
 ne:bM≠bN
variable{C:Cons prog GT l xs}{s:bG}
structure jv(X:pv C s)(k:Nat)(M:Nat->Prop)(Pr:Nat->Nat->Prop)(now:List Int)(w:World):Prop where
 j:C.J k M Pr w
 lt:∀b,M b->b<w.heap.size
 mi:∀b,X.MI b->M b/\b≠X.bN/\b≠X.bM/\w.heap[b]?=X.wI.heap[b]?
 now:∃v ty j2,w.heap[X.bN]?=some (.cells #[v] ty (0,0))/\M X.bN/\w.ownsRow (X.bN+1) 3 1 v now.length j2/\iN (λ_ _=>False) w 1 (ints now) j2/\∀b,v.ownBlock=some b->M b/\¬X.MI b/\b≠X.bM
 x:∀j (h:j<5),Pr X.bX (X.oX+j)/\w.cell? ⟨X.bX,X.oX+j,none⟩=some (X.fx j)/\RD Pr w ((cm s)[j]'(by simpa[cm,cq]using h)) (X.fx j)
 mp:M X.bM/\∃es clock l',w.heap[X.bM]?=some (.map es clock)/\pX E1 es l'/\Lg s l'
def wu {X:pv C s} {Pr cS:Nat→Nat→Prop} {w w':World} (h:∀ j (h:j < 5),Pr X.bX (X.oX+j)∧w.cell? ⟨X.bX,X.oX+j,none⟩=some (X.fx j)∧RD Pr w ((cm s)[j]'(by simpa [cm,cq] using h)) (X.fx j)) (hk:aE Pr cS w w') :
  ∀j (h:j<5),cS X.bX (X.oX+j)/\w'.cell? ⟨X.bX,X.oX+j,none⟩=some (X.fx j)/\RD cS w' ((cm s)[j]'(by simpa[cm,cq]using h)) (X.fx j):=by
 intro j hj;obtain⟨h1,h2,h3⟩:=h j hj;obtain⟨q1,q2⟩:=hk.cell _ _ h1 _ h2;exact⟨q1,q2,h3.mono hk⟩
def jv.xR{X:pv C s}{k:Nat}{M:Nat->Prop}{Pr:Nat->Nat->Prop}{now:List Int}{w:World}(st:jv X k M Pr now w):RD Pr w (.ref (cm s)) (.pointer (some ⟨X.bX,X.oX,none⟩)):=by
 refine .ref _ _ _ X.fx (λi hi=>?_) (λi hi=>?_) (λi hi=>?_)
 .have:i<5:=by simpa[cm,cq]using hi
  match i,this with
  |0,_|1,_|2,_|3,_|4,_=>rfl
 .exact⟨(st.x i (by simpa[cm,cq]using hi)).1,(st.x i (by simpa[cm,cq]using hi)).2.1⟩
 .exact(st.x i (by simpa[cm,cq]using hi)).2.2
structure qV(X:pv C s)(a:Act):Prop where
 size:a.tmps.size=70
 defers:a.defers=[]
 t0:a.tmps.getD 0 undef=.pointer (some ⟨X.bN,0,none⟩)
 t1:a.tmps.getD 1 undef=.pointer (some ⟨X.bX,X.oX,none⟩)
 t2:a.tmps.getD 2 undef=X.cY
 t3:a.tmps.getD 3 undef=X.cP
 t4:a.tmps.getD 4 undef=X.cR
def pv.fv(X:pv C s):Value:=.func (.func 142) #[] #[.pointer (some ⟨X.bN,0,none⟩),.pointer (some ⟨X.bX,X.oX,none⟩),X.cY,X.cP,X.cR]
def eJ(X:pv C s)(now:List Int)(ex:Nat->AV):af:=λt=>match t with
 |0=>.ref [vI now]
 |1=>.ref (cm s)
 |2=>.ref [.val (.func (.yield l) #[] #[])]
 |3=>.ref [.val (dN X.bM)]
 |4=>.ref [.val X.fv]
 |t+5=>ex (t+5)
def jv.YH{X:pv C s}{k:Nat}{M:Nat->Prop}{Pr:Nat->Nat->Prop}{now:List Int}{w:World}(st:jv X k M Pr now w):RV (λb _=>b≠X.bM) bO w (.ref [vI now]) (.pointer (some ⟨X.bN,0,none⟩)):=by
 obtain⟨v,ty,j2,h1,h2,h3,h4,h5⟩:=st.now;refine .data _ _ (.ref _ _ _ (λ_=>v) (λi hi=>?_) (λk hk=>⟨Ne.symm X.ne,?_⟩) (λk hk=>?_))
 .have:i=0:=by simpa using hi
  subst this;rfl
 .have:k=0:=by simpa using hk
  subst this;simp[World.cell?,h1]
 .have:k=0:=by simpa using hk
  subst this
  exact RD.ofRow (size:=1) (es:=ints now) (by simpa[ints]using h3) (h4.mono (aE.same λ_ _ _ h=>h.elim)) λb hb _ _=>(h5 b hb).2.2
def jv.gO {X:pv C s} {k:Nat} {M:Nat→Prop} {Pr:Nat→Nat→Prop} {now:List Int} {w:World} (st:jv X k M Pr now w) {a:Act} (fr:qV X a) {ex:Nat→AV} (hex:∀ t,5≤t→t < 70→(ex t).aw=ex t∧RV (fun b _=>b≠X.bM) bO w (ex t) (a.tmps.getD t undef)) :
  ∀t,t<70->(eJ X now ex t).aw=eJ X now ex t/\RV (λb _=>b≠X.bM) bO w (eJ X now ex t) (a.tmps.getD t undef):=by
 intro t ht
 have CD:∀{P':Nat->Nat->Prop},(∀b k,P' b k->X.MI b)->aE P' (λb _=>b≠X.bM) X.wI w:=λh=>aE.of_eq λb k hp=>⟨(st.mi b (h b k hp)).2.2.1,(st.mi b (h b k hp)).2.2.2⟩
 unfold eJ;split
 .rw[fr.t0];exact⟨rfl,st.YH⟩
 .rw[fr.t1];exact⟨rfl,.data _ _ (st.xR.mono (aE.same λb k _ hp=>by rintro rfl;exact C.apart st.j _ k st.mp.1 hp))⟩
 .rw[fr.t2];exact⟨rfl,X.hY.mono (CD λb k h=>h) λ_ _ h=>h⟩
 .rw[fr.t3];exact⟨rfl,X.hP.mono (CD λb k h=>h) λ_ _ h=>h⟩
 .rw[fr.t4];exact⟨rfl,X.hR.mono (CD λb k h=>h) λ_ _ h=>h⟩
 .exact hex _ (by omega) ht
def jv.grow{X:pv C s}{k:Nat}{M:Nat->Prop}{Pr:Nat->Nat->Prop}{now:List Int}{w w':World}(st:jv X k M Pr now w)(hb:Below w.heap.size w w'):jv X k M Pr now w':=by
 have hM:=st.lt
 have bh:∀b,M b->w'.heap[b]?=w.heap[b]?:=λb h=>hb.block b (hM b h)
 have hk:aE Pr Pr w w':=aE.gr (λb h=>hb.block b h) λ_ _ _ h=>h
 obtain⟨v,ty,j2,h1,h2,h3,h4,h5⟩:=st.now;refine⟨C.fQ st.j (dG.gP hb) λb h=>⟨Nat.lt_of_lt_of_le (hM b h) hb.size,.inl h⟩,λb h=>Nat.lt_of_lt_of_le (hM b h) hb.size,λb h=>⟨(st.mi b h).1,(st.mi b h).2.1,(st.mi b h).2.2.1,(bh b (st.mi b h).1).trans (st.mi b h).2.2.2⟩,⟨v,ty,j2,(bh _ h2).trans h1,h2,?_,h4.mono (aE.of_eq λ_ _ h=>h.elim),h5⟩,wu st.x hk,st.mp.1,by rw[bh _ st.mp.1];exact st.mp.2⟩;refine⟨h3.1,?_⟩
 rcases h3.2 with h|⟨gg,cap,cur,rfl,l5,sP,rest⟩
 .exact .inl h
 .exact .inr ⟨gg,cap,cur,rfl,l5,(bh gg (h5 gg rfl).1).trans sP,rest⟩
def jv.swap{X:pv C s}{k:Nat}{M:Nat->Prop}{Pr:Nat->Nat->Prop}{now:List Int}{w w':World}(st:jv X k M Pr now w)(ht:dG (λb=>b=X.bM) w w')(hm:∃es clock l',w'.heap[X.bM]?=some (.map es clock)/\pX E1 es l'/\Lg s l'):jv X k M Pr now w':=by
 have hM:=st.lt
 have bh:∀b,M b->b≠X.bM->w'.heap[b]?=w.heap[b]?:=λb h bt=>ht.block b (hM b h) bt
 have hk:aE Pr Pr w w':=aE.jj λb k hl hp=>ht.block b hl (by
  rintro rfl
  exact C.apart st.j _ k st.mp.1 hp)
 obtain⟨v,ty,j2,h1,h2,h3,h4,h5⟩:=st.now;refine⟨C.fQ st.j ⟨ht.os,ht.tape,ht.output,ht.size,λb hb hm=>ht.block b hb (by rintro rfl;exact hm st.mp.1)⟩ λb h=>⟨Nat.lt_of_lt_of_le (hM b h) ht.size,.inl h⟩,λb h=>Nat.lt_of_lt_of_le (hM b h) ht.size,λb h=>⟨(st.mi b h).1,(st.mi b h).2.1,(st.mi b h).2.2.1,(bh b (st.mi b h).1 (st.mi b h).2.2.1).trans (st.mi b h).2.2.2⟩,⟨v,ty,j2,(bh _ h2 (Ne.symm X.ne)).trans h1,h2,?_,h4.mono (aE.of_eq λ_ _ h=>h.elim),h5⟩,wu st.x hk,st.mp.1,hm⟩;refine⟨h3.1,?_⟩
 rcases h3.2 with h|⟨gg,cap,cur,rfl,l5,sP,rest⟩
 .exact .inl h
 .exact .inr ⟨gg,cap,cur,rfl,l5,(bh gg (h5 gg rfl).1 (h5 gg rfl).2.2).trans sP,rest⟩
def jv.after {X:pv C s} {k k':Nat} {M G:Nat→Prop} {Pr cS:Nat→Nat→Prop} {now:List Int} {w w':World} (st:jv X k M Pr now w) (hj:C.J k' (fun b=>(M b∨G b)∧¬ G b) cS w') (hG:∀ b,G b→¬ M b)
  (hs:∀b,M b\/G b->¬G b->w'.heap[b]?=w.heap[b]?) (hk:aE Pr cS w w'):jv X k' (λb=>(M b\/G b)/\¬G b) cS now w':=by
 have wC:∀b,M b->¬G b:=λb hb hg=>hG b hg hb
 have bh:∀b,M b->w'.heap[b]?=w.heap[b]?:=λb hb=>hs b (.inl hb) (wC b hb)
 obtain⟨v,ty,j2,h1,h2,h3,h4,h5⟩:=st.now;refine⟨hj,λb hb=>?_,λb h=>⟨⟨.inl (st.mi b h).1,wC b (st.mi b h).1⟩,(st.mi b h).2.1,(st.mi b h).2.2.1,(bh b (st.mi b h).1).trans (st.mi b h).2.2.2⟩,⟨v,ty,j2,(bh _ h2).trans h1,⟨.inl h2,wC _ h2⟩,?_,h4.mono (aE.of_eq λ_ _ h=>h.elim),λb hb=>⟨⟨.inl (h5 b hb).1,wC b (h5 b hb).1⟩,(h5 b hb).2⟩⟩,wu st.x hk,⟨.inl st.mp.1,wC _ st.mp.1⟩,by rw[bh _ st.mp.1];exact st.mp.2⟩
 .have mR:M b:=hb.1.resolve_right hb.2;have:=st.lt b mR;have h2:=bh b mR;rw[Array.getElem?_eq_getElem this]at h2;exact(Array.getElem?_eq_some_iff.1 h2).1
 .refine⟨h3.1,?_⟩
  rcases h3.2 with h|⟨gg,cap,cur,rfl,l5,sP,rest⟩
  .exact .inl h
  .exact .inr ⟨gg,cap,cur,rfl,l5,(bh gg (h5 gg rfl).1).trans sP,rest⟩
def pv.more(X:pv C s)(w:World)(b6:Nat)(h:∀b,X.MI b->w.heap[b]?=X.wI.heap[b]?):pv C s:={
 bN:=X.bN
 bM:=X.bM
 bX:=X.bX
 oX:=X.oX
 fx:=X.fx
 cY:=X.cY
 cP:=X.cP
 cR:=X.cR
 MI b:=X.MI b\/b=b6
 wI:=w
 hY:=X.hY.mono (aE.of_eq λb k hp=>⟨.inl hp,h b hp⟩) λ_ _ h=>h
 hP:=X.hP.mono (aE.of_eq λb k hp=>⟨.inl hp,h b hp⟩) λ_ _ h=>h
 hR:=X.hR.mono (aE.of_eq λb k hp=>⟨.inl hp,h b hp⟩) λ_ _ h=>h
 ne:=X.ne }
def jv.more{X:pv C s}{k:Nat}{M:Nat->Prop}{Pr:Nat->Nat->Prop}{now:List Int}{w w':World}{b6:Nat}(st:jv X k M Pr now w)(hb:Below w.heap.size w w')(qn:w.heap.size<=b6)(tS:b6<w'.heap.size)(h:∀b,X.MI b->w'.heap[b]?=X.wI.heap[b]?):jv (X.more w' b6 h) k (λb=>M b\/b=b6) Pr now w':=by
 have g:=st.grow hb
 have dp:¬M b6:=λhm=>by have:=st.lt _ hm;omega
 obtain⟨v,ty,j2,h1,h2,h3,h4,h5⟩:=g.now;refine⟨C.fQ st.j (dG.gP hb) λb hm=>?_,λb hm=>?_,λb hm=>?_,⟨v,ty,j2,h1,.inl h2,h3,h4,λb eN=>⟨.inl (h5 b eN).1,?_,(h5 b eN).2.2⟩⟩,g.x,.inl g.mp.1,g.mp.2⟩
 .rcases hm with hm|rfl
  .exact⟨g.lt b hm,.inl hm⟩
  .exact⟨tS,.inr qn⟩
 .rcases hm with hm|rfl
  .exact g.lt b hm
  .exact tS
 .rcases hm with hm|rfl
  .exact⟨.inl (g.mi b hm).1,(g.mi b hm).2.1,(g.mi b hm).2.2.1,rfl⟩
  .exact⟨.inr rfl,λe=>dp ((show b=X.bN from e)▸h2),λe=>dp ((show b=X.bM from e)▸g.mp.1),rfl⟩
 .rintro(hm|rfl)
  .exact(h5 b eN).2.1 hm
  .exact dp (h5 b eN).1
def jv.less{X:pv C s}{k:Nat}{M:Nat->Prop}{Pr:Nat->Nat->Prop}{now:List Int}{w w1:World}{b6:Nat}{h:∀b,X.MI b->w1.heap[b]?=X.wI.heap[b]?}(st:jv (X.more w1 b6 h) k M Pr now w):jv X k M Pr now w:=by
 obtain⟨v,ty,j2,h1,h2,h3,h4,h5⟩:=st.now;refine⟨st.j,st.lt,λb hm=>?_,⟨v,ty,j2,h1,h2,h3,h4,λb hb=>⟨(h5 b hb).1,λhm=>(h5 b hb).2.1 (.inl hm),(h5 b hb).2.2⟩⟩,st.x,st.mp⟩;obtain⟨q1,q2,q3,q4⟩:=st.mi b (.inl hm);exact⟨q1,q2,q3,q4.trans (h b hm)⟩
def qV.step{X:pv C s}{a a':Act}(fr:qV X a)(aL:a'.tmps.size=70)(c_:a'.defers=[])(h:∀t,t<5->a'.tmps.getD t undef=a.tmps.getD t undef):qV X a':=
 ⟨aL,c_,(h 0 (by decide)).trans fr.t0,(h 1 (by decide)).trans fr.t1,(h 2 (by decide)).trans fr.t2,(h 3 (by decide)).trans fr.t3,(h 4 (by decide)).trans fr.t4⟩
def qV.of{X:pv C s}{a:Act}{w:World}{b6:Nat}{h:∀b,X.MI b->w.heap[b]?=X.wI.heap[b]?}(fr:qV X a):qV (X.more w b6 h) a:=⟨fr.size,fr.defers,fr.t0,fr.t1,fr.t2,fr.t3,fr.t4⟩
def W5:Nat->Bool:=λt=>decide (5<=t)
def ld:Nat->Bool:=λt=>decide (28<=t)
def j7{P:Program}{ro:Option Nat}{m:Nat}{ops:Array Oper}{l:List Nat}{Q:Exit->Act->World->Prop}{a:Act}{w:World}(A:Act->Prop)(ha:A a)(h:∀a,A a->wpOpsIn (FR ro) m P ops Q l a w):wpOpsIn (FR ro) m P ops Q l a w:=h a ha
def Io{P:Program}{a:Act}{w:World}{o:Oper}{c x y:Operand}{b:Bool}(ho:o.op=.pick c x y)(hc:a.eval c=.bool b):(execOp a.eval o).run P w=.ok (.value (if b then a.eval x else a.eval y)) w:=by
 unfold execOp
 cases b<;>simp[ho,hc,asBool]
noncomputable def lC:ae:=ae.qb c142.qb.qb.qb.qa.qb.qb
noncomputable def lD:ae:=ae.qb lC.qb.qb.qa
noncomputable def wO:ae:=ae.qb lD.qb.qb
noncomputable def wy:ae:=ae.qa lD.qb.qb
def so(len i:Nat)(n:Nat)(work:List Int)(v8:AV):Nat->AV:=λt=>if t=6 then .ref [.int .i64 (n:Nat)]else if t=25 then vI work else if t=26 then .int .i64 (len:Nat)else if t=27 then .int .i64 (i:Nat)else if t=8 then v8 else .bj
def KT (s:bG) (hl:s.ef.length≤1000) (hb:mu s) (yb:∀ x∈s.work,0≤x∧x < s.ef.length) (Dh:s.work.length≤1000) (jw:s.eE.length≤1000) :
  ∀(r:Nat)(X:pv C s)(now:List Int)(k:Nat)(M:Nat->Prop)(Pr:Nat->Nat->Prop)(w:World)(tail:List AV),now.length+r=s.eE.length->(∀x∈now,x∈s.work)->jv X k M Pr now w->
   xs.drop k=(kl s r now).map vI++tail->
   Calls prog 142 #[.pointer (some ⟨X.bN,0,none⟩),.pointer (some ⟨X.bX,X.oX,none⟩),X.cY,X.cP,X.cR] w λe w'=>∃M' cS,
    (e=.returned (.bool true)/\jv X (k+(kl s r now).length) M' cS now w')\/(e=.returned (.bool false)/\C.X M' cS w'):=by
 intro r
 induction r using Nat.strongRecOn with
 |_ r ih=>
 intro X now k M Pr w tail hnr hnw st iY;refine(eA (ro:=none) (m:=0)).1 (callsIn_of_wp func142 rfl trivial ?_)
 have fr:qV X { tmps:=#[.pointer (some ⟨X.bN,0,none⟩),.pointer (some ⟨X.bX,X.oX,none⟩),X.cY,X.cP,X.cR]++Array.replicate (f142.ntmps-5) undef,defers:=[] }:=
  ⟨by simp[ntmps142],rfl,dP _ _ 0 (by simp),dP _ _ 1 (by simp),dP _ _ 2 (by simp),dP _ _ 3 (by simp),dP _ _ 4 (by simp)⟩
 generalize hc:(λe w'=>∃M' cS,(e=Ending.returned (.bool true)/\jv X (k+(kl s r now).length) M' cS now w')\/(e=.returned (.bool false)/\C.X M' cS w'))=R
 have CQ:now.length<=s.eE.length:=by omega
 have Og:∀(a:Act)(w:World),∀t,5<=t->t<70->(AV.bj).aw=AV.bj/\RV (λb _=>b≠X.bM) bO w AV.bj (a.tmps.getD t undef):=λa w t _ _=>⟨rfl,.bj _⟩
 refine wpIn_seq ?_;refine cQ eK bL (ac:=ae.qa c142) (W:=W5) (by kernel_rfl) (by kernel_rfl) (by kernel_rfl) trivial (λb _=>b≠X.bM) (eJ X now λ_=>.bj) fr.size fr.defers (st.gO fr (Og _ _)) (K:=λ_ _=>True) ?_ ?_
 .simp[c142,ae.qa,bq,aV,an,aI,aq,az]
 intro g S' H' a w1 hg R1 _ bh
 have fr:=fr.step R1.size (by rw[R1.defers,hg]<;>rfl) λt ht=>bh t (by simp[W5];omega)
 have st:=st.grow (by have:=R1.below;rwa [R1.base]at this);clear bh R1 hg g S' H';show Code.wpIn _ _ _ _ _ a w1;refine wpIn_seq ?_;refine cQ eK bL (ac:=ae.qa c142.qb) (W:=W5) (by kernel_rfl) (by kernel_rfl) (by kernel_rfl) trivial (λb _=>b≠X.bM) (eJ X now λ_=>.bj) fr.size fr.defers (st.gO fr (Og _ _)) (K:=λS H=>S 6=.box 6 0/\H 6=some [.int .i64 now.length]) ?_ ?_
 .simp[c142,ae.qa,ae.qb,eJ,dS,eF,dR,cW,dT,cV,cZ,ck,cg,dQ,cd,bP,fB,fC,an,aq,ev,aB.S,aB.H,aY,au,aH,AL.start,AV.aw,AV.cells,AV.storable,AV.bb,aQ,aZ,dO,aP,HR.okB,post,cU,cL,cI,AV.out,AV.bu,br,bU,fz,fG,AV.vw,AV.bV,bR,vI,int,bI,az,ct,cb,gB,il,dM,cD,aR]
 intro g S' H' a w2 hg R1 ⟨s6,h6⟩ bh
 have fr:=fr.step R1.size (by rw[R1.defers,hg]<;>rfl) λt ht=>bh t (by simp[W5];omega)
 obtain⟨b6,Qf,e6⟩:=sJ R1 (by decide) s6;obtain⟨cs,vs,NG,k0,k1,k2,k3,k4,k5,k6,k7,k8⟩:=R1.box 6 b6 Qf;rw[h6]at k0;cases k0
 have hv6:vs=#[.int .i64 now.length]:=by
  obtain⟨v0,rfl⟩:=j9 (vs:=vs) (by rw[<-k5]<;>rfl);have:=(RV.data (al:=bO) _ _ (k6 0 (by simp) (by simp))).int_eq;simp only[List.getElem_toArray,List.getElem_cons_zero]at this;rw[this]
 subst hv6
 have fV:Below w1.heap.size w1 w2:=by have:=R1.below;rwa [R1.base]at this
 have qn:w1.heap.size<=b6:=by rw[R1.base]at k1;exact k1
 have tS:=(Array.getElem?_eq_some_iff.1 k2).1
 have NF:∀b,X.MI b->w2.heap[b]?=X.wI.heap[b]?:=λb hm=>(st.grow fV).mi b hm|>.2.2.2
 have Qw:=st.more (b6:=b6) fV qn tS NF;have Pm:qV (X.more w2 b6 NF) a:=fr.of
 obtain⟨Y,hY⟩:∃Y,Y=X.more w2 b6 NF:=⟨_,rfl⟩
 have less:∀{k:Nat}{M:Nat->Prop}{Pr:Nat->Nat->Prop}{w:World},jv Y k M Pr now w->jv X k M Pr now w:=λh=>by rw[hY]at h;exact h.less
 have yN:Y.bN=X.bN:=by rw[hY]<;>rfl
 have yM:Y.bM=X.bM:=by rw[hY]<;>rfl
 have y6:∀{now:List Int}{k:Nat}{M:Nat->Prop}{Pr:Nat->Nat->Prop}{w:World},jv Y k M Pr now w->w.heap[b6]?=some (.cells #[.int .i64 now.length] NG (0,0))\/True:=λh=>.inr trivial
 have c6:∀{GD:List Int}{k:Nat}{M:Nat->Prop}{Pr:Nat->Nat->Prop}{w:World},jv Y k M Pr GD w->w.heap[b6]?=some (.cells #[.int .i64 (now.length:Nat)] NG (0,0)):=λh=>by
  rw[hY]at h;exact(h.mi b6 (.inr rfl)).2.2.2.trans k2
 have r6:∀{GD:List Int}{k:Nat}{M:Nat->Prop}{Pr:Nat->Nat->Prop}{w:World},jv Y k M Pr GD w->RV (λb _=>b≠X.bM) bO w (.ref [.int .i64 (now.length:Nat)]) (.pointer (some ⟨b6,0,none⟩)):=λh=>by
  have h6:=c6 h;refine .data _ _ (.ref _ _ _ (λ_=>.int .i64 (now.length:Nat)) (λi hi=>?_) (λk hk=>⟨?_,?_⟩) (λk hk=>?_))
  .have:i=0:=by simpa using hi
   subst this;rfl
  .rw[hY]at h;exact(h.mi b6 (.inr rfl)).2.2.1
  .have:k=0:=by simpa using hk
   subst this;simp[World.cell?,h6]
  .have:k=0:=by simpa using hk
   subst this;exact .int _ _
 rw[<-hY]at Qw Pm
 have Oq:∀{b:Bool}{a:Act}{w':World},a.defers=[]->a.tmps.getD 5 undef=.bool b->R (.returned (.bool b)) w'->bodyPost prog f142 R .ret a w':=λhd h5 hR=>⟨hd,_,results_tmp results142 h5,hR⟩
 clear bh R1 hg g S' H' s6 h6 Qf k1 k3 k4 k5 k6 k7 k8 y6 st fr fV;show Code.wpIn _ _ _ _ _ a w2
 obtain⟨HH,SP⟩:∃HH:Nat->AV,HH=λt=>if t=6 then .ref [.int .i64 (now.length:Nat)]else .bj:=⟨_,rfl⟩
 have N7:∀{GD:List Int}{k:Nat}{M:Nat->Prop}{Pr:Nat->Nat->Prop}{w:World}{a:Act},jv Y k M Pr GD w->a.tmps.getD 6 undef=.pointer (some ⟨b6,0,none⟩)->∀t,5<=t->t<70->(HH t).aw=HH t/\RV (λb _=>b≠X.bM) bO w (HH t) (a.tmps.getD t undef):=λh e6 t _ _=>by
  rw[SP]
  by_cases ht:t=6
  .subst ht;rw[e6];exact⟨rfl,r6 h⟩
  .simp only[ht,if_false];exact⟨rfl,.bj _⟩
 refine wpIn_seq (wpIn_seq ?_);refine cQ eK bL (ac:=ae.qa c142.qb.qb.qa) (W:=λt=>decide (7<=t)) (by kernel_rfl) (by kernel_rfl) (by kernel_rfl) trivial (λb _=>b≠Y.bM) (eJ Y now HH) Pm.size Pm.defers (Qw.gO Pm (by rw[yM];exact N7 Qw e6)) (K:=λS _=>S 18=.bool (decide (r=0))) ?_ ?_
 .have hr:((now.length:Int)=s.eE.length)↔r=0:=by omega
  rw[SP];simp[c142,ae.qa,ae.qb,eJ,cm,cq,bz,dS,eF,dR,cW,dT,cV,cZ,ck,cg,dQ,cd,bP,fB,fC,an,aq,ev,aB.S,aB.H,aY,au,aH,AL.start,AV.aw,AV.cells,AV.storable,AV.bb,aQ,aZ,dO,aP,HR.okB,post,cU,cL,cI,AV.out,AV.bu,br,bU,fz,fG,AV.vw,AV.bV,bR,vI,int,bI,az,ct,cb,gB,il,dM,cD,aR];rw[Bool.eq_iff_iff];simp;omega
 intro g S' H' a w3 hg R1 nb bh
 have fr:=Pm.step R1.size (by rw[R1.defers,hg]<;>rfl) λt ht=>bh t (by simp;omega)
 have st:=Qw.grow (by have:=R1.below;rwa [R1.base]at this);have e6:a.tmps.getD 6 undef=.pointer (some ⟨b6,0,none⟩):=(bh 6 rfl).trans e6;have t18:=R1.slot 18 (by decide) id;rw[nb]at t18;have Fi:=t18.fc;clear t18 bh R1 hg g S' H' nb;show Code.wpIn _ _ _ _ _ a w3;refine wpIn_cond (t:=decide (r=0)) Fi ?_
 cases r with
 |zero=>
  simp only[decide_true,if_true];have NQ:kl s 0 now=[now]:=rfl;rw[NQ]at iY hc;refine wpIn_seq ?_
  refine BB eK bL (n:=70) (p:=3) (W:=W5) (l:=(ae.dl (ae.qa (ae.vm c142.qb.qb.qa.qb))).take 3) (by kernel_rfl) (by kernel_rfl) (by kernel_rfl) (by kernel_rfl) (by kernel_rfl) (by kernel_rfl) trivial (λb _=>b≠Y.bM) (eJ Y now HH) fr.size fr.defers (st.gO fr (by rw[yM];exact N7 st e6))
   (K:=λS _=>S 19=.val (.func (.yield l) #[] #[])/\S 21=.slice (if(ints now).isEmpty then .nil else .own 3) (ints now)) ?_ ?_
  .simp[c142,ae.qa,ae.qb,ae.vm,ae.dl,dM,cD,aR,cM,an,gV,aq,aI,aB.S,aB.H,ev,au,aH,eJ,aP,AV.aw,AV.vw,AV.cells,AV.storable,AV.bV,fz,fG,jk,g_,vI];refine⟨rfl,by kernel_rfl,_,Ab eK _ (re now) (by rw[br];omega),by simp[bR],?_⟩
   by_cases ho:ints now=[]<;>simp[ho,au]
  .intro g' S' H' a w4 hg R3 ⟨hy,h21⟩ bh
   have fV:Below w3.heap.size w3 w4:=by have:=R3.below;rwa [R3.base]at this
   have fr:=fr.step R3.size (by rw[R3.defers,hg]<;>rfl) λt ht=>bh t (by simp[W5];omega)
   have Da:=st.grow fV
   have Gk:=(R3.slot 19 (by decide) id)
   rw[hy]at Gk;have Gk:=Gk.jf;obtain⟨i3,tC,nV⟩:=iZ 3 1;have f21:=R3.o_ (t:=21) (by decide) (e:=3) tC (es:=ints now) h21 (λx hx=>by obtain⟨k,_,rfl⟩:=List.mem_map.1 hx;exact⟨nV.symm,rfl,λc hc=>by simp[AV.cells]at hc;subst hc;rfl⟩) (λx hx c hc=>by obtain⟨k,_,rfl⟩:=List.mem_map.1 hx;simp[AV.cells]at hc;subst hc;rfl);rw[R3.base]at f21
   let G:Nat->Prop:=λb=>w3.heap.size<=b/\b<w4.heap.size
   have hj:C.J k (λb=>(M b\/b=b6)\/G b) Pr w4:=C.fQ st.j (dG.gP fV) λb hb=>by
    rcases hb with hb|hb
    .exact⟨Da.lt b hb,.inl hb⟩
    .exact⟨hb.2,.inr hb.1⟩
   have Ak:k<xs.length:=by
    have:=congrArg List.length iY;simp at this;omega
   have sQ:xs[k]=vI now:=by
    have:=congrArg (·[0]?) iY;simp at this;rw[List.getElem?_eq_getElem Ak]at this;exact Option.some.inj this
   have hx:RD (λb j=>Pr b j\/(G b/\j<g'.hi b)) w4 xs[k] (a.tmps.getD 21 undef):=by
    rw[sQ];exact f21.mono (aE.same λb j _ h=>.inr h)
   obtain⟨ff,tmps,Zq,bd,Ea,qE⟩:=C.round Ak G g'.hi _ hj (λb hb=>.inr hb) hx;show wpOpsIn _ _ _ _ _ [3,4] a w4;refine rV rfl rfl (by rfl) ?_ qE ?_
   .exact(mL (f:=.tmp 19) (x:=.tmp 21) w4 rfl rfl rfl Gk).trans Ea
   .rintro e w5 ⟨wg,cS,zP,kS⟩
    have gx:∀{k'},C.J k' (λb=>((M b\/b=b6)\/G b)/\¬G b) cS w5->jv Y k' (λb=>((M b\/b=b6)\/G b)/\¬G b) cS now w5:=λhj=>Da.after hj (λb hg hm=>by have:=st.lt b hm;have:=hg.1;omega) wg zP
    obtain⟨b,rfl,hR⟩:∃b:Bool,e=.returned (.bool b)/\R (.returned (.bool b)) w5:=by
     rcases kS with⟨rfl,dJ⟩|⟨rfl,Af⟩
     .exact⟨true,rfl,by rw[<-hc];exact⟨_,_,.inl ⟨rfl,less (gx dJ)⟩⟩⟩
     .exact⟨false,rfl,by rw[<-hc];exact⟨_,_,.inr ⟨rfl,Af⟩⟩⟩
    refine⟨_,rfl,?_⟩
    have Qk:(a.put (some 22) (.bool b)).tmps.getD 22 undef=.bool b:=by simp[Act.put,fr.size]
    refine aT rfl rfl (by rfl) (v:=.bool b) (w':=w5) ((run_assign (x:=.tmp 22) w5 rfl).trans (congrArg (λv=>Result.ok (Next.value v) w5) Qk)) ?_;show Code.wpIn _ _ _ _ _ _ _
    have h5:((a.put (some 22) (.bool b)).put (some 5) (.bool b)).tmps.getD 5 undef=.bool b:=by simp[Act.put,fr.size]
    exact wpIn_ret (Oq fr.defers h5 hR)
 |succ r=>
  simp only[Nat.succ_ne_zero,decide_false,Bool.false_eq_true,if_false];refine wpIn_skip ?_;show Code.wpIn _ _ _ _ _ a w3
  have df:∀(a:Act)(d t:Nat)(c:Value),t≠d->(a.put (some d) c).tmps.getD t undef=a.tmps.getD t undef:=λa d t c h=>by
   simp[Act.put,Array.getElem?_setIfInBounds_ne (Ne.symm h)]
  have gq:∀(a:Act)(d:Nat)(c:Value),a.tmps.size=70->d<70->(a.put (some d) c).tmps.getD d undef=c:=λa d c h hd=>by
   simp[Act.put,h,hd]
  have gE:∀(a:Act)(d:Option Nat)(c:Value),(a.put d c).tmps.size=a.tmps.size:=λa d c=>by cases d<;>simp[Act.put]
  have wj:∀{a:Act}{d:Nat}{c:Value},qV Y a->5<=d->qV Y (a.put (some d) c):=λh hd=>h.step (by rw[gE];exact h.size) h.defers λt ht=>df _ _ _ _ (by omega)
  obtain⟨d28,Jz,Cy⟩:=vZ 28
  have B9:prog.underlying 28=some (.slice 3):=by kernel_rfl
  obtain⟨abE,abn,f25⟩:=FL (st.x 1 (by decide)).2.2;rw[br]at f25;refine wpIn_seq (wpIn_seq (wpIn_region ?_));show wpOpsIn _ _ _ _ _ [0,1,2,3,4] a w3;refine aT rfl rfl (by rfl) (qP (s:=89) (j:=0) (JE:=0) (sz:=3) (x:=.tmp 1) (by kernel_rfl) (by decide) rfl fr.t1) ?_;show wpOpsIn _ _ _ _ _ [1,2,3,4] (a.put (some 23) (.pointer (some ⟨Y.bX,Y.oX+0,none⟩))) w3;refine j7 (λa=>qV Y a/\a.tmps.getD 6 undef=.pointer (some ⟨b6,0,none⟩)/\a.tmps.getD 23 undef=.pointer (some ⟨Y.bX,Y.oX+0,none⟩)) ⟨wj fr (by decide),by rw[df _ _ _ _ (by decide)];exact e6,gq _ _ _ fr.size (by decide)⟩ ?_;clear e6 fr Fi a;rintro a ⟨fr,e6,NJ⟩;refine aT rfl rfl (by rfl) (qP (s:=30) (j:=1) (JE:=1) (sz:=1) (x:=.tmp 23) (by kernel_rfl) (by decide) rfl NJ) ?_;show wpOpsIn _ _ _ _ _ [2,3,4] (a.put (some 24) (.pointer (some ⟨Y.bX,Y.oX+1,none⟩))) w3;refine j7 (λa=>qV Y a/\a.tmps.getD 6 undef=.pointer (some ⟨b6,0,none⟩)/\a.tmps.getD 24 undef=.pointer (some ⟨Y.bX,Y.oX+1,none⟩)) ⟨wj fr (by decide),by rw[df _ _ _ _ (by decide)];exact e6,gq _ _ _ fr.size (by decide)⟩ ?_;clear e6 fr NJ a;rintro a ⟨fr,e6,OG⟩;refine aT rfl rfl (by rfl) (gY (t:=28) (x:=.tmp 24) (v:=Y.fx 1) rfl OG Jz Cy (st.x 1 (by decide)).2.1) ?_;show wpOpsIn _ _ _ _ _ [3,4] (a.put (some 25) (Y.fx 1)) w3;refine j7 (λa=>qV Y a/\a.tmps.getD 6 undef=.pointer (some ⟨b6,0,none⟩)/\a.tmps.getD 25 undef=Y.fx 1) ⟨wj fr (by decide),by rw[df _ _ _ _ (by decide)];exact e6,gq _ _ _ fr.size (by decide)⟩ ?_;clear e6 fr OG a;rintro a ⟨fr,e6,wv⟩;refine aT rfl rfl (by rfl) (vT rfl rfl rfl rfl B9 (show a.eval (.tmp 25)=_ from wv.trans f25)) ?_;show wpOpsIn _ _ _ _ _ [4] (a.put (some 26) (.int .i64 (s.work.length:Nat))) w3;refine j7 (λa=>qV Y a/\a.tmps.getD 6 undef=.pointer (some ⟨b6,0,none⟩)/\a.tmps.getD 25 undef=Y.fx 1/\a.tmps.getD 26 undef=.int .i64 (s.work.length:Nat)) ⟨wj fr (by decide),by rw[df _ _ _ _ (by decide)];exact e6,by rw[df _ _ _ _ (by decide)];exact wv,gq _ _ _ fr.size (by decide)⟩ ?_;clear e6 fr wv a;rintro a ⟨fr,e6,wv,zi⟩;refine aT rfl rfl (by rfl) (run_move (x:=.const (.int .i64 0)) w3 rfl) ?_;show Code.wpIn _ _ _ _ _ (a.put (some 27) (.int .i64 ((0:Nat):Int))) w3;refine iC (λa=>qV Y a/\a.tmps.getD 6 undef=.pointer (some ⟨b6,0,none⟩)/\a.tmps.getD 25 undef=Y.fx 1/\a.tmps.getD 26 undef=.int .i64 (s.work.length:Nat)/\a.tmps.getD 27 undef=.int .i64 ((0:Nat):Int)) ⟨wj fr (by decide),by rw[df _ _ _ _ (by decide)];exact e6,by rw[df _ _ _ _ (by decide)];exact wv,by rw[df _ _ _ _ (by decide)];exact zi,gq _ _ _ fr.size (by decide)⟩ ?_;clear e6 fr wv zi a;rintro a ⟨fr,e6,wv,zi,Gb⟩
  obtain⟨rem,y4⟩:∃rem:Nat->List (List Int),rem=λi=>(s.work.drop i).flatMap λx=>if ns s r now x then kl s r (now++[x])else[]:=⟨_,rfl⟩
  have xP:kl s (r+1) now=rem 0:=by rw[y4]<;>rfl
  rw[xP]at iY hc
  obtain⟨FA,FK⟩:∃FA:Nat->Act->Prop,FA=λi a=>qV Y a/\a.tmps.getD 6 undef=.pointer (some ⟨b6,0,none⟩)/\a.tmps.getD 25 undef=Y.fx 1/\a.tmps.getD 26 undef=.int .i64 (s.work.length:Nat)/\a.tmps.getD 27 undef=.int .i64 (i:Nat):=⟨_,rfl⟩
  have fa:FA 0 a:=by rw[FK];exact⟨fr,e6,wv,zi,Gb⟩
  have uh:∀{i:Nat}{a a':Act}{W:Nat->Bool},FA i a->a'.tmps.size=70->a'.defers=[]->dV W a a'->(∀t,t<28->t≠8->t≠9->t≠10->W t=false)->FA i a':=by
   intro i a a' W h aL c_ hs hW;rw[FK]at h⊢;obtain⟨fr,e6,wv,zi,Gb⟩:=h;exact⟨fr.step aL c_ λt ht=>hs t (hW t (by omega) (by omega) (by omega) (by omega)),(hs 6 (hW 6 (by decide) (by decide) (by decide) (by decide))).trans e6,(hs 25 (hW 25 (by decide) (by decide) (by decide) (by decide))).trans wv,(hs 26 (hW 26 (by decide) (by decide) (by decide) (by decide))).trans zi,(hs 27 (hW 27 (by decide) (by decide) (by decide) (by decide))).trans Gb⟩
  have QK:∀ {i:Nat} {a:Act} {k:Nat} {M:Nat→Prop} {Pr:Nat→Nat→Prop} {w:World} {v8:AV},FA i a→jv Y k M Pr now w→(v8.aw=v8∧RV (fun b _=>b≠Y.bM) bO w v8 (a.tmps.getD 8 undef)) →
    ∀t,t<70->(eJ Y now (so s.work.length i now.length s.work v8) t).aw=eJ Y now (so s.work.length i now.length s.work v8) t/\RV (λb _=>b≠Y.bM) bO w (eJ Y now (so s.work.length i now.length s.work v8) t) (a.tmps.getD t undef):=by
   intro i a k M Pr w v8 h st h8;rw[FK]at h;obtain⟨fr,e6,wv,zi,Gb⟩:=h
   refine st.gO fr λt h5 ht=>?_
   unfold so
   by_cases t6:t=6
   .subst t6;rw[if_pos rfl,e6];exact⟨rfl,by rw[yM];exact r6 st⟩
   rw[if_neg t6]
   by_cases t25:t=25
   .subst t25;rw[if_pos rfl,wv];exact⟨rfl,.data _ _ ((st.x 1 (by decide)).2.2.mono (aE.same λb k _ hp=>by rintro rfl;exact C.apart st.j _ k st.mp.1 hp))⟩
   rw[if_neg t25]
   by_cases t26:t=26
   .subst t26;rw[if_pos rfl,zi];exact⟨rfl,.data _ _ (.int _ _)⟩
   rw[if_neg t26]
   by_cases t27:t=27
   .subst t27;rw[if_pos rfl,Gb];exact⟨rfl,.data _ _ (.int _ _)⟩
   rw[if_neg t27]
   by_cases t8:t=8
   .subst t8;rw[if_pos rfl];exact h8
   rw[if_neg t8];exact⟨rfl,.bj _⟩
  have lQ:∀{i:Nat}{a:Act},FA i a->a.tmps.size=70/\a.defers=[]/\qV Y a:=λh=>by rw[FK]at h;exact⟨h.1.size,h.1.defers,h.1⟩
  obtain⟨NB,KR⟩:∃NB:Nat->Nat->World->Prop,NB=λi k' w=>∃M' cS,jv Y k' M' cS now w/\xs.drop k'=(rem i).map vI++tail/\k'+(rem i).length=k+(rem 0).length:=⟨_,rfl⟩
  clear e6 fr wv zi Gb;refine wpIn_block (wpIn_loop (λa w=>∃i k',FA i a/\i<=s.work.length/\NB i k' w) (λa _=>match a.tmps.getD 27 undef with|.int _ i=>s.work.length-i.toNat|_=>0) ⟨0,k,fa,Nat.zero_le _,by rw[KR];exact⟨_,_,st,iY,rfl⟩⟩ ?_);clear fa st iY a;rintro a wl ⟨i,k',fa,hi,yh⟩
  have Gb:a.tmps.getD 27 undef=.int .i64 (i:Nat):=by rw[FK]at fa;exact fa.2.2.2.2
  rw[KR]at yh;obtain⟨M',cS,st,iY,na⟩:=yh
  have j8:∀(a:Act)(w:World),(AV.bj).aw=AV.bj/\RV (λb _=>b≠Y.bM) bO w AV.bj (a.tmps.getD 8 undef):=λa w=>⟨rfl,.bj _⟩
  refine wpIn_seq ?_;refine cQ eK bL (ac:=ae.qa lC) (W:=ld) (by kernel_rfl) (by kernel_rfl) (by kernel_rfl) trivial (λb _=>b≠Y.bM) (eJ Y now (so s.work.length i now.length s.work .bj)) (lQ fa).1 (lQ fa).2.1 (QK fa st (j8 _ _)) (K:=λS _=>S 28=.bool (decide (i<s.work.length))) ?_ ?_
  .simp[c142,lC,ae.qa,ae.qb,eJ,so,dS,eF,dR,cW,dT,cV,cZ,ck,cg,dQ,cd,bP,fB,fC,an,aq,ev,aB.S,aB.H,aY,au,aH,AL.start,AV.aw,AV.cells,AV.storable,AV.bb,aQ,aZ,dO,aP,HR.okB,post,cU,cL,cI,AV.out,AV.bu,br,bU,fz,fG,AV.vw,AV.bV,bR,vI,int,bI,az,ct,cb,gB,il,dM,cD,aR]
  intro g S' H' a4 w4 hg R1 FM bh;have fa:=uh fa R1.size (by rw[R1.defers,hg]<;>rfl) bh (λt h _ _ _=>by simp[ld];omega);have st:=st.grow (by have:=R1.below;rwa [R1.base]at this);have t28:=R1.slot 28 (by decide) id;rw[FM]at t28;have e28:=t28.fc;clear t28 bh R1 hg g S' H' FM;show Code.wpIn _ _ _ _ _ a4 w4;refine wpIn_seq (wpIn_cond (t:=decide (i<s.work.length)) e28 ?_)
  by_cases ao:i<s.work.length
  case neg=>
   simp only[ao,decide_false,Bool.false_eq_true,if_false];refine wpIn_exit ?_
   have ec:rem i=[]:=by rw[y4];simp only;rw[List.drop_eq_nil_of_le (by omega)]<;>rfl
   rw[ec]at na;show Code.wpIn _ _ _ _ _ a4 w4;refine wpIn_seq (wpIn_region ?_);show wpOpsIn _ _ _ _ _ [0] a4 w4;refine aT rfl rfl (by rfl) (v:=.bool true) (w':=w4) (run_assign (x:=.const (.bool true)) w4 rfl) ?_;show Code.wpIn _ _ _ _ _ (a4.put (some 5) (.bool true)) w4;refine wpIn_ret (Oq (lQ fa).2.1 (gq _ _ _ (lQ fa).1 (by decide)) ?_);rw[<-hc];refine⟨M',cS,.inl ⟨rfl,?_⟩⟩;rw[<-na];exact less st
  case pos=>
   simp only[ao,decide_true,if_true];refine wpIn_skip ?_;show Code.wpIn _ _ _ _ _ a4 w4
   obtain⟨x,hx⟩:∃x,s.work[i]=x:=⟨_,rfl⟩
   have HA:x∈s.work:=by rw[<-hx];exact List.getElem_mem ao
   obtain⟨hx0,hxn⟩:=yb x HA
   obtain⟨xn,rfl⟩:∃xn:Nat,x=xn:=⟨x.toNat,by omega⟩
   have N0:rem i=(if ns s r now xn then kl s r (now++[(xn:Int)])else[])++rem (i+1):=by
    rw[y4];simp only;rw[List.drop_eq_getElem_cons ao,List.flatMap_cons,hx]
   rw[N0]at iY na
   obtain⟨NX,Uw⟩:∃NX:World->Prop,NX=λw=>∃k',NB (i+1) k' w:=⟨_,rfl⟩
   have Hr:∀{M:Nat->Prop}{Pr:Nat->Nat->Prop}{w:World},ns s r now xn=false->jv Y k' M Pr now w->NX w:=λdp st=>by
    rw[Uw,KR];rw[dp]at iY na;exact⟨k',_,_,st,by simpa using iY,by simpa using na⟩
   refine wpIn_seq (wpIn_block (wpIn_mono (Q:=λe a w=>((e=.normal\/e=.exit 1)/\FA i a/\NX w)\/(e=.ret/\bodyPost prog f142 R .ret a w)) ?_ ?_))
   .
    have VN:=lQ fa;refine wpIn_seq ?_;refine cQ eK bL (ac:=ae.qa lD) (W:=λt=>decide (28<=t)||t==8) (by kernel_rfl) (by kernel_rfl) (by kernel_rfl) trivial (λb _=>b≠Y.bM) (eJ Y now (so s.work.length i now.length s.work .bj)) VN.1 VN.2.1 (QK fa st (j8 _ _)) (K:=λS H=>S 8=.box 8 0/\H 8=some [.int .i64 (xn:Nat)]) ?_ ?_
    .simp[c142,lD,lC,ae.qa,ae.qb,eJ,so,ao,hx,dS,eF,dR,cW,dT,cV,cZ,ck,cg,dQ,cd,bP,fB,fC,an,aq,ev,aB.S,aB.H,aY,au,aH,AL.start,AV.aw,AV.cells,AV.storable,AV.bb,aQ,aZ,dO,aP,HR.okB,post,cU,cL,cI,AV.out,AV.bu,br,bU,fz,fG,AV.vw,AV.bV,bR,vI,int,bI,az,ct,cb,gB,il,dM,cD,aR]
    intro g S' H' a5 w5 hg R1 ⟨s8,h8⟩ bh;have fa:=uh fa R1.size (by rw[R1.defers,hg]<;>rfl) bh (λt h h8 _ _=>by simp[h8];omega)
    have fV:Below w4.heap.size w4 w5:=by have:=R1.below;rwa [R1.base]at this
    obtain⟨b8,ZT,e8⟩:=sJ R1 (by decide) s8;obtain⟨cs,vs,EH,k0,k1,k2,k3,k4,k5,k6,k7,k8⟩:=R1.box 8 b8 ZT;rw[h8]at k0;cases k0
    have hv8:vs=#[.int .i64 (xn:Nat)]:=by
     obtain⟨v0,rfl⟩:=j9 (vs:=vs) (by rw[<-k5]<;>rfl);have:=(RV.data (al:=bO) _ _ (k6 0 (by simp) (by simp))).int_eq;simp only[List.getElem_toArray,List.getElem_cons_zero]at this;rw[this]
    subst hv8
    have abz:w4.heap.size<=b8:=by rw[R1.base]at k1;exact k1
    have hM8:b8≠Y.bM:=by rintro rfl;have:=st.lt _ st.mp.1;omega
    have st:=st.grow fV;have q8:w5.heap[b8]?=some (.cells #[.int .i64 (xn:Nat)] EH (0,0)):=k2
    have r8:∀{w:World},w.heap[b8]?=some (.cells #[.int .i64 (xn:Nat)] EH (0,0))->RV (λb _=>b≠Y.bM) bO w (.ref [.int .i64 (xn:Nat)]) (.pointer (some ⟨b8,0,none⟩)):=λh=>by
     refine .data _ _ (.ref _ _ _ (λ_=>.int .i64 (xn:Nat)) (λi hi=>?_) (λk hk=>⟨hM8,?_⟩) (λk hk=>?_))
     .have:i=0:=by simpa using hi
      subst this;rfl
     .have:k=0:=by simpa using hk
      subst this;simp[World.cell?,h]
     .have:k=0:=by simpa using hk
      subst this;exact .int _ _
    clear bh R1 hg g S' H' s8 h8 ZT k1 k2 k3 k4 k5 k6 k7 k8 VN;have Ge:=st;show Code.wpIn _ _ _ _ _ a5 w5
    have OF:∀{a:Act}{k:Nat}{M:Nat->Prop}{Pr:Nat->Nat->Prop}{w:World},FA i a->a.tmps.getD 8 undef=.pointer (some ⟨b8,0,none⟩)->w.heap[b8]?=some (.cells #[.int .i64 (xn:Nat)] EH (0,0))->jv Y k M Pr now w->_:=λ{a}{k}{M}{Pr}{w} fa e8 q8 st=>QK (v8:=.ref [.int .i64 (xn:Nat)]) fa st ⟨rfl,by rw[e8];exact r8 q8⟩
    obtain⟨skip,tv⟩:∃skip:Bool,skip=(match now.getLast? with|none=>false|some d=>decide ((xn:Int)<=d)):=⟨_,rfl⟩
    refine wpIn_seq (wpIn_seq ?_)
    refine Is eK bL (n:=70) (p:=16) (W:=ld) (l:=(lD.qb.qa.qa.dl).take 16) (by kernel_rfl) (by kernel_rfl) (by kernel_rfl) (by kernel_rfl) (by kernel_rfl) (by kernel_rfl) trivial (λb _=>b≠Y.bM) (eJ Y now (so s.work.length i now.length s.work (.ref [.int .i64 (xn:Nat)]))) (lQ fa).1 (lQ fa).2.1 (OF fa e8 q8 st)
     (K:=λS _=>S 42=.bool skip/\(skip=false->S 43=fb s/\S 44=.int .i64 now.length/\S 45=.int .i64 (xn:Nat)/\S 46=.val (dN Y.bM))) ?_ ?_
    .rw[tv]
     cases me:now.getLast? with
     |none=>
      have pU:now=[]:=by cases now with|nil=>rfl|cons _ _=>simp at me
      subst pU;simp[c142,lD,lC,ae.qa,ae.qb,ae.dl,dM,cD,aR,cM,an,gV,aq,aI,aB.S,aB.H,ev,au,aH,eJ,so,aP,AV.aw,AV.vw,AV.cells,AV.storable,AV.bV,vI,ints,dO,bI,fb,cm,cq]
     |some dl=>
      have bt:now≠[]:=by rintro rfl;cases me
      have iE:0<now.length:=by cases now with|nil=>exact absurd rfl bt|cons _ _=>simp
      have hwn:IntKind.i64.wrap ((now.length:Int)-1)=((now.length-1:Nat):Int):=by rw[bl (by omega)];omega
      have n1:¬((now.length-1:Nat):Int)<0:=by omega
      have n2:now.length-1<now.length:=by omega
      have Cw:now[now.length-1]'(by omega)=dl:=by
       rw[List.getLast?_eq_getElem?,List.getElem?_eq_getElem (by omega)]at me;exact Option.some.inj me
      by_cases hle:(xn:Int)<=dl<;>
      simp[c142,lD,lC,ae.qa,ae.qb,ae.dl,dM,cD,aR,cM,an,gV,aq,aI,aB.S,aB.H,ev,au,aH,eJ,so,aP,AV.aw,AV.vw,AV.cells,AV.storable,AV.bV,vI,ints,dO,bI,fb,cm,cq,iE,hwn,n1,n2,Cw,hle]
    intro g S' H' a6 w6 hg R1 ⟨VL,Rm⟩ bh;show wpOpsIn _ _ _ _ _ [16,17,18] a6 w6;have fa5:=fa;have fa:=uh fa R1.size (by rw[R1.defers,hg]<;>rfl) bh (λt h _ _ _=>by simp[ld];omega)
    have TF:Below w5.heap.size w5 w6:=by have:=R1.below;rwa [R1.base]at this
    have e8:a6.tmps.getD 8 undef=.pointer (some ⟨b8,0,none⟩):=(bh 8 rfl).trans e8;have hl8:b8<w5.heap.size:=(Array.getElem?_eq_some_iff.1 q8).1;have q8:w6.heap[b8]?=some (.cells #[.int .i64 (xn:Nat)] EH (0,0)):=(TF.block b8 hl8).trans q8;have st:=st.grow TF
    have QL:a6.tmps.getD 42 undef=.bool skip:=by
     have:=R1.slot 42 (by decide) id;rw[VL]at this;exact this.fc
    have Nu:=R1.size
    cases skip with
    |true=>
     have dp:ns s r now xn=false:=by
      unfold ns
      cases me:now.getLast? with
      |none=>rw[me]at tv;cases tv
      |some dl=>
       rw[me]at tv
       have:¬dl<(xn:Int):=by have:=of_decide_eq_true tv.symm;omega
       simp[this]
     refine ui R1 eK trivial (l2:=[16,17,18]) (lS:=[_,_,_]) rfl (by kernel_rfl) (al:=(lD.qb.qa.qa.dl).drop 16) (by kernel_rfl) (by kernel_rfl) (W:=ld) (by kernel_rfl) (by rw[hg];exact λ_ h=>h) (K:=λS _=>S 49=.bool true) ?_ ?_
     .simp[c142,lD,lC,ae.qa,ae.qb,ae.dl,aV,an,aI,aq,aB.S,aB.H,ev,au,aH,VL,bI,AV.aw]
     intro g2 S2 H2 a7 w7 lE R2 KH jh;have fa:=uh fa R2.size (by rw[R2.defers,lE,hg]<;>rfl) jh (λt h _ _ _=>by simp[ld];omega)
     have VF:a7.tmps.getD 49 undef=.bool true:=by
      have:=R2.slot 49 (by decide) id;rw[KH]at this;exact this.fc
     have aav:Below w5.heap.size w5 w7:=by have:=R2.below;rwa [R2.base]at this
     show Code.wpIn _ _ _ _ _ a7 w7;refine wpIn_cond (t:=true) VF ?_;simp only[if_true];exact wpIn_exit (.inl ⟨.inr rfl,fa,Hr dp (Ge.grow aav)⟩)
    |false=>
     obtain⟨Z5,s44,s45,pz⟩:=Rm rfl
     have r43:RD g.Pr w6 (fb s) (a6.tmps.getD 43 undef):=by
      have:=R1.slot 43 (by decide) id;rw[Z5]at this;exact this.bQ rfl
     have Zx:a6.tmps.getD 44 undef=.int .i64 (now.length:Nat):=iK R1 (by decide) s44;have HF:a6.tmps.getD 45 undef=.int .i64 (xn:Nat):=iK R1 (by decide) s45
     have XU:a6.tmps.getD 46 undef=dN Y.bM:=by
      have:=R1.slot 46 (by decide) id;rw[pz]at this;exact this.jf
     obtain⟨hMM,es6,ck6,l6,m1,m2,m3⟩:=st.mp;have abu:Y.bM<w5.heap.size:=Ge.lt _ Ge.mp.1
     have ky:=Ns s hl hb yb Dh jw r now.length xn (by omega) (by omega) w6 g.Pr Y.bM es6 ck6 l6 (a6.tmps.getD 43 undef) m1 m2 m3 (λj hp=>by
      rcases hp with hp|hp
      .rw[hg]at hp;exact hp.2 rfl
      .have:=R1.base;omega) r43
     have wanted:∀(a:Act),a.tmps.size=70->a.tmps.getD 42 undef=.bool false->a.tmps[42]?=some (.bool false):=λa hs h=>by
      have h2:a.tmps[42]?=some (a.tmps.getD 42 undef):=by simp[hs]
      rw[h2,h]
     have SZ:=wanted a6 Nu QL;refine pd rfl (by simp[Region.wanted,yielded,ug,SZ]) (by rfl) (fJ (k:=143) (args:=#[a6.tmps.getD 43 undef,.int .i64 (now.length:Nat),.int .i64 (xn:Nat),dN Y.bM]) w6 rfl rfl ?_ (by kernel_rfl)) ky ?_
     .simp only[List.map_toArray,List.map_cons,List.map_nil,Act.eval];rw[Zx,HF,XU]
     rintro e w7 ⟨rfl,ht7,hM7⟩;refine⟨_,rfl,?_⟩;obtain⟨es7,ck7,l7,n1,n2,n3,_⟩:=hM7;have st:=st.swap ht7 ⟨es7,ck7,l7,n1,n2,n3⟩;have aar:b8<w6.heap.size:=(Array.getElem?_eq_some_iff.1 q8).1;have q8:w7.heap[b8]?=some (.cells #[.int .i64 (xn:Nat)] EH (0,0)):=(ht7.block b8 aar hM8).trans q8
     obtain⟨go,ly⟩:∃go,fo s r now.length xn=go:=⟨_,rfl⟩
     rw[ly]
     have z1:(a6.put (some 47) (.bool go)).tmps.size=70:=by rw[gE];exact Nu
     have f47:(a6.put (some 47) (.bool go)).tmps.getD 47 undef=.bool go:=gq _ _ _ Nu (by decide);have f42:=wanted _ z1 (by rw[df _ _ _ _ (by decide)];exact QL);refine HD rfl (by simp[Region.wanted,yielded,ug,f42]) (by rfl) (pL (x:=.tmp 47) w7 rfl f47) ?_
     have z2:((a6.put (some 47) (.bool go)).put (some 48) (.bool !go)).tmps.size=70:=by rw[gE,gE];exact Nu
     have g48:((a6.put (some 47) (.bool go)).put (some 48) (.bool !go)).tmps.getD 48 undef=.bool !go:=gq _ _ _ z1 (by decide)
     have X4:((a6.put (some 47) (.bool go)).put (some 48) (.bool !go)).tmps.getD 42 undef=.bool false:=by rw[df _ _ _ _ (by decide),df _ _ _ _ (by decide)];exact QL
     have Qu:((a6.put (some 47) (.bool go)).put (some 48) (.bool !go)).eval (.tmp 48)=.bool !go:=g48;refine aT rfl rfl (by rfl) (v:=.bool !go) (w':=w7) ((Io (b:=false) (c:=.tmp 42) (x:=.const (.bool true)) (y:=.tmp 48) rfl X4).trans (by simp only[Bool.false_eq_true,if_false];rw[Qu])) ?_
     obtain⟨a7,Ba⟩:∃a7,((a6.put (some 47) (.bool go)).put (some 48) (.bool !go)).put (some 49) (.bool !go)=a7:=⟨_,rfl⟩
     have Jq:dV ld a6 a7:=λt ht=>by
      have:t<28:=by simp[ld]at ht;omega
      rw[<-Ba,df _ _ _ _ (by omega),df _ _ _ _ (by omega),df _ _ _ _ (by omega)]
     have z7:a7.tmps.size=70:=by rw[<-Ba,gE,gE,gE];exact Nu
     have d7:a7.defers=[]:=by rw[<-Ba];exact(lQ fa).2.1
     have fa:=uh fa z7 d7 Jq (λt h _ _ _=>by simp[ld];omega);have e8:a7.tmps.getD 8 undef=.pointer (some ⟨b8,0,none⟩):=(Jq 8 rfl).trans e8
     have VF:a7.tmps.getD 49 undef=.bool !go:=by rw[<-Ba];exact gq _ _ _ z2 (by decide)
     show Code.wpIn _ _ _ _ _ (((a6.put (some 47) (.bool go)).put (some 48) (.bool !go)).put (some 49) (.bool !go)) w7;rw[Ba];clear Qu g48 X4 f42 f47 z1 z2 SZ XU HF Zx r43 Z5 s44 s45 pz ky R1 Rm VL QL bh;refine wpIn_cond (t:=!go) VF ?_
     cases go with
     |false=>
      simp only[Bool.not_false,if_true];refine wpIn_exit (.inl ⟨.inr rfl,fa,Hr ?_ st⟩);simp only[ns,Int.toNat_natCast,ly,Bool.false_and,Bool.and_false]
     |true=>
     simp only[Bool.not_true,Bool.false_eq_true,if_false];refine wpIn_skip ?_;show Code.wpIn _ _ _ _ _ a7 w7;refine wpIn_seq (wpIn_mono (Q:=λe a w=>(e=.normal/\FA i a/\a.tmps.getD 8 undef=.pointer (some ⟨b8,0,none⟩)/\w.heap[b8]?=some (.cells #[.int .i64 (xn:Nat)] EH (0,0))/\(∃M Pr,jv Y k' M Pr now w)/\ns s r now xn=true)\/(e=.exit 1/\FA i a/\NX w)) ?_ ?_)
     .refine wpIn_seq ?_;refine cQ eK bL (ac:=ae.qa wy) (W:=ld) (by kernel_rfl) (by kernel_rfl) (by kernel_rfl) trivial (λb _=>b≠Y.bM) (eJ Y now (so s.work.length i now.length s.work (.ref [.int .i64 (xn:Nat)]))) (lQ fa).1 (lQ fa).2.1 (OF fa e8 q8 st) (K:=λS _=>S 51=.bool (decide (0<now.length))) ?_ ?_
      .simp[c142,wy,lD,lC,ae.qa,ae.qb,eJ,so,dS,eF,dR,cW,dT,cV,cZ,ck,cg,dQ,cd,bP,fB,fC,an,aq,ev,aB.S,aB.H,aY,au,aH,AL.start,AV.aw,AV.cells,AV.storable,AV.bb,aQ,aZ,dO,aP,HR.okB,post,cU,cL,cI,AV.out,AV.bu,br,bU,fz,fG,AV.vw,AV.bV,bR,vI,int,bI,az,ct,cb,gB,il,dM,cD,aR]
      intro g S' H' a8 w8 hg R1 O4 bh;have fa:=uh fa R1.size (by rw[R1.defers,hg]<;>rfl) bh (λt h _ _ _=>by simp[ld];omega)
      have Tc:Below w7.heap.size w7 w8:=by have:=R1.below;rwa [R1.base]at this
      have aay:b8<w7.heap.size:=(Array.getElem?_eq_some_iff.1 q8).1;have e8:a8.tmps.getD 8 undef=.pointer (some ⟨b8,0,none⟩):=(bh 8 rfl).trans e8;have q8:w8.heap[b8]?=some (.cells #[.int .i64 (xn:Nat)] EH (0,0)):=(Tc.block b8 aay).trans q8;have st:=st.grow Tc
      have P4:a8.tmps.getD 51 undef=.bool (decide (0<now.length)):=by
       have:=R1.slot 51 (by decide) id;rw[O4]at this;exact this.fc
      clear R1 hg O4 bh g S' H';show Code.wpIn _ _ _ _ _ a8 w8;refine wpIn_cond (t:=decide (0<now.length)) P4 ?_
      cases me:now.getLast? with
      |none=>
       have pU:now=[]:=by cases now with|nil=>rfl|cons _ _=>simp at me
       have aaL:¬0<now.length:=by rw[pU];simp
       simp only[aaL,decide_false,Bool.false_eq_true,if_false];refine wpIn_skip (.inl ⟨rfl,fa,e8,q8,⟨_,_,st⟩,?_⟩);unfold ns;rw[me];simp only[Int.toNat_natCast,ly,Bool.true_and,Bool.and_true]
      |some dl=>
       have bt:now≠[]:=by rintro rfl;cases me
       have iE:0<now.length:=by cases now with|nil=>exact absurd rfl bt|cons _ _=>simp
       have IP:dl∈s.work:=hnw dl (List.mem_of_getLast? me);obtain⟨hd0,oS⟩:=yb dl IP
       obtain⟨dn,rfl⟩:∃dn:Nat,dl=dn:=⟨dl.toNat,by omega⟩
       rw[me]at tv
       have V2:(dn:Int)<xn:=by have:=of_decide_eq_false tv.symm;omega
       have TC:ns s r now xn=fI s (now.length-1) dn xn true:=by
        unfold ns;rw[me];simp only[Int.toNat_natCast,ly,V2,decide_true,Bool.true_and]
       simp only[iE,decide_true,if_true];obtain⟨c,e',FP⟩:=Ef eK s (f:=144) (by kernel_rfl) (XI s hl hb CQ jw me (by omega) (x:=xn) (by omega));refine wpIn_seq ?_;refine cQ eK bL (ac:=ae.qa (ae.vm wy.qb)) (W:=λt=>decide (28<=t)||t==9||t==10) (by kernel_rfl) (by kernel_rfl) (by kernel_rfl) trivial (λb _=>b≠Y.bM) (eJ Y now (so s.work.length i now.length s.work (.ref [.int .i64 (xn:Nat)]))) (lQ fa).1 (lQ fa).2.1 (OF fa e8 q8 st) (K:=λS _=>S 10=.int .i64 (if fI s (now.length-1) dn xn true then 0 else 7)) ?_ ?_
       .simp[c142,wy,lD,lC,ae.qa,ae.qb,ae.vm,eJ,so,dS,eF,dR,cW,dT,cV,cZ,ck,cg,dQ,cd,bP,fB,fC,an,aq,ev,aB.S,aB.H,aY,au,aH,AL.start,AV.aw,AV.cells,AV.storable,AV.bb,aQ,aZ,dO,aP,HR.okB,post,cU,cL,cI,AV.out,AV.bu,br,bU,fz,fG,AV.vw,AV.bV,bR,vI,int,bI,az,ct,cb,gB,il,dM,cD,aR];refine⟨_,by kernel_rfl,FP,by simp[bR,qh],?_⟩;simp[BE,dS,eF,dR,cW,dT,cV,cZ,ck,cg,dQ,cd,bP,fB,fC,an,aq,ev,aB.S,aB.H,aY,au,aH,AL.start,AV.aw,AV.cells,AV.storable,AV.bb,aQ,aZ,dO,aP,HR.okB,post,cU,cL,cI,AV.out,AV.bu,br,bU,fz,fG,AV.vw,AV.bV,bR,vI,int,bI,az,ct,cb,gB,il,dM,cD,aR]
       intro g S' H' a9 w9 hg R1 bW bh;have fa:=uh fa R1.size (by rw[R1.defers,hg]<;>rfl) bh (λt h _ h9 mZ=>by simp[h9,mZ];omega);have X8:b8<w8.heap.size:=(Array.getElem?_eq_some_iff.1 q8).1;have e8:a9.tmps.getD 8 undef=.pointer (some ⟨b8,0,none⟩):=(bh 8 rfl).trans e8;show Code.wpIn _ _ _ _ _ a9 w9;refine wpIn_seq ?_;refine eI R1 eK trivial bL (ac:=ae.qa (ae.qb (ae.vm wy.qb))) (W:=ld) (by kernel_rfl) (by kernel_rfl) (by kernel_rfl) (by rw[hg];exact λ_ h=>h) (K:=λS _=>S 58=.bool (!fI s (now.length-1) dn xn true)) ?_ ?_
       .cases gx:fI s (now.length-1) dn xn true<;>rw[gx]at bW<;>simp[c142,wy,lD,lC,ae.qa,ae.qb,ae.vm,bW,dS,eF,dR,cW,dT,cV,cZ,ck,cg,dQ,cd,bP,fB,fC,an,aq,ev,aB.S,aB.H,aY,au,aH,AL.start,AV.aw,AV.cells,AV.storable,AV.bb,aQ,aZ,dO,aP,HR.okB,post,cU,cL,cI,AV.out,AV.bu,br,bU,fz,fG,AV.vw,AV.bV,bR,vI,int,bI,az,ct,cb,gB,il,dM,cD,aR]
       intro g2 S2 H2 ym kT lE R2 s58 jh;have fa:=uh fa R2.size (by rw[R2.defers,lE,hg]<;>rfl) jh (λt h _ _ _=>by simp[ld];omega)
       have O0:Below w8.heap.size w8 kT:=by have:=R2.below;rwa [R2.base]at this
       have e8:ym.tmps.getD 8 undef=.pointer (some ⟨b8,0,none⟩):=(jh 8 rfl).trans e8
       have e58:ym.tmps.getD 58 undef=.bool (!fI s (now.length-1) dn xn true):=by
        have:=R2.slot 58 (by decide) id;rw[s58]at this;exact this.fc
       have q8:kT.heap[b8]?=some (.cells #[.int .i64 (xn:Nat)] EH (0,0)):=(O0.block b8 X8).trans q8;have st:=st.grow O0;show Code.wpIn _ _ _ _ _ ym kT;refine wpIn_cond (t:=!fI s (now.length-1) dn xn true) e58 ?_
       cases gx:fI s (now.length-1) dn xn true with
       |false=>
        simp only[Bool.not_false,if_true];exact wpIn_exit (.inr ⟨rfl,fa,Hr (by rw[TC];exact gx) st⟩)
       |true=>
        simp only[Bool.not_true,Bool.false_eq_true,if_false];exact wpIn_skip (.inl ⟨rfl,fa,e8,q8,⟨_,_,st⟩,by rw[TC];exact gx⟩)
     .rintro e ym kT (⟨rfl,fa,e8,q8,⟨M,Pr,st⟩,bo⟩|⟨rfl,fa,hn⟩)
      case inr=>exact .inl ⟨.inr rfl,fa,hn⟩
      show Code.wpIn _ _ _ _ _ ym kT;have fr:=(lQ fa).2.2;obtain⟨v,ty,j2,hN,PX,cC,sW,Fa⟩:=st.now;obtain⟨i3,tC,nV⟩:=iZ 3 1;obtain⟨i28,ND,Pw⟩:=iZ 28 1;obtain⟨d3,AY,SH⟩:=vZ 3;have WT:(ints now).length=now.length:=br now
      have cN:kT.cell? ⟨Y.bN,0,none⟩=some v:=by simp[World.cell?,hN]
      have c8:kT.cell? ⟨b8,0,none⟩=some (.int .i64 (xn:Nat)):=by simp[World.cell?,q8]
      refine wpIn_seq (wpIn_region ?_);show wpOpsIn _ _ _ _ _ [0,1,2,3,4] ym kT;refine EO (i:=0) (j:=1) (d:=59) (e:=60) rfl rfl rfl rfl rfl rfl rfl rfl (by decide) (gY (t:=28) (x:=.tmp 0) (v:=v) rfl fr.t0 Jz Cy cN) (gY (t:=3) (x:=.tmp 8) (v:=.int .i64 (xn:Nat)) rfl ((df _ _ _ _ (by decide)).trans e8) AY SH c8) (gY (t:=28) (x:=.tmp 0) (v:=v) rfl ((df _ _ _ _ (by decide)).trans fr.t0) Jz Cy cN) ?_;have KS:=wj (c:=.int .i64 (xn:Nat)) fr (d:=60) (by decide);have fap:FA i (ym.put (some 60) (.int .i64 (xn:Nat))):=uh fa KS.size KS.defers (W:=ld) (λt ht=>df _ _ _ _ (by rintro rfl;simp[ld]at ht)) (λt h _ _ _=>by simp[ld];omega);have p60:(ym.put (some 60) (.int .i64 (xn:Nat))).tmps.getD 60 undef=.int .i64 (xn:Nat):=gq _ _ _ fr.size (by decide)
      refine EB (n:=70) (l2:=[0,2,3,4]) (lS:=[_,_,_,_]) rfl (by kernel_rfl) (al:=(wO.qa.dl).take 1++(wO.qa.dl).drop 2) (by kernel_rfl) (by kernel_rfl) (W:=ld) (by kernel_rfl) (λ_ _=>False)
       (λt=>if t=0 then .box 0 0 else if t=60 then .int .i64 (xn:Nat)else .bj) (nm:=0) (tp:=0) (es:=ints now) (es':=ints (now++[(xn:Int)])) (by decide) rfl KS.t0 KS.size KS.defers hN tC (by rw[nV,WT];exact cC) (by rw[nV];exact sW.mono (aE.same λ_ _ _ h=>h.elim)) ?_ ?_ ?_ ?_ ?_
      .intro t ht
       by_cases t0:t=0
       .subst t0;rw[if_pos rfl];exact⟨rfl,.inl ⟨rfl,KS.t0⟩⟩
       rw[if_neg t0]
       by_cases t60:t=60
       .subst t60;rw[if_pos rfl,p60];exact⟨rfl,.inr (.data _ _ (.int _ _))⟩
       rw[if_neg t60];exact⟨rfl,.inr (.bj _)⟩
      .have j1:now.length+1<1048576:=by omega
       cases yP:v.ownBlock with
       |none=>
        have he:now=[]:=by
         rcases cC.2 with⟨_,h⟩|⟨gg,cap,cur,rfl,_⟩
         .exact List.eq_nil_of_length_eq_zero h
         .cases yP
        subst he;simp[c142,wO,lD,lC,ae.qa,ae.qb,ae.dl,aV,an,aI,aq,aB.S,aB.H,ev,au,aH,aP,AV.aw,AV.vw,AV.cells,AV.storable,AV.bV,kq,yP,HR.okB,aY,ints,aC,aQ,AV.bb]
       |some bv=>
        simp[c142,wO,lD,lC,ae.qa,ae.qb,ae.dl,aV,an,aI,aq,aB.S,aB.H,ev,au,aH,aP,AV.aw,AV.vw,AV.cells,AV.storable,AV.bV,kq,yP,HR.okB,aY,ints,aC,aQ,AV.bb,j1]
      .intro y hy;obtain⟨z,_,rfl⟩:=List.mem_map.1 hy;exact⟨nV.symm,rfl,λc hc=>by simp[AV.cells]at hc;subst hc;rfl⟩
      .intro y hy c hc;obtain⟨z,_,rfl⟩:=List.mem_map.1 hy;simp[AV.cells]at hc;subst hc;rfl
      intro a2 Jh v' rv Xt xc tm jh Mw qx zz fD fK;have X6:=uh fap xc tm jh (λt h _ _ _=>by simp[ld];omega)
      have A2:∀b,(b=Y.bN\/v.ownBlock=some b)->M b/\¬Y.MI b/\b≠Y.bM:=by
       rintro b (rfl|hb)
       .exact⟨PX,λh=>(st.mi _ h).2.1 rfl,Ne.symm Y.ne⟩
       .exact Fa b hb
      have pT:aE Pr Pr kT Jh:=aE.jj λb k ao hp=>fD.block b ao λhm=>C.apart st.j b k (A2 b hm).1 hp
      have BH:∀b,Y.MI b->Jh.heap[b]?=kT.heap[b]?:=λb h=>fD.block b (st.lt b (st.mi b h).1) λhm=>(A2 b hm).2.1 h
      have TM:Jh.heap[Y.bM]?=kT.heap[Y.bM]?:=fD.block _ (st.lt _ st.mp.1) λhm=>(A2 _ hm).2.2 rfl
      have PG:(ints (now++[(xn:Int)])).length=(now++[(xn:Int)]).length:=br _
      have LP:jv Y k' (λb=>M b\/(kT.heap.size<=b/\b<Jh.heap.size)) Pr (now++[(xn:Int)]) Jh:=by
       refine⟨C.fQ st.j (M':=λb=>M b\/(kT.heap.size<=b/\b<Jh.heap.size)) ⟨fD.os,fD.tape,fD.output,fD.size,λb hb hm=>fD.block b hb λh=>hm (A2 b h).1⟩ λb hb=>?_,λb hb=>?_,λb h=>⟨.inl (st.mi b h).1,(st.mi b h).2.1,(st.mi b h).2.2.1,(BH b h).trans (st.mi b h).2.2.2⟩,⟨v',rv,Xt,Mw,.inl PX,?_,?_,λb hb=>?_⟩,wu st.x pT,.inl st.mp.1,by rw[TM];exact st.mp.2⟩
       .rcases hb with hb|hb
        .exact⟨Nat.lt_of_lt_of_le (st.lt b hb) fD.size,.inl hb⟩
        .exact⟨hb.2,.inr hb.1⟩
       .rcases hb with hb|hb
        .exact Nat.lt_of_lt_of_le (st.lt b hb) fD.size
        .exact hb.2
       .rw[nV,PG]at qx;exact qx
       .rw[nV]at zz;exact zz
       .rcases fK b hb with h|h
        .exact⟨.inl (Fa b h).1,(Fa b h).2⟩
        .refine⟨.inr ⟨h,(qx.lt b hb).2⟩,λhm=>?_,?_⟩
         .have:=st.lt b (st.mi b hm).1;omega
         .rintro rfl;have:=st.lt _ st.mp.1;omega
      clear A2 pT BH TM fK qx zz Mw fD cC sW hN cN c8 Fa;show Code.wpIn _ _ _ _ _ a2 Jh;have EZ:=(lQ X6).2.2;refine wpIn_seq (wpIn_seq ?_);refine rp eK (p:=1) (l2:=[1,2]) rfl (by kernel_rfl) (by kernel_rfl) (l:=(wO.qb.qa.qa.dl).take 1) (by kernel_rfl) (by decide) (W:=ld) (by kernel_rfl) trivial (λb _=>b≠Y.bM) (eJ Y (now++[(xn:Int)]) λ_=>.bj) EZ.size EZ.defers (LP.gO EZ λ_ _ _=>⟨rfl,.bj _⟩) (K:=λS _=>S 63=.val Y.fv) ?_ ?_
      .simp[c142,wO,lD,lC,ae.qa,ae.qb,ae.dl,aV,an,aI,aq,aB.S,aB.H,ev,au,aH,eJ,aP,AV.aw]
      rintro g S' H' a3 w3x hg R1 wK oa;have MU:=uh X6 R1.size (by rw[R1.defers,hg]<;>rfl) oa (λt h _ _ _=>by simp[ld];omega);have Da:=LP.grow (by have:=R1.below;rwa [R1.base]at this);have Rj:=R1.slot 63 (by decide) id;rw[wK]at Rj;have Rj:=Rj.jf;clear R1 hg oa wK;have AS:ns s r now xn=true:=bo;rw[bo]at iY na;simp only[if_true]at iY na;rw[List.map_append,List.append_assoc]at iY
      have ky:=ih r (Nat.lt_succ_self r) Y (now++[(xn:Int)]) k' _ Pr w3x _ (by simp;omega) (λy hy=>by
       rcases List.mem_append.1 hy with h|h
       .exact hnw y h
       .rw[List.mem_singleton]at h;rw[h];exact HA) Da iY
      refine gm rfl rfl (by rfl) (pk (f:=.tmp 63) w3x rfl rfl rfl Rj (by kernel_rfl)) ky ?_;rintro e mS ⟨M4,sT,kS⟩
      obtain⟨b,rfl⟩:∃b:Bool,e=.returned (.bool b):=by rcases kS with⟨rfl,_⟩|⟨rfl,_⟩<;>exact⟨_,rfl⟩
      refine⟨_,rfl,?_⟩;have h64:(a3.put (some 64) (.bool b)).tmps.getD 64 undef=.bool b:=gq _ _ _ (lQ MU).1 (by decide);refine aT rfl rfl (by rfl) (v:=.bool !b) (w':=mS) (pL (x:=.tmp 64) mS rfl h64) ?_;show Code.wpIn _ _ _ _ _ ((a3.put (some 64) (.bool b)).put (some 65) (.bool !b)) mS
      obtain⟨AW,jG⟩:∃AW,(a3.put (some 64) (.bool b)).put (some 65) (.bool !b)=AW:=⟨_,rfl⟩
      have wg:dV ld a3 AW:=λt ht=>by
       have:t<28:=by simp[ld]at ht;omega
       rw[<-jG,df _ _ _ _ (by omega),df _ _ _ _ (by omega)]
      have LH:=uh MU (by rw[<-jG,gE,gE];exact(lQ MU).1) (by rw[<-jG];exact(lQ MU).2.1) wg (λt h _ _ _=>by simp[ld];omega)
      have h65:AW.tmps.getD 65 undef=.bool !b:=by rw[<-jG];exact gq _ _ _ (by rw[gE];exact(lQ MU).1) (by decide)
      rw[jG];refine wpIn_cond (t:=!b) h65 ?_
      cases b with
      |false=>
       have hX:C.X M4 sT mS:=by
        rcases kS with⟨h,_⟩|⟨_,h⟩
        .cases h
        .exact h
       simp only[Bool.not_false,if_true];refine wpIn_seq (wpIn_region ?_);show wpOpsIn _ _ _ _ _ [0] AW mS;refine aT rfl rfl (by rfl) (v:=.bool false) (w':=mS) (run_assign (x:=.const (.bool false)) mS rfl) ?_;show Code.wpIn _ _ _ _ _ (AW.put (some 5) (.bool false)) mS;refine wpIn_ret (.inr ⟨rfl,Oq (lQ LH).2.1 (gq _ _ _ (lQ LH).1 (by decide)) ?_⟩);rw[<-hc];exact⟨M4,sT,.inr ⟨rfl,hX⟩⟩
      |true=>
       have my:jv Y (k'+(kl s r (now++[(xn:Int)])).length) M4 sT (now++[(xn:Int)]) mS:=by
        rcases kS with⟨_,h⟩|⟨h,_⟩
        .exact h
        .cases h
       simp only[Bool.not_true,Bool.false_eq_true,if_false];refine wpIn_skip ?_;show Code.wpIn _ _ _ _ _ AW mS;obtain⟨v4,Lq,CT,KN,zv,zN,NS,N6⟩:=my.now
       have E_:CT.length=(now.length+1)*1:=by have:=zN.1;simpa using this
       have RC:mS.ownsRow (Y.bN+1) 3 1 v4 (now.length+1) (CT.take now.length++CT.drop now.length):=by rw[List.take_append_drop];simpa using zN
       obtain⟨yE,rX,rfl,Wa,J'⟩:=F1 (P:=prog) RC (by rw[List.length_take,E_];omega);have zb:=(lQ LH).2.2
       have cN4:mS.cell? ⟨Y.bN,0,none⟩=some (.slice (some ⟨yE,0,none⟩) (now.length+1) rX):=by simp[World.cell?,KN]
       have c64:mS.cell? ⟨b6,0,none⟩=some (.int .i64 (now.length:Nat)):=by simp[World.cell?,c6 my]
       have e6:AW.tmps.getD 6 undef=.pointer (some ⟨b6,0,none⟩):=by rw[FK]at LH;exact LH.2.1
       refine wpIn_region ?_;show wpOpsIn _ _ _ _ _ [0,1,2,3] AW mS;refine aT rfl rfl (by rfl) (gY (t:=28) (x:=.tmp 0) rfl zb.t0 Jz Cy cN4) ?_;show wpOpsIn _ _ _ _ _ [1,2,3] (AW.put (some 66) (.slice (some ⟨yE,0,none⟩) (now.length+1) rX)) mS;refine j7 (λa=>FA i a/\a.tmps.getD 66 undef=.slice (some ⟨yE,0,none⟩) (now.length+1) rX) ⟨uh LH (by rw[gE];exact zb.size) zb.defers (W:=ld) (λt ht=>df _ _ _ _ (by rintro rfl;simp[ld]at ht)) (λt h _ _ _=>by simp[ld];omega),gq _ _ _ zb.size (by decide)⟩ ?_;rintro YB ⟨Bw,HG⟩
       have e6:YB.tmps.getD 6 undef=.pointer (some ⟨b6,0,none⟩):=by rw[FK]at Bw;exact Bw.2.1
       refine aT rfl rfl (by rfl) (gY (t:=3) (x:=.tmp 6) rfl e6 AY SH c64) ?_;show wpOpsIn _ _ _ _ _ [2,3] (YB.put (some 67) (.int .i64 (now.length:Nat))) mS;refine j7 (λa=>FA i a/\a.tmps.getD 66 undef=.slice (some ⟨yE,0,none⟩) (now.length+1) rX/\a.tmps.getD 67 undef=.int .i64 (now.length:Nat)) ⟨uh Bw (by rw[gE];exact(lQ Bw).1) (lQ Bw).2.1 (W:=ld) (λt ht=>df _ _ _ _ (by rintro rfl;simp[ld]at ht)) (λt h _ _ _=>by simp[ld];omega),(df _ _ _ _ (by decide)).trans HG,gq _ _ _ (lQ Bw).1 (by decide)⟩ ?_;rintro a6x ⟨J9,HG,Vy⟩;refine aT rfl rfl (by rfl) (wY (t:=28) (x:=.tmp 66) (y:=.tmp 67) rfl B9 tC HG Vy Wa) ?_;show wpOpsIn _ _ _ _ _ [3] (a6x.put (some 68) (.slice (some ⟨yE,0,none⟩) now.length rX)) mS;refine j7 (λa=>FA i a/\a.tmps.getD 68 undef=.slice (some ⟨yE,0,none⟩) now.length rX) ⟨uh J9 (by rw[gE];exact(lQ J9).1) (lQ J9).2.1 (W:=ld) (λt ht=>df _ _ _ _ (by rintro rfl;simp[ld]at ht)) (λt h _ _ _=>by simp[ld];omega),gq _ _ _ (lQ J9).1 (by decide)⟩ ?_;rintro a7x ⟨SR,e68⟩;refine eC rfl rfl (by rfl) (iO (t:=28) (x:=.tmp 0) (y:=.tmp 68) rfl (lQ SR).2.2.t0 ND Pw KN e68 rfl) ?_;show((Exit.normal=.normal\/Exit.normal=.exit 1)/\FA i a7x/\NX (mS.setRow Y.bN #[.slice (some ⟨yE,0,none⟩) now.length rX]))\/_;refine .inl ⟨.inl rfl,SR,?_⟩
       have lU:∀b,b≠Y.bN->(mS.setRow Y.bN #[.slice (some ⟨yE,0,none⟩) now.length rX]).heap[b]?=mS.heap[b]?:=λb hb=>setRow_other mS Y.bN b _ hb
       have q_:(mS.setRow Y.bN #[.slice (some ⟨yE,0,none⟩) now.length rX]).heap.size=mS.heap.size:=by simp
       have KC:aE sT sT mS (mS.setRow Y.bN #[.slice (some ⟨yE,0,none⟩) now.length rX]):=aE.jj λb k _ hp=>lU b (by rintro rfl;exact C.apart my.j _ k zv hp)
       have Yj:jv Y (k'+(kl s r (now++[(xn:Int)])).length) M4 sT now (mS.setRow Y.bN #[.slice (some ⟨yE,0,none⟩) now.length rX]):=by
        refine⟨C.fQ my.j ⟨rfl,rfl,rfl,by rw[q_];exact Nat.le_refl _,λb _ hm=>lU b (by rintro rfl;exact hm zv)⟩ λb hb=>⟨by rw[q_];exact my.lt b hb,.inl hb⟩,λb hb=>by rw[q_];exact my.lt b hb,λb h=>⟨(my.mi b h).1,(my.mi b h).2.1,(my.mi b h).2.2.1,(lU b (my.mi b h).2.1).trans (my.mi b h).2.2.2⟩,
         ⟨_,Lq,CT.take now.length,setRow_heap mS Y.bN _ _ Lq (0,0) KN,zv,?_,?_,λb hb=>N6 b hb⟩,wu my.x KC,my.mp.1,by rw[lU _ Y.ne];exact my.mp.2⟩
        .refine⟨J'.1,?_⟩
         rcases J'.2 with h|⟨gg,cap,cur,hv,l5,N2,rest⟩
         .exact .inl h
         .exact .inr ⟨gg,cap,cur,hv,l5,(lU gg (by omega)).trans N2,rest⟩
        .refine⟨λy hy=>by obtain⟨z,_,rfl⟩:=List.mem_map.1 hy;exact⟨rfl,rfl,λc hc=>by simp[AV.cells]at hc;subst hc;rfl⟩,λj hj k hk=>?_⟩
         have UK:j<now.length:=by simpa[ints]using hj
         have dJ:j<(ints (now++[(xn:Int)])).length:=by simp[ints];omega
         have j6:(ints (now++[(xn:Int)]))[j]=(ints now)[j]:=by
          simp only[ints,List.map_append,List.map_cons,List.map_nil];exact List.getElem_append_left (by simpa using UK)
         obtain⟨u,u1,u2⟩:=NS.2 j dJ k (by rw[j6];exact hk);refine⟨u,?_,?_⟩
         .have pT:k < 1:=by
           simpa[ints,AV.cells]using hk
          rw[List.getElem?_take_of_lt (by omega)];exact u1
         .simp only[j6]at u2;exact u2.mono (aE.of_eq λ_ _ h=>h.elim)
       rw[Uw,KR];refine⟨_,_,_,Yj,?_,?_⟩
       .rw[<-List.drop_drop,iY];simp
       .rw[List.length_append]at na;omega
   .have hw:IntKind.i64.wrap ((i:Int)+1)=i+1:=bl (by omega);rintro e a2 Uz (⟨he,fa,hn⟩|⟨rfl,hr⟩)
    case inr=>exact hr
    rw[Uw,KR]at hn;obtain⟨k2,M2,Yd,st,kX,ig⟩:=hn;rcases he with rfl|rfl
    all_goals
     show Code.wpIn _ _ _ _ _ a2 Uz;refine cQ eK bL (ac:=ae.qb lC.qb.qb) (W:=λt=>t==27||t==69) (by kernel_rfl) (by kernel_rfl) (by kernel_rfl) trivial (λb _=>b≠Y.bM) (eJ Y now (so s.work.length i now.length s.work .bj)) (lQ fa).1 (lQ fa).2.1 (QK fa st (j8 _ _)) (K:=λS _=>S 27=.int .i64 ((i+1:Nat):Int)) ?_ ?_
     .simp[c142,lC,ae.qa,ae.qb,eJ,so,hw,dS,eF,dR,cW,dT,cV,cZ,ck,cg,dQ,cd,bP,fB,fC,an,aq,ev,aB.S,aB.H,aY,au,aH,AL.start,AV.aw,AV.cells,AV.storable,AV.bb,aQ,aZ,dO,aP,HR.okB,post,cU,cL,cI,AV.out,AV.bu,br,bU,fz,fG,AV.vw,AV.bV,bR,vI,int,bI,az,ct,cb,gB,il,dM,cD,aR]
     intro g S' H' M0 w16 hg R1 wL bh;have TQ:M0.tmps.getD 27 undef=.int .i64 ((i+1:Nat):Int):=iK R1 (by decide) wL;have st:=st.grow (by have:=R1.below;rwa [R1.base]at this)
     have fa':FA (i+1) M0:=by
      have hd:M0.defers=[]:=by rw[R1.defers,hg]<;>rfl
      have hz:=R1.size;rw[FK]at fa⊢;obtain⟨fr,f6,f25,f26,f27⟩:=fa;exact⟨fr.step hz hd λt ht=>bh t (by simp;omega),(bh 6 rfl).trans f6,(bh 25 rfl).trans f25,(bh 26 rfl).trans f26,TQ⟩
     refine⟨⟨i+1,k2,fa',by omega,by rw[KR];exact⟨M2,Yd,st,kX,ig⟩⟩,?_⟩;simp only[TQ,Gb];simp;omega
end Go.Proofs.Tryz
namespace Go.Proofs.Tryz
open Go Go.AL Go.RowKit Go.Proofs Go.Proofs.Tram
def Kr{P:Program}{a:Act}{o:Oper}{t:TypeId}{x:Operand}{v:Value}(w:World)(ho:o.op=.box t x)(hx:a.eval x=v):(execOp a.eval o).run P w=.ok (.value (.pointer (some ⟨w.heap.size,0,none⟩))) (w.alloc (.cells v.cells t)):=by
 unfold execOp;simp[ho,hx,Instr.box,newVar,newRow]
def Ky{Pr:Nat->Nat->Prop}{w:World}{s:bG}{c:Value}(h:RV Pr bO w (.ref (cm s)) c):∃(bX oX:Nat)(fx:Nat->Value),c=.pointer (some ⟨bX,oX,none⟩)/\∀j (h:j<5),Pr bX (oX+j)/\w.cell? ⟨bX,oX+j,none⟩=some (fx j)/\RD Pr w ((cm s)[j]'(by simpa[cm,cq]using h)) (fx j):=by
 cases h with
 |data _ _ h=>
  cases h with
  |ref cs b off f h1 h2 h3=>exact⟨b,off,f,rfl,λj hj=>⟨(h2 j (by simpa[cm,cq]using hj)).1,(h2 j (by simpa[cm,cq]using hj)).2,h3 j (by simpa[cm,cq]using hj)⟩⟩
def WA (s:bG) (hl:s.ef.length≤1000) (hb:mu s) (yb:∀ x∈s.work,0≤x∧x < s.ef.length) (Dh:s.work.length≤1000) (jw:s.eE.length≤1000) :
  mN prog GT 141 [.ref (cm s)] ((kl s s.eE.length []).map vI):=by
 intro l C w Pr a_ hJ hlen hr;obtain⟨cX,rfl⟩:∃cX,a_=#[cX]:=j9 (by simpa using hlen.symm);have X1:=hr 0 (by simp) (by simp);simp only[List.getElem_cons_zero,List.getElem_toArray]at X1;obtain⟨bX,oX,fx,rfl,hx⟩:=Ky X1;refine(eA (ro:=none) (m:=0)).1 (callsIn_of_wp func141 rfl trivial ?_);refine iC (λa=>a.tmps.size=10/\a.defers=[]/\a.tmps.getD 0 undef=.func (.yield l) #[] #[]/\a.tmps.getD 1 undef=.pointer (some ⟨bX,oX,none⟩)) ⟨by simp[ntmps141],rfl,dP _ _ 0 (by simp),dP _ _ 1 (by simp)⟩ ?_;rintro a ⟨aL,c_,e0,e1⟩
 have df:∀(a:Act)(d t:Nat)(c:Value),t≠d->(a.put (some d) c).tmps.getD t undef=a.tmps.getD t undef:=λa d t c h=>by
  simp[Act.put,Array.getElem?_setIfInBounds_ne (Ne.symm h)]
 have gq:∀(a:Act)(d:Nat)(c:Value),a.tmps.size=10->d<10->(a.put (some d) c).tmps.getD d undef=c:=λa d c h hd=>by
  simp[Act.put,h,hd]
 have gE:∀(a:Act)(d:Option Nat)(c:Value),(a.put d c).tmps.size=a.tmps.size:=λa d c=>by cases d<;>simp[Act.put]
 obtain⟨b0,qW⟩:∃b0,w.heap.size=b0:=⟨_,rfl⟩
 have fK:∀(w:World)(o:Obj),(w.alloc o).heap[w.heap.size]?=some o:=λw o=>World.alloc_heap_new w o
 have hold:∀(w:World)(o:Obj)(k:Nat),k<w.heap.size->(w.alloc o).heap[k]?=w.heap[k]?:=λw o k hk=>Below.heap_alloc _ _ _ hk
 refine wpIn_seq (wpIn_region ?_);show wpOpsIn _ _ _ _ _ [0] a w;refine aT rfl rfl (by rfl) (Kr (t:=157) (x:=.tmp 0) w rfl e0) ?_
 obtain⟨w1,n_⟩:∃w1,w.alloc (.cells #[.func (.yield l) #[] #[]] 157)=w1:=⟨_,rfl⟩
 have s1:w1.heap.size=b0+1:=by rw[<-n_];simp[qW]
 have n1:w1.heap[b0]?=some (.cells #[.func (.yield l) #[] #[]] 157 (0,0)):=by rw[<-n_,<-qW];exact fK w _
 have o1:∀k,k<b0->w1.heap[k]?=w.heap[k]?:=λk hk=>by rw[<-n_];exact hold w _ k (by omega)
 show Code.wpIn _ _ _ _ _ (a.put (some 2) (.pointer (some ⟨w.heap.size,0,none⟩))) (w.alloc (.cells #[.func (.yield l) #[] #[]] 157));rw[n_,qW];refine iC (λa=>a.tmps.size=10/\a.defers=[]/\a.tmps.getD 1 undef=.pointer (some ⟨bX,oX,none⟩)/\a.tmps.getD 2 undef=.pointer (some ⟨b0,0,none⟩)) ⟨by rw[gE];exact aL,c_,(df _ _ _ _ (by decide)).trans e1,gq _ _ _ aL (by decide)⟩ ?_;clear e0 e1 c_ aL a;rintro a ⟨aL,c_,e1,e2⟩;refine wpIn_seq (wpIn_region ?_);show wpOpsIn _ _ _ _ _ [0,1,2] a w1;refine aT rfl rfl (by rfl) (run_makeMap (t:=232) rfl) ?_
 obtain⟨w2,oB⟩:∃w2,w1.alloc (.map #[] 0)=w2:=⟨_,rfl⟩
 have s2:w2.heap.size=b0+2:=by rw[<-oB];simp[s1]
 have n2:w2.heap[b0+1]?=some (.map #[] 0):=by rw[<-oB,<-s1];exact fK w1 _
 have o2:∀k,k<b0+1->w2.heap[k]?=w1.heap[k]?:=λk hk=>by rw[<-oB];exact hold w1 _ k (by omega)
 show wpOpsIn _ _ _ _ _ [1,2] (a.put (some 6) (.map (some w1.heap.size))) (w1.alloc (.map #[] 0));rw[oB,s1];refine j7 (λa=>a.tmps.size=10/\a.defers=[]/\a.tmps.getD 1 undef=.pointer (some ⟨bX,oX,none⟩)/\a.tmps.getD 2 undef=.pointer (some ⟨b0,0,none⟩)/\a.tmps.getD 6 undef=dN (b0+1)) ⟨by rw[gE];exact aL,c_,(df _ _ _ _ (by decide)).trans e1,(df _ _ _ _ (by decide)).trans e2,gq _ _ _ aL (by decide)⟩ ?_;clear e1 e2 c_ aL a;rintro a ⟨aL,c_,e1,e2,e6⟩;refine aT rfl rfl (by rfl) (jz (t:=232) (z:=.map none) rfl (by kernel_rfl)) ?_
 obtain⟨w3,pV⟩:∃w3,w2.alloc (.cells #[.map none] 232)=w3:=⟨_,rfl⟩
 have s3:w3.heap.size=b0+3:=by rw[<-pV];simp[s2]
 have n3:w3.heap[b0+2]?=some (.cells #[.map none] 232 (0,0)):=by rw[<-pV,<-s2];exact fK w2 _
 have o3:∀k,k<b0+2->w3.heap[k]?=w2.heap[k]?:=λk hk=>by rw[<-pV];exact hold w2 _ k (by omega)
 show wpOpsIn _ _ _ _ _ [2] (a.put (some 3) (.pointer (some ⟨w2.heap.size,0,none⟩))) (w2.alloc (.cells #[.map none] 232));rw[pV,s2];refine j7 (λa=>a.tmps.size=10/\a.defers=[]/\a.tmps.getD 1 undef=.pointer (some ⟨bX,oX,none⟩)/\a.tmps.getD 2 undef=.pointer (some ⟨b0,0,none⟩)/\a.tmps.getD 6 undef=dN (b0+1)/\a.tmps.getD 3 undef=.pointer (some ⟨b0+2,0,none⟩)) ⟨by rw[gE];exact aL,c_,(df _ _ _ _ (by decide)).trans e1,(df _ _ _ _ (by decide)).trans e2,(df _ _ _ _ (by decide)).trans e6,gq _ _ _ aL (by decide)⟩ ?_;clear e1 e2 e6 c_ aL a;rintro a ⟨aL,c_,e1,e2,e6,e3⟩;obtain⟨i232,Vs,Vo⟩:=iZ 232 1;refine eC rfl rfl (by rfl) (iO (t:=232) (x:=.tmp 3) (y:=.tmp 6) rfl e3 Vs Vo n3 e6 rfl) ?_
 obtain⟨w4,kI⟩:∃w4,w3.setRow (b0+2) #[dN (b0+1)]=w4:=⟨_,rfl⟩
 have s4:w4.heap.size=b0+3:=by rw[<-kI];simpa using s3
 have n4:w4.heap[b0+2]?=some (.cells #[dN (b0+1)] 232 (0,0)):=by rw[<-kI];exact setRow_heap w3 _ _ _ _ _ n3
 have o4:∀k,k≠b0+2->w4.heap[k]?=w3.heap[k]?:=λk hk=>by rw[<-kI];exact setRow_other w3 _ _ _ hk
 show Code.wpIn _ _ _ _ _ a (w3.setRow (b0+2) #[dN (b0+1)]);rw[kI];refine wpIn_seq (wpIn_region ?_);show wpOpsIn _ _ _ _ _ [0] a w4;refine aT rfl rfl (by rfl) (jz (t:=28) (z:=.slice none 0 0) rfl (by kernel_rfl)) ?_
 obtain⟨w5,tB⟩:∃w5,w4.alloc (.cells #[.slice none 0 0] 28)=w5:=⟨_,rfl⟩
 have s5:w5.heap.size=b0+4:=by rw[<-tB];simp[s4]
 have n5:w5.heap[b0+3]?=some (.cells #[.slice none 0 0] 28 (0,0)):=by rw[<-tB,<-s4];exact fK w4 _
 have o5:∀k,k<b0+3->w5.heap[k]?=w4.heap[k]?:=λk hk=>by rw[<-tB];exact hold w4 _ k (by omega)
 show Code.wpIn _ _ _ _ _ (a.put (some 4) (.pointer (some ⟨w4.heap.size,0,none⟩))) (w4.alloc (.cells #[.slice none 0 0] 28));rw[tB,s4];refine iC (λa=>a.tmps.size=10/\a.defers=[]/\a.tmps.getD 1 undef=.pointer (some ⟨bX,oX,none⟩)/\a.tmps.getD 2 undef=.pointer (some ⟨b0,0,none⟩)/\a.tmps.getD 3 undef=.pointer (some ⟨b0+2,0,none⟩)/\a.tmps.getD 4 undef=.pointer (some ⟨b0+3,0,none⟩)) ⟨by rw[gE];exact aL,c_,(df _ _ _ _ (by decide)).trans e1,(df _ _ _ _ (by decide)).trans e2,(df _ _ _ _ (by decide)).trans e3,gq _ _ _ aL (by decide)⟩ ?_;clear e1 e2 e3 e6 c_ aL a;rintro a ⟨aL,c_,e1,e2,e3,e4⟩;refine wpIn_seq (wpIn_region ?_);show wpOpsIn _ _ _ _ _ [0] a w5;refine aT rfl rfl (by rfl) (jz (t:=24) (z:=.nilFunc) rfl (by kernel_rfl)) ?_
 obtain⟨w6,Bf⟩:∃w6,w5.alloc (.cells #[.nilFunc] 24)=w6:=⟨_,rfl⟩
 have s6:w6.heap.size=b0+5:=by rw[<-Bf];simp[s5]
 have n6:w6.heap[b0+4]?=some (.cells #[.nilFunc] 24 (0,0)):=by rw[<-Bf,<-s5];exact fK w5 _
 have o6:∀k,k<b0+4->w6.heap[k]?=w5.heap[k]?:=λk hk=>by rw[<-Bf];exact hold w5 _ k (by omega)
 show Code.wpIn _ _ _ _ _ (a.put (some 5) (.pointer (some ⟨w5.heap.size,0,none⟩))) (w5.alloc (.cells #[.nilFunc] 24));rw[Bf,s5];refine iC (λa=>a.tmps.size=10/\a.defers=[]/\a.tmps.getD 1 undef=.pointer (some ⟨bX,oX,none⟩)/\a.tmps.getD 2 undef=.pointer (some ⟨b0,0,none⟩)/\a.tmps.getD 3 undef=.pointer (some ⟨b0+2,0,none⟩)/\a.tmps.getD 4 undef=.pointer (some ⟨b0+3,0,none⟩)/\a.tmps.getD 5 undef=.pointer (some ⟨b0+4,0,none⟩)) ⟨by rw[gE];exact aL,c_,(df _ _ _ _ (by decide)).trans e1,(df _ _ _ _ (by decide)).trans e2,(df _ _ _ _ (by decide)).trans e3,(df _ _ _ _ (by decide)).trans e4,gq _ _ _ aL (by decide)⟩ ?_;clear e1 e2 e3 e4 c_ aL a;rintro a ⟨aL,c_,e1,e2,e3,e4,e5⟩;refine wpIn_seq (wpIn_region ?_);show wpOpsIn _ _ _ _ _ [0,1] a w6;refine aT rfl rfl (by rfl) (pO (fn:=.func 142) (c:=#[.tmp 4,.tmp 1,.tmp 2,.tmp 3,.tmp 5]) rfl) ?_
 have eu:(#[Operand.tmp 4,.tmp 1,.tmp 2,.tmp 3,.tmp 5].map a.eval)=#[.pointer (some ⟨b0+3,0,none⟩),.pointer (some ⟨bX,oX,none⟩),.pointer (some ⟨b0,0,none⟩),.pointer (some ⟨b0+2,0,none⟩),.pointer (some ⟨b0+4,0,none⟩)]:=by
  simp only[List.map_toArray,List.map_cons,List.map_nil,Act.eval];rw[e1,e2,e3,e4,e5]
 rw[eu]
 obtain⟨fv,pW⟩:∃fv:Value,fv=.func (.func 142) #[] #[.pointer (some ⟨b0+3,0,none⟩),.pointer (some ⟨bX,oX,none⟩),.pointer (some ⟨b0,0,none⟩),.pointer (some ⟨b0+2,0,none⟩),.pointer (some ⟨b0+4,0,none⟩)]:=⟨_,rfl⟩
 rw[<-pW];show wpOpsIn _ _ _ _ _ [1] (a.put (some 7) fv) w6;refine j7 (λa=>a.tmps.size=10/\a.defers=[]/\a.tmps.getD 5 undef=.pointer (some ⟨b0+4,0,none⟩)/\a.tmps.getD 7 undef=fv) ⟨by rw[gE];exact aL,c_,(df _ _ _ _ (by decide)).trans e5,gq _ _ _ aL (by decide)⟩ ?_;clear eu e1 e2 e3 e4 e5 c_ aL a;rintro a ⟨aL,c_,e5,e7⟩;obtain⟨i24,YC,ZL⟩:=iZ 24 1;refine eC rfl rfl (by rfl) (iO (t:=24) (x:=.tmp 5) (y:=.tmp 7) rfl e5 YC ZL n6 e7 (by rw[pW]<;>rfl)) ?_
 obtain⟨w7,Hb⟩:∃w7,w6.setRow (b0+4) #[fv]=w7:=⟨_,rfl⟩
 have s7:w7.heap.size=b0+5:=by rw[<-Hb];simpa using s6
 have n7:w7.heap[b0+4]?=some (.cells #[fv] 24 (0,0)):=by rw[<-Hb];exact setRow_heap w6 _ _ _ _ _ n6
 have o7:∀k,k≠b0+4->w7.heap[k]?=w6.heap[k]?:=λk hk=>by rw[<-Hb];exact setRow_other w6 _ _ _ hk
 show Code.wpIn _ _ _ _ _ a (w6.setRow (b0+4) #[fv]);rw[Hb]
 have q0:w7.heap[b0]?=some (.cells #[.func (.yield l) #[] #[]] 157 (0,0)):=by rw[o7 _ (by omega),o6 _ (by omega),o5 _ (by omega),o4 _ (by omega),o3 _ (by omega),o2 _ (by omega)];exact n1
 have q1:w7.heap[b0+1]?=some (.map #[] 0):=by rw[o7 _ (by omega),o6 _ (by omega),o5 _ (by omega),o4 _ (by omega),o3 _ (by omega)];exact n2
 have q2:w7.heap[b0+2]?=some (.cells #[dN (b0+1)] 232 (0,0)):=by rw[o7 _ (by omega),o6 _ (by omega),o5 _ (by omega)];exact n4
 have q3:w7.heap[b0+3]?=some (.cells #[.slice none 0 0] 28 (0,0)):=by rw[o7 _ (by omega),o6 _ (by omega)];exact n5
 have ql:∀k,k<b0->w7.heap[k]?=w.heap[k]?:=λk hk=>by rw[o7 _ (by omega),o6 _ (by omega),o5 _ (by omega),o4 _ (by omega),o3 _ (by omega),o2 _ (by omega),o1 _ hk]
 have fD:dG (λ_=>False) w w7:=by
  refine⟨?_,?_,?_,by omega,λk hk _=>ql k (by omega)⟩
  .rw[<-Hb,<-Bf,<-tB,<-kI,<-pV,<-oB,<-n_]<;>rfl
  .rw[<-Hb,<-Bf,<-tB,<-kI,<-pV,<-oB,<-n_]<;>rfl
  .rw[<-Hb,<-Bf,<-tB,<-kI,<-pV,<-oB,<-n_]<;>rfl
 have wD:aE Pr Pr w w7:=aE.jj λb k hb _=>fD.block b hb (λh=>h)
 have O8:∀{b:Nat}{v:Value}{ty:TypeId}{MI:Nat->Prop},MI b->w7.heap[b]?=some (.cells #[v] ty (0,0))->v.oneCell'=true->RV (λb _=>MI b) bO w7 (.ref [.val v]) (.pointer (some ⟨b,0,none⟩)):=by
  intro b v ty MI hm hh h1;refine .data _ _ (.ref _ _ _ (λ_=>v) (λi hi=>?_) (λk hk=>⟨hm,?_⟩) (λk hk=>?_))
  .have:i=0:=by simpa using hi
   subst this;rfl
  .have:k=0:=by simpa using hk
   subst this;simp[World.cell?,hh]
  .have:k=0:=by simpa using hk
   subst this;exact .val _ h1
 let X:pv C s:={
  bN:=b0+3
  bM:=b0+1
  bX:=bX
  oX:=oX
  fx:=fx
  cY:=.pointer (some ⟨b0,0,none⟩)
  cP:=.pointer (some ⟨b0+2,0,none⟩)
  cR:=.pointer (some ⟨b0+4,0,none⟩)
  MI:=λb=>b=b0\/b=b0+2\/b=b0+4
  wI:=w7
  hY:=O8 (.inl rfl) q0 rfl
  hP:=O8 (.inr (.inl rfl)) q2 rfl
  hR:=by
   have:=O8 (MI:=λb=>b=b0\/b=b0+2\/b=b0+4) (.inr (.inr rfl)) n7 (by rw[pW]<;>rfl);rw[pW]at this;exact this
  ne:=by omega }
 have st:jv X 0 (λb=>b0<=b/\b<b0+5) Pr [] w7:=by
  refine⟨C.fQ hJ fD λb hb=>⟨by omega,.inr (by omega)⟩,λb hb=>by omega,λb hb=>?_,⟨.slice none 0 0,28,[],q3,⟨by show b0<=b0+3;omega,by show b0+3<b0+5;omega⟩,⟨rfl,.inl ⟨rfl,rfl⟩⟩,⟨λx hx=>(by cases hx),λj hj=>(by simp[ints]at hj)⟩,λb hb=>(by cases hb)⟩,wu (X:=X) hx wD,⟨by show b0<=b0+1;omega,by show b0+1<b0+5;omega⟩,#[],0,[],q1,⟨rfl,λi hi=>by simp at hi⟩,λx hx=>by cases hx⟩;have hb:b=b0\/b=b0+2\/b=b0+4:=hb;exact⟨by omega,by show b≠b0+3;omega,by show b≠b0+1;omega,rfl⟩
 have wN:=KT s hl hb yb Dh jw s.eE.length X [] 0 _ Pr w7 [] (by simp) (λx hx=>by cases hx) st (by simp);refine wpIn_region ?_;show wpOpsIn _ _ _ _ _ [0,1] a w7;obtain⟨d24,Zd,UO⟩:=vZ 24;refine aT rfl rfl (by rfl) (gY (t:=24) (x:=.tmp 5) (v:=fv) rfl e5 Zd UO (by simp[World.cell?,n7])) ?_;show wpOpsIn _ _ _ _ _ [1] (a.put (some 8) fv) w7;refine j7 (λa=>a.tmps.size=10/\a.defers=[]/\a.tmps.getD 8 undef=fv) ⟨by rw[gE];exact aL,c_,gq _ _ _ aL (by decide)⟩ ?_;rintro a ⟨aL,c_,e8⟩;refine gm rfl rfl (by rfl) (pk (f:=.tmp 8) (k:=142) (cap:=#[.pointer (some ⟨X.bN,0,none⟩),.pointer (some ⟨X.bX,X.oX,none⟩),X.cY,X.cP,X.cR]) w7 rfl rfl rfl (show a.tmps.getD 8 undef=_ from e8.trans pW) (by kernel_rfl)) wN ?_;rintro e w8 ⟨M',cS,kS⟩
 obtain⟨b,rfl,hv⟩:∃b:Bool,e=.returned (.bool b)/\(C.J ((kl s s.eE.length []).map vI).length M' cS w8\/C.X M' cS w8):=by
  rcases kS with⟨rfl,h⟩|⟨rfl,h⟩
  .refine⟨true,rfl,.inl ?_⟩;have:=h.j;simpa using this
  .exact⟨false,rfl,.inr h⟩
 refine⟨_,rfl,?_⟩;show bodyPost prog f141 _ .normal (a.put (some 9) (.bool b)) w8;refine⟨c_,.tuple #[],?_,.tuple #[],_,_,rfl,hv⟩;simp[results,results141]
def Ym(s:bG):AC prog GT 70 [fb s] (.ret (.func (.func 141) [] [.ref (cm s)])):=by
 refine AC.vQ eK bL func70 rfl ntmps70 (by simp) (ac:=c70) (by kernel_rfl) ?_;simp[c70,fb,cm,cq,vI,bq,aV,an,aI,aq,ct,ev,aB.S,aB.H,au,aH,AL.start,AV.aw,AV.cells,AV.storable,aZ,h_,aY];refine⟨2,.func 141,[],[.box 1 0],rfl,by decide,by simp[au],?_⟩;simp[au,fz,fG,AV.bV]
def Ee(l:List (List Int)):AV:=.slice (if l.isEmpty then .nil else .own 28) (l.map vI)
def ko(l:List (List Int)):AV:=.slice (if l.isEmpty then .nil else .view) (l.map vI)
def vp(s:bG):AV:=.func (.func 141) [] [.ref (cm s)]
def U2 (s:bG) {ps:List (List Int)} (hlen:ps.length≤1000000) (mh:mN prog GT 141 [.ref (cm s)] (ps.map vI)) :
  AC prog GT 140 [.slice .nil [],vp s] (.ret (ko ps)):=by
 refine AC.kP func140 rfl ntmps140 (by simp) λcc w=>?_
 refine eD eK c140.qa (λS' H'=>S' 1=vp s/\S' 2=.box 2 0/\H' 2=some [.slice .nil []]) ?_ ?_
 .simp[c140,vp,ae.qa,bq,aV,an,aI,aq,ev,aB.S,aB.H,au,aH,AL.start,AV.aw,AV.cells,AV.storable,aZ,h_,aY,vI,az]
 rintro S1 H1 ⟨s1,s2,h2⟩;refine SW.seq (eD eK c140.qb.qa.qa (λS' H'=>S' 2=.box 2 0/\S' 6=vp s/\H' 2=some [.slice .nil []]) ?_ ?_)
 .simp[c140,vp,ae.qa,ae.qb,bq,aV,an,aI,aq,ev,aB.S,aB.H,au,aH,s2,h2,az,AV.aw]
  rw[s1]<;>rfl
 rintro S3 H3 ⟨s2,s6,h2⟩
 refine SW.block (SW.range eK bL (Eg:=.tmp 6) (y:=.t 6) (p:=7) (f:=141) (caps:=[.ref (cm s)]) (xs:=ps.map vI) rfl s6 (by kernel_rfl) rfl mh (by decide) (λx hx=>by obtain⟨e,_,rfl⟩:=List.mem_map.1 hx;rfl)
  (λd=>d==99) (aa:=.ops [⟨(some 5),none,.mv true (.t 7)⟩]) (ab:=.block 1 (.ops [⟨(some 8),none,.loadT .any (.t 2)⟩,⟨(some 9),none,.mv false (.t 5)⟩,⟨(some 10),none,.buildSlice 82 28 1 [(.t 9)]⟩,⟨(some 11),none,.append 82 28 1 24 (.t 8) (.t 10)⟩,⟨none,none,.store .any 1 (.t 2) (.t 11)⟩]))
  (by kernel_rfl) (by kernel_rfl) (by simp[ae.names,bc.fP,eb.fP]) (by simp[ae.names,bc.fP,eb.fP]) (λ_ _ h=>h) (by kernel_rfl) (by kernel_rfl)
  (λk H'=>H' 2=some [Ee (ps.take k)]) (λ_ _=>False) h2 ?_ ?_ ?_)
 .rintro k hk H' h2
  have eG:k<ps.length:=by simpa using hk
  have sQ:(ps.map vI)[k]=vI ps[k]:=by simp
  have kW:ps.take (k+1)=ps.take k++[ps[k]]:=by rw[List.take_succ_eq_append_getElem eG]
  have En:lW (λd=>d==99) (S3 2)=.box 2 0:=by rw[s2]<;>rfl
  rw[sQ,kW]
  have hL:(List.take k ps).length<=1000000:=by simp;omega
  generalize List.take k ps=L at hL h2⊢
  cases L with
  |nil=>simp[bq,aV,an,aI,aq,ev,aB.S,aB.H,au,aH,az,En,h2,HR.okB,vI,AV.cells,AV.storable,AV.aw,aQ,AV.bb,aY,ct,cb,aP,jb,Ee,aC,AV.vw,AV.bV]
  |cons x L=>
   have j1:L.length+1+1<1048576:=by simp at hL;omega
   have bo:aC 1 (vI x::L.map vI)=true:=by simp[aC,vI,AV.storable,AV.cells]
   simp[bq,aV,an,aI,aq,ev,aB.S,aB.H,au,aH,az,En,h2,HR.okB,vI,AV.cells,AV.storable,AV.aw,aQ,AV.bb,aY,ct,cb,aP,jb,Ee,aC,AV.vw,AV.bV,j1]
 .rintro D H' hD h2;show SW prog GT 13 none (.seq _ .ret) _ _ _ _
  have En:lW (λd=>d==99) (S3 2)=.box 2 0:=by rw[s2]<;>rfl
  have kW:List.take (ps.map vI).length ps=ps:=List.take_of_length_le (by simp);rw[kW]at h2;refine eD eK c140.qb.qb.qa (λS' _=>S' 4=ko ps) ?_ ?_
  .cases ps<;>simp[c140,ae.qa,ae.qb,bq,aV,an,aI,aq,ev,aB.S,aB.H,au,aH,aP,En,h2,HR.okB,az,Ee,ko,AV.aw,aY]
  intro S4 H4 s4;refine SW.ret ⟨(fq.plain rfl).mark hD,rfl,_,?_,rfl⟩;show cU prog 13 [.tmp 4] S4 H4=_;simp[cU,cL,cI,s4,ko,AV.bu,AV.out]
 .exact λ_ _ _ _ _ h=>h.elim
def aas(s:bG){ps:List (List Int)}(hlen:ps.length<=1000000)(mh:mN prog GT 141 [.ref (cm s)] (ps.map vI)):AC prog GT 69 [vp s] (.ret (ko ps)):=by
 refine AC.kP func69 rfl ntmps69 (by simp) λcc w=>?_
 refine eD eK c69.qa (λS' H'=>S' 0=vp s) ?_ ?_
 .simp[c69,vp,ae.qa,bq,aV,an,aI,aq,ev,aB.S,aB.H,au,aH,AL.start,AV.aw,az,aY]
 intro S1 H1 s0
 refine SW.seq (SW.hand eK (p:=1) (lm:=[1]) (l2:=[2]) (mH:=[_]) (oh:=[_]) (lS:=[_]) rfl rfl rfl rfl (by kernel_rfl) (λ_ h=>h)
  (ua:=(c69.qb.qa.dl).take 1) (tH:=(c69.qb.qa.dl).drop 2) (by kernel_rfl) (by kernel_rfl) (by kernel_rfl) (by kernel_rfl)
  (K1:=λS _=>S 3=vp s) (K2:=λo S _=>o=Old.plain cc w/\S 4=ko ps) (K3:=λo S _=>o=Old.plain cc w/\S 2=ko ps) ?_ ?_ ?_ ?_)
 .simp[c69,ae.qa,ae.qb,ae.dl,aV,an,aI,aq,aB.S,aB.H,ev,au,aH]
  rw[s0]<;>rfl
 .rintro w0 g S2 H2 a w' m db ho R s3;have r3:=R.slot 3 (by decide) id;rw[s3]at r3
  refine gm rfl rfl (by rfl) (fJ (k:=140) (args:=#[.slice none 0 0,a.tmps.getD 3 undef]) w' rfl rfl ?_ (by kernel_rfl)) (U2 s hlen mh w' (kh g false) #[.slice none 0 0,a.tmps.getD 3 undef] trivial rfl (λi h h'=>by
   match i,h with
   |0,_=>exact .data _ _ (.fH _)
   |1,_=>exact(r3.bO rfl).mono (aE.same λb k _ hp=>.inl hp) λ_ _ h=>h)) ?_
  .simp only[List.map_toArray,List.map_cons,List.map_nil,Act.eval]
  rintro e w2 ⟨iw,hi,tw,c,rfl,Uq,cC⟩;refine⟨_,rfl,?_⟩;obtain⟨g',q1,q2,R'⟩:=R.call (some 4) (λt ht=>by cases ht;exact⟨by decide,id⟩) false iw tw Uq cC (λh=>by cases h);exact⟨g',_,_,R',q2.trans ho,aN _ _ _⟩
 .rintro o S2 H2 ⟨rfl,s4⟩;refine⟨λ_ h=>h,?_⟩
  cases ps<;>simp[c69,ae.qa,ae.qb,ae.dl,aV,an,aI,aq,aB.S,aB.H,ev,au,aH,s4,ko,aY]
 .rintro o S2 H2 ⟨rfl,s2⟩;refine SW.ret ⟨fq.plain rfl,rfl,_,?_,rfl⟩;show cU prog 5 [.tmp 2] S2 H2=_;simp[cU,cL,cI,s2,ko,AV.bu,AV.out]
structure Oa(s:bG):Prop where
 abB:1<=s.ef.length
 Mx:s.ef.length<=12
 abk:1<=s.eE.length
 RA:s.eE.length<=5
 ok:mu s
 work:∀x∈s.work,0<=x/\x<s.ef.length
 len:s.work.length<=12
def Hp{l:List Int}(h:sG l=true){n:Nat}(hb:∀x∈l,0<=x/\x<n):l.length<=n:=by
 rw[sq]at h
 have key:∀j,j<l.length->(j:Int)<=l.getD j 0:=by
  intro j
  induction j with
  |zero=>
   intro hj;have:=hb l[0] (List.getElem_mem hj);simp[List.getD_eq_getElem?_getD,hj];omega
  |succ j ih=>
   intro hj;have h1:=ih (by omega);have h2:=h j hj;omega
 rcases Nat.eq_zero_or_pos l.length with h0|h0
 .omega
 .have h1:=key (l.length-1) (by omega);have h2:=hb (l[l.length-1]'(by omega)) (List.getElem_mem _)
  have h3:l.getD (l.length-1) 0=l[l.length-1]'(by omega):=by
   simp[List.getD_eq_getElem?_getD,show l.length-1<l.length by omega]
  omega
def LN{s:bG}(h:oz s=true):Oa s:=by
 simp only[oz,Bool.and_eq_true,dD,decide_eq_true_eq,Bool.not_eq_true',List.any_eq_false,sB,Bool.not_eq_true,Bool.not_eq_false']at h;obtain⟨⟨⟨⟨⟨⟨d1,d2⟩,c1,c2⟩,hd⟩,hc⟩,hr⟩,hw⟩:=h
 have PN:∀x∈s.work,0<=x/\x<s.ef.length:=λx hx=>by
  have:=hw x hx;simp at this;omega
 refine⟨by omega,by omega,by omega,by omega,λx hx=>?_,PN,?_⟩
 .have:=hd x hx;simp[qo,dD]at this;omega
 .have:=Hp hr PN;omega
end Go.Proofs.Tryz
namespace Go.Proofs.Tryz
open Go Go.AL Go.RowKit Go.Proofs Go.Proofs.Tram
attribute [local simp] dS eF dR cW dT cV cZ ck cg dQ cd bP fB fC an aq ev aB.S aB.H aY au aH AL.start AV.cells AV.storable AV.bb aQ aZ aP HR.okB post cU cL cI AV.out AV.bu br bU fz fG AV.vw bR vI int bI az ct cb gB il dM cD aR AV.aw AV.bV dO
variable{GI:World->Prop}
def gA(g:Nat×Nat):AV:=.agg [.int .i64 g.1,.int .i64 g.2]
def aK(s:aD):List AV:=aA s++[bB s.dh]
def fX(s:aD):AV:=.agg (aK s)
def Ht(l:List (Nat×Nat))(cut:Bool):AV:=ot ⟨l.map gA,cut⟩
def Iw(s:aD)(g:Nat×Nat):Prop:=g.1<s.words.length/\g.2<fM s g.1
def I_(hG:av GI)(s:aD){g:Nat×Nat}(h:Iw s g):AC prog GI 163 [fX s,gA g] (.ret (.int .i64 (bH s g).2)):=by
 obtain⟨h1,h2⟩:=h;rw[oH h1]at h2
 have hr:(bH s g).2=s.words[g.1].bD[g.2]:=by unfold bH;simp[List.getElem?_eq_getElem h1,h2]
 rw[hr];refine dZ hG func163 ntmps163 c163 ?_;refine bw (λS H=>S 2=.box 2 0/\S 3=.box 3 0/\H 2=some (aK s)/\H 3=some [.int .i64 g.1,.int .i64 g.2]) (by simp[fX,aK,gA,aA,bB]) ?_;rintro S H ⟨s2,s3,e2,e3⟩;simp[s2,s3,e2,e3,aK,aA,bB,h1,h2,ez]
def DN(hG:av GI){lo hi st:Int}(h0:0<=lo)(h1:lo<=hi)(h2:hi<=20)(h3:0<=st)(h4:st<=10):AC prog GI 166 [.agg [.int .i64 lo,.int .i64 hi],.int .i64 st] (.ret (.int .i64 (gN lo hi st))):=by
 have G3:0<=(hi-lo)*st:=Int.mul_nonneg (by omega) h3;have hm1:(hi-lo)*st<=20*10:=Int.mul_le_mul (by omega) h4 h3 (by omega);have hb:=mc h1 h3 h4;unfold gN at hb;have w1:IntKind.i64.wrap (hi-lo)=hi-lo:=bl (by omega);have w2:IntKind.i64.wrap ((hi-lo)*st)=(hi-lo)*st:=bl (by omega);have w3:IntKind.i64.wrap (((hi-lo)*st).tdiv 10)=((hi-lo)*st).tdiv 10:=bl (by omega);have w4:IntKind.i64.wrap (lo+((hi-lo)*st).tdiv 10)=lo+((hi-lo)*st).tdiv 10:=bl (by omega);refine dZ hG func166 ntmps166 c166 ?_;simp[c166,w1,w2,w3,w4,gN]
def xb(x y:Int):∀(ps:List nK),ny [x,y] (ps.map qU) (ps.map nG)=some ((ps.find? λp=>p.l==x&&p.r==y).map nG)
 |[]=>rfl
 |p::ps=>by
  show ny [x,y] (qU p::ps.map qU) (nG p::ps.map nG)=_;unfold ny;simp only[qU,mU,Option.map_some];simp only[List.length_cons,List.length_nil,ne_eq,not_true_eq_false,if_false];rw[List.find?_cons]
  by_cases hp:p.l=x/\p.r=y
  .obtain⟨rfl,rfl⟩:=hp;simp
  .have h1:([x,y]==[p.l,p.r])=false:=by
    simp only[beq_eq_false_iff_ne,ne_eq,List.cons.injEq,and_true];rintro⟨rfl,rfl⟩;exact hp ⟨rfl,rfl⟩
   have h2:(p.l==x&&p.r==y)=false:=by
    rw[Bool.and_eq_false_iff];simp only[beq_eq_false_iff_ne]
    by_cases h:p.l=x
    .exact .inr λh'=>hp ⟨h,h'⟩
    .exact .inl h
   rw[h1,h2];exact xb x y ps
def Wp(hG:av GI)(s:aD)(hF:oe s){a b:Nat×Nat}(ha:Iw s a)(hb:Iw s b){st:Int}(h3:0<=st)(h4:st<=10):AC prog GI 165 [fX s,gA a,gA b,.int .i64 st] (.ret (.int .i64 (mg s st (bH s a) (bH s b)))):=by
 have uR:=th hF (bH s a) (bH s b);refine dZ hG func165 ntmps165 c165 ?_;refine bw (λS H=>S 4=.box 4 0/\S 5=.box 5 0/\S 6=.box 6 0/\S 3=.int .i64 st/\H 4=some (aK s)/\H 5=some [.int .i64 a.1,.int .i64 a.2]/\H 6=some [.int .i64 b.1,.int .i64 b.2]) (by simp[fX,aK,gA,aA,bB]) ?_;rintro S H ⟨s4,s5,s6,s3,e4,e5,e6⟩
 by_cases hw:a.1=b.1
 case neg=>
  have kR:gw s (bH s a) (bH s b)=(s.At,s.zH):=by
   unfold gw bH;rw[if_neg];simp only;omega
  have Oi:((a.1:Int)!=(b.1:Int))=true:=by simp;omega
  unfold mg;rw[kR]at uR⊢;simp[s4,s5,s6,s3,e4,e5,e6,aK,aA,bB,Oi];refine⟨_,by kernel_rfl,DN hG uR.1 uR.2.1 uR.2.2 h3 h4,λ_=>rfl,?_⟩;simp
 have nF:(bH s a).1=(bH s b).1:=by unfold bH;simp only;omega
 have Oi:((a.1:Int)!=(b.1:Int))=false:=by simp;omega
 simp[s4,s5,s6,s3,e4,e5,e6,aK,aA,bB,Oi];refine oc (I_ hG s ha) ?_;simp[s4,s5,s6,s3,e4,e5,e6,aK,aA,bB,Oi];refine oc (I_ hG s hb) ?_;simp[s4,s5,s6,s3,e4,e5,e6,aK,aA,bB,Oi,NR,dH,xb]
 cases hf:s.dh.find? λp=>p.l==(bH s a).2&&p.r==(bH s b).2 with
 |some p=>
  have kR:gw s (bH s a) (bH s b)=(p.lo,p.hi):=by unfold gw;rw[if_pos nF,hf]
  unfold mg;rw[kR]at uR⊢;simp[s4,s5,s6,s3,e4,e5,e6,nG];refine⟨_,by kernel_rfl,DN hG uR.1 uR.2.1 uR.2.2 h3 h4,λ_=>rfl,?_⟩;simp
 |none=>
  have kR:gw s (bH s a) (bH s b)=(s.nT,s.nS):=by unfold gw;rw[if_pos nF,hf]
  unfold mg;rw[kR]at uR⊢;simp[s4,s5,s6,s3,e4,e5,e6,aK,aA,bB];refine⟨_,by kernel_rfl,DN hG uR.1 uR.2.1 uR.2.2 h3 h4,λ_=>rfl,?_⟩;simp
def GP{l:List Int}(h:∀x∈l,0<=x/\x<=1000):0<=l.sum/\l.sum<=1000*l.length:=by
 induction l with
 |nil=>simp
 |cons a l ih=>
  have h1:=h a List.mem_cons_self
  have h2:=ih λx hx=>h x (List.mem_cons_of_mem _ hx)
  simp only[List.sum_cons,List.length_cons];omega
def Le{l:List Int}{i:Nat}(h:i<l.length):(l.take (i+1)).sum=(l.take i).sum+l[i]:=by
 rw[List.take_succ_eq_append_getElem h,List.sum_append];simp
def Dq(hG:av GI)(l:List Int)(hl:l.length<100000)(h:∀x∈l,0<=x/\x<=1000):AC prog GI 164 [vI l] (.ret (.int .i64 l.sum)):=by
 refine dZ hG func164 ntmps164 c164 ?_;simp[c164];refine dE 8 l.length (λi S H=>S 6=vI l/\S 7=.int .i64 l.length/\S 8=.int .i64 (i:Nat)/\S 3=.int .i64 (l.take i).sum) (λi S H h=>h.2.2.1) ⟨by simp,by simp,by simp,by simp⟩ ?_;rintro i hi S H ⟨s6,s7,s8,s3⟩
 by_cases ao:i<l.length
 .have hb:=GP (l:=l.take i) λx hx=>h x (List.mem_of_mem_take hx)
  have hx:=h l[i] (List.getElem_mem ao);rw[List.length_take]at hb;have hw:IntKind.i64.wrap ((i:Int)+1)=i+1:=bl (by omega);have oB:IntKind.i64.wrap ((l.take i).sum+l[i])=(l.take i).sum+l[i]:=bl (by omega);rw[Le ao];generalize(l.take i).sum=y at s3 oB⊢;simp[s6,s7,s8,s3,ao,hw,oB]
 .have ec:i=l.length:=by omega
  subst ec;rw[List.take_length]at s3;simp[s6,s7,s8,s3]
def iJ(l:List Int):AV:=grow 3 (l.map (AV.int .i64))
def sC(l:List Int):aC 1 (l.map (AV.int .i64))=true:=mM λa=>⟨rfl,rfl⟩
def xH(l:List Int):(iJ l=.slice .nil []/\l=[])\/iJ l=.slice (.own 3) (ints l):=by
 unfold iJ grow
 cases l with
 |nil=>exact .inl ⟨rfl,rfl⟩
 |cons a l=>exact .inr rfl
def wT(s:aD)(l:List Lt):∀i,i<=l.length->fU s l i=((l.take i).map (jR s)).sum
 |0,_=>rfl
 |i+1,h=>by
  rw[xE (by omega),wT s l i (by omega),List.take_succ_eq_append_getElem (by omega),List.map_append,List.sum_append];simp
def jr(s:aD)(st:Int)(l:List Lt):Nat->List Int
 |0=>[]
 |i+1=>jr s st l i++(if 0<i then match l[i-1]?,l[i]? with
  |some a,some b=>[mg s st a b]
  |_,_=>[]else[])
def yF{s:aD}{st:Int}{l:List Lt}{i:Nat}(h:i+1<l.length):jr s st l (i+2)=jr s st l (i+1)++[mg s st (l[i]'(by omega)) l[i+1]]:=by
 show jr s st l (i+1)++_=_;rw[if_pos (by omega),show i+1-1=i by omega,List.getElem?_eq_getElem (by omega:i<l.length),List.getElem?_eq_getElem h]
def BX{s:aD}{st:Int}{l:List Lt}:∀i,i+1<=l.length->(jr s st l (i+1)).sum=fT s st l i
 |0,_=>rfl
 |i+1,h=>by
  rw[yF (by omega),xO (by omega),List.sum_append,BX i (by omega)];simp
def BR{s:aD}(hF:oe s){st:Int}(h0:0<=st)(h1:st<=10){l:List Lt}:∀i,∀x∈jr s st l i,0<=x/\x<=20
 |0,x,hx=>by cases hx
 |i+1,x,hx=>by
  unfold jr at hx;rw[List.mem_append]at hx;rcases hx with hx|hx
  .exact BR hF h0 h1 i x hx
  .split at hx
   .split at hx
    .rw[List.mem_singleton]at hx;subst hx;exact wV hF h0 h1 _ _
    .cases hx
   .cases hx
def wH{s:aD}{st:Int}{l:List Lt}:∀i,(jr s st l i).length<=i
 |0=>Nat.le_refl _
 |i+1=>by
  have:=wH (s:=s) (st:=st) (l:=l) i;unfold jr;rw[List.length_append];split
  .split<;>simp<;>omega
  .simp;omega
structure Po where
 lo:Int
 hi:Int
 hid:Bool
def tcA(c:Po):AV:=.agg [.int .i64 c.lo,.int .i64 c.hi,.bool c.hid]
structure vA where
 cells:List Po
 pos:Int
 reach:Int
 Yo:Int
 fQ:Int
 name:aD
def Tu(s:vA):List AV:=[.slice .view (s.cells.map tcA),.int .i64 s.pos,.int .i64 s.reach,.int .i64 s.Yo,.int .i64 s.fQ]++aA s.name
def ft(ws:List Int)(w:Int):Prop:=(1<=ws.length/\ws.length<=4)/\(∀x∈ws,1<=x/\x<=6)/\1<=w/\w<=6
def cw(x:Int):AV:=.agg [.int .i64 x,.int .i64 1,.bool false,.int .i64 0]
def fg:AV:=.agg [.int .i64 0,.int .i64 0,.int .i64 12,.int .i64 12]
def bJ(ws:List Int)(w:Int):List AV:=[.int .i64 w,.int .i64 1,.int .i64 25,.int .i64 0,.slice .view [fg],.slice .view (ws.map cw)]
def jl(ws:List Int)(w:Int):AV:=.agg (bJ ws w)
def dq(a:Int)(m:Nat):List AV:=[.int .i64 a,.int .i64 1,.int .i64 (m:Nat)]
def eB(a:Int)(m:Nat):AV:=.agg (dq a m)
def dY(ws:List Int)(w:Int)(v:Value):List AV:=bJ ws w++[.val v]
def dA(ws:List Int)(w:Int)(v:Value):AV:=.agg (dY ws w v)
def iR(n:Nat):List Int:=(List.range n).map λj:Nat=>(j:Int)
def po(ws:List Int):(ws.map cw).length=ws.length:=by simp
def Ac{ws:List Int}{n:Nat}(h:n<ws.length):(ws.map cw)[n]?=some (cw ws[n]):=by simp[h]
def yY(l:List Int):aC 4 (l.map cw)=true:=mM λa=>⟨rfl,rfl⟩
def ue(hG:av GI)(n lo hi:Int):AC prog GI 101 [.int .i64 n,.int .i64 lo,.int .i64 hi] (.ret (.bool (dD n lo hi))):=by
 refine dZ hG func101 ntmps101 c101 ?_
 by_cases h1:lo<=n<;>by_cases h2:n<=hi<;>simp[c101,dD,h1,h2]
def DM(hG:av GI)(n:Int):AC prog GI 100 [.int .i64 n] (.ret (.bool (dD n 1 6))):=by
 have a:=ue (GI:=GI) hG n 1 6;refine dZ hG func100 ntmps100 c100 ?_;simp[c100];refine oc a ?_;simp
def Uk(hG:av GI):AC prog GI 104 [fg] (.ret (.bool true)):=by
 refine dZ hG func104 ntmps104 c104 ?_;simp[c104,fg]
def V5(hG:av GI):AC prog GI 103 [fg] (.ret (.bool false)):=by
 have a:=Uk (GI:=GI) hG;refine dZ hG func103 ntmps103 c103 ?_;simp[c103,fg];refine oc a ?_;simp
def Um(hG:av GI):AC prog GI 152 [.slice .view [fg],.func (.func 103) [] []] (.ret (.int .i64 (-1))):=by
 have a:=V5 (GI:=GI) hG
 unfold fg at*
 refine dZ hG func152 ntmps152 c152 ?_;simp[c152];refine dE 8 1 (λi S H=>S 0=.slice .view [.agg [.int .i64 0,.int .i64 0,.int .i64 12,.int .i64 12]]/\S 1=_/\S 7=.int .i64 (1:Nat)/\S 8=.int .i64 (i:Nat)) (λi S H h=>h.2.2.2) ⟨by simp,by simp<;>rfl,by simp,by simp⟩ ?_;rintro i hi S H ⟨s0,s1,s7,s8⟩
 by_cases ao:i<1
 .have wc:i=0:=by omega
  subst wc
  have hw:IntKind.i64.wrap 1=1:=by decide
  simp[s0,s1,s7,s8];refine oc a ?_;simp[s0,s1,s7,s8,hw]
 .have xS:i=1:=by omega
  subst xS;simp[s0,s1,s7,s8]
def V8(hG:av GI):AC prog GI 102 [.slice .view [fg],.func (.func 103) [] []] (.ret (.bool false)):=by
 have a:=Um (GI:=GI) hG
 unfold fg at*
 refine dZ hG func102 ntmps102 c102 ?_;simp[c102];refine⟨_,by kernel_rfl,a,λ_=>rfl,?_⟩;simp
def U7(hG:av GI){ws:List Int}{w x:Int}(hx:1<=x/\x<=6):AC prog GI 106 [cw x,.ref (bJ ws w)] (.ret (.bool false)):=by
 have a1:=DM (GI:=GI) hG x;have a2:=DM (GI:=GI) hG 1;have a3:=ue (GI:=GI) hG 0 0 0
 have i1:dD x 1 6=true:=by simp[dD];omega
 have i2:dD 1 1 6=true:=by decide
 have i3:dD 0 0 0=true:=by decide
 have hw:IntKind.i64.wrap 0=0:=by decide
 rw[i1]at a1;rw[i2]at a2;rw[i3]at a3;refine dZ hG func106 ntmps106 c106 ?_;simp[c106,cw,bJ];refine oc a1 ?_;simp[bJ];refine oc a2 ?_;simp[bJ,hw];refine oc a3 ?_;simp
def UN(hG:av GI){ws:List Int}{w:Int}(hL:ft ws w):AC prog GI 153 [.slice .view (ws.map cw),.func (.func 106) [] [.ref (bJ ws w)]] (.ret (.int .i64 (-1))):=by
 have hlen:=hL.1;refine dZ hG func153 ntmps153 c153 ?_;simp[c153];refine dE 8 ws.length (λi S H=>S 0=.slice .view (ws.map cw)/\S 1=_/\S 7=.int .i64 ws.length/\S 8=.int .i64 (i:Nat)) (λi S H h=>h.2.2.2) ⟨by simp,by simp<;>rfl,by simp,by simp⟩ ?_;rintro i hi S H ⟨s0,s1,s7,s8⟩
 by_cases ao:i<ws.length
 .have hw:IntKind.i64.wrap ((i:Int)+1)=i+1:=bl (by omega);have hx:=U7 (GI:=GI) hG (ws:=ws) (w:=w) (hL.2.1 _ (List.getElem_mem ao));simp[cw,s0,s1,s7,s8,ao];refine oc hx ?_;simp[s0,s1,s7,s8,ao,hw]
 .have ec:i=ws.length:=by omega
  subst ec;simp[s0,s1,s7,s8]
def Vg(hG:av GI){ws:List Int}{w:Int}(hL:ft ws w):AC prog GI 105 [.slice .view (ws.map cw),.func (.func 106) [] [.ref (bJ ws w)]] (.ret (.bool false)):=by
 have a:=UN (GI:=GI) hG hL;refine dZ hG func105 ntmps105 c105 ?_;simp[c105];refine⟨_,by kernel_rfl,a,λ_=>rfl,?_⟩;simp
def T2(hG:av GI){ws:List Int}{w:Int}(hL:ft ws w):AC prog GI 41 [jl ws w] (.ret (.bool true)):=by
 have hlen:=hL.1;have q1:=DM (GI:=GI) hG w;have q2:=DM (GI:=GI) hG 1;have q3:=ue (GI:=GI) hG 25 1 25;have q4:=ue (GI:=GI) hG 0 0 24;have q5:=ue (GI:=GI) hG 1 1 3;have q6:=ue (GI:=GI) hG ws.length 1 5
 have i1:dD w 1 6=true:=by have:=hL.2.2;simp[dD];omega
 have i2:dD 1 1 6=true:=by decide
 have i3:dD 25 1 25=true:=by decide
 have i4:dD 0 0 24=true:=by decide
 have i5:dD 1 1 3=true:=by decide
 have i6:dD ws.length 1 5=true:=by simp[dD];omega
 rw[i1]at q1;rw[i2]at q2;rw[i3]at q3;rw[i4]at q4;rw[i5]at q5;rw[i6]at q6;have q7:=V8 (GI:=GI) hG;have q8:=Vg (GI:=GI) hG hL
 have hw:IntKind.i64.wrap 24=24:=by decide
 unfold fg at q7;refine dZ hG func41 ntmps41 c41 ?_;refine bw (λS H=>S 1=.box 1 0/\H 1=some (bJ ws w)) (by simp[c41,jl,bJ]) ?_;rintro S H ⟨s1,h1⟩;refine bw (λS H=>S 1=.box 1 0/\H 1=some (bJ ws w)) ?_ ?_
 .simp[c41,s1,h1,bJ];refine oc q1 ?_;simp[s1,h1,bJ];refine oc q2 ?_;simp[s1,h1,bJ];refine oc q3 ?_;simp[s1,h1,bJ,hw];refine oc q4 ?_;simp[s1,h1,bJ];refine oc q5 ?_;simp[s1,h1,bJ];refine oc q6 ?_;simp[s1,h1,bJ]
 clear s1 h1 S H;rintro S H ⟨s1,h1⟩;simp[c41,s1,h1,bJ,fg];refine⟨_,by kernel_rfl,q7,λ_=>rfl,?_⟩;simp[s1,h1,bJ,fg];refine⟨_,by kernel_rfl,by simpa[bJ,fg,vI,AV.aw,AV.vw,AV.bV]using q8,λ_=>rfl,?_⟩;simp
def Xa(hG:av GI){ws:List Int}{w:Int}(hL:ft ws w)(n:Int):AC prog GI 110 [jl ws w,.int .i64 n] (.ret (.bool (dD n 0 (ws.length-1)))):=by
 have hlen:=hL.1;have a:=ue (GI:=GI) hG n 0 (ws.length-1);have hw:IntKind.i64.wrap ((ws.length:Int)-1)=ws.length-1:=bl (by omega);refine dZ hG func110 ntmps110 c110 ?_;simp[c110,jl,bJ,hw];refine oc a ?_;simp
def zO(n:Nat):(ints (iR n)).length=n:=by simp[ints,iR]
def EK{n i:Nat}(h:i<n):(ints (iR n))[i]?=some (.int .i64 (i:Nat)):=by simp[ints,iR,h]
def Yb(hG:av GI){ws:List Int}{w:Int}(hL:ft ws w):AC prog GI 43 [jl ws w,vI (iR ws.length)] (.ret (.bool true)):=by
 have hlen:=hL.1
 have q:=λn=>Xa (GI:=GI) hG hL n
 have I':=zO ws.length
 have GZ:=λi (h:i<ws.length)=>EK h
 unfold jl bJ at q
 obtain⟨L,sk⟩:∃L,ints (iR ws.length)=L:=⟨_,rfl⟩
 rw[sk]at I';simp only[sk]at GZ;refine dZ hG func43 ntmps43 c43 ?_;refine bw (λS H=>S 1=.slice .view L/\S 2=.box 2 0/\H 2=some (bJ ws w)) (by simp[c43,jl,bJ,sk]) ?_;rintro S H ⟨s1,s2,h2⟩;refine bw (λS H=>True) ?_ ?_
 .simp[c43,s1,s2,h2,I'];refine dE 9 ws.length (λi S H=>S 1=.slice .view L/\S 7=.slice .view L/\S 8=.int .i64 ws.length/\S 9=.int .i64 (i:Nat)/\S 2=.box 2 0/\H 2=some (bJ ws w)) (λi S H h=>h.2.2.2.1) ⟨by simp[s1],by simp,by simp,by simp,by simp[s2],by simp[h2]⟩ ?_;clear s1 s2 h2 S H;rintro i hi S H ⟨s1,s7,s8,s9,s2,h2⟩
  by_cases ao:i<ws.length
  .have hw:IntKind.i64.wrap ((i:Int)+1)=i+1:=bl (by omega);have hg:=GZ i ao
   have me:i<L.length:=by omega
   have m_:L[i]=.int .i64 (i:Nat):=by rw[List.getElem?_eq_getElem me]at hg;exact Option.some.inj hg
   have i1:dD i 0 (ws.length-1)=true:=by simp[dD];omega
   have qi:=q i;rw[i1]at qi;simp[s1,s2,h2,s7,s8,s9,ao,me,hg,m_,bJ];refine oc qi ?_
   by_cases h0:i=0
   .subst h0
    have xX:IntKind.i64.wrap 1=1:=by decide
    simp[s1,s2,h2,s7,s8,s9,ao,me,hg,m_,xX,bJ]
   .have oB:IntKind.i64.wrap ((i:Int)-1)=i-1:=bl (by omega)
    have xS:((i:Int)-1).toNat=i-1:=by omega
    have UD:¬(i:Int)-1<0:=by omega
    have h1:(1:Int)<=i:=by omega
    have Ih:(i:Int)-1<L.length:=by omega
    have TW:i-1<L.length:=by omega
    have iE:0<i:=by omega
    have Cw:=GZ (i-1) (by omega)
    have X':L[i-1]=.int .i64 ((i-1:Nat):Int):=by rw[List.getElem?_eq_getElem TW]at Cw;exact Option.some.inj Cw
    have hle:¬(i:Int)<=((i-1:Nat):Int):=by omega
    simp[s1,s2,h2,s7,s8,s9,ao,me,hg,m_,hw,oB,xS,UD,h1,Ih,TW,iE,Cw,X',hle,bJ]
  .have ec:i=ws.length:=by omega
   subst ec;simp[s1,s2,h2,s7,s8,s9]
 intro S H _;simp[c43]
def Z8(k:Nat):Value:=.func (.func k) #[] #[]
structure US(e b2 b5:Nat)(l:Array Bool)(a:Act)(w:World):Prop where
 size:a.tmps.size=29
 t1:a.tmps.getD 1 undef=.int .i64 (e:Nat)
 t2:a.tmps.getD 2 undef=.pointer (some ⟨b2,0,none⟩)
 t5:a.tmps.getD 5 undef=.pointer (some ⟨b5,0,none⟩)
 t16:l.getD 1 false=true->a.tmps.getD 16 undef=.int .i64 (e:Nat)
 t17:l.getD 2 false=true->a.tmps.getD 17 undef=.pointer (some ⟨b5,e,none⟩)
 heap:∃ty,w.heap[b5]?=some (.cells #[Z8 94,Z8 95] ty (0,0))
 c9:l.getD 9 false=true->l.getD 3 false=true
 c10:l.getD 10 false=true->l.getD 9 false=true
 c11:l.getD 11 false=true->l.getD 10 false=true
 c3:l.getD 3 false=true->l.getD 2 false=true
def zt{l:Array Bool}{i:Nat}(h:i<l.size):(l.setIfInBounds i true).getD i false=true:=by
 simp[Array.getD_eq_getD_getElem?,h]
def eW{l:Array Bool}{i j:Nat}(h:i≠j):(l.setIfInBounds i true).getD j false=l.getD j false:=by
 simp[Array.getD_eq_getD_getElem?,Array.getElem?_setIfInBounds_ne h]
def US.put {e b2 b5:Nat} {l:Array Bool} {a:Act} {w:World} (h:US e b2 b5 l a w) (i t:Nat) (v:Value) (ht:t≠1∧t≠2∧t≠5) (hl:l.size=13) (hi:i < 9) (h3:i≠3) (h1:i=1→t=16∧v = .int .i64 (e:Nat)) (h2:i=2→t=17∧v = .pointer (some ⟨b5,e,none⟩)) (ho:i≠1→t≠16) (im:i≠2→t≠17) (Nz:t < 29) :
  US e b2 b5 (l.setIfInBounds i true) (a.put (some t) v) w:=by
 have df:∀k,k≠t->(a.put (some t) v).tmps.getD k undef=a.tmps.getD k undef:=λk hk=>by
  simp[Act.put,Array.getElem?_setIfInBounds_ne (Ne.symm hk)]
 have gq:(a.put (some t) v).tmps.getD t undef=v:=by simp[Act.put,h.size,Nz]
 refine⟨by simp[Act.put,h.size],by rw[df 1 (Ne.symm ht.1)];exact h.t1,by rw[df 2 (Ne.symm ht.2.1)];exact h.t2,by rw[df 5 (Ne.symm ht.2.2)];exact h.t5,?_,?_,h.heap,?_,?_,?_,?_⟩
 .by_cases xS:i=1
  .obtain⟨rfl,rfl⟩:=h1 xS
   exact λ_=>gq
  .rw[eW xS,df 16 (Ne.symm (ho xS))];exact h.t16
 .by_cases rF:i=2
  .obtain⟨rfl,rfl⟩:=h2 rF
   exact λ_=>gq
  .rw[eW rF,df 17 (Ne.symm (im rF))];exact h.t17
 .rw[eW (by omega),eW h3];exact h.c9
 .rw[eW (by omega),eW (by omega)];exact h.c10
 .rw[eW (by omega),eW (by omega)];exact h.c11
 .rw[eW h3]
  by_cases rF:i=2
  .subst rF;exact λ_=>zt (by omega)
  .rw[eW rF];exact h.c3
def O7(b:Nat):Value:=.map (some b)
def Cb{α β:Type}[BEq α][LawfulBEq α]{t:α}{v:β}:∀{l:List (α×β)},l.lookup t=some v->(t,v)∈l
 |[],h=>by cases h
 |(a,b)::l,h=>by
  rw[List.lookup_cons]at h
  by_cases ht:(t==a)=true
  .rw[ht]at h;have:=eq_of_beq ht;cases h;subst this;exact List.mem_cons_self
  .have vY:(t==a)=false:=by simpa using ht
   rw[vY]at h;exact List.mem_cons_of_mem _ (Cb h)
variable{l:Nat}{xs:List AV}
def KE(l:Nat)(s:vA)(bM:Nat)(ex:List (Nat×AV)):af:=λt=>if t=0 then .val (.func (.yield l) #[] #[])else if t=1 then .ref (Tu s)else if t=3 then .val (O7 bM)else match ex.lookup t with|some v=>v|none=>.bj
structure VS(C:Cons prog GI l xs)(s:vA)(cX:Value)(bM:Nat)(ex:List (Nat×AV))(l':List (Int×Value))(k:Nat)(a:Act)(w:World):Prop where
 size:a.tmps.size=54
 defers:a.defers=[]
 t0:a.tmps.getD 0 undef=.func (.yield l) #[] #[]
 t1:a.tmps.getD 1 undef=cX
 t3:a.tmps.getD 3 undef=O7 bM
 ex:∀p∈ex,4<=p.1/\gf p.2=true/\RD (λ_ _=>False) w p.2 (a.tmps.getD p.1 undef)
 st:∃M Pr,C.J k M Pr w/\(∀b,M b->b<w.heap.size)/\M bM/\(∃es clock,w.heap[bM]?=some (.map es clock)/\pX (.int .i64) es l')/\RD Pr w (.ref (Tu s)) cX
variable{C:Cons prog GI l xs}{s:vA}{cX:Value}{bM:Nat}{ex mj:List (Nat×AV)}{l':List (Int×Value)}{k:Nat}{a:Act}{w:World}
def VS.gu(h:VS C s cX bM ex l' k a w):∀t,t<54->(KE l s bM ex t).aw=KE l s bM ex t/\RV (λb _=>b≠bM) bO w (KE l s bM ex t) (a.tmps.getD t undef):=by
 intro t ht;obtain⟨M,Pr,hj,ao,hM,_,hx⟩:=h.st;unfold KE
 by_cases t0:t=0
 .subst t0;simp only[if_true];rw[h.t0];exact⟨rfl,.data _ _ (.val _ rfl)⟩
 rw[if_neg t0]
 by_cases t1:t=1
 .subst t1;simp only[if_true];rw[h.t1];exact⟨rfl,.data _ _ (hx.mono (aE.same λb k _ hp=>by rintro rfl;exact C.apart hj _ k hM hp))⟩
 rw[if_neg t1]
 by_cases t3:t=3
 .subst t3;simp only[if_true];rw[h.t3];exact⟨rfl,.data _ _ (.val _ rfl)⟩
 rw[if_neg t3]
 cases hl:ex.lookup t with
 |none=>exact⟨rfl,.bj _⟩
 |some v=>
  have hm:(t,v)∈ex:=Cb hl;obtain⟨_,h2,h3⟩:=h.ex _ hm;refine⟨?_,.data _ _ (h3.gf h2)⟩
  cases v<;>first|rfl|cases h2
def VS.grow (h:VS C s cX bM ex l' k a w) {a':Act} {w':World} (hb:Below w.heap.size w w') (aL:a'.tmps.size=54) (c_:a'.defers=[]) (h0:∀ t,t < 4→a'.tmps.getD t undef=a.tmps.getD t undef)
  (hex:∀p∈mj,4<=p.1/\gf p.2=true/\RD (λ_ _=>False) w' p.2 (a'.tmps.getD p.1 undef)):VS C s cX bM mj l' k a' w':=by
 obtain⟨M,Pr,hj,ao,hM,⟨es,clock,hm,he⟩,hx⟩:=h.st
 refine⟨aL,c_,(h0 0 (by decide)).trans h.t0,(h0 1 (by decide)).trans h.t1,(h0 3 (by decide)).trans h.t3,hex,M,Pr,C.fQ hj (dG.gP hb) λb eN=>⟨Nat.lt_of_lt_of_le (ao b eN) hb.size,.inl eN⟩,λb eN=>Nat.lt_of_lt_of_le (ao b eN) hb.size,hM,
  ⟨es,clock,(hb.block bM (ao bM hM)).trans hm,he⟩,hx.mono (aE.gr (λb h=>hb.block b h) λ_ _ _ h=>h)⟩
def W4:Nat->Bool:=λt=>decide (4<=t)
def VS.region (hG:av GI) {C:Cons prog GI l xs} (h:VS C s cX bM ex l' k a w) {id:Nat} {ops:Array Oper} {ac:ae} {Q:Exit→Act→World→Prop} {m:Nat} (hc:iW (.region id ops false)=true) (ja:cE prog 54 (.region id ops false)=ac) (hW:fy ops W4=true)
  (mj:List (Nat×AV)) (hs:mj.all (λp=>decide (4<=p.1)&&(decide (p.1<54)&&gf p.2))=true) (sg:bq prog GI ac (az λS' _=>∀p∈mj,S' p.1=p.2) (KE l s bM ex) (λ_=>none)) (hk:∀a' w',VS C s cX bM mj l' k a' w'->Q .normal a' w'):(Code.region id ops false).wpIn (FR none) m prog Q a w:=by
 obtain⟨M,Pr,hj,ao,hM,AO,hx⟩:=h.st;refine cQ hG bL hc ja hW (C.gi hj) (λb _=>b≠bM) (KE l s bM ex) h.size h.defers h.gu sg ?_;intro g S' H' a' w' hg R1 hK bh;refine hk a' w' (h.grow (by have:=R1.below;rwa [R1.base]at this) R1.size (by rw[R1.defers,hg]<;>rfl) (λt ht=>bh t (by simp[W4];omega)) λp hp=>?_);have uw:=List.all_eq_true.1 hs p hp;simp only[Bool.and_eq_true,decide_eq_true_eq]at uw;refine⟨uw.1,uw.2.2,?_⟩;have r:=R1.slot p.1 uw.2.1 (λh=>h);rw[hK p hp]at r;exact(r.bQ (by have:=uw.2.2;revert this;cases p.2<;>simp[Go.AL.gf,AV.bu])).gf uw.2.2
def VS.bool(h:VS C s cX bM ex l' k a w){t:Nat}{b:Bool}(hm:(t,AV.bool b)∈ex):a.tmps.getD t undef=.bool b:=(RV.data (al:=bO) _ _ (h.ex _ hm).2.2).fc
def VS.int(h:VS C s cX bM ex l' k a w){t:Nat}{b:Int}(hm:(t,AV.int .i64 b)∈ex):a.tmps.getD t undef=.int .i64 b:=(RV.data (al:=bO) _ _ (h.ex _ hm).2.2).int_eq
def VS.keep (h:VS C s cX bM ex l' k a w) {a':Act} {w':World} (N:Nat) (hN:4≤N) (hb:Below w.heap.size w w') (aL:a'.tmps.size=54) (c_:a'.defers=[]) (h0:∀ t,t < N→a'.tmps.getD t undef=a.tmps.getD t undef)
  (hex:ex.all (λp=>decide (p.1<N))=true):VS C s cX bM ex l' k a' w':=
 h.grow hb aL c_ (λt ht=>h0 t (by omega)) λp hp=>by
  obtain⟨q1,q2,q3⟩:=h.ex p hp;have:=List.all_eq_true.1 hex p hp;rw[h0 p.1 (by simpa using this)];exact⟨q1,q2,q3.gf q2⟩
def VS.sub(h:VS C s cX bM ex l' k a w)(p7:∀p∈mj,p∈ex):VS C s cX bM mj l' k a w:=
 ⟨h.size,h.defers,h.t0,h.t1,h.t3,λp hp=>h.ex p (p7 p hp),h.st⟩
def VS.put(h:VS C s cX bM ex l' k a w)(t:Nat)(v:Value)(ht:4<=t)(hex:ex.all (λp=>p.1 !=t)=true):VS C s cX bM ex l' k (a.put (some t) v) w:=by
 have df:∀k,k≠t->(a.put (some t) v).tmps.getD k undef=a.tmps.getD k undef:=λk hk=>by
  simp[Act.put,Array.getElem?_setIfInBounds_ne (Ne.symm hk)]
 refine⟨by simp[Act.put,h.size],h.defers,(df 0 (by omega)).trans h.t0,(df 1 (by omega)).trans h.t1,(df 3 (by omega)).trans h.t3,λp hp=>?_,h.st⟩;have:=List.all_eq_true.1 hex p hp;rw[df p.1 (by simpa using this)];exact h.ex p hp
end Go.Proofs.Tryz
namespace Go.Proofs.Tryz
open Go Go.AL Go.RowKit Go.Proofs Go.Proofs.Tram
attribute [local simp] dS eF dR cW dT cV cZ ck cg dQ cd bP fB fC an aq ev aB.S aB.H aY au aH AL.start AV.cells AV.storable AV.bb aQ aZ aP HR.okB post cU cL cI AV.out AV.bu br bU fz fG AV.vw bR vI int bI az ct cb gB il dM cD aR AV.aw AV.bV dO
variable{GI:World->Prop}
def Ni(hG:av GI)(n lo hi:Int):AC prog GI 6 [.int .i64 n,.int .i64 lo,.int .i64 hi] (.ret (.bool (dD n lo hi))):=by
 refine dZ hG func6 ntmps6 c6 ?_
 by_cases h1:lo<=n<;>by_cases h2:n<=hi<;>simp[c6,dD,h1,h2]
end Go.Proofs.Tryz
namespace Go.Proofs.Tryz
open Go Go.AL Go.RowKit Go.Proofs Go.Proofs.Tram
attribute [local simp] dS eF Cj zj dT cV cZ ck cg dQ cd bP fB fC an aq ev aB.S aB.H aY au aH AL.start AV.cells AV.storable AV.bb aQ aZ aP HR.okB post cU cL cI AV.out AV.bu br bU fz fG AV.vw bR vI int bI az ct cb gB il dM cD aR AV.aw AV.bV dO
variable{GI:World->Prop}
def pC(l:List End):AV:=grow 214 (l.map cz)
def LI{s:aD}{out:List Int}{n:Nat}(h:n<s.words.length)(hc:out.contains (n:Int)=false):jm s out n=(s.words[n].er.map λk=>((n:Int),k))++[((n:Int),(s.words[n].bD.length:Int))]:=by
 unfold jm;rw[hc,List.getElem?_eq_getElem h]
 rfl
def Jb{s:aD}{out:List Int}{n:Nat}(hc:out.contains (n:Int)=true):jm s out n=[]:=by
 unfold jm;rw[hc]
 rfl
def qC(s:aD)(out:List Int)(i:Nat):List End:=(List.range i).flatMap (jm s out)
def GQ(s:aD)(out:List Int)(i:Nat):qC s out (i+1)=qC s out i++jm s out i:=by unfold qC;rw[List.range_succ,List.flatMap_append,List.flatMap_singleton]
def VO(hG:av GI)(s:aD)(hs:rH s)(out:List Int)(ho:out.length<1000000):AC prog GI 122 [ee s,vI out] (.ret (.slice .view (bz (kM s out)))):=by
 have q3:=hs.words;refine AC.yL (o:=if kM s out=[]then .nil else .view) ?_;refine dZ hG func122 ntmps122 c122 ?_;simp[c122,ar,ai,ee,aA];refine dE 12 s.words.length (λi S H=>S 1=vI out/\S 2=.box 2 0/\H 2=some (aA s)/\S 11=.int .i64 s.words.length/\S 12=.int .i64 (i:Nat)/\S 5=pC (qC s out i)/\(qC s out i).length<=1001*i) (λi S H h=>h.2.2.2.2.1) ⟨by simp[ar,ai],by simp[ar,ai],by simp[ar,ai,aA],by simp[ar,ai],by simp[ar,ai],by simp[ar,ai,pC,qC,grow],by simp[qC]⟩ ?_;rintro i hi S H ⟨s1,s2,e2,de,bn,s5,hl⟩
 by_cases ao:i<s.words.length
 case neg=>
  have ec:i=s.words.length:=by omega
  subst ec;have s5:S 5=pC (kM s out):=s5
  by_cases h0:kM s out=[]
  .rw[h0]at s5
   have kH:S 5=.slice .nil []:=by rw[s5];simp[pC,grow]
   simp[ar,ai,s1,s2,e2,de,bn,kH,h0,bz]
  .have kH:S 5=.slice (.own 214) ((kM s out).map cz):=by rw[s5];simp[pC,grow,h0]
   simp[ar,ai,s1,s2,e2,de,bn,kH,h0,bz]
 have hw:IntKind.i64.wrap ((i:Int)+1)=i+1:=bl (by omega);have ph:=hs.er _ (List.getElem_mem ao);have hr:=GQ s out i;generalize hL:qC s out i=L at s5 hl hr;simp[ar,ai,s1,s2,e2,de,bn,ao];refine⟨_,by kernel_rfl,SX hG out ho i,λ_=>rfl,?_⟩;cases hc:out.contains (i:Int)
 case true=>
  have nB:qC s out (i+1)=L:=by rw[hr,Jb hc,List.append_nil]
  rw[nB];simp[ar,ai,s1,s2,e2,de,bn,s5,hw,ao];omega
 have hew:=LI ao hc;simp[ar,ai,s1,s2,e2,de,bn,ao,aA,ez];refine dE 25 s.words[i].er.length (λj S H=>S 1=vI out/\S 2=.box 2 0/\H 2=some (aA s)/\S 11=.int .i64 s.words.length/\S 12=.int .i64 (i:Nat)/\S 6=.int .i64 (i:Nat)/\S 23=vI s.words[i].er/\S 24=.int .i64 s.words[i].er.length/\S 25=.int .i64 (j:Nat)/\S 5=pC (L++(s.words[i].er.take j).map λk=>((i:Int),k))) (λi S H h=>h.2.2.2.2.2.2.2.2.1) ⟨by simp[ar,ai,s1],by simp[ar,ai,s2],by simp[ar,ai,e2,aA],by simp[ar,ai,de],by simp[ar,ai,bn],by simp[ar,ai],by simp[ar,ai],by simp[ar,ai],by simp[ar,ai],by simp[ar,ai,s5]⟩ ?_;clear s1 s2 e2 de bn s5 S H;rintro j hj S H ⟨s1,s2,e2,de,bn,s6,Ls,tX,oT,s5⟩
 by_cases VG:j<s.words[i].er.length
 .have WV:IntKind.i64.wrap ((j:Int)+1)=j+1:=bl (by omega);have kW:s.words[i].er.take (j+1)=s.words[i].er.take j++[s.words[i].er[j]]:=List.take_succ_eq_append_getElem VG
  have hlen:(L++(s.words[i].er.take j).map λk=>((i:Int),k)).length<1040000:=by
   simp only[List.length_append,List.length_map,List.length_take];omega
  rw[kW,List.map_append,<-List.append_assoc];generalize(L++(s.words[i].er.take j).map λk=>((i:Int),k))=M at s5 hlen⊢;have fh:aC 2 [AV.agg [AV.int .i64 (i:Nat),AV.int .i64 s.words[i].er[j]]]=true:=rfl;simp[s1,s2,e2,de,bn,s6,Ls,tX,oT,VG,fh];refine mK (M.map cz) (cz ((i:Int),s.words[i].er[j])) (.own 214) (by simp[s5,pC]) (by simp[cz]) rfl (BU _) (by rw[List.length_map];omega) ?_;intro S' sd hk;simp[sd,hk,s1,s2,e2,de,bn,s6,Ls,tX,oT,WV,VG,pC]
 .have MK:j=s.words[i].er.length:=by omega
  subst MK;rw[List.take_length]at s5
  have hlen:(L++s.words[i].er.map λk=>((i:Int),k)).length<=1001*i+1000:=by
   simp only[List.length_append,List.length_map];omega
  rw[hr,hew,<-List.append_assoc];generalize(L++s.words[i].er.map λk=>((i:Int),k))=M at s5 hlen⊢;have fh:aC 2 [AV.agg [AV.int .i64 (i:Nat),AV.int .i64 s.words[i].bD.length]]=true:=rfl;simp[s1,s2,e2,de,bn,s6,Ls,tX,oT,ao,fh,aA,ez];refine mK (M.map cz) (cz ((i:Int),(s.words[i].bD.length:Int))) (.own 214) (by simp[s5,pC]) (by simp[cz]) rfl (BU _) (by rw[List.length_map];omega) ?_;intro S' sd hk;simp[sd,hk,s1,s2,e2,de,bn,hw,ao,pC,aA];omega
def sK{s:aD}(hs:ba s=true){g:Nat×Nat}(h:Iw s g):HW s (bH s g):=MX hs h
def Ut(hG:av GI)(s:aD)(hs:ba s=true){l:List (Nat×Nat)}(hl:l.length<10000)(kJ:∀g∈l,Iw s g)(cut:Bool)(x:Int):AC prog GI 126 [fX s,Ht l cut,.int .i64 x] (.ret (.int .i64 (fU s (l.map (bH s)) l.length+(if cut then s.eZ else 0)))):=by
 have hF:=hO hs;have Dh:=hF.Tm
 have hb:∀x∈(l.map λg=>jR s (bH s g)),0<=x/\x<=1000:=by
  intro x hx;obtain⟨g,hg,rfl⟩:=List.mem_map.1 hx;have:=xD hF (sK hs (kJ g hg));omega
 have E9:fU s (l.map (bH s)) l.length=(l.map λg=>jR s (bH s g)).sum:=by
  have:=wT s (l.map (bH s)) l.length (by simp);rw[this,List.take_of_length_le (by simp),List.map_map];rfl
 have Hg:(l.map λg=>jR s (bH s g)).length<10000:=by rw[List.length_map];exact hl
 rw[E9];refine dZ hG func126 ntmps126 c126 ?_;refine bw (λS H=>S 3=.box 3 0/\S 4=.box 4 0/\H 3=some (aK s)/\H 4=some [.slice .view (l.map gA),.bool cut]) (by simp[ar,ai,fX,aK,Ht,ot,aA,bB]) ?_;rintro S H ⟨s3,s4,e3,e4⟩;refine bw (λS H=>S 3=.box 3 0/\S 4=.box 4 0/\H 3=some (aK s)/\H 4=some [.slice .view (l.map gA),.bool cut]/\S 7=iJ []) (by simp[ar,ai,s3,s4,e3,e4,iJ,grow]) ?_;clear s3 s4 e3 e4 S H;rintro S H ⟨s3,s4,e3,e4,s7⟩;refine bw (λS H=>S 3=.box 3 0/\S 4=.box 4 0/\H 3=some (aK s)/\H 4=some [.slice .view (l.map gA),.bool cut]/\S 7=iJ (l.map λg=>jR s (bH s g))) ?_ ?_
 .simp[ar,ai,s3,s4,e3,e4];refine dE 13 l.length (λi S H=>S 3=.box 3 0/\S 4=.box 4 0/\H 3=some (aK s)/\H 4=some [.slice .view (l.map gA),.bool cut]/\S 11=.slice .view (l.map gA)/\S 12=.int .i64 l.length/\S 13=.int .i64 (i:Nat)/\S 7=iJ ((l.take i).map λg=>jR s (bH s g))) (λi S H h=>h.2.2.2.2.2.2.1) ⟨by simp[ar,ai,s3],by simp[ar,ai,s4],by simp[ar,ai,e3],by simp[ar,ai,e4],by simp[ar,ai],by simp[ar,ai],by simp[ar,ai],by simp[ar,ai,s7]⟩ ?_;clear s3 s4 e3 e4 s7 S H;rintro i hi S H ⟨s3,s4,e3,e4,de,bn,dz,s7⟩
  by_cases ao:i<l.length
  case neg=>
   have ec:i=l.length:=by omega
   subst ec;rw[List.take_length]at s7;simp[ar,ai,s3,s4,e3,e4,de,bn,dz,s7]
  have hw:IntKind.i64.wrap ((i:Int)+1)=i+1:=bl (by omega)
  obtain⟨k,hk⟩:∃k:Nat,(bH s l[i]).2=k:=⟨(bH s l[i]).2.toNat,by have:=(sK hs (kJ _ (List.getElem_mem ao))).1;omega⟩
  have oU:k<s.da.length:=by have:=(sK hs (kJ _ (List.getElem_mem ao))).2;omega
  have Gi:jR s (bH s l[i])=s.da[k]:=by
   unfold jR;rw[hk,if_neg (by omega),Int.toNat_natCast,List.getElem?_eq_getElem oU];rfl
  rw[List.take_succ_eq_append_getElem ao,List.map_append,List.map_singleton,Gi]
  have hlen:((l.take i).map λg=>jR s (bH s g)).length<1000000:=by
   rw[List.length_map,List.length_take];omega
  generalize((l.take i).map λg=>jR s (bH s g))=L at s7 hlen⊢;simp[s3,s4,e3,e4,de,bn,dz,s7,ao,gA,aK,aA,bB];refine oc (I_ hG s (kJ _ (List.getElem_mem ao))) ?_;have fh:aC 1 [AV.int .i64 s.da[k]]=true:=rfl;simp[s3,s4,e3,e4,de,bn,dz,s7,ao,aK,aA,bB,hk,oU,fh];refine BT (L.map (AV.int .i64)) (AV.int .i64 s.da[k]) (.own 3) (by simp[s7,iJ,grow]) (by simp) rfl (sC _) (by rw[List.length_map];omega) ?_;intro S' sd eG;simp[sd,eG,s3,s4,e3,e4,de,bn,dz,ao,hw,iJ,aK,aA,bB]
 clear s3 s4 e3 e4 s7 S H;rintro S H ⟨s3,s4,e3,e4,s7⟩;refine bw (λS H=>S 7=iJ ((l.map λg=>jR s (bH s g))++if cut then[s.eZ]else[])) ?_ ?_
 .cases cut with
  |false=>simp[ar,ai,s3,s4,e3,e4,s7]
  |true=>
   have fh:aC 1 [AV.int .i64 s.eZ]=true:=rfl;generalize(l.map λg=>jR s (bH s g))=L at s7 Hg⊢;simp[s3,s4,e3,e4,s7,aK,aA,bB,fh];refine mK (L.map (AV.int .i64)) (AV.int .i64 s.eZ) (.own 3) (by simp[iJ]) (by simp) rfl (sC _) (by rw[List.length_map];omega) ?_;intro S' sd eG;simp[sd,eG,iJ]
 clear s3 s4 e3 e4 s7 S H;rintro S H s7;have hh:=hF.eZ
 have iw:∀x∈((l.map λg=>jR s (bH s g))++if cut then[s.eZ]else[]),0<=x/\x<=1000:=by
  intro x hx;rcases List.mem_append.1 hx with hx|hx
  .exact hb x hx
  .cases cut with
   |false=>simp at hx
   |true=>simp at hx;omega
 have Jk:((l.map λg=>jR s (bH s g))++if cut then[s.eZ]else[]).sum=(l.map λg=>jR s (bH s g)).sum+if cut then s.eZ else 0:=by
  rw[List.sum_append]
  cases cut<;>simp
 have oL:((l.map λg=>jR s (bH s g))++if cut then[s.eZ]else[]).length<100000:=by
  rw[List.length_append]
  cases cut<;>simp<;>omega
 rw[<-Jk];generalize((l.map λg=>jR s (bH s g))++if cut then[s.eZ]else[])=L at s7 iw oL⊢;rcases xH L with⟨hg,rfl⟩|hg
 .rw[hg]at s7;simp[ar,ai,s7];refine oc (Dq hG [] oL iw) ?_;simp[ar,ai]
 .rw[hg]at s7;simp[ar,ai,s7];refine oc (Dq hG L oL iw) ?_;simp[ar,ai]
def W9(hG:av GI)(s:aD)(hs:ba s=true){l:List (Nat×Nat)}(bt:l≠[])(hl:l.length<10000)(kJ:∀g∈l,Iw s g)(cut:Bool){st:Int}(h0:0<=st)(h1:st<=10):AC prog GI 127 [fX s,Ht l cut,.int .i64 st] (.ret (.int .i64 (fT s st (l.map (bH s)) (l.length-1)+(if cut then gN s.nT s.nS st else 0)))):=by
 have hF:=hO hs;have iE:=List.length_pos_iff.2 bt
 have E9:fT s st (l.map (bH s)) (l.length-1)=(jr s st (l.map (bH s)) l.length).sum:=by
  have:=BX (s:=s) (st:=st) (l:=l.map (bH s)) (l.length-1) (by rw[List.length_map];omega);rw[show l.length-1+1=l.length by omega]at this;exact this.symm
 rw[E9];refine dZ hG func127 ntmps127 c127 ?_;refine bw (λS H=>S 2=.int .i64 st/\S 3=.box 3 0/\S 4=.box 4 0/\H 3=some (aK s)/\H 4=some [.slice .view (l.map gA),.bool cut]) (by simp[ar,ai,fX,aK,Ht,ot,aA,bB]) ?_;rintro S H ⟨s2,s3,s4,e3,e4⟩;refine bw (λS H=>S 2=.int .i64 st/\S 3=.box 3 0/\S 4=.box 4 0/\H 3=some (aK s)/\H 4=some [.slice .view (l.map gA),.bool cut]/\S 7=iJ []) (by simp[ar,ai,s2,s3,s4,e3,e4,iJ,grow]) ?_;clear s2 s3 s4 e3 e4 S H;rintro S H ⟨s2,s3,s4,e3,e4,s7⟩;refine bw (λS H=>S 2=.int .i64 st/\S 3=.box 3 0/\S 4=.box 4 0/\H 3=some (aK s)/\H 4=some [.slice .view (l.map gA),.bool cut]/\S 7=iJ (jr s st (l.map (bH s)) l.length)) ?_ ?_
 .simp[ar,ai,s2,s3,s4,e3,e4];refine dE 13 l.length (λi S H=>S 2=.int .i64 st/\S 3=.box 3 0/\S 4=.box 4 0/\H 3=some (aK s)/\H 4=some [.slice .view (l.map gA),.bool cut]/\S 11=.slice .view (l.map gA)/\S 12=.int .i64 l.length/\S 13=.int .i64 (i:Nat)/\S 7=iJ (jr s st (l.map (bH s)) i)) (λi S H h=>h.2.2.2.2.2.2.2.1) ⟨by simp[ar,ai,s2],by simp[ar,ai,s3],by simp[ar,ai,s4],by simp[ar,ai,e3],by simp[ar,ai,e4],by simp[ar,ai],by simp[ar,ai],by simp[ar,ai],by simp[ar,ai,s7,jr]⟩ ?_;clear s2 s3 s4 e3 e4 s7 S H;rintro i hi S H ⟨s2,s3,s4,e3,e4,de,bn,dz,s7⟩
  by_cases ao:i<l.length
  case neg=>
   have ec:i=l.length:=by omega
   subst ec;simp[ar,ai,s2,s3,s4,e3,e4,de,bn,dz,s7]
  have hw:IntKind.i64.wrap ((i:Int)+1)=i+1:=bl (by omega)
  cases i with
  |zero=>
   have s7':S 7=.slice .nil []:=by rw[s7];rfl
   simp[ar,ai,s2,s3,s4,e3,e4,de,bn,dz,s7',ao,gA];exact⟨bl (by omega),by simp[jr,iJ,grow]⟩
  |succ m=>
   have RH:m<l.length:=by omega
   have me:jr s st (l.map (bH s)) (m+1+1)=jr s st (l.map (bH s)) (m+1)++[mg s st (bH s l[m]) (bH s l[m+1])]:=by
    rw[yF (by simpa using ao)];simp
   have hlen:(jr s st (l.map (bH s)) (m+1)).length<1000000:=by have:=wH (s:=s) (st:=st) (l:=l.map (bH s)) (m+1);omega
   rw[me];have PT:IntKind.i64.wrap (m:Int)=m:=bl (by omega);have oB:IntKind.i64.wrap ((m:Int)+1+1)=m+1+1:=bl (by omega)
   have Oc:(0:Int)<(m:Int)+1:=by omega
   have aa1:(0:Int)<=(m:Int)+1:=by omega
   have jx:(m:Int)+1<l.length:=by omega
   generalize jr s st (l.map (bH s)) (m+1)=L at s7 hlen⊢;have fh:aC 1 [AV.int .i64 (mg s st (bH s l[m]) (bH s l[m+1]))]=true:=rfl;simp[s2,s3,s4,e3,e4,de,bn,dz,s7,ao,gA,aK,aA,bB,PT,Oc,aa1,RH,jx];refine oc (Wp hG s hF (kJ _ (List.getElem_mem RH)) (kJ _ (List.getElem_mem ao)) h0 h1) ?_;simp[s2,s3,s4,e3,e4,de,bn,dz,s7,fh];refine BT (L.map (AV.int .i64)) (AV.int .i64 (mg s st (bH s l[m]) (bH s l[m+1]))) (.own 3) (by simp[s7,iJ,grow]) (by simp) rfl (sC _) (by rw[List.length_map];omega) ?_;intro S' sd eG;simp[sd,eG,s2,s3,s4,e3,e4,de,bn,dz,ao,jx,oB,iJ,aK,aA,bB]
 clear s2 s3 s4 e3 e4 s7 S H;rintro S H ⟨s2,s3,s4,e3,e4,s7⟩;have Vp:=mc hF.o.2.1 h0 h1
 have Hg:(jr s st (l.map (bH s)) l.length).length<10000:=by have:=wH (s:=s) (st:=st) (l:=l.map (bH s)) l.length;omega
 have hb:∀x∈jr s st (l.map (bH s)) l.length,0<=x/\x<=1000:=λx hx=>by have:=BR hF h0 h1 _ x hx;omega
 refine bw (λS H=>S 7=iJ (jr s st (l.map (bH s)) l.length++if cut then[gN s.nT s.nS st]else[])) ?_ ?_
 .cases cut with
  |false=>simp[ar,ai,s2,s3,s4,e3,e4,s7]
  |true=>
   have fh:aC 1 [AV.int .i64 (gN s.nT s.nS st)]=true:=rfl;generalize jr s st (l.map (bH s)) l.length=L at s7 Hg⊢;simp[s2,s3,s4,e3,e4,s7,aK,aA,bB];refine oc (DN hG hF.o.1 hF.o.2.1 (by have:=hF.o.2.2;omega) h0 h1) ?_;simp[fh];refine mK (L.map (AV.int .i64)) (AV.int .i64 (gN s.nT s.nS st)) (.own 3) (by simp[iJ]) (by simp) rfl (sC _) (by rw[List.length_map];omega) ?_;intro S' sd eG;simp[sd,eG,iJ]
 clear s2 s3 s4 e3 e4 s7 S H;rintro S H s7;have ho:=hF.o
 have iw:∀x∈(jr s st (l.map (bH s)) l.length++if cut then[gN s.nT s.nS st]else[]),0<=x/\x<=1000:=by
  intro x hx;rcases List.mem_append.1 hx with hx|hx
  .exact hb x hx
  .cases cut with
   |false=>simp at hx
   |true=>simp at hx;omega
 have Jk:(jr s st (l.map (bH s)) l.length++if cut then[gN s.nT s.nS st]else[]).sum=(jr s st (l.map (bH s)) l.length).sum+if cut then gN s.nT s.nS st else 0:=by
  rw[List.sum_append]
  cases cut<;>simp
 have oL:(jr s st (l.map (bH s)) l.length++if cut then[gN s.nT s.nS st]else[]).length<100000:=by
  rw[List.length_append]
  cases cut<;>simp<;>omega
 rw[<-Jk];generalize(jr s st (l.map (bH s)) l.length++if cut then[gN s.nT s.nS st]else[])=L at s7 iw oL⊢;rcases xH L with⟨hg,rfl⟩|hg
 .rw[hg]at s7;simp[ar,ai,s7];refine oc (Dq hG [] oL iw) ?_;simp[ar,ai]
 .rw[hg]at s7;simp[ar,ai,s7];refine oc (Dq hG L oL iw) ?_;simp[ar,ai]
def TO(hG:av GI)(s:aD)(hs:ba s=true){l:List (Nat×Nat)}(bt:l≠[])(hl:l.length<=24)(kJ:∀g∈l,Iw s g)(cut:Bool){st:Int}(h0:0<=st)(h1:st<=10):AC prog GI 51 [fX s,Ht l cut,.int .i64 st] (.ret (.int .i64 (gR s st (l.map (bH s)) cut))):=by
 have hF:=hO hs
 have bo:∀a∈l.map (bH s),HW s a:=λa ha=>by
  obtain⟨g,hg,rfl⟩:=List.mem_map.1 ha;exact sK hs (kJ g hg)
 have ZS:l.map (bH s)≠[]:=by simpa using bt
 have hb:=AZ hF h0 h1 ZS bo (by simpa using hl) cut;have iE:=List.length_pos_iff.2 bt;have hg:=py hF h0 h1 (l:=l.map (bH s)) (i:=l.length-1) (by rw[List.length_map];omega);have C':=pI hF bo (i:=l.length) (by simp);have Vp:=mc hF.o.2.1 h0 h1;have ho:=hF.o;have hh:=hF.eZ;have a1:=Ut hG s hs (by omega:l.length<10000) kJ cut st;have a2:=W9 hG s hs bt (by omega) kJ cut h0 h1
 have hwp:gR s st (l.map (bH s)) cut=(fU s (l.map (bH s)) l.length+(if cut then s.eZ else 0))+(fT s st (l.map (bH s)) (l.length-1)+(if cut then gN s.nT s.nS st else 0)):=by
  unfold gR;rw[List.length_map]
 rw[hwp]at hb⊢
 have lP:0<=fU s (l.map (bH s)) l.length+(if cut then s.eZ else 0):=by cases cut<;>simp<;>omega
 have kX:0<=fT s st (l.map (bH s)) (l.length-1)+(if cut then gN s.nT s.nS st else 0):=by cases cut<;>simp<;>omega
 generalize fU s (l.map (bH s)) l.length+(if cut then s.eZ else 0)=X at a1 lP hb⊢;generalize fT s st (l.map (bH s)) (l.length-1)+(if cut then gN s.nT s.nS st else 0)=Y at a2 kX hb⊢;have w1:IntKind.i64.wrap X=X:=bl (by omega);have w2:IntKind.i64.wrap (X+Y)=X+Y:=bl (by omega);refine dZ hG func51 ntmps51 c51 ?_;refine bw (λS H=>S 2=.int .i64 st/\S 3=.box 3 0/\S 4=.box 4 0/\H 3=some (aK s)/\H 4=some [.slice .view (l.map gA),.bool cut]) (by simp[ar,ai,fX,aK,Ht,ot,aA,bB]) ?_;rintro S H ⟨s2,s3,s4,e3,e4⟩;simp[ar,ai,s2,s3,s4,e3,e4];refine dE 11 2 (λi S H=>S 2=.int .i64 st/\S 3=.box 3 0/\S 4=.box 4 0/\H 3=some (aK s)/\H 4=some [.slice .view (l.map gA),.bool cut]/\S 10=.fR [.func (.func 126) [] [],.func (.func 127) [] []]/\S 11=.int .i64 (i:Nat)/\S 7=.int .i64 (if i=0 then 0 else if i=1 then X else X+Y)) (λi S H h=>h.2.2.2.2.2.2.1) ⟨by simp[ar,ai,s2],by simp[ar,ai,s3],by simp[ar,ai,s4],by simp[ar,ai,e3],by simp[ar,ai,e4],by simp[ar,ai],by simp[ar,ai],by simp[ar,ai]⟩ ?_;clear s2 s3 s4 e3 e4 S H;rintro i hi S H ⟨s2,s3,s4,e3,e4,bW,de,s7⟩
 match i,hi with
 |0,_=>
  simp[ar,ai,s2,s3,s4,e3,e4,bW,de,s7,aK,aA,bB,wW];refine oc a1 ?_;simp[ar,ai,s2,s3,s4,e3,e4,bW,de,s7,aK,aA,bB,w1];exact bl (by omega)
 |1,_=>
  simp[ar,ai,s2,s3,s4,e3,e4,bW,de,s7,aK,aA,bB,wW];refine oc a2 ?_;simp[ar,ai,s2,s3,s4,e3,e4,bW,de,s7,aK,aA,bB,w2];exact bl (by omega)
 |2,_=>
  simp[ar,ai,s2,s3,s4,e3,e4,bW,de,s7]
def Rv(s:aD)(out:List Int)(es:List End)(i:Nat):AV:=Ht (iB s out es i) (iH s es i)
def fL(s:aD)(out:List Int)(es:List End)(n:Nat):List AV:=(List.range n).map (Rv s out es)
def Cp(s:aD)(out:List Int)(es:List End)(n:Nat):fL s out es (n+1)=fL s out es n++[Rv s out es n]:=by
 unfold fL;rw[List.range_succ,List.map_append];rfl
def IC(s:aD)(out:List Int)(es:List End)(n:Nat):aC 2 (fL s out es n)=true:=mM λa=>⟨rfl,rfl⟩
def Re(l:List (Nat×Nat)):aC 2 (l.map gA)=true:=mM λa=>⟨rfl,rfl⟩
def xL(s:aD)(out:List Int)(es:List End)(n:Nat):(fL s out es n).length=n:=by unfold fL;simp
def Lx(a:Nat)(S:af)(_:ah):Nat:=match S 6,S 7 with
 |.int _ w,.int _ f=>((a-w)*1000+(1000-f)).toNat
 |_,_=>0
def I81(s:aD)(out:List Int)(es:List End)(i a b:Nat)(S:af)(H:ah):Prop:=S 2=.box 2 0/\S 3=.box 3 0/\H 2=some (aK s)/\H 3=some [vI out,.slice .view (es.map cz)]/\S 12=.slice .view (es.map cz)/\S 13=.int .i64 es.length/\S 14=.int .i64 (i:Nat)/\S 5=grow 134 (fL s out es i)/\S 9=.box 9 0/\H 9=some [.int .i64 a,.int .i64 b]/\S 10=.box 10 0/\∃(w f:Nat)(D:List (Nat×Nat)),H 10=some [grow 216 (D.map gA),.bool (iH s es i)]/\S 6=.int .i64 w/\S 7=.int .i64 f/\D++gL s out (w,f) (a,b)=iB s out es i/\w<=a/\(w=a->f<=b)/\(w<a->f<=fM s w)
def TA(hG:av GI)(s:aD)(hs:ba s=true)(out:List Int)(ho:out.length<1000000)(es:List End)(he:es.length<100000)(g:Good s out es):AC prog GI 50 [fX s,aM out es] (.ret (.slice .view (fL s out es es.length))):=by
 have hF:=hO hs;refine AC.yL (o:=if fL s out es es.length=[]then .nil else .view) ?_;refine dZ hG func50 ntmps50 c50 ?_;refine bw (λS H=>S 2=.box 2 0/\S 3=.box 3 0/\H 2=some (aK s)/\H 3=some [vI out,.slice .view (es.map cz)]) (by simp[ar,ai,fX,aK,aA,bB,aM,bz]) ?_;rintro S H ⟨s2,s3,e2,e3⟩;simp[ar,ai,s2,s3,e2,e3];refine dE 14 es.length (λi S H=>S 2=.box 2 0/\S 3=.box 3 0/\H 2=some (aK s)/\H 3=some [vI out,.slice .view (es.map cz)]/\S 12=.slice .view (es.map cz)/\S 13=.int .i64 es.length/\S 14=.int .i64 (i:Nat)/\S 5=grow 134 (fL s out es i)/\S 6=.int .i64 (kG es i).1/\S 7=.int .i64 (kG es i).2) (λi S H h=>h.2.2.2.2.2.2.1) ⟨by simp[ar,ai,s2],by simp[ar,ai,s3],by simp[ar,ai,e2],by simp[ar,ai,e3],by simp[ar,ai],by simp[ar,ai],by simp[ar,ai],by simp[ar,ai,grow,fL],by simp[ar,ai,kG],by simp[ar,ai,kG]⟩ ?_;clear s2 s3 e2 e3 S H;rintro i hi S H ⟨s2,s3,e2,e3,bn,dz,fw,s5,s6,s7⟩
 by_cases ao:i<es.length
 case neg=>
  have ec:i=es.length:=by omega
  subst ec
  by_cases h0:fL s out es es.length=[]
  .have kH:S 5=.slice .nil []:=by rw[s5,h0];rfl
   simp[ar,ai,s2,s3,e2,e3,bn,dz,fw,kH,h0]
  .have kH:S 5=.slice (.own 134) (fL s out es es.length):=by rw[s5];simp[grow,h0]
   simp[ar,ai,s2,s3,e2,e3,bn,dz,fw,kH,h0]
 obtain⟨g1,g2,g3,g4,g5⟩:=g.one i ao
 obtain⟨a,ha⟩:∃a:Nat,es[i].1=a:=⟨es[i].1.toNat,by omega⟩
 obtain⟨b,hb⟩:∃b:Nat,es[i].2=b:=⟨es[i].2.toNat,by omega⟩
 have hE:es[i]=((a:Int),(b:Int)):=Prod.ext ha hb
 have Uv:nE es[i]=(a,b):=by rw[hE];rfl
 have fu:a<s.words.length:=by omega
 have ph:iH s es i=decide (b<s.words[a].bD.length):=by
  rw[N9 ao,hE];show decide ((b:Int)<(fM s (a:Int).toNat:Int))=_;rw[Int.toNat_natCast,oH fu,decide_eq_decide];omega
 rw[ha]at g3 g5;rw[hb]at g4 g5
 have g5:b<=s.words[a].bD.length:=by rw[Int.toNat_natCast,oH fu]at g5;omega
 have uO:iB s out es i=gL s out (kG es i) (a,b):=by rw[uY ao,Uv]
 have Er:=vN hs g i;have hw:IntKind.i64.wrap ((i:Int)+1)=i+1:=bl (by omega)
 have abf:kG es (i+1)=(a,b):=by
  show(match es[i]? with|some e=>nE e|none=>(0,0))=_;rw[List.getElem?_eq_getElem ao];exact Uv
 have aau:=C_ g ao;rw[Uv]at aau;simp[ar,ai,s2,s3,e2,e3,bn,dz,fw,ao,hE,cz,aK,aA,bB,fu,ez,dH];refine⟨I81 s out es i a b,Lx a,⟨by simp[ar,ai,s2],by simp[ar,ai,s3],by simp[ar,ai,e2,aK,aA,bB],by simp[ar,ai,e3],by simp[ar,ai,bn],by simp[ar,ai,dz],by simp[ar,ai,fw],by simp[ar,ai,s5,grow],by simp[ar,ai],by simp[ar,ai],by simp[ar,ai],(kG es i).1,(kG es i).2,[],by simp[ar,ai,grow,ph],by simp[ar,ai,s6],by simp[ar,ai,s7],by rw[uO];rfl,by omega,by omega,?_⟩,?_⟩
 .intro _
  cases i with
  |zero=>exact Nat.zero_le _
  |succ j=>
   have hj:=g.one j (by omega)
   have:kG es (j+1)=nE es[j]:=by show(match es[j]? with|some e=>nE e|none=>(0,0))=_;rw[List.getElem?_eq_getElem (by omega)]
   rw[this];show es[j].2.toNat<=fM s es[j].1.toNat;omega
 clear s2 s3 e2 e3 bn dz fw s5 s6 s7 S H;rintro S H ⟨s2,s3,e2,e3,bn,dz,fw,s5,s9,e9,bW,w,f,D,rh,s6,s7,hD,KG,hfb,sW⟩
 have hDl:D.length<=24:=by
  have:=congrArg List.length hD;rw[List.length_append]at this;omega
 have hl6:=(uo hs (out:=out) w).2;have XX:=(uo hs (out:=out) a).2;rw[oH fu]at XX
 have hf6:f<=6:=by
  by_cases h:w<a
  .have:=sW h;omega
  .have:=hfb (by omega);omega
 by_cases ly:w<a\/w=a/\f<b
 case neg=>
  obtain rfl:w=a:=by omega
  obtain rfl:f=b:=by have:=hfb rfl;omega
  rw[HM (Nat.le_refl _),List.append_nil]at hD
  have Yh:D≠[]:=by rw[hD];exact yG g ao
  have hg:grow 216 (D.map gA)=.slice (.own 216) (D.map gA):=by simp[grow,Yh]
  rw[hg]at rh
  have Sk:Rv s out es i=.agg [.slice .view (D.map gA),.bool (iH s es i)]:=by rw[hD];rfl
  have fh:aC 2 [AV.agg [AV.slice .view (D.map gA),AV.bool (iH s es i)]]=true:=rfl;simp[s2,s3,e2,e3,bn,dz,fw,s5,s9,e9,bW,rh,s6,s7,fh];refine mK (fL s out es i) (Rv s out es i) (.own 134) (by simp[s5,grow]) (by rw[Sk];simp) (by rw[Sk];rfl) (IC _ _ _ _) (by rw[xL];omega) ?_;intro S' sd eG;simp[sd,eG,s2,s3,e2,e3,bn,dz,fw,s6,s7,hw,ao,abf,Cp,grow,aK,aA,bB]
 have Dh:w<s.words.length:=by omega
 have Ua:=oH Dh;refine bw (λS H=>S 2=.box 2 0/\S 3=.box 3 0/\H 2=some (aK s)/\H 3=some [vI out,.slice .view (es.map cz)]/\S 12=.slice .view (es.map cz)/\S 13=.int .i64 es.length/\S 14=.int .i64 (i:Nat)/\S 5=grow 134 (fL s out es i)/\S 9=.box 9 0/\H 9=some [.int .i64 a,.int .i64 b]/\S 10=.box 10 0/\H 10=some [grow 216 (D.map gA),.bool (iH s es i)]/\S 6=.int .i64 w/\S 7=.int .i64 f) ?_ ?_
 .rcases ly with FQ|⟨rfl,Y1⟩
  .have nF:(w:Int)<a:=by omega
   simp[ar,ai,s2,s3,e2,e3,bn,dz,fw,s5,s9,e9,bW,rh,s6,s7,nF,FQ]
  .have hfi:(f:Int)<b:=by omega
   simp[ar,ai,s2,s3,e2,e3,bn,dz,fw,s5,s9,e9,bW,rh,s6,s7,hfi,Y1]
 have AO:Lx a S H=(a-w)*1000+(1000-f):=by unfold Lx;rw[s6,s7];simp only;omega
 rw[AO];clear s2 s3 e2 e3 bn dz fw s5 s9 e9 bW rh s6 s7 AO S H;rintro S H ⟨s2,s3,e2,e3,bn,dz,fw,s5,s9,e9,bW,rh,s6,s7⟩;simp[s2,s3,e2,e3,bn,dz,fw,s5,s9,e9,bW,rh,s6,s7];refine⟨_,by kernel_rfl,SX hG out ho w,λ_=>rfl,?_⟩;have kI:=hF.words.2;have n_:IntKind.i64.wrap ((w:Int)+1)=w+1:=bl (by omega);have Q5:IntKind.i64.wrap ((f:Int)+1)=f+1:=bl (by omega);have xX:IntKind.i64.wrap 0=0:=bl (by omega);cases zw:out.contains (w:Int)
 case true=>
  have FQ:w<a:=by
   rcases ly with h|⟨rfl,_⟩
   .exact h
   .rw[zw]at g3;cases g3
  simp[s2,s3,e2,e3,bn,dz,fw,s5,s9,e9,bW,rh,s6,s7,n_,xX];refine⟨⟨by simp[ar,ai,s2],by simp[ar,ai,s3],e2,e3,by simp[ar,ai,bn],by simp[ar,ai,dz],by simp[ar,ai,fw],by simp[ar,ai,s5,grow],by simp[ar,ai,s9],e9,by simp[ar,ai,bW],w+1,0,D,rh,by simp[ar,ai],by simp[ar,ai],by rw[<-hD,L7 FQ zw],by omega,λ_=>Nat.zero_le _,λ_=>Nat.zero_le _⟩,?_⟩;simp[Lx,au];omega
 have hlen:(((w:Nat):Int))<s.words.length:=by omega
 cases LF:((f:Int)==s.words[w].bD.length)
 case true=>
  have TY:fM s w<=f:=by rw[Ua];simp at LF;omega
  have FQ:w<a:=by
   rcases ly with h|⟨rfl,h⟩
   .exact h
   .rw[Ua]at TY;omega
  simp[s2,s3,e2,e3,bn,dz,fw,s5,s9,e9,bW,rh,s6,s7,n_,xX,aK,aA,bB,ez,Dh,LF];refine⟨⟨by simp[ar,ai,s2],by simp[ar,ai,s3],e2,e3,by simp[ar,ai,bn],by simp[ar,ai,dz],by simp[ar,ai,fw],by simp[ar,ai,s5,grow],by simp[ar,ai,s9],e9,by simp[ar,ai,bW],w+1,0,D,rh,by simp[ar,ai],by simp[ar,ai],by rw[<-hD,G8 FQ TY],by omega,λ_=>Nat.zero_le _,λ_=>Nat.zero_le _⟩,?_⟩;simp[Lx,au];omega
 have bt:f≠s.words[w].bD.length:=by simp at LF;omega
 have hfw:f<fM s w:=by
  rcases ly with h|⟨rfl,h⟩
  .have:=sW h;omega
  .omega
 have fh:aC 2 [AV.agg [AV.int .i64 (w:Nat),AV.int .i64 (f:Nat)]]=true:=rfl;simp[s2,s3,e2,e3,bn,dz,fw,s5,s9,e9,bW,rh,s6,s7,aK,aA,bB,ez,Dh,LF,dH,fh];refine mK (D.map gA) (gA (w,f)) (.own 216) (by simp[grow]) (by simp[gA]) rfl (Re _) (by rw[List.length_map];omega) ?_;intro S' sd eG;simp[sd,eG,s2,s3,e2,e3,bn,dz,fw,s5,s9,e9,bW,s6,s7,Q5,grow];refine⟨⟨by simp[ar,ai,eG,s2],by simp[ar,ai,eG,s3],?_,?_,by simp[ar,ai,eG,bn],by simp[ar,ai,eG,dz],by simp[ar,ai,eG,fw],by simp[ar,ai,eG,s5,grow],by simp[ar,ai,eG,s9],?_,by simp[ar,ai,eG,bW],w,f+1,D++[(w,f)],?_,by simp[ar,ai,eG,s6],by simp[ar,ai],?_,KG,?_,?_⟩,?_⟩
 .simp[ar,ai,e2,aK,aA,bB]
 .simp[ar,ai,e3]
 .simp[ar,ai,e9]
 .simp[ar,ai,grow]
 .have l8:gL s out (w,f) (a,b)=(w,f)::gL s out (w,f+1) (a,b):=OL (by
   rcases ly with h|h
   .exact .inl ⟨h,zw,hfw⟩
   .exact .inr h)
  rw[<-hD,l8];simp
 .intro h;rcases ly with h'|h'<;>omega
 .intro _;omega
 .simp[Lx,au,eG,s6];omega
end Go.Proofs.Tryz
namespace Go.Proofs.Tryz
open Go Go.AL Go.RowKit Go.Proofs Go.Proofs.Tram
attribute [local simp] dS eF Cj zj dT cV cZ ck cg dQ cd bP fB fC an aq ev aB.S aB.H aY au aH AL.start AV.cells AV.storable AV.bb aQ aZ aP HR.okB post cU cL cI AV.out AV.bu br bU fz fG AV.vw bR vI int bI az ct cb gB il dM cD aR AV.aw AV.bV nz
variable{GI:World->Prop}
def fY(m j:Nat):Bool:=decide (m&&&2^j≠0)
def ea(ws:List Int)(m i:Nat):List Int:=((List.range i).filter (fY m)).map λj=>ws.getD j 0
def cn(ws:List Int)(m:Nat):Int:=(ea ws m ws.length).sum
def FN(ws:List Int)(m i:Nat):ea ws m (i+1)=ea ws m i++if fY m i then[ws.getD i 0]else[]:=by
 unfold ea;rw[List.range_succ,List.filter_append,List.map_append]
 cases h:fY m i<;>simp[h]
def zf(ws:List Int)(m i:Nat):(ea ws m i).length<=i:=by
 unfold ea;rw[List.length_map];exact Nat.le_trans (List.length_filter_le _ _) (by simp)
def yV{ws:List Int}(h:∀x∈ws,1<=x/\x<=6)(m:Nat){i:Nat}(hi:i<=ws.length):∀x∈ea ws m i,0<=x/\x<=6:=by
 intro x hx;obtain⟨j,hj,rfl⟩:=List.mem_map.1 hx;have hj:=List.mem_range.1 (List.mem_filter.1 hj).1
 have dJ:j<ws.length:=by omega
 rw[List.getD_eq_getElem?_getD,List.getElem?_eq_getElem dJ];have:=h _ (List.getElem_mem dJ);simp only[Option.getD_some];omega
def yw{i:Nat}(h:i<5):2^i<32:=by
 have:i=0\/i=1\/i=2\/i=3\/i=4:=by omega
 rcases this with rfl|rfl|rfl|rfl|rfl<;>decide
def J1{i:Nat}(h:i<5):(2^i-1)|||2^i=2^(i+1)-1:=by
 have:i=0\/i=1\/i=2\/i=3\/i=4:=by omega
 rcases this with rfl|rfl|rfl|rfl|rfl<;>decide
def aa6(hG:av GI){n:Nat}(hn:n<=4):AC prog GI 46 [vI (iR n)] (.ret (.int .i64 ((2^n-1:Nat):Int))):=by
 have I':=zO n
 have GZ:=λi (h:i<n)=>EK h
 obtain⟨L,sk⟩:∃L,ints (iR n)=L:=⟨_,rfl⟩
 rw[sk]at I';simp only[sk]at GZ;refine dZ hG func46 ntmps46 c46 ?_;refine bw (λS H=>S 0=.slice .view L) (by simp[c46,sk,ar,ai]) ?_;rintro S H s0;refine bw (λS H=>S 0=.slice .view L/\S 3=.int .i64 0) (by simp[c46,s0,ar,ai]) ?_;clear s0 S H;rintro S H ⟨s0,s3⟩;refine bw (λS H=>S 3=.int .i64 ((2^n-1:Nat):Int)) ?_ ?_
 .simp[c46,s0,s3,I',ar,ai];refine dE 8 n (λi S H=>S 6=.slice .view L/\S 7=.int .i64 (n:Nat)/\S 8=.int .i64 (i:Nat)/\S 3=.int .i64 ((2^i-1:Nat):Int)) (λi S H h=>h.2.2.1) ⟨by simp[ar,ai],by simp[ar,ai],by simp[ar,ai],by simp[s3,ar,ai]⟩ ?_;clear s0 s3 S H;rintro i hi S H ⟨s6,s7,s8,s3⟩
  by_cases ao:i<n
  .have hw:IntKind.i64.wrap ((i:Int)+1)=i+1:=bl (by omega);have hg:=GZ i ao
   have me:i<L.length:=by omega
   have m_:L[i]=.int .i64 (i:Nat):=by rw[List.getElem?_eq_getElem me]at hg;exact Option.some.inj hg
   have b1:=zu (b:=i) (by omega);have b2:=QO (a:=2^i-1) (b:=2^i) (by have:=yw (i:=i) (by omega);omega) (yw (by omega));rw[J1 (by omega)]at b2
   obtain⟨p,hp⟩:∃p:Nat,2^i-1=p:=⟨_,rfl⟩
   obtain⟨q,hq⟩:∃q:Nat,2^(i+1)-1=q:=⟨_,rfl⟩
   obtain⟨r,hr⟩:∃r:Nat,2^i=r:=⟨_,rfl⟩
   rw[hp]at s3;rw[hp,hq,hr]at b2;rw[hr]at b1;rw[hq];simp[s3,s6,s7,s8,ao,me,hg,m_,hw,b1,b2,ar,ai]
  .have ec:i=n:=by omega
   subst ec;simp[s3,s6,s7,s8,ar,ai]
 rintro S H s3;simp[c46,s3,ar,ai]
def WY(hG:av GI){l:List Int}(hl:l.length<=4)(hb:∀x∈l,0<=x/\x<=6):AC prog GI 173 [vI l] (.ret (.int .i64 l.sum)):=by
 refine dZ hG func173 ntmps173 c173 ?_;refine bw (λS H=>S 0=.slice .view (ints l)) (by simp[c173,ar,ai]) ?_;rintro S H s0;refine bw (λS H=>S 0=.slice .view (ints l)/\S 3=.int .i64 0) (by simp[c173,s0,ar,ai]) ?_;clear s0 S H;rintro S H ⟨s0,s3⟩
 have ec:(ints l).length=l.length:=by simp[ints]
 refine bw (λS H=>S 3=.int .i64 l.sum) ?_ ?_
 .simp[c173,s0,s3,ec,ar,ai];refine dE 8 l.length (λi S H=>S 6=.slice .view (ints l)/\S 7=.int .i64 (l.length:Nat)/\S 8=.int .i64 (i:Nat)/\S 3=.int .i64 (l.take i).sum) (λi S H h=>h.2.2.1) ⟨by simp[ar,ai],by simp[ar,ai],by simp[ar,ai],by simp[s3,ar,ai]⟩ ?_;clear s0 s3 S H;rintro i hi S H ⟨s6,s7,s8,s3⟩
  by_cases ao:i<l.length
  .have hw:IntKind.i64.wrap ((i:Int)+1)=i+1:=bl (by omega)
   have m_:(ints l)[i]?=some (.int .i64 l[i]):=by simp[ints,ao]
   have hx:=hb _ (List.getElem_mem ao)
   have hs:0<=(l.take i).sum/\(l.take i).sum<=6*(l.take i).length:=by
    have key:∀k:List Int,(∀x∈k,0<=x/\x<=6)->0<=k.sum/\k.sum<=6*k.length:=by
     intro k
     induction k with
     |nil=>simp
     |cons y k ih=>
      intro h;have h1:=h y (by simp)
      have h2:=ih λz hz=>h z (by simp[hz])
      simp only[List.sum_cons,List.length_cons];omega
    exact key _ λx hx=>hb x (List.mem_of_mem_take hx)
   have hlen:(l.take i).length<=4:=by rw[List.length_take];omega
   have oB:IntKind.i64.wrap ((l.take i).sum+l[i])=(l.take i).sum+l[i]:=bl (by omega)
   have gx:(l.take (i+1)).sum=(l.take i).sum+l[i]:=by rw[List.take_succ_eq_append_getElem ao,List.sum_append];simp
   rw[gx];simp[s3,s6,s7,s8,ao,m_,hw,oB,ec,ar,ai]
  .have MP:i=l.length:=by omega
   subst MP;simp[s3,s6,s7,s8,ar,ai]
 rintro S H s3;simp[c173,s3,ar,ai]
def T8(hG:av GI)(x a:Int)(m:Nat):AC prog GI 156 [cw x,eB a m] (.ret (.bool (decide (x<=a)))):=by
 refine dZ hG func156 ntmps156 c156 ?_
 by_cases h:x<=a<;>simp[c156,cw,eB,dq,h,ar,ai]
def Qg(m i:Nat):(((m&&&2^i:Nat):Int)!=0)=fY m i:=by
 unfold fY
 by_cases h:m&&&2^i=0
 .simp[h]
 .have:((m&&&2^i:Nat):Int)≠0:=by omega
  simp only[h,ne_eq,not_false_eq_true,decide_true];simpa[bne_iff_ne]using this
def UW(hG:av GI){ws:List Int}{w:Int}(hL:ft ws w)(v:Value){a:Int}(ha:1<=a/\a<=6){m:Nat}(hm:m<32):AC prog GI 157 [dA ws w v,eB a m] (.ret (.bool (decide (cn ws m>a)))):=by
 have hlen:=hL.1;have xP:=po ws;have KG:IntKind.i64.wrap a=a:=bl (by omega);have j1:=WY (GI:=GI) hG (l:=ea ws m ws.length) (Nat.le_trans (zf _ _ _) hlen.2) (yV hL.2.1 m (Nat.le_refl _));refine dZ hG func157 ntmps157 c157 ?_;refine bw (λS H=>S 2=.box 2 0/\H 2=some (dY ws w v)/\S 3=.box 3 0/\H 3=some (dq a m)) (by simp[c157,dA,dY,bJ,eB,dq,ar,ai]) ?_;rintro S H ⟨s2,h2,s3,h3⟩;refine bw (λS H=>S 2=.box 2 0/\H 2=some (dY ws w v)/\S 3=.box 3 0/\H 3=some (dq a m)/\S 5=.slice .nil []) (by simp[c157,s2,h2,s3,h3,ar,ai]) ?_;clear s2 h2 s3 h3 S H;rintro S H ⟨s2,h2,s3,h3,s5⟩;refine bw (λS H=>S 3=.box 3 0/\H 3=some (dq a m)/\S 5=grow 3 (ints (ea ws m ws.length))) ?_ ?_
 .simp[c157,s2,h2,s3,h3,s5,xP,dY,bJ,ar,ai];refine dE 12 ws.length (λi S H=>S 10=.slice .view (ws.map cw)/\S 11=.int .i64 (ws.length:Nat)/\S 12=.int .i64 (i:Nat)/\S 3=.box 3 0/\H 3=some (dq a m)/\S 5=grow 3 (ints (ea ws m i))) (λi S H h=>h.2.2.1) ⟨by simp[ar,ai],by simp[ar,ai],by simp[ar,ai],by simp[s3,ar,ai],by simp[h3,ar,ai],by simp[s5,ea,ints,grow,ar,ai]⟩ ?_;clear s2 h2 s3 h3 s5 S H;rintro i hi S H ⟨bW,de,bn,s3,h3,s5⟩
  by_cases ao:i<ws.length
  .have hw:IntKind.i64.wrap ((i:Int)+1)=i+1:=bl (by omega);have hg:=Ac ao;have hx:=hL.2.1 _ (List.getElem_mem ao);have T9:IntKind.i64.wrap ws[i]=ws[i]:=bl (by omega);have b1:=zu (b:=i) (by omega);have b2:=uM (a:=m) (b:=2^i) hm (yw (by omega));have EG:=Qg m i;have Mj:=FN ws m i
   have yc:ws.getD i 0=ws[i]:=by rw[List.getD_eq_getElem?_getD,List.getElem?_eq_getElem ao]<;>rfl
   rw[yc]at Mj;have Zh:=zf ws m i;rw[Mj];generalize ea ws m i=PI at s5 Zh⊢
   obtain⟨x,Ao⟩:∃x,ws[i]=x:=⟨_,rfl⟩
   rw[Ao]at hg T9⊢;generalize 2^i=p at b1 b2 EG
   obtain⟨o,ho⟩:∃o,grow 3 (ints PI)=.slice o (ints PI):=⟨_,rfl⟩
   rw[ho]at s5
   cases hb:fY m i with
   |false=>
    rw[hb]at EG;simp[bW,de,bn,s3,h3,s5,ao,hg,Ao,hw,b1,b2,EG,ho,cw,dq,dH,ar,ai]
   |true=>
    rw[hb]at EG
    have Ve:ints (PI++[x])=ints PI++[.int .i64 x]:=by simp[ints]
    have bo:aC 1 (ints PI)=true:=by simp[aC,ints,AV.storable,AV.cells]
    have fh:aC 1 [AV.int .i64 x]=true:=rfl
    have ec:(ints PI).length<=4:=by simp[ints];omega
    simp only[if_true,Ve];simp[bW,de,bn,s3,h3,s5,ao,hg,Ao,hw,T9,fh,b1,b2,EG,cw,dq,dH];refine mK (ints PI) (.int .i64 x) (.own 3) (by simp[s5,ho]) (by simp[T9]) fh bo (by omega) ?_;intro S' sd eG;simp[sd,eG,bW,de,bn,s3,h3,hw,dq]
  .have MP:i=ws.length:=by omega
   subst MP;simp[bW,de,bn,s3,h3,s5,ar,ai]
 clear s2 h2 s3 h3 s5 S H;rintro S H ⟨s3,h3,s5⟩;have VY:(ea ws m ws.length).sum=cn ws m:=rfl;rw[VY]at j1;generalize ea ws m ws.length=PI at s5 j1;unfold grow at s5
 by_cases hn:ints PI=[]
 .rw[if_pos hn,hn]at s5
  have hPI:PI=[]:=by simpa[ints]using hn
  subst hPI;simp[c157,s3,h3,s5,dq,KG,ar,ai];refine oc j1 ?_;simp[s3,h3,dq,KG,ar,ai]
 .rw[if_neg hn]at s5;simp[c157,s3,h3,s5,dq,KG,ar,ai];refine oc j1 ?_;simp[s3,h3,dq,KG,ar,ai]
end Go.Proofs.Tryz
namespace Go.Proofs.Tryz
open Go Go.AL Go.RowKit Go.Proofs Go.Proofs.Tram
def aG(ws:List Int)(a:Int)(m:Nat):Bool:=decide (cn ws m<=a)
def ED:Nat->Nat->Nat->List Nat
 |0,_,_=>[]
 |f+1,s,m=>if s=0 then[]else s::ED f ((s-1)&&&m) m
def oZ(ws:List Int)(m:Nat)(n n':Int)(k s:Nat):Bool:=(ED k s m).any λs=>aG ws n s&&aG ws n' (m-(m&&&s))
def pg(ws:List Int)(m:Nat)(n n':Int):Bool:=oZ ws m n n' 32 ((m-1)&&&m)
def jU(ws:List Int)(a m:Nat):Bool:=(List.range (a-1)).any λj=>pg ws m ((j+1:Nat):Int) ((a-(j+1):Nat):Int)
def iP(ws:List Int)(a:Int)(m i:Nat):Bool:=(List.range i).any λj=>decide (m=2^j)&&decide (ws.getD j 0<=a)
def CW(ws:List Int)(m:Nat)(n n':Int)(k s:Nat)(hs:s≠0):oZ ws m n n' (k+1) s=((aG ws n s&&aG ws n' (m-(m&&&s)))||oZ ws m n n' k ((s-1)&&&m)):=by
 unfold oZ;rw[ED,if_neg hs,List.any_cons]
def CV(ws:List Int)(m:Nat)(n n':Int)(k:Nat):oZ ws m n n' k 0=false:=by
 unfold oZ
 cases k<;>simp[ED]
def Ia(ws:List Int):cn ws 0=0:=by
 have:∀i,ea ws 0 i=[]:=λi=>by
  unfold ea
  have:(List.range i).filter (fY 0)=[]:=by
   rw[List.filter_eq_nil_iff];intro j _;simp[fY]
  rw[this]<;>rfl
 unfold cn
 rw[this]<;>rfl
def jd{ws:List Int}{a m j s:Nat}(hj:j<a-1)(hs:s∈ED 32 ((m-1)&&&m) m)(h1:cn ws s<=((j+1:Nat):Int))(h2:cn ws (m-(m&&&s))<=((a-(j+1):Nat):Int)):jU ws a m=true:=by
 unfold jU;rw[List.any_eq_true];refine⟨j,List.mem_range.2 hj,?_⟩;unfold pg oZ;rw[List.any_eq_true];refine⟨s,hs,?_⟩;unfold aG
 rw[decide_eq_true h1,decide_eq_true h2]<;>rfl
def GM{m n:Nat}(hm:m<2^n)(hn:n<=4):m<16:=Nat.lt_of_lt_of_le hm (Nat.pow_le_pow_right (by decide) hn)
def sI{ws:List Int}(h:1<=ws.length/\ws.length<=4):(∃x,ws=[x])\/(∃x y,ws=[x,y])\/(∃x y z,ws=[x,y,z])\/∃x y z u,ws=[x,y,z,u]:=by
 match ws,h with
 |[x],_=>exact .inl ⟨x,rfl⟩
 |[x,y],_=>exact .inr (.inl ⟨x,y,rfl⟩)
 |[x,y,z],_=>exact .inr (.inr (.inl ⟨x,y,z,rfl⟩))
 |[x,y,z,u],_=>exact .inr (.inr (.inr ⟨x,y,z,u,rfl⟩))
 |_::_::_::_::_::_,h=>exact absurd h.2 (by simp)
def Hh(x:Int):cn [x] 1=x+(0):=by simp[cn,ea,fY,List.range_succ]
def C2(x y:Int):cn [x,y] 1=x+(0):=by simp[cn,ea,fY,List.range_succ]
def HI(x y:Int):cn [x,y] 2=y+(0):=by simp[cn,ea,fY,List.range_succ]
def G7(x y:Int):cn [x,y] 3=x+(y+(0)):=by simp[cn,ea,fY,List.range_succ]
def rb(x y z:Int):cn [x,y,z] 1=x+(0):=by simp[cn,ea,fY,List.range_succ]
def y_(x y z:Int):cn [x,y,z] 2=y+(0):=by simp[cn,ea,fY,List.range_succ]
def G1(x y z:Int):cn [x,y,z] 3=x+(y+(0)):=by simp[cn,ea,fY,List.range_succ]
def yW(x y z:Int):cn [x,y,z] 4=z+(0):=by simp[cn,ea,fY,List.range_succ]
def V7(x y z:Int):cn [x,y,z] 5=x+(z+(0)):=by simp[cn,ea,fY,List.range_succ]
def HV(x y z:Int):cn [x,y,z] 6=y+(z+(0)):=by simp[cn,ea,fY,List.range_succ]
def Hs(x y z:Int):cn [x,y,z] 7=x+(y+(z+(0))):=by simp[cn,ea,fY,List.range_succ]
def kC(x y z u:Int):cn [x,y,z,u] 1=x+(0):=by simp[cn,ea,fY,List.range_succ]
def qk(x y z u:Int):cn [x,y,z,u] 2=y+(0):=by simp[cn,ea,fY,List.range_succ]
def zq(x y z u:Int):cn [x,y,z,u] 3=x+(y+(0)):=by simp[cn,ea,fY,List.range_succ]
def ry(x y z u:Int):cn [x,y,z,u] 4=z+(0):=by simp[cn,ea,fY,List.range_succ]
def U0(x y z u:Int):cn [x,y,z,u] 5=x+(z+(0)):=by simp[cn,ea,fY,List.range_succ]
def DO(x y z u:Int):cn [x,y,z,u] 6=y+(z+(0)):=by simp[cn,ea,fY,List.range_succ]
def HS(x y z u:Int):cn [x,y,z,u] 7=x+(y+(z+(0))):=by simp[cn,ea,fY,List.range_succ]
def rk(x y z u:Int):cn [x,y,z,u] 8=u+(0):=by simp[cn,ea,fY,List.range_succ]
def Xp(x y z u:Int):cn [x,y,z,u] 9=x+(u+(0)):=by simp[cn,ea,fY,List.range_succ]
def JA(x y z u:Int):cn [x,y,z,u] 10=y+(u+(0)):=by simp[cn,ea,fY,List.range_succ]
def P6(x y z u:Int):cn [x,y,z,u] 11=x+(y+(u+(0))):=by simp[cn,ea,fY,List.range_succ]
def uX(x y z u:Int):cn [x,y,z,u] 12=z+(u+(0)):=by simp[cn,ea,fY,List.range_succ]
def QU(x y z u:Int):cn [x,y,z,u] 13=x+(z+(u+(0))):=by simp[cn,ea,fY,List.range_succ]
def C6(x y z u:Int):cn [x,y,z,u] 14=y+(z+(u+(0))):=by simp[cn,ea,fY,List.range_succ]
def DB(x y z u:Int):cn [x,y,z,u] 15=x+(y+(z+(u+(0)))):=by simp[cn,ea,fY,List.range_succ]
def Wy{x y:Int}(hx:1<=x)(hy:1<=y){a:Nat}(h:cn [x,y] 3<=a):jU [x,y] a 3=true:=by
 rw[G7]at h;refine jd (j:=x.toNat-1) (s:=1) (by omega) (by decide) ?_ ?_
 .rw[C2];omega
 .rw[show 3-(3&&&1)=2 from rfl,HI];omega
def VU{x y z:Int}(hx:1<=x)(hy:1<=y)(hz:1<=z){a:Nat}(h:cn [x,y,z] 3<=a):jU [x,y,z] a 3=true:=by
 rw[G1]at h;refine jd (j:=x.toNat-1) (s:=1) (by omega) (by decide) ?_ ?_
 .rw[rb];omega
 .rw[show 3-(3&&&1)=2 from rfl,y_];omega
def WQ{x y z:Int}(hx:1<=x)(hy:1<=y)(hz:1<=z){a:Nat}(h:cn [x,y,z] 5<=a):jU [x,y,z] a 5=true:=by
 rw[V7]at h;refine jd (j:=x.toNat-1) (s:=1) (by omega) (by decide) ?_ ?_
 .rw[rb];omega
 .rw[show 5-(5&&&1)=4 from rfl,yW];omega
def XF{x y z:Int}(hx:1<=x)(hy:1<=y)(hz:1<=z){a:Nat}(h:cn [x,y,z] 6<=a):jU [x,y,z] a 6=true:=by
 rw[HV]at h;refine jd (j:=y.toNat-1) (s:=2) (by omega) (by decide) ?_ ?_
 .rw[y_];omega
 .rw[show 6-(6&&&2)=4 from rfl,yW];omega
def Vu{x y z:Int}(hx:1<=x)(hy:1<=y)(hz:1<=z){a:Nat}(h:cn [x,y,z] 7<=a):jU [x,y,z] a 7=true:=by
 rw[Hs]at h;refine jd (j:=x.toNat-1) (s:=1) (by omega) (by decide) ?_ ?_
 .rw[rb];omega
 .rw[show 7-(7&&&1)=6 from rfl,HV];omega
def WW{x y z u:Int}(hx:1<=x)(hy:1<=y)(hz:1<=z)(hu:1<=u){a:Nat}(h:cn [x,y,z,u] 3<=a):jU [x,y,z,u] a 3=true:=by
 rw[zq]at h;refine jd (j:=x.toNat-1) (s:=1) (by omega) (by decide) ?_ ?_
 .rw[kC];omega
 .rw[show 3-(3&&&1)=2 from rfl,qk];omega
def U1{x y z u:Int}(hx:1<=x)(hy:1<=y)(hz:1<=z)(hu:1<=u){a:Nat}(h:cn [x,y,z,u] 5<=a):jU [x,y,z,u] a 5=true:=by
 rw[U0]at h;refine jd (j:=x.toNat-1) (s:=1) (by omega) (by decide) ?_ ?_
 .rw[kC];omega
 .rw[show 5-(5&&&1)=4 from rfl,ry];omega
def XM{x y z u:Int}(hx:1<=x)(hy:1<=y)(hz:1<=z)(hu:1<=u){a:Nat}(h:cn [x,y,z,u] 6<=a):jU [x,y,z,u] a 6=true:=by
 rw[DO]at h;refine jd (j:=y.toNat-1) (s:=2) (by omega) (by decide) ?_ ?_
 .rw[qk];omega
 .rw[show 6-(6&&&2)=4 from rfl,ry];omega
def Ww{x y z u:Int}(hx:1<=x)(hy:1<=y)(hz:1<=z)(hu:1<=u){a:Nat}(h:cn [x,y,z,u] 7<=a):jU [x,y,z,u] a 7=true:=by
 rw[HS]at h;refine jd (j:=x.toNat-1) (s:=1) (by omega) (by decide) ?_ ?_
 .rw[kC];omega
 .rw[show 7-(7&&&1)=6 from rfl,DO];omega
def T5{x y z u:Int}(hx:1<=x)(hy:1<=y)(hz:1<=z)(hu:1<=u){a:Nat}(h:cn [x,y,z,u] 9<=a):jU [x,y,z,u] a 9=true:=by
 rw[Xp]at h;refine jd (j:=x.toNat-1) (s:=1) (by omega) (by decide) ?_ ?_
 .rw[kC];omega
 .rw[show 9-(9&&&1)=8 from rfl,rk];omega
def RL{x y z u:Int}(hx:1<=x)(hy:1<=y)(hz:1<=z)(hu:1<=u){a:Nat}(h:cn [x,y,z,u] 10<=a):jU [x,y,z,u] a 10=true:=by
 rw[JA]at h;refine jd (j:=y.toNat-1) (s:=2) (by omega) (by decide) ?_ ?_
 .rw[qk];omega
 .rw[show 10-(10&&&2)=8 from rfl,rk];omega
def R_{x y z u:Int}(hx:1<=x)(hy:1<=y)(hz:1<=z)(hu:1<=u){a:Nat}(h:cn [x,y,z,u] 11<=a):jU [x,y,z,u] a 11=true:=by
 rw[P6]at h;refine jd (j:=x.toNat-1) (s:=1) (by omega) (by decide) ?_ ?_
 .rw[kC];omega
 .rw[show 11-(11&&&1)=10 from rfl,JA];omega
def Ro{x y z u:Int}(hx:1<=x)(hy:1<=y)(hz:1<=z)(hu:1<=u){a:Nat}(h:cn [x,y,z,u] 12<=a):jU [x,y,z,u] a 12=true:=by
 rw[uX]at h;refine jd (j:=z.toNat-1) (s:=4) (by omega) (by decide) ?_ ?_
 .rw[ry];omega
 .rw[show 12-(12&&&4)=8 from rfl,rk];omega
def Rb{x y z u:Int}(hx:1<=x)(hy:1<=y)(hz:1<=z)(hu:1<=u){a:Nat}(h:cn [x,y,z,u] 13<=a):jU [x,y,z,u] a 13=true:=by
 rw[QU]at h;refine jd (j:=x.toNat-1) (s:=1) (by omega) (by decide) ?_ ?_
 .rw[kC];omega
 .rw[show 13-(13&&&1)=12 from rfl,uX];omega
def QI{x y z u:Int}(hx:1<=x)(hy:1<=y)(hz:1<=z)(hu:1<=u){a:Nat}(h:cn [x,y,z,u] 14<=a):jU [x,y,z,u] a 14=true:=by
 rw[C6]at h;refine jd (j:=y.toNat-1) (s:=2) (by omega) (by decide) ?_ ?_
 .rw[qk];omega
 .rw[show 14-(14&&&2)=12 from rfl,uX];omega
def Qe{x y z u:Int}(hx:1<=x)(hy:1<=y)(hz:1<=z)(hu:1<=u){a:Nat}(h:cn [x,y,z,u] 15<=a):jU [x,y,z,u] a 15=true:=by
 rw[DB]at h;refine jd (j:=x.toNat-1) (s:=1) (by omega) (by decide) ?_ ?_
 .rw[kC];omega
 .rw[show 15-(15&&&1)=14 from rfl,C6];omega
def QT(x:Int)(a:Int):iP [x] a 1 1=aG [x] a 1:=by
 unfold aG;rw[Hh];simp[iP,List.range_succ]
def Qx(x y:Int)(a:Int):iP [x,y] a 1 2=aG [x,y] a 1:=by
 unfold aG;rw[C2];simp[iP,List.range_succ]
def Sb(x y:Int)(a:Int):iP [x,y] a 2 2=aG [x,y] a 2:=by
 unfold aG;rw[HI];simp[iP,List.range_succ]
def Sd(x y z:Int)(a:Int):iP [x,y,z] a 1 3=aG [x,y,z] a 1:=by
 unfold aG;rw[rb];simp[iP,List.range_succ]
def RE(x y z:Int)(a:Int):iP [x,y,z] a 2 3=aG [x,y,z] a 2:=by
 unfold aG;rw[y_];simp[iP,List.range_succ]
def RW(x y z:Int)(a:Int):iP [x,y,z] a 4 3=aG [x,y,z] a 4:=by
 unfold aG;rw[yW];simp[iP,List.range_succ]
def P0(x y z u:Int)(a:Int):iP [x,y,z,u] a 1 4=aG [x,y,z,u] a 1:=by
 unfold aG;rw[kC];simp[iP,List.range_succ]
def QJ(x y z u:Int)(a:Int):iP [x,y,z,u] a 2 4=aG [x,y,z,u] a 2:=by
 unfold aG;rw[qk];simp[iP,List.range_succ]
def Q9(x y z u:Int)(a:Int):iP [x,y,z,u] a 4 4=aG [x,y,z,u] a 4:=by
 unfold aG;rw[ry];simp[iP,List.range_succ]
def Sp(x y z u:Int)(a:Int):iP [x,y,z,u] a 8 4=aG [x,y,z,u] a 8:=by
 unfold aG;rw[rk];simp[iP,List.range_succ]
def Q_{ws:List Int}{w:Int}(hL:ft ws w){m a:Nat}(hm:m<2^ws.length)(h2:m&&&(m-1)≠0)(h:cn ws m<=a):jU ws a m=true:=by
 have hx:=λy hy=>(hL.2.1 y hy).1
 rcases sI hL.1 with⟨x,rfl⟩|⟨x,y,rfl⟩|⟨x,y,z,rfl⟩|⟨x,y,z,u,rfl⟩
 .have hm:m<2:=hm
  have:m=0\/m=1:=by omega
  rcases this with rfl|rfl
  .exact absurd (by decide) h2
  .exact absurd (by decide) h2
 .have hm:m<4:=hm
  have:m=0\/m=1\/m=2\/m=3:=by omega
  rcases this with rfl|rfl|rfl|rfl
  .exact absurd (by decide) h2
  .exact absurd (by decide) h2
  .exact absurd (by decide) h2
  .exact Wy (hx x (by simp)) (hx y (by simp)) h
 .have hm:m<8:=hm
  have:m=0\/m=1\/m=2\/m=3\/m=4\/m=5\/m=6\/m=7:=by omega
  rcases this with rfl|rfl|rfl|rfl|rfl|rfl|rfl|rfl
  .exact absurd (by decide) h2
  .exact absurd (by decide) h2
  .exact absurd (by decide) h2
  .exact VU (hx x (by simp)) (hx y (by simp)) (hx z (by simp)) h
  .exact absurd (by decide) h2
  .exact WQ (hx x (by simp)) (hx y (by simp)) (hx z (by simp)) h
  .exact XF (hx x (by simp)) (hx y (by simp)) (hx z (by simp)) h
  .exact Vu (hx x (by simp)) (hx y (by simp)) (hx z (by simp)) h
 .have hm:m<16:=hm
  have:m=0\/m=1\/m=2\/m=3\/m=4\/m=5\/m=6\/m=7\/m=8\/m=9\/m=10\/m=11\/m=12\/m=13\/m=14\/m=15:=by omega
  rcases this with rfl|rfl|rfl|rfl|rfl|rfl|rfl|rfl|rfl|rfl|rfl|rfl|rfl|rfl|rfl|rfl
  .exact absurd (by decide) h2
  .exact absurd (by decide) h2
  .exact absurd (by decide) h2
  .exact WW (hx x (by simp)) (hx y (by simp)) (hx z (by simp)) (hx u (by simp)) h
  .exact absurd (by decide) h2
  .exact U1 (hx x (by simp)) (hx y (by simp)) (hx z (by simp)) (hx u (by simp)) h
  .exact XM (hx x (by simp)) (hx y (by simp)) (hx z (by simp)) (hx u (by simp)) h
  .exact Ww (hx x (by simp)) (hx y (by simp)) (hx z (by simp)) (hx u (by simp)) h
  .exact absurd (by decide) h2
  .exact T5 (hx x (by simp)) (hx y (by simp)) (hx z (by simp)) (hx u (by simp)) h
  .exact RL (hx x (by simp)) (hx y (by simp)) (hx z (by simp)) (hx u (by simp)) h
  .exact R_ (hx x (by simp)) (hx y (by simp)) (hx z (by simp)) (hx u (by simp)) h
  .exact Ro (hx x (by simp)) (hx y (by simp)) (hx z (by simp)) (hx u (by simp)) h
  .exact Rb (hx x (by simp)) (hx y (by simp)) (hx z (by simp)) (hx u (by simp)) h
  .exact QI (hx x (by simp)) (hx y (by simp)) (hx z (by simp)) (hx u (by simp)) h
  .exact Qe (hx x (by simp)) (hx y (by simp)) (hx z (by simp)) (hx u (by simp)) h
def Ql{ws:List Int}{w:Int}(hL:ft ws w){m:Nat}(hm:m<2^ws.length)(h0:m≠0)(h2:m&&&(m-1)=0)(a:Int):iP ws a m ws.length=aG ws a m:=by
 rcases sI hL.1 with⟨x,rfl⟩|⟨x,y,rfl⟩|⟨x,y,z,rfl⟩|⟨x,y,z,u,rfl⟩
 .have hm:m<2:=hm
  have:m=0\/m=1:=by omega
  rcases this with rfl|rfl
  .exact absurd rfl h0
  .exact QT x a
 .have hm:m<4:=hm
  have:m=0\/m=1\/m=2\/m=3:=by omega
  rcases this with rfl|rfl|rfl|rfl
  .exact absurd rfl h0
  .exact Qx x y a
  .exact Sb x y a
  .exact absurd h2 (by decide)
 .have hm:m<8:=hm
  have:m=0\/m=1\/m=2\/m=3\/m=4\/m=5\/m=6\/m=7:=by omega
  rcases this with rfl|rfl|rfl|rfl|rfl|rfl|rfl|rfl
  .exact absurd rfl h0
  .exact Sd x y z a
  .exact RE x y z a
  .exact absurd h2 (by decide)
  .exact RW x y z a
  .exact absurd h2 (by decide)
  .exact absurd h2 (by decide)
  .exact absurd h2 (by decide)
 .have hm:m<16:=hm
  have:m=0\/m=1\/m=2\/m=3\/m=4\/m=5\/m=6\/m=7\/m=8\/m=9\/m=10\/m=11\/m=12\/m=13\/m=14\/m=15:=by omega
  rcases this with rfl|rfl|rfl|rfl|rfl|rfl|rfl|rfl|rfl|rfl|rfl|rfl|rfl|rfl|rfl|rfl
  .exact absurd rfl h0
  .exact P0 x y z u a
  .exact QJ x y z u a
  .exact absurd h2 (by decide)
  .exact Q9 x y z u a
  .exact absurd h2 (by decide)
  .exact absurd h2 (by decide)
  .exact absurd h2 (by decide)
  .exact Sp x y z u a
  .exact absurd h2 (by decide)
  .exact absurd h2 (by decide)
  .exact absurd h2 (by decide)
  .exact absurd h2 (by decide)
  .exact absurd h2 (by decide)
  .exact absurd h2 (by decide)
  .exact absurd h2 (by decide)
def BK{m s:Nat}:m&&&((s-1)&&&m)=(s-1)&&&m:=by
 rw[Nat.and_comm (s-1) m,<-Nat.and_assoc,Nat.and_self]
def sub_le{m s:Nat}:(s-1)&&&m<=s-1:=Nat.and_le_left
end Go.Proofs.Tryz
namespace Go.Proofs.Tryz
open Go Go.AL Go.RowKit Go.Proofs Go.Proofs.Tram
attribute [local simp] dS eF dR cW dT cV cZ ck cg dQ cd bP fB fC an aq ev aB.S aB.H aY au aH AL.start AV.cells AV.storable AV.bb aQ aZ aP HR.okB post cU cL cI AV.out AV.bu br bU fz fG AV.vw bR vI int bI az ct cb gB il dM cD aR AV.aw AV.bV nz
def EJ(ws:List Int)(l:List (List Int×Value)):Prop:=∀x∈l,∃a s:Nat,x=([(a:Int),1,(s:Int)],.bool (aG ws a s))
def IL(ws:List Int)(bM:Nat)(l:List (List Int×Value))(w:World):Prop:=∃es gJ,w.heap[bM]?=some (.map es gJ)/\pX E1 es l/\EJ ws l
def qq(ws:List Int)(bM:Nat):BI bM (IL ws bM):=by
 refine⟨λy w w' h=>?_,λy w h=>?_⟩
 .rintro⟨es,gJ,h1,h2⟩;exact⟨es,gJ,by rw[h];exact h1,h2⟩
 .obtain⟨es,gJ,h1,_⟩:=h;exact⟨_,h1⟩
def IL.lt{ws:List Int}{bM:Nat}{l:List (List Int×Value)}{w:World}(h:IL ws bM l w):bM<w.heap.size:=by
 obtain⟨es,gJ,h1,_⟩:=h;exact(Array.getElem?_eq_some_iff.1 h1).1
def ik(m:Nat)(l l':List (List Int×Value)):Prop:=∀x∈l',x∈l\/∃a s:Nat,x.1=[(a:Int),1,(s:Int)]/\s<m
def ik.refl(m:Nat)(l:List (List Int×Value)):ik m l l:=λ_ h=>.inl h
def ik.trans{m k:Nat}{l l' Yk:List (List Int×Value)}(h:ik m l l')(h':ik k l' Yk)(hk:k<=m):ik m l Yk:=λx hx=>by
 rcases h' x hx with hx|⟨a,s,e,hs⟩
 .exact h x hx
 .exact .inr ⟨a,s,e,by omega⟩
def ur(ws:List Int)(w:Int)(bM m:Nat):Prop:=∀(a:Nat)(W:World)(Pr:Nat->Nat->Prop)(c0 c1:Value)(l:List (List Int×Value)),1<=a/\a<=6->IL ws bM l W->(∀k,¬Pr bM k)->RD Pr W (dA ws w (dN bM)) c0->RD Pr W (eB a m) c1->
 Calls prog 112 #[c0,c1] W λe w'=>∃b l',e=.returned (.bool b)/\dG (λx=>x=bM) W w'/\IL ws bM l' w'/\(b=aG ws a m/\ik (m+1) l l')
def PF(ws:List Int)(w:Int)(bM m:Nat)(n n':Int)(s:Nat)(S:af)(H:ah):Prop:=
 S 1=.int .i64 (m:Nat)/\S 4=.box 4 0/\H 4=some (dY ws w (dN bM))/\S 6=.box 6 0/\(∃z,H 6=some [.int .i64 n,.int .i64 1,.int .i64 z])/\S 7=.box 7 0/\(∃z,H 7=some [.int .i64 n',.int .i64 1,.int .i64 z])/\S 9=.int .i64 (s:Nat)
noncomputable def oJ:ae:=ae.qb c174.qb.qa.qb.qb
noncomputable def nC:ae:=ae.qb oJ.qb.qa
noncomputable def VD:Code:=mr (jI (mr (mr (jI (mr (mr (jI (mr (jI (f174.body.getD .skip))))))))))
def RI {ws:List Int} {w:Int} {bM m s n n':Nat} (hn:1≤n∧n≤6) (oO:1≤n'∧n'≤6) (hs:s < m) (Uy:m - (m &&& s) < m) (jV:∀ s,s < m→ur ws w bM s) {W:World} (ao:bM < W.heap.size) {Pr:Nat→Nat→Prop} {Q:mJ (List (List Int×Value))} {S:af} {H:ah} {l y:List (List Int×Value)}
  (hF:PF ws w bM m n n' s S H) (e6:H 6=some (dq n s)) (e7:H 7=some (dq n' (m-(m&&&s)))) (fK:ik m l y)
  (hQ:∀S' H' y',PF ws w bM m n n' s S' H'->S' 33=.bool (aG ws n s&&aG ws n' (m-(m&&&s)))->ik m l y'->Q .normal (Old.plain Pr W) S' H' y'):bF prog 34 bM W (IL ws bM) VD Q (Old.plain Pr W) S H y:=by
 have gp:=qq ws bM;show bF prog 34 bM W (IL ws bM) (.region _ _ false) _ _ _ _ _;intro wB g a w1 m1 hv ho nI R hy;refine wpIn_region ?_;show wpOpsIn (FR none) _ _ _ _ ([0,1]++[2,3,4,5,6,7]) a w1;refine q' gp ao (by kernel_rfl) (os:=[_,_]) rfl (al:=(nC.qb.qa.dl).take 2) (by kernel_rfl) (by kernel_rfl) hv R hy (by rw[ho];exact λ_ h=>h) (λS H=>PF ws w bM m n n' s S H/\H 6=some (dq n s)/\H 7=some (dq n' (m-(m&&&s)))/\S 26=dA ws w (dN bM)/\S 27=eB n s) ?_ ?_
 .obtain⟨s1,s4,h4,s6,-,s7,-,s9⟩:=hF;simp[c174,nC,oJ,ae.qa,ae.qb,ae.dl,aV,an,aI,aq,aB.S,aB.H,au,aH,PF,ev,s1,s4,h4,s6,e6,s7,e7,s9,dA,dY,bJ,eB,dq,aP,AV.aw,AV.bV,HR.okB]
 clear hF e6 e7;rintro g2 S2 H2 a2 w2 im R2 tQ ⟨hF,e6,e7,sV,wL⟩;rw[ho]at im
 have rD:∀k,¬g2.old.c bM k:=by rw[im];exact nI
 have lx:∀{wB:World}{g:Gh}{S:af}{H:ah}{a:Act}{w':World},Rel prog wB 34 bp g S H a w'->VB W bM wB->g.old=Old.plain Pr W->∀k,¬g.Pr bM k:=λR hv ho k hp=>by
  rcases hp with hp|hp
  .rw[ho]at hp;exact nI k hp.2
  .have:=R.base;have:=hv.size;omega
 have d26:RD g2.Pr w2 (dA ws w (dN bM)) (a2.tmps.getD 26 undef):=by
  have:=R2.slot 26 (by decide) id;rw[sV]at this;exact this.bQ rfl
 have d27:RD g2.Pr w2 (eB n s) (a2.tmps.getD 27 undef):=by
  have:=R2.slot 27 (by decide) id;rw[wL]at this;exact this.bQ rfl
 refine NI gp ao rD (i:=2) rfl rfl (by rfl) (t:=28) rfl (by decide) hv R2 (fJ (k:=112) (args:=#[a2.tmps.getD 26 undef,a2.tmps.getD 27 undef]) w2 rfl rfl (by simp only[List.map_toArray,List.map_cons,List.map_nil,Act.eval]) (by kernel_rfl)) (jV s hs n w2 g2.Pr _ _ y hn tQ (lx R2 hv im) d26 d27) ?_;rintro b y3 V9 a3 w3 xW R3 A8 ⟨rfl,Aj⟩;have JH:ik m l y3:=fK.trans Aj (by omega);have e6':=e6
 cases hb:aG ws n s with
 |false=>
  rw[hb]at R3;show wpOpsIn (FR none) _ _ _ _ ([3,4,5,6,7]++[]) a3 w3;refine q' gp ao (by kernel_rfl) (os:=[_,_,_,_,_]) rfl (al:=(nC.qb.qa.dl).drop 3) (by kernel_rfl) (by kernel_rfl) xW R3 A8 (by rw[im];exact λ_ h=>h) (λS H=>PF ws w bM m n n' s S H/\S 33=.bool false) ?_ ?_
  .obtain⟨s1,s4,h4,s6,-,s7,-,s9⟩:=hF;simp[c174,nC,oJ,ae.qa,ae.qb,ae.dl,aV,an,aI,aq,aB.S,aB.H,au,aH,PF,ev,s1,s4,h4,s6,e6,s7,e7,s9,dA,dY,bJ,eB,dq,aP,AV.aw,AV.bV,HR.okB]
  rintro g4 S4 H4 a4 w4 vK R4 MJ ⟨Xx,vk⟩;refine mO xW R4 (by rw[vK];exact rD) MJ ?_;rw[vK,im];exact hQ _ _ _ Xx (by rw[vk,hb]<;>rfl) JH
 |true=>
  rw[hb]at R3;show wpOpsIn (FR none) _ _ _ _ ([3,4,5]++[6,7]) a3 w3;refine q' gp ao (by kernel_rfl) (os:=[_,_,_]) rfl (al:=((nC.qb.qa.dl).drop 3).take 3) (by kernel_rfl) (by kernel_rfl) xW R3 A8 (by rw[im];exact λ_ h=>h) (λS H=>PF ws w bM m n n' s S H/\S 29=.bool true/\S 30=dA ws w (dN bM)/\S 31=eB n' (m-(m&&&s))) ?_ ?_
  .obtain⟨s1,s4,h4,s6,-,s7,-,s9⟩:=hF;simp[c174,nC,oJ,ae.qa,ae.qb,ae.dl,aV,an,aI,aq,aB.S,aB.H,au,aH,PF,ev,s1,s4,h4,s6,e6,s7,e7,s9,dA,dY,bJ,eB,dq,aP,AV.aw,AV.bV,HR.okB]
  rintro g4 S4 H4 a4 w4 vK R4 MJ ⟨Xx,Y7,Dp,s31⟩;rw[im]at vK
  have TI:∀k,¬g4.old.c bM k:=by rw[vK];exact nI
  have e29:a4.tmps.getD 29 undef=.bool true:=by
   have:=R4.slot 29 (by decide) id;rw[Y7]at this;exact this.fc
  have Zp:a4.tmps[29]?=some (.bool true):=by
   have hs:=R4.size
   have h2:a4.tmps[29]?=some (a4.tmps.getD 29 undef):=by simp[hs]
   rw[h2,e29]
  have d30:RD g4.Pr w4 (dA ws w (dN bM)) (a4.tmps.getD 30 undef):=by
   have:=R4.slot 30 (by decide) id;rw[Dp]at this;exact this.bQ rfl
  have d31:RD g4.Pr w4 (eB n' (m-(m&&&s))) (a4.tmps.getD 31 undef):=by
   have:=R4.slot 31 (by decide) id;rw[s31]at this;exact this.bQ rfl
  refine NI gp ao TI (i:=6) rfl (by simp[Region.wanted,yielded,ug,Zp]) (by rfl) (t:=32) rfl (by decide) xW R4 (fJ (k:=112) (args:=#[a4.tmps.getD 30 undef,a4.tmps.getD 31 undef]) w4 rfl rfl (by simp only[List.map_toArray,List.map_cons,List.map_nil,Act.eval]) (by kernel_rfl)) (jV _ Uy n' w4 g4.Pr _ _ y3 oO MJ (lx R4 xW vK) d30 d31) ?_;rintro b y5 wB5 a5 w5 YP R5 We ⟨rfl,Wg⟩;have RB:ik m l y5:=JH.trans Wg (by omega);show wpOpsIn (FR none) _ _ _ _ ([7]++[]) a5 w5;refine q' gp ao (by kernel_rfl) (os:=[_]) rfl (al:=(nC.qb.qa.dl).drop 7) (by kernel_rfl) (by kernel_rfl) YP R5 We (by rw[vK];exact λ_ h=>h) (λS H=>PF ws w bM m n n' s S H/\S 33=.bool (aG ws n' (m-(m&&&s)))) ?_ ?_
  .obtain⟨s1,s4,h4,s6,h6,s7,h7,s9⟩:=Xx;simp[c174,nC,oJ,ae.qa,ae.qb,ae.dl,aV,an,aI,aq,aB.S,aB.H,au,aH,PF,ev,s1,s4,h4,s6,h6,s7,h7,s9,Y7,AV.aw]
  rintro g6 S6 H6 a6 w6 ho6 R6 hy6 ⟨hF6,vk⟩;refine mO YP R6 (by rw[ho6];exact TI) hy6 ?_;rw[ho6,vK];exact hQ _ _ _ hF6 (by rw[vk,hb]<;>rfl) RB
def La {ws:List Int} {w:Int} (hL:ft ws w) {bM m n n':Nat} (G3:1≤m) (hm:m < 16) (hn:1≤n∧n≤6) (oO:1≤n'∧n'≤6) (jV:∀ s,s < m→ur ws w bM s) {W:World} {Pr:Nat→Nat→Prop} {c0 c1 c2:Value} {l:List (List Int×Value)}
  (hI:IL ws bM l W) (dp:∀k,¬Pr bM k) (r0:RD Pr W (dA ws w (dN bM)) c0) (r1:RD Pr W (eB n 0) c1) (r2:RD Pr W (eB n' 0) c2):
  Calls prog 174 #[c0,.int .i64 (m:Nat),c1,c2] W λe w'=>∃b l',e=.returned (.bool b)/\dG (λx=>x=bM) W w'/\IL ws bM l' w'/\(b=pg ws m n n'/\ik m l l'):=by
 have gp:=qq ws bM;have ao:=hI.lt
 have p7:IntKind.i64.wrap ((m:Int)-1)=((m-1:Nat):Int):=by rw[bl (by omega)];omega
 refine lu (I:=IL ws bM) (y:=l) func174 rfl ntmps174 results174 (t:=8) (by decide) (args:=[dA ws w (dN bM),.int .i64 (m:Nat),eB n 0,eB n' 0]) (by simp) rfl (λi h h'=>?_) dp hI (B:=λb l'=>b=pg ws m n n'/\ik m l l') ?_
 .match i,h with
  |0,_=>exact .data _ _ r0
  |1,_=>exact .data _ _ (.int _ _)
  |2,_=>exact .data _ _ r1
  |3,_=>exact .data _ _ r2
 refine bF.cut gp ao bL (by kernel_rfl) (ac:=ae.qa c174) (by kernel_rfl) (λ_ _ h=>h) (λS H=>S 1=.int .i64 (m:Nat)/\S 4=.box 4 0/\H 4=some (dY ws w (dN bM))/\S 6=.box 6 0/\H 6=some (dq n 0)/\S 7=.box 7 0/\H 7=some (dq n' 0)) ?_ ?_
 .simp[c174,ae.qa,dA,dY,bJ,eB,dq]
 rintro S H ⟨s1,s4,h4,s6,h6,s7,h7⟩;have b1:=uM (a:=m-1) (b:=m) (by omega) (by omega);refine bF.seq (bF.cut gp ao bL (by kernel_rfl) (ac:=ae.qa c174.qb.qa) (by kernel_rfl) (λ_ _ h=>h) (PF ws w bM m n n' ((m-1)&&&m)) ?_ ?_)
 .simp[c174,ae.qa,ae.qb,PF,s1,s4,h4,s6,h6,s7,h7,p7,b1,dq]
 clear s1 s4 h4 s6 h6 s7 h7 S H;intro S H hF;refine bF.block (bF.loop (λo S H y=>∃k s:Nat,o=Old.plain Pr W/\s<=k/\s<m/\m&&&s=s/\PF ws w bM m n n' s S H/\pg ws m n n'=oZ ws m n n' k s/\ik m l y) (λS=>match S 9 with|.int _ j=>j.toNat|_=>0) ⟨32,_,rfl,?_,?_,BK,hF,rfl,ik.refl _ _⟩ ?_)
 .have:=sub_le (m:=m) (s:=m);omega
 .have:=sub_le (m:=m) (s:=m);omega
 clear hF S H;rintro o S H y ⟨k,s,rfl,hsk,j1,hms,hF,Yw,fK⟩;have m9:S 9=.int .i64 (s:Nat):=hF.2.2.2.2.2.2.2;show bF prog 34 bM W _ (.seq (.seq _ (.cond _ _ _)) (.seq (.block 1 (.seq _ (.seq (.region _ _ false) (.cond _ _ _)))) _)) _ _ _ _ _;refine bF.seq (bF.cut gp ao bL (by kernel_rfl) (ac:=ae.qa oJ.qa) (by kernel_rfl) (λ_ _ h=>h) (λS H=>S 15=.bool (decide (0<s))/\PF ws w bM m n n' s S H) ?_ ?_)
 .obtain⟨s1,s4,h4,s6,⟨x,h6⟩,s7,⟨x',h7⟩,s9⟩:=hF;simp[c174,oJ,ae.qa,ae.qb,PF,s1,s4,h4,s6,h6,s7,h7,s9,dq]
 clear hF;rintro S1 H1 ⟨kj,hF⟩
 by_cases h0:0<s
 case neg=>
  have RX:s=0:=by omega
  subst RX;refine bF.cond rfl false (by show S1 15=_;rw[kj];simp) (bF.exit ?_);show bF prog 34 bM W _ (.seq _ .ret) _ _ _ _ _;refine bF.cut gp ao bL (by kernel_rfl) (ac:=ae.qa c174.qb.qb) (by kernel_rfl) (λ_ _ h=>h) (λS H=>S 8=.bool false) (by simp[c174,ae.qa,ae.qb]) ?_;intro S2 H2 s8;refine bF.ret ⟨rfl,rfl,false,s8,?_,fK⟩;rw[Yw,CV]
 refine bF.cond rfl true (by show S1 15=_;rw[kj];simp[h0]) (bF.skip ?_)
 obtain⟨k,rfl⟩:∃k',k=k'+1:=⟨k-1,by omega⟩
 have JP:=Yw.trans (CW ws m n n' k s (by omega))
 have Hj:m-(m&&&s)<m:=by rw[hms];omega
 have b2:=L5 (a:=m) (b:=s) (by omega) (by omega);refine bF.seq (bF.block (bF.cut gp ao bL (by kernel_rfl) (ac:=ae.qa nC) (by kernel_rfl) (λ_ _ h=>h) (λS H=>PF ws w bM m n n' s S H/\H 6=some (dq n s)/\H 7=some (dq n' (m-(m&&&s)))) ?_ ?_))
 .obtain⟨s1,s4,h4,s6,⟨x,h6⟩,s7,⟨x',h7⟩,s9⟩:=hF;simp[c174,nC,oJ,ae.qa,ae.qb,PF,s1,s4,h4,s6,h6,s7,h7,s9,b2,dq]
 clear hF kj S1 H1;rintro S1 H1 ⟨hF,e6,e7⟩;refine bF.seq (RI hn oO j1 Hj jV ao hF e6 e7 fK ?_);clear hF e6 e7 S1 H1 fK y;rintro S1 H1 y hF vk fK;show bF prog 34 bM W _ (.cond _ _ _) _ _ _ _ _
 cases hc:(aG ws n s&&aG ws n' (m-(m&&&s)))with
 |true=>
  rw[hc]at vk JP;refine bF.cond rfl true (by show S1 33=_;rw[vk]) ?_;refine bF.cut gp ao bL (by kernel_rfl) (ac:=ae.qa nC.qb.qb.qa) (by kernel_rfl) (λ_ _ h=>h) (λS H=>S 8=.bool true) (by simp[c174,nC,oJ,ae.qa,ae.qb]) ?_;intro S2 H2 s8;exact bF.ret ⟨rfl,rfl,true,s8,by rw[JP]<;>rfl,fK⟩
 |false=>
  rw[hc]at vk JP;refine bF.cond rfl false (by show S1 33=_;rw[vk]) (bF.skip ?_);show bF prog 34 bM W _ _ _ _ _ _ _
  have Wc:IntKind.i64.wrap ((s:Int)-1)=((s-1:Nat):Int):=by rw[bl (by omega)];omega
  have b3:=uM (a:=s-1) (b:=m) (by omega) (by omega);refine bF.last gp ao bL (by kernel_rfl) (ac:=ae.qb oJ.qb) (by kernel_rfl) (λ_ _ h=>h) (PF ws w bM m n n' ((s-1)&&&m)) ?_ ?_
  .obtain⟨s1,s4,h4,s6,⟨x,h6⟩,s7,⟨x',h7⟩,s9⟩:=hF;simp[c174,oJ,ae.qa,ae.qb,PF,s1,s4,h4,s6,h6,s7,h7,s9,Wc,b3]
  intro S2 H2 hF;have hle:=sub_le (m:=m) (s:=s);refine⟨⟨k,_,rfl,by omega,by omega,BK,hF,by rw[JP,Bool.false_or],fK⟩,?_⟩;have h9:S2 9=.int .i64 (((s-1)&&&m:Nat):Int):=hF.2.2.2.2.2.2.2;show(match S2 9 with|.int _ j=>j.toNat|_=>0)<(match S 9 with|.int _ j=>j.toNat|_=>0);rw[h9,m9];simp;omega
def UF(ws:List Int)(w:Int)(bM a m j:Nat)(S:af)(H:ah):Prop:=
 S 2=.box 2 0/\H 2=some (dY ws w (dN bM))/\S 3=.box 3 0/\H 3=some (dq a m)/\S 5=.int .i64 ((j+1:Nat):Int)
noncomputable def uf:ae:=ae.qb c158.qb.qa.qb.qb
noncomputable def DX:ae:=ae.qb uf.qb.qa
noncomputable def W_:Code:=mr (mr (mr (jI (mr (mr (jI (mr (jI (f158.body.getD .skip)))))))))
def Ri {ws:List Int} {w:Int} (hL:ft ws w) {bM m a j:Nat} (ha:1≤a∧a≤6) (G3:1≤m) (hm:m < 16) (hj:j+1 < a) (jV:∀ s,s < m→ur ws w bM s) {W:World} (ao:bM < W.heap.size) {Pr:Nat→Nat→Prop} {Q:mJ (List (List Int×Value))} {S:af} {H:ah} {l y:List (List Int×Value)}
  (hF:UF ws w bM a m j S H) (fK:ik m l y)
  (hQ:∀S' H' y',UF ws w bM a m j S' H'->S' 26=.bool (pg ws m ((j+1:Nat):Int) ((a-(j+1):Nat):Int))->ik m l y'->Q .normal (Old.plain Pr W) S' H' y'):bF prog 27 bM W (IL ws bM) W_ Q (Old.plain Pr W) S H y:=by
 have gp:=qq ws bM;show bF prog 27 bM W (IL ws bM) (.region _ _ false) _ _ _ _ _;intro wB g a1 w1 m1 hv ho nI R hy;refine wpIn_region ?_
 have p7:IntKind.i64.wrap ((a:Int)-((j:Int)+1))=((a-(j+1):Nat):Int):=by rw[bl (by omega)];omega
 show wpOpsIn (FR none) _ _ _ _ ([0,1,2,3,4,5,6,7,8,9,10,11,12,13]++[14]) a1 w1;refine q' gp ao (by kernel_rfl) (os:=[_,_,_,_,_,_,_,_,_,_,_,_,_,_]) rfl (al:=(DX.qa.qa.dl).take 14) (by kernel_rfl) (by kernel_rfl) hv R hy (by rw[ho];exact λ_ h=>h) (λS H=>UF ws w bM a m j S H/\S 12=dA ws w (dN bM)/\S 14=.int .i64 (m:Nat)/\S 18=eB ((j+1:Nat):Int) 0/\S 25=eB ((a-(j+1):Nat):Int) 0) ?_ ?_
 .obtain⟨s2,h2,s3,h3,s5⟩:=hF;simp[c158,DX,uf,ae.qa,ae.qb,ae.dl,aV,an,aI,aq,aB.S,aB.H,au,aH,UF,ev,s2,h2,s3,h3,s5,p7,dA,dY,bJ,eB,dq,aP,AV.aw,AV.bV,HR.okB,dH,AV.cells,AV.storable,AV.bb,aQ,nz]
 clear hF;rintro g2 S2 H2 a2 w2 im R2 tQ ⟨hF,bn,fw,nb,oT⟩;rw[ho]at im
 have rD:∀k,¬g2.old.c bM k:=by rw[im];exact nI
 have lx:∀k,¬g2.Pr bM k:=λk hp=>by
  rcases hp with hp|hp
  .rw[im]at hp;exact nI k hp.2
  .have:=R2.base;have:=hv.size;omega
 have d12:RD g2.Pr w2 (dA ws w (dN bM)) (a2.tmps.getD 12 undef):=by
  have:=R2.slot 12 (by decide) id;rw[bn]at this;exact this.bQ rfl
 have Gm:a2.tmps.getD 14 undef=.int .i64 (m:Nat):=iK R2 (by decide) fw
 have d18:RD g2.Pr w2 (eB ((j+1:Nat):Int) 0) (a2.tmps.getD 18 undef):=by
  have:=R2.slot 18 (by decide) id;rw[nb]at this;exact this.bQ rfl
 have d25:RD g2.Pr w2 (eB ((a-(j+1):Nat):Int) 0) (a2.tmps.getD 25 undef):=by
  have:=R2.slot 25 (by decide) id;rw[oT]at this;exact this.bQ rfl
 refine NI gp ao rD (i:=14) rfl rfl (by rfl) (t:=26) rfl (by decide) hv R2 (fJ (k:=174) (args:=#[a2.tmps.getD 12 undef,.int .i64 (m:Nat),a2.tmps.getD 18 undef,a2.tmps.getD 25 undef]) w2 rfl rfl (by simp only[List.map_toArray,List.map_cons,List.map_nil,Act.eval,Gm]) (by kernel_rfl))
  (La hL (n:=j+1) (n':=a-(j+1)) G3 hm (by omega) (by omega) jV tQ lx d12 d18 d25) ?_
 rintro b y3 V9 a3 w3 xW R3 A8 ⟨rfl,Aj⟩;refine mO xW R3 rD A8 ?_;rw[im];obtain⟨s2,h2,s3,h3,s5⟩:=hF;exact hQ _ _ _ ⟨by simp[au,s2],h2,by simp[au,s3],h3,by simp[au,s5]⟩ (aN _ _ _) (fK.trans Aj (Nat.le_refl _))
def Ff {ws:List Int} {w:Int} (hL:ft ws w) {bM m a:Nat} (ha:1≤a∧a≤6) (G3:1≤m) (hm:m < 16) (jV:∀ s,s < m→ur ws w bM s) {W:World} {Pr:Nat→Nat→Prop} {c0 c1:Value} {l:List (List Int×Value)}
  (hI:IL ws bM l W) (dp:∀k,¬Pr bM k) (r0:RD Pr W (dA ws w (dN bM)) c0) (r1:RD Pr W (eB a m) c1):
  Calls prog 158 #[c0,c1] W λe w'=>∃b l',e=.returned (.bool b)/\dG (λx=>x=bM) W w'/\IL ws bM l' w'/\(b=jU ws a m/\ik m l l'):=by
 have gp:=qq ws bM;have ao:=hI.lt;refine lu (I:=IL ws bM) (y:=l) func158 rfl ntmps158 results158 (t:=4) (by decide) (args:=[dA ws w (dN bM),eB a m]) (by simp) rfl (λi h h'=>?_) dp hI (B:=λb l'=>b=jU ws a m/\ik m l l') ?_
 .match i,h with
  |0,_=>exact .data _ _ r0
  |1,_=>exact .data _ _ r1
 refine bF.cut gp ao bL (by kernel_rfl) (ac:=ae.qa c158) (by kernel_rfl) (λ_ _ h=>h) (λS H=>S 2=.box 2 0/\H 2=some (dY ws w (dN bM))/\S 3=.box 3 0/\H 3=some (dq a m)) ?_ ?_
 .simp[c158,ae.qa,dA,dY,bJ,eB,dq]
 rintro S H ⟨s2,h2,s3,h3⟩;refine bF.seq (bF.cut gp ao bL (by kernel_rfl) (ac:=ae.qa c158.qb.qa) (by kernel_rfl) (λ_ _ h=>h) (UF ws w bM a m 0) ?_ ?_)
 .simp[c158,ae.qa,ae.qb,UF,s2,h2,s3,h3]
 clear s2 h2 s3 h3 S H;intro S H hF;refine bF.block (bF.loop (λo S H y=>∃j:Nat,o=Old.plain Pr W/\j<a/\UF ws w bM a m j S H/\(∀i,i<j->pg ws m ((i+1:Nat):Int) ((a-(i+1):Nat):Int)=false)/\ik m l y) (λS=>match S 5 with|.int _ j=>a-j.toNat|_=>0) ⟨0,rfl,by omega,hF,λi h=>absurd h (by omega),ik.refl _ _⟩ ?_);clear hF S H;rintro o S H y ⟨j,rfl,hja,hF,SS,fK⟩;have m5:S 5=.int .i64 ((j+1:Nat):Int):=hF.2.2.2.2;show bF prog 27 bM W _ (.seq (.seq _ (.cond _ _ _)) (.seq (.block 1 (.seq _ (.cond _ _ _))) _)) _ _ _ _ _;refine bF.seq (bF.cut gp ao bL (by kernel_rfl) (ac:=ae.qa uf.qa) (by kernel_rfl) (λ_ _ h=>h) (λS H=>S 9=.bool (decide (j+1<a))/\UF ws w bM a m j S H) ?_ ?_)
 .obtain⟨s2,h2,s3,h3,s5⟩:=hF
  have:decide ((j:Int)+1<(a:Int))=decide (j+1<a):=by congr 1;apply propext;omega
  simp[c158,uf,ae.qa,ae.qb,UF,s2,h2,s3,h3,s5,dq,this]
 clear hF;rintro S1 H1 ⟨s9,hF⟩
 by_cases jx:j+1<a
 case neg=>
  refine bF.cond rfl false (by show S1 9=_;rw[s9];simp[jx]) (bF.exit ?_);show bF prog 27 bM W _ (.seq _ .ret) _ _ _ _ _;refine bF.cut gp ao bL (by kernel_rfl) (ac:=ae.qa c158.qb.qb) (by kernel_rfl) (λ_ _ h=>h) (λS H=>S 4=.bool false) (by simp[c158,ae.qa,ae.qb]) ?_;intro S2 H2 s4;refine bF.ret ⟨rfl,rfl,false,s4,?_,fK⟩
  symm
  unfold jU;rw[List.any_eq_false];intro i hi;rw[SS i (by have:=List.mem_range.1 hi;omega)]
  decide
 refine bF.cond rfl true (by show S1 9=_;rw[s9];simp[jx]) (bF.skip ?_);refine bF.seq (bF.block (bF.seq (Ri hL ha G3 hm jx jV ao hF fK ?_)));clear hF fK s9 S1 H1 y;rintro S1 H1 y hF sV fK;show bF prog 27 bM W _ (.cond _ _ _) _ _ _ _ _
 cases hc:pg ws m ((j+1:Nat):Int) ((a-(j+1):Nat):Int)with
 |true=>
  rw[hc]at sV;refine bF.cond rfl true (by show S1 26=_;rw[sV]) ?_;refine bF.cut gp ao bL (by kernel_rfl) (ac:=ae.qa DX.qb.qa) (by kernel_rfl) (λ_ _ h=>h) (λS H=>S 4=.bool true) (by simp[c158,DX,uf,ae.qa,ae.qb]) ?_;intro S2 H2 s4;refine bF.ret ⟨rfl,rfl,true,s4,?_,fK⟩
  symm
  unfold jU;rw[List.any_eq_true];exact⟨j,List.mem_range.2 (by omega),hc⟩
 |false=>
  rw[hc]at sV;refine bF.cond rfl false (by show S1 26=_;rw[sV]) (bF.skip ?_);show bF prog 27 bM W _ _ _ _ _ _ _;have hw:IntKind.i64.wrap ((j:Int)+1+1)=(j:Int)+1+1:=bl (by omega);refine bF.last gp ao bL (by kernel_rfl) (ac:=ae.qb uf.qb) (by kernel_rfl) (λ_ _ h=>h) (UF ws w bM a m (j+1)) ?_ ?_
  .obtain⟨s2,h2,s3,h3,s5⟩:=hF;simp[c158,uf,ae.qa,ae.qb,UF,s2,h2,s3,h3,s5,hw]
  intro S2 H2 hF;refine⟨⟨j+1,rfl,jx,hF,λi hi=>?_,fK⟩,?_⟩
  .by_cases pt:i=j
   .subst pt;exact hc
   .exact SS i (by omega)
  have h5:S2 5=.int .i64 ((j+1+1:Nat):Int):=hF.2.2.2.2;show(match S2 5 with|.int _ j=>a-j.toNat|_=>0)<(match S 5 with|.int _ j=>a-j.toNat|_=>0);rw[h5,m5];simp;omega
variable{GI:World->Prop}
end Go.Proofs.Tryz
namespace Go.Proofs.Tryz
open Go Go.AL Go.RowKit Go.Proofs Go.Proofs.Tram
attribute [local simp] dS eF dR cW dT cV cZ ck cg dQ cd bP fB fC an aq ev aB.S aB.H aY au aH AL.start AV.cells AV.storable AV.bb aQ aZ aP HR.okB post cU cL cI AV.out AV.bu br bU fz fG AV.vw bR vI int bI az ct cb gB il dM cD aR AV.aw AV.bV nz
def PK{Pr:Nat->Nat->Prop}{al:Nat->Option Nat}{w:World}{x y z:Int}{c:Value}(h:RV Pr al w (.agg [.int .i64 x,.int .i64 y,.int .i64 z]) c):c=.agg #[.int .i64 x,.int .i64 y,.int .i64 z]:=by
 cases h with
 |data _ _ h=>
  cases h with
  |agg cs vs hl jY hr=>
   have hs:vs.size=3:=by rw[<-hl]<;>rfl
   have h0:=(RV.data (al:=bO) _ _ (hr 0 (by simp) (by omega))).int_eq;have h1:=(RV.data (al:=bO) _ _ (hr 1 (by simp) (by omega))).int_eq;have h2:=(RV.data (al:=bO) _ _ (hr 2 (by simp) (by omega))).int_eq
   congr 1
   apply Array.ext
   .simpa using hs
   .intro i h3 h4
    match i,h4 with
    |0,_=>exact h0
    |1,_=>exact h1
    |2,_=>exact h2
def za {P:Program} {a:Act} {o:Oper} {cl:Call} {f x:Operand} {k:Nat} {u:Value} (w:World) (ho:o.op = .call cl) (hc:cl.callee = .value f) (ha:cl.args = #[x]) (hf:a.eval f = .func (.func k) #[u] #[]) (hk:dW P k=true) :
  (execOp a.eval o).run P w=.ok (.enter k #[u,a.eval x]) w:=by
 unfold execOp;simp[ho,dX hc,hf,Deferred.ofValue,invoke,ha,eV hk]
def KF(ws:List Int)(w:Int)(bM a m:Nat)(S:af)(H:ah):Prop:=
 S 2=.box 2 0/\H 2=some (dY ws w (dN bM))/\S 3=.box 3 0/\H 3=some (dq a m)
def Ik(ws:List Int)(a:Int)(m i:Nat):iP ws a m (i+1)=(iP ws a m i||(decide (m=2^i)&&decide (ws.getD i 0<=a))):=by
 unfold iP;rw[List.range_succ,List.any_append];simp
noncomputable def ia:ae:=ae.qb c112
noncomputable def fW:ae:=ae.qb ia
noncomputable def kn:ae:=ae.qb fW
noncomputable def jX:ae:=ae.qb kn
noncomputable def yx:ae:=ae.qb jX
noncomputable def DG:ae:=ae.qa jX.qa.qb
noncomputable def nU:ae:=ae.qb jX.qa.qb
noncomputable def vF:ae:=ae.qb nU.qb.qa.qb.qb
noncomputable def sL:ae:=ae.qb vF.qb.qb.qa
def Oh {ws:List Int} {w:Int} (hL:ft ws w) {bM a m:Nat} (hm:m < 16) {S:af} {H:ah} (hF:KF ws w bM a m S H) (h7:S 7 = .bool false) :
  bq prog GW DG (az λS H=>KF ws w bM a m S H/\S 7=.bool (iP ws a m ws.length)) S H:=by
 have hG:=CK;have hlen:=hL.1;have xP:=po ws;obtain⟨s2,h2,s3,h3⟩:=hF;simp[c112,ia,fW,kn,jX,DG,ae.qa,ae.qb,s2,h2,s3,h3,h7,xP,dY,bJ];refine dE 35 ws.length (λi S H=>KF ws w bM a m S H/\S 33=.slice .view (ws.map cw)/\S 34=.int .i64 (ws.length:Nat)/\S 35=.int .i64 (i:Nat)/\S 7=.bool (iP ws a m i)) (λi S H h=>h.2.2.2.1) ⟨⟨by simp[s2],by simp[h2,dY,bJ],by simp[s3],by simp[h3]⟩,by simp,by simp,by simp,by simp[h7,iP]⟩ ?_;clear s2 h2 s3 h3 h7 S H;rintro i hi S H ⟨⟨s2,h2,s3,h3⟩,vk,Dk,OD,s7⟩
 by_cases ao:i<ws.length
 .have hw:IntKind.i64.wrap ((i:Int)+1)=i+1:=bl (by omega);have hg:=Ac ao;have b1:=zu (b:=i) (by omega)
  have yc:ws.getD i 0=ws[i]:=by rw[List.getD_eq_getElem?_getD,List.getElem?_eq_getElem ao]<;>rfl
  have hs:=Ik ws a m i;rw[yc]at hs;have M8:=T8 (GI:=GW) hG ws[i] a m;unfold cw eB dq at M8;rw[hs];generalize iP ws a m i=b0 at s7⊢
  obtain⟨x,hx⟩:∃x,ws[i]=x:=⟨_,rfl⟩
  rw[hx]at hg M8⊢
  have CD:((m:Int)==((2^i:Nat):Int))=decide (m=2^i):=by
   rw[Bool.eq_iff_iff,beq_iff_eq,decide_eq_true_iff];omega
  generalize 2^i=p at b1 CD⊢
  cases b0 with
  |true=>
   simp[s2,h2,s3,h3,s7,vk,Dk,OD,ao,hg,hx,hw,cw,dq,dH,KF]
  |false=>
   by_cases VC:m=p
   .subst VC;simp[s2,h2,s3,h3,s7,vk,Dk,OD,ao,hg,hx,hw,b1,cw,dq,dH,KF];refine oc M8 ?_;simp[s2,h2,s3,h3,s7,vk,Dk,OD,ao,hg,hx,hw,b1,cw,dq,dH,KF]
   .have Zv:((m:Int)==(p:Int))=false:=by rw[CD];simp[VC]
    simp[s2,h2,s3,h3,s7,vk,Dk,OD,ao,hg,hx,hw,b1,Zv,VC,cw,dq,dH,KF]
 .have ec:i=ws.length:=by omega
  subst ec;simp[s2,h2,s3,h3,s7,vk,Dk,OD,KF]
end Go.Proofs.Tryz
namespace Go.Proofs.Tryz
open Go Go.AL Go.RowKit Go.Proofs Go.Proofs.Tram
abbrev YL:=List (List Int×Value)
def EJ.len{ws:List Int}{l:YL}(h:EJ ws l):∀x∈l,x.1.length=3:=λx hx=>by
 obtain⟨a,s,rfl⟩:=h x hx
 rfl
def nH(a m:Nat):List Int:=[(a:Int),1,(m:Int)]
def EJ.at{ws:List Int}{l:YL}(h:EJ ws l){a m:Nat}{v:Value}(hx:(nH a m,v)∈l):v=.bool (aG ws a m):=by
 obtain⟨a',s',e⟩:=h _ hx;simp only[nH,Prod.mk.injEq,List.cons.injEq,and_true]at e;obtain⟨⟨e1,e2⟩,rfl⟩:=e
 have e1:a=a':=by omega
 have e2:m=s':=by omega
 subst e1 e2;rfl
noncomputable def kA:Code:=f112.body.getD .skip
noncomputable def Ob:Code:=mr (mr (jI (jI kA)))
def Od {ws:List Int} {w:Int} {bM a m:Nat} {W:World} (ao:bM < W.heap.size) {Pr:Nat→Nat→Prop} {Q:mJ YL} {S:af} {H:ah} {y:YL} (hF:KF ws w bM a m S H)
  (abj:∀S' H',KF ws w bM a m S' H'->S' 5=.bool (aG ws a m)->S' 6=.bool true->Q .normal (Old.plain Pr W) S' H' y)
  (dp:∀S' H',KF ws w bM a m S' H'->S' 6=.bool false->(∀x∈y,x.1≠nH a m)->Q .normal (Old.plain Pr W) S' H' y):
  bF prog 75 bM W (IL ws bM) Ob Q (Old.plain Pr W) S H y:=by
 have gp:=qq ws bM;show bF prog 75 bM W (IL ws bM) (.region _ _ false) _ _ _ _ _;intro wB g a1 w1 m1 hv ho nI R hy;refine wpIn_region ?_;show wpOpsIn (FR none) _ _ _ _ ([0,1,2]++[3,4,5,6,7,8]) a1 w1;refine q' gp ao (by kernel_rfl) (os:=[_,_,_]) rfl (al:=(fW.qa.qa.dl).take 3) (by kernel_rfl) (by kernel_rfl) hv R hy (by rw[ho];exact λ_ h=>h) (λS H=>KF ws w bM a m S H/\S 17=.val (dN bM)/\S 18=eB a m) ?_ ?_
 .obtain⟨s2,h2,s3,h3⟩:=hF;simp[c112,ia,fW,ae.qa,ae.qb,ae.dl,aV,an,aI,aq,aB.S,aB.H,au,aH,KF,ev,s2,h2,s3,h3,dY,bJ,eB,dq,aP,AV.aw,AV.bV,HR.okB]
 clear hF;rintro g2 S2 H2 a2 w2 im R2 tQ ⟨hF,lY,nb⟩;rw[ho]at im
 have Hf:a2.eval (.tmp 17)=dN bM:=by
  have:=R2.slot 17 (by decide) id;rw[lY]at this;exact this.jf
 have Fi:a2.eval (.tmp 18)=.agg (dC (nH a m)):=by
  have:=R2.slot 18 (by decide) id;rw[nb]at this;exact PK this
 have LW:prog.underlying 117=some (.map 198 4):=by kernel_rfl
 obtain⟨fs,lM⟩:=uZ 198
 have sW:iX prog 10000 198=some 3:=by kernel_rfl
 obtain⟨i4,Wb,Ma⟩:=Option.bind_eq_some_iff.1 (show(prog.info? 4).bind (·.zero)=some (.bool false) by kernel_rfl);have ZE:=tQ;obtain⟨es,gJ,hM,kz,vj⟩:=tQ
 have look:∃(b1 b2:Bool),(∀o:Oper,o.op=.lookup 117 (.tmp 17) (.tmp 18) true->(execOp a2.eval o).run prog w2=.ok (.value (.tuple #[.bool b1,.bool b2])) w2)/\(b2=true->b1=aG ws a m)/\(b2=false->∀x∈y,x.1≠nH a m):=by
  have eO:∀o:Oper,o.op=.lookup 117 (.tmp 17) (.tmp 18) true->_:=λo ho=>uI (P:=prog) (a:=a2) (w:=w2) (t:=117) (x1:=.tmp 17) (x2:=.tmp 18) (key:=nH a m) ho LW lM sW Wb Ma Hf Fi rfl hM kz vj.len
  cases wM:j3 (nH a m) y 0 with
  |none=>
   refine⟨false,false,λo ho=>?_,(λh=>by cases h),λ_=>vV wM⟩;have:=eO o ho;rw[wM]at this;exact this
  |some q=>
   obtain⟨j,v⟩:=q;have hv:=vj.at (tz wM);subst hv;refine⟨_,true,λo ho=>?_,λ_=>rfl,(λh=>by cases h)⟩;have:=eO o ho;rw[wM]at this;exact this
 obtain⟨b1,b2,wM,mR,iw⟩:=look;refine aT rfl rfl (by rfl) (wM _ rfl) ?_;show wpOpsIn (FR none) _ _ _ _ ([4,5,6,7,8]++[]) (a2.put (some 19) (.tuple #[.bool b1,.bool b2])) w2
 have R4:=R2.put 19 (.fZ [.bool b1,.bool b2]) (.tuple #[.bool b1,.bool b2]) (by decide) (.data _ _ (.fZ _ _ rfl (λi hi cy=>by
  match i,hi with
  |0,_|1,_=>exact .bool _))) trivial
 refine q' gp ao (by kernel_rfl) (os:=[_,_,_,_,_]) rfl (al:=(fW.qa.qa.dl).drop 4) (by kernel_rfl) (by kernel_rfl) hv R4 ZE (by rw[im];exact λ_ h=>h) (λS H=>KF ws w bM a m S H/\S 5=.bool b1/\S 6=.bool b2) ?_ ?_
 .obtain⟨s2,h2,s3,h3⟩:=hF;simp[c112,ia,fW,ae.qa,ae.qb,ae.dl,aV,an,aI,aq,aB.S,aB.H,au,aH,KF,ev,s2,h2,s3,h3,AV.aw,AV.bV,HR.okB,aY]
 clear hF;rintro g5 S5 H5 a5 w5 N_ R5 We ⟨hF,s5,s6⟩;refine mO hv R5 (by rw[N_,im];exact nI) We ?_;rw[N_,im]
 cases b2 with
 |true=>exact abj _ _ hF (by rw[s5,mR rfl]) s6
 |false=>exact dp _ _ hF s6 (iw rfl)
noncomputable def kB:Code:=jI (jI (jI (jI (jI kA))))
noncomputable def Kp:Code:=mr kB
def No {ws:List Int} {w:Int} {bM a m:Nat} {W:World} (ao:bM < W.heap.size) {Pr:Nat→Nat→Prop} {Q:mJ YL} {S:af} {H:ah} {y:YL} (hF:KF ws w bM a m S H) (s7:S 7 = .bool (aG ws a m)) (bt:∀ x∈y,x.1≠nH a m)
  (hk:∀S' H',S' 7=.bool (aG ws a m)->Q .normal (Old.plain Pr W) S' H' (y++[(nH a m,.bool (aG ws a m))])):
  bF prog 75 bM W (IL ws bM) Kp Q (Old.plain Pr W) S H y:=by
 have gp:=qq ws bM;show bF prog 75 bM W (IL ws bM) (.region _ _ false) _ _ _ _ _;intro wB g a1 w1 m1 hv ho nI R hy;refine wpIn_region ?_;show wpOpsIn (FR none) _ _ _ _ ([0,1,2,3]++[4]) a1 w1;refine q' gp ao (by kernel_rfl) (os:=[_,_,_,_]) rfl (al:=(yx.qa.dl).take 4) (by kernel_rfl) (by kernel_rfl) hv R hy (by rw[ho];exact λ_ h=>h) (λS H=>S 7=.bool (aG ws a m)/\S 71=.val (dN bM)/\S 72=eB a m/\S 73=.bool (aG ws a m)) ?_ ?_
 .obtain⟨s2,h2,s3,h3⟩:=hF;simp[c112,ia,fW,kn,jX,yx,ae.qa,ae.qb,ae.dl,aV,an,aI,aq,aB.S,aB.H,au,aH,ev,s2,h2,s3,h3,s7,dY,bJ,eB,dq,aP,AV.aw,AV.bV,HR.okB]
 clear hF s7;rintro g9 S9 H9 a9 w9 vL R9 hy9 ⟨s7,XL,WU,Xv⟩;rw[ho]at vL
 have JM:∀k,¬g9.old.c bM k:=by rw[vL];exact nI
 have VT:a9.eval (.tmp 71)=dN bM:=by
  have:=R9.slot 71 (by decide) id;rw[XL]at this;exact this.jf
 have VH:a9.eval (.tmp 72)=.agg (dC (nH a m)):=by
  have:=R9.slot 72 (by decide) id;rw[WU]at this;exact PK this
 have WS:a9.eval (.tmp 73)=.bool (aG ws a m):=by
  have:=R9.slot 73 (by decide) id;rw[Xv]at this;exact this.fc
 have LW:prog.underlying 117=some (.map 198 4):=by kernel_rfl
 obtain⟨fs,lM⟩:=uZ 198
 have sW:iX prog 10000 198=some 3:=by kernel_rfl
 obtain⟨es,gJ,hM,kz,vj⟩:=hy9;refine eC rfl rfl (by rfl) (uU (t:=117) (x1:=.tmp 71) (x2:=.tmp 72) (x3:=.tmp 73) (key:=nH a m) rfl LW lM sW VT VH rfl hM kz vj.len (rI bt)) ?_;rw[WS]
 obtain⟨kT,zG⟩:∃kT,w9.putObj bM (.map (es.push { key:=.agg (dC (nH a m)),val:=.bool (aG ws a m),born:=gJ }) (gJ+1))=kT:=⟨_,rfl⟩
 show wpOpsIn (FR none) _ _ _ _ [] a9 (w9.putObj bM (.map (es.push { key:=.agg (dC (nH a m)),val:=.bool (aG ws a m),born:=gJ }) (gJ+1)));rw[zG];have M6:=(Array.getElem?_eq_some_iff.1 hM).1
 have mZ:kT.heap[bM]?=some (.map (es.push { key:=.agg (dC (nH a m)),val:=.bool (aG ws a m),born:=gJ }) (gJ+1)):=by rw[<-zG];exact World.putObj_heap_same M6
 have nj:dG (λb=>b=bM) w9 kT:=by
  rw[<-zG];exact⟨rfl,rfl,rfl,by simp[World.putObj],λb _ hb=>World.putObj_heap_other hb⟩
 have zV:bM<g9.base:=by rw[R9.base,hv.size];exact ao
 have NH:=R9.DD nj zV JM mZ;refine mO (hv.swap (hv.below R9) nj) NH JM ⟨_,_,mZ,kz.push (nH a m) (.bool (aG ws a m)) gJ,λx hx=>?_⟩ ?_
 .rcases List.mem_append.1 hx with h|h
  .exact vj x h
  .rw[List.mem_singleton]at h;exact⟨a,m,h⟩
 .rw[vL];exact hk _ _ s7
end Go.Proofs.Tryz
namespace Go.Proofs.Tryz
open Go Go.AL Go.RowKit Go.Proofs Go.Proofs.Tram
attribute [local simp] dS eF dR cW dT cV cZ ck cg dQ cd bP fB fC an aq ev aB.S aB.H aY au aH AL.start AV.cells AV.storable AV.bb aQ aZ aP HR.okB post cU cL cI AV.out AV.bu br bU fz fG AV.vw bR vI int bI az ct cb gB il dM cD aR AV.aw AV.bV nz
def V_:Bool->Code->Code
 |true,.cond _ x _=>x
 |false,.cond _ _ y=>y
 |_,c=>c
def vR(ws:List Int)(w:Int)(bM k:Nat):AV:=.func (.func k) [dA ws w (dN bM)] []
noncomputable def kL:Code:=mr (mr (jI (V_ true (jI (V_ false (jI (mr (jI (jI (jI (jI kA)))))))))))
noncomputable def Lr:Code:=mr (jI (mr (mr (jI (jI kL)))))
def RT {ws:List Int} {w:Int} (hL:ft ws w) {bM m a:Nat} (ha:1≤a∧a≤6) (G3:1≤m) (hm:m < 16) (jV:∀ s,s < m→ur ws w bM s) {W:World} (ao:bM < W.heap.size) {Pr:Nat→Nat→Prop} {Q:mJ YL} {S:af} {H:ah} {l y:YL}
  (hF:KF ws w bM a m S H) (de:S 11=vR ws w bM 158) (fK:ik m l y)
  (hQ:∀S' H' y',KF ws w bM a m S' H'->S' 68=.bool (jU ws a m)->ik m l y'->Q .normal (Old.plain Pr W) S' H' y'):bF prog 75 bM W (IL ws bM) Lr Q (Old.plain Pr W) S H y:=by
 have gp:=qq ws bM;show bF prog 75 bM W (IL ws bM) (.region _ _ false) _ _ _ _ _;intro wB g a1 w1 m1 hv ho nI R hy;refine wpIn_region ?_;show wpOpsIn (FR none) _ _ _ _ ([0,1]++[2]) a1 w1;refine q' gp ao (by kernel_rfl) (os:=[_,_]) rfl (al:=(sL.qb.qa.dl).take 2) (by kernel_rfl) (by kernel_rfl) hv R hy (by rw[ho];exact λ_ h=>h) (λS H=>KF ws w bM a m S H/\S 66=vR ws w bM 158/\S 67=eB a m) ?_ ?_
 .obtain⟨s2,h2,s3,h3⟩:=hF;simp[c112,ia,fW,kn,jX,nU,vF,sL,ae.qa,ae.qb,ae.dl,aV,an,aI,aq,aB.S,aB.H,au,aH,KF,ev,s2,h2,s3,h3,de,vR,eB,dq,aP,AV.aw,AV.bV,HR.okB]
 clear hF de;rintro g2 S2 H2 a2 w2 im R2 tQ ⟨hF,Vj,WX⟩;rw[ho]at im
 have rD:∀k,¬g2.old.c bM k:=by rw[im];exact nI
 have lx:∀k,¬g2.Pr bM k:=λk hp=>by
  rcases hp with hp|hp
  .rw[im]at hp;exact nI k hp.2
  .have:=R2.base;have:=hv.size;omega
 obtain⟨u,HG,du⟩:∃u,a2.eval (.tmp 66)=.func (.func 158) #[u] #[]/\RD g2.Pr w2 (dA ws w (dN bM)) u:=by
  have h:=R2.slot 66 (by decide) id;rw[Vj]at h;show∃u,a2.tmps.getD 66 undef=_/\_;generalize a2.tmps.getD 66 undef=c at h
  cases h with
  |data _ _ h=>cases h
  |func _ _ _ vs us h1 h2 r1 r2=>
   have:us=#[]:=Array.eq_empty_of_size_eq_zero (by simpa using h2.symm);subst this;obtain⟨u,rfl⟩:=j9 (vs:=vs) (by rw[<-h1]<;>rfl);exact⟨u,rfl,(r1 0 (by simp) (by simp)).bQ rfl⟩
 have d67:RD g2.Pr w2 (eB a m) (a2.eval (.tmp 67)):=by
  have:=R2.slot 67 (by decide) id;rw[WX]at this;exact this.bQ rfl
 refine NI gp ao rD (i:=2) rfl rfl (by rfl) (t:=68) rfl (by decide) hv R2 (za (f:=.tmp 66) (x:=.tmp 67) w2 rfl rfl rfl HG (by kernel_rfl)) (Ff hL ha G3 hm jV tQ lx du d67) ?_;rintro b y3 V9 a3 w3 xW R3 A8 ⟨rfl,Aj⟩;refine mO xW R3 rD A8 ?_;rw[im];obtain⟨s2,h2,s3,h3⟩:=hF;exact hQ _ _ _ ⟨by simp[au,s2],h2,by simp[au,s3],h3⟩ (aN _ _ _) (fK.trans Aj (Nat.le_refl _))
def Hn(ws:List Int)(a:Nat):aG ws a 0=true:=by
 unfold aG;rw[Ia];exact decide_eq_true (by omega)
def QC{ws:List Int}{w:Int}(hL:ft ws w){bM:Nat}:∀m,m<2^ws.length->ur ws w bM m:=by
 intro m
 induction m using Nat.strongRecOn with
 |_ m ih=>
 intro hm a W Pr c0 c1 l ha hI dp r0 r1
 have jV:∀s,s<m->ur ws w bM s:=λs hs=>ih s hs (by omega)
 have SQ:=GM hm hL.1.2;have gp:=qq ws bM;have ao:=hI.lt;refine lu (I:=IL ws bM) (y:=l) func112 rfl ntmps112 results112 (t:=4) (by decide) (args:=[dA ws w (dN bM),eB a m]) (by simp) rfl (λi h h'=>?_) dp hI (B:=λb l'=>b=aG ws a m/\ik (m+1) l l') ?_
 .match i,h with
  |0,_=>exact .data _ _ r0
  |1,_=>exact .data _ _ r1
 refine bF.cut gp ao bL (by kernel_rfl) (ac:=ae.qa c112) (by kernel_rfl) (λ_ _ h=>h) (KF ws w bM a m) ?_ ?_
 .simp[c112,ae.qa,KF,dA,dY,bJ,eB,dq]
 intro S H hF;refine bF.seq (bF.seq (bF.last gp ao bL (by kernel_rfl) (ac:=ae.qa ia.qa) (by kernel_rfl) (λ_ _ h=>h) (λS H=>S 14=.bool (decide (m=0))/\KF ws w bM a m S H) ?_ ?_))
 .obtain⟨s2,h2,s3,h3⟩:=hF
  have:((m:Int)==0)=decide (m=0):=by rw[Bool.eq_iff_iff,beq_iff_eq,decide_eq_true_iff];omega
  simp[c112,ia,ae.qa,ae.qb,KF,s2,h2,s3,h3,this,dq]
  try omega
 clear hF;rintro S1 H1 ⟨fw,hF⟩;show bF prog 75 bM W _ (.cond _ (.seq _ .ret) .skip) _ _ _ _ _
 by_cases h0:m=0
 case pos=>
  subst h0;refine bF.cond rfl true (by show S1 14=_;rw[fw]<;>rfl) ?_;refine bF.cut gp ao bL (by kernel_rfl) (ac:=.ops [⟨some 4,none,.mv true (.c (.bool true))⟩]) (by kernel_rfl) (λ_ _ h=>h) (λS H=>S 4=.bool true) (by simp) ?_;intro S2 H2 s4;exact bF.ret ⟨rfl,rfl,true,s4,(Hn _ _).symm,ik.refl _ _⟩
 refine bF.cond rfl false (by show S1 14=_;rw[fw];simp[h0]) (bF.skip ?_);clear fw;show bF prog 75 bM W _ (.seq (.seq _ (.seq _ (.cond _ (.seq _ .ret) .skip))) _) _ _ _ _ _;refine bF.seq (bF.seq (Od ao hF ?_ ?_))
 .clear hF S1 H1;intro S1 H1 hF s5 s6;show bF prog 75 bM W _ (.seq _ (.cond _ (.seq _ .ret) .skip)) _ _ _ _ _;refine bF.cut gp ao bL (by kernel_rfl) (ac:=ae.qa fW.qa.qb) (by kernel_rfl) (λ_ _ h=>h) (λS H=>S 22=.bool true/\S 5=.bool (aG ws a m)) ?_ ?_
  .simp[c112,ia,fW,ae.qa,ae.qb,s5,s6]
  rintro S2 H2 ⟨zT,s5⟩;refine bF.cond rfl true (by show S2 22=_;rw[zT]) ?_;refine bF.cut gp ao bL (by kernel_rfl) (ac:=ae.qa fW.qa.qb.qb.qa) (by kernel_rfl) (λ_ _ h=>h) (λS H=>S 4=.bool (aG ws a m)) ?_ ?_
  .simp[c112,ia,fW,ae.qa,ae.qb,s5]
  intro S3 H3 s4;exact bF.ret ⟨rfl,rfl,_,s4,rfl,ik.refl _ _⟩
 clear hF S1 H1;intro S1 H1 hF s6 bt;show bF prog 75 bM W _ (.seq _ (.cond _ (.seq _ .ret) .skip)) _ _ _ _ _;refine bF.cut gp ao bL (by kernel_rfl) (ac:=ae.qa fW.qa.qb) (by kernel_rfl) (λ_ _ h=>h) (λS H=>S 22=.bool false/\KF ws w bM a m S H) ?_ ?_
 .obtain⟨s2,h2,s3,h3⟩:=hF;simp[c112,ia,fW,ae.qa,ae.qb,KF,s2,h2,s3,h3,s6]
 clear hF s6;rintro S2 H2 ⟨zT,hF⟩;refine bF.cond rfl false (by show S2 22=_;rw[zT]) (bF.skip ?_);clear zT;show bF prog 75 bM W _ (.seq _ (.seq (.seq _ (.cond _ _ _)) (.seq _ (.seq _ .ret)))) _ _ _ _ _;refine bF.cut gp ao bL (by kernel_rfl) (ac:=ae.qa kn) (by kernel_rfl) (λ_ _ h=>h) (λS H=>S 7=.bool false/\KF ws w bM a m S H) ?_ ?_
 .obtain⟨s2,h2,s3,h3⟩:=hF;simp[c112,ia,fW,kn,ae.qa,ae.qb,KF,s2,h2,s3,h3]
 clear hF;rintro S3 H3 ⟨s7,hF⟩
 have fin:∀S H y,KF ws w bM a m S H->S 7=.bool (aG ws a m)->ik m l y->bF prog 75 bM W (IL ws bM) kB (λex o S H y'=>ex=.ret/\o.ds=[]/\∃b,S 4=.bool b/\(b=aG ws a m/\ik (m+1) l y')) (Old.plain Pr W) S H y:=by
  intro S H y hF s7 fK;show bF prog 75 bM W _ (.seq _ (.seq _ .ret)) _ _ _ _ _;refine bF.seq (No ao hF s7 (λx hx he=>?_) ?_)
  .rcases fK x hx with h|⟨a',s',e,hs⟩
   .exact bt x h he
   .rw[e]at he;simp only[nH,List.cons.injEq,and_true]at he;omega
  intro S' H' s7;show bF prog 75 bM W _ (.seq _ .ret) _ _ _ _ _;refine bF.cut gp ao bL (by kernel_rfl) (ac:=ae.qa yx.qb) (by kernel_rfl) (λ_ _ h=>h) (λS H=>S 4=.bool (aG ws a m)) ?_ ?_
  .simp[c112,ia,fW,kn,jX,yx,ae.qa,ae.qb,s7]
  intro S2 H2 s4;refine bF.ret ⟨rfl,rfl,_,s4,rfl,λx hx=>?_⟩;rcases List.mem_append.1 hx with h|h
  .rcases fK x h with h|⟨a',s',e,hs⟩
   .exact .inl h
   .exact .inr ⟨a',s',e,by omega⟩
  .rw[List.mem_singleton]at h;exact .inr ⟨a,m,by rw[h]<;>rfl,by omega⟩
 have p7:IntKind.i64.wrap ((m:Int)-1)=((m-1:Nat):Int):=by rw[bl (by omega)];omega
 have b1:=uM (a:=m) (b:=m-1) (by omega) (by omega);refine bF.seq (bF.seq (bF.last gp ao bL (by kernel_rfl) (ac:=ae.qa jX.qa) (by kernel_rfl) (λ_ _ h=>h) (λS H=>S 30=.bool (decide (m&&&(m-1)=0))/\S 7=.bool false/\KF ws w bM a m S H) ?_ ?_))
 .obtain⟨s2,h2,s3,h3⟩:=hF
  have:(((m&&&(m-1):Nat):Int)==0)=decide (m&&&(m-1)=0):=by rw[Bool.eq_iff_iff,beq_iff_eq,decide_eq_true_iff];omega
  generalize m&&&(m-1)=q at b1 this⊢;simp[c112,ia,fW,kn,jX,ae.qa,ae.qb,KF,s2,h2,s3,h3,s7,p7,b1,dq]
  try omega
 clear hF s7;rintro S4 H4 ⟨Dp,s7,hF⟩;show bF prog 75 bM W _ (.cond _ _ (.seq _ (.cond _ (.seq _ (.block 2 (.loop _))) .skip))) _ _ _ _ _
 by_cases h1:m&&&(m-1)=0
 case pos=>
  refine bF.cond rfl true (by show S4 30=_;rw[Dp];simp[h1]) ?_;refine bF.last gp ao bL (by kernel_rfl) (ac:=DG) (by kernel_rfl) (λ_ _ h=>h) (λS H=>KF ws w bM a m S H/\S 7=.bool (iP ws a m ws.length)) (Oh hL SQ hF s7) ?_;rintro S5 H5 ⟨hF,s7⟩;rw[Ql hL hm h0 h1]at s7;exact fin S5 H5 l hF s7 (ik.refl _ _)
 refine bF.cond rfl false (by show S4 30=_;rw[Dp];simp[h1]) ?_;have Nf:=UW (GI:=GW) CK hL (dN bM) (a:=(a:Int)) (by omega) (m:=m) (by omega);unfold dA eB dq at Nf;refine bF.cut gp ao bL (by kernel_rfl) (ac:=ae.qa nU) (by kernel_rfl) (λ_ _ h=>h) (λS H=>S 57=.bool (aG ws a m)/\S 7=.bool false/\KF ws w bM a m S H) ?_ ?_
 .obtain⟨s2,h2,s3,h3⟩:=hF
  have hc:(!decide (cn ws m>(a:Int)))=aG ws a m:=by
   unfold aG;rw[Bool.eq_iff_iff];simp
  unfold dY bJ at Nf h2;simp[c112,ia,fW,kn,jX,nU,ae.qa,ae.qb,KF,s2,h2,s3,h3,s7,dq];refine⟨_,by kernel_rfl,by simpa[vI,AV.aw,AV.vw,AV.bV]using Nf,λ_=>rfl,?_⟩;simp only[gt_iff_lt]at hc;simp[KF,s2,h2,s3,h3,s7,hc,dY,bJ,dq]
 clear hF s7 Dp;rintro S5 H5 ⟨UP,s7,hF⟩
 by_cases hc:aG ws a m=true
 case neg=>
  have hc:aG ws a m=false:=by simpa using hc
  refine bF.cond rfl false (by show S5 57=_;rw[UP,hc]) (bF.skip ?_);exact fin S5 H5 l hF (by rw[hc];exact s7) (ik.refl _ _)
 case pos=>
  refine bF.cond rfl true (by show S5 57=_;rw[UP,hc]) ?_;have LV:=Q_ hL (a:=a) hm h1 (by simpa[aG]using hc);refine bF.cut gp ao bL (by kernel_rfl) (ac:=ae.qa nU.qb.qa) (by kernel_rfl) (λ_ _ h=>h) (λS H=>S 62=.fR [vR ws w bM 158,vR ws w bM 159]/\S 63=.int .i64 0/\KF ws w bM a m S H) ?_ ?_
  .obtain⟨s2,h2,s3,h3⟩:=hF;simp[c112,ia,fW,kn,jX,nU,ae.qa,ae.qb,KF,s2,h2,s3,h3,s7,vR,dA,dY,bJ,wW]
  clear hF s7 UP;rintro S6 H6 ⟨zg,wK,hF⟩;refine bF.block (bF.loop (λo S H y=>o=Old.plain Pr W/\S 62=.fR [vR ws w bM 158,vR ws w bM 159]/\S 63=.int .i64 0/\KF ws w bM a m S H/\ik m l y) (λ_=>0) ⟨rfl,zg,wK,hF,ik.refl _ _⟩ ?_);clear zg wK hF S6 H6;rintro o S6 H6 y ⟨rfl,zg,wK,hF,fK⟩;show bF prog 75 bM W _ (.seq _ (.seq (.cond _ .skip (.exit 2)) (.seq (.block 3 (.seq _ (.seq _ (.cond _ (.seq _ (.exit 2)) .skip)))) _))) _ _ _ _ _;refine bF.cut gp ao bL (by kernel_rfl) (ac:=ae.qa vF) (by kernel_rfl) (λ_ _ h=>h) (λS H=>S 64=.bool true/\S 62=.fR [vR ws w bM 158,vR ws w bM 159]/\S 63=.int .i64 0/\KF ws w bM a m S H) ?_ ?_
  .obtain⟨s2,h2,s3,h3⟩:=hF;simp[c112,ia,fW,kn,jX,nU,vF,ae.qa,ae.qb,KF,s2,h2,s3,h3,zg,wK,vR]
  clear zg wK hF;rintro S7 H7 ⟨s64,zg,wK,hF⟩;refine bF.seq (bF.cond rfl true (by show S7 64=_;rw[s64]) (bF.skip ?_));refine bF.seq (bF.block ?_);refine bF.cut gp ao bL (by kernel_rfl) (ac:=ae.qa sL) (by kernel_rfl) (λ_ _ h=>h) (λS H=>S 11=vR ws w bM 158/\KF ws w bM a m S H) ?_ ?_
  .obtain⟨s2,h2,s3,h3⟩:=hF;simp[c112,ia,fW,kn,jX,nU,vF,sL,ae.qa,ae.qb,KF,s2,h2,s3,h3,zg,wK,vR,wW]
  clear zg wK s64 hF;rintro S8 H8 ⟨de,hF⟩;refine bF.seq (RT hL ha (by omega) SQ jV ao hF de fK ?_);clear de hF fK y;intro S9 H9 y hF s68 fK;refine bF.cond rfl true (by show S9 68=_;rw[s68,LV]) ?_;refine bF.cut gp ao bL (by kernel_rfl) (ac:=ae.qa sL.qb.qb.qa) (by kernel_rfl) (λ_ _ h=>h) (λS H=>S 7=.bool true/\KF ws w bM a m S H) ?_ ?_
  .obtain⟨s2,h2,s3,h3⟩:=hF;simp[c112,ia,fW,kn,jX,nU,vF,sL,ae.qa,ae.qb,KF,s2,h2,s3,h3]
  rintro X_ H10 ⟨s7,hF⟩;refine bF.exit ?_;exact fin X_ H10 y hF (by rw[hc];exact s7) fK
end Go.Proofs.Tryz
namespace Go.Proofs.Tryz
open Go Go.AL Go.RowKit Go.Proofs Go.Proofs.Tram
variable{GI:World->Prop}{l:Nat}{xs:List AV}
def dL(l:List Nat):List AV:=l.map λx:Nat=>.int .i64 (x:Int)
def fk(l:List Nat):(dL l).length=l.length:=by simp[dL]
def uA(l:List Nat):aC 1 (dL l)=true:=by
 simp[aC,dL,AV.storable,AV.cells]
def iF(T:List Nat)(n k:Nat):List Nat:=if n<T.length then T.set n (T.getD n 0|||2^k)else T++[2^k]
def eU(ws:List Int)(w:Int):Nat->List Nat->List Nat->List (List Nat×Nat)
 |0,now,T=>[(now,T.length)]
 |r+1,now,T=>(List.range' 0 (T.length+1)).flatMap λn=>if aG ws w ((iF T n now.length).getD n 0)then eU ws w r (now++[n]) (iF T n now.length)else[]
def qB(ws:List Int)(w:Int)(r:Nat)(now T:List Nat)(n:Nat):List (List Nat×Nat):=if aG ws w ((iF T n now.length).getD n 0)then eU ws w r (now++[n]) (iF T n now.length)else[]
def lB(ws:List Int)(w:Int)(r:Nat)(now T:List Nat):eU ws w (r+1) now T=(List.range' 0 (T.length+1)).flatMap (qB ws w r now T):=rfl
def gM(c:List Nat×Nat):AV:=.agg [.slice .view (dL c.1),.int .i64 (c.2:Nat)]
structure Env where
 bM:Nat
 cJ:Value
 cY:Value
 cK:Value
 cP:Value
 oV:Nat->Prop
def Env.fv(X:Env):Value:=.func (.func 155) #[] #[X.cJ,X.cY,X.cK,X.cP]
structure nc(C:Cons prog GI l xs)(X:Env)(ws:List Int)(w:Int)(k:Nat)(M:Nat->Prop)(Pr:Nat->Nat->Prop)(MI:Nat->Prop)(W:World):Prop where
 j:C.J k M Pr W
 lt:∀b,M b->b<W.heap.size
 mi:∀b,MI b->M b/\b≠X.bM
 F6:∀b,X.oV b->MI b
 mp:M X.bM
 map:∃y,IL ws X.bM y W
 rJ:RD (λb j=>X.oV b\/Pr b j) W (.ref (bJ ws w)) X.cJ
 rY:RD (λb j=>X.oV b\/Pr b j) W (.ref [.val (.func (.yield l) #[] #[])]) X.cY
 rK:RD (λb j=>X.oV b\/Pr b j) W (.ref (dY ws w (dN X.bM))) X.cK
 rP:RD (λb j=>X.oV b\/Pr b j) W (.ref [.val X.fv]) X.cP
variable{C:Cons prog GI l xs}{X:Env}{ws:List Int}{w:Int}{k:Nat}{M:Nat->Prop}{Pr:Nat->Nat->Prop}{MI MF:Nat->Prop}{W W' W0:World}
def dG.Oy{M M':Nat->Prop}{w w':World}(h:dG M w w')(hm:∀b,M b->M' b):dG M' w w':=⟨h.os,h.tape,h.output,h.size,λb hb hn=>h.block b hb λhh=>hn (hm b hh)⟩
def nc.not(s:nc C X ws w k M Pr MI W):∀j,¬Pr X.bM j:=λj=>C.apart s.j X.bM j s.mp
def nc.lO(s:nc C X ws w k M Pr MI W)(ht:dG (λb=>b=X.bM) W W'):∀b,MI b->W'.heap[b]?=W.heap[b]?:=λb hb=>ht.block b (s.lt b (s.mi b hb).1) (s.mi b hb).2
def nc.fQ(s:nc C X ws w k M Pr MI W)(ht:dG (λb=>b=X.bM) W W')(hI:∃y,IL ws X.bM y W'):nc C X ws w k (λb=>M b\/(W.heap.size<=b/\b<W'.heap.size)) Pr MI W':=by
 have hk:aE (λb j=>X.oV b\/Pr b j) (λb j=>X.oV b\/Pr b j) W W':=aE.jj λb j hb hp=>ht.block b hb (by
  rintro rfl;rcases hp with hp|hp
  .exact(s.mi _ (s.F6 _ hp)).2 rfl
  .exact s.not j hp)
 have aL:=ht.size;refine⟨C.fQ s.j (dG.Oy ht λb hb=>by subst hb;exact s.mp) λb hb=>?_,λb hb=>?_,λb hb=>⟨.inl (s.mi b hb).1,(s.mi b hb).2⟩,s.F6,.inl s.mp,hI,s.rJ.mono hk,s.rY.mono hk,s.rK.mono hk,s.rP.mono hk⟩
 .rcases hb with hb|hb
  .exact⟨by have:=s.lt b hb;omega,.inl hb⟩
  .exact⟨hb.2,.inr hb.1⟩
 .rcases hb with hb|hb
  .have:=s.lt b hb;omega
  .exact hb.2
def IL.below{bM:Nat}{y:YL}(h:IL ws bM y W)(hb:Below W.heap.size W W'):IL ws bM y W':=by
 obtain⟨es,gJ,h1,h2⟩:=h;exact⟨es,gJ,(hb.block bM (Array.getElem?_eq_some_iff.1 h1).1).trans h1,h2⟩
def nc.grow(s:nc C X ws w k M Pr MI W)(hb:Below W.heap.size W W'):nc C X ws w k (λb=>M b\/(W.heap.size<=b/\b<W'.heap.size)) Pr MI W':=
 s.fQ (dG.gP hb) (by obtain⟨y,hy⟩:=s.map;exact⟨y,hy.below hb⟩)
def nc.less(s:nc C X ws w k M Pr MF W)(h:∀b,MI b->MF b)(h0:∀b,X.oV b->MI b):nc C X ws w k M Pr MI W:=
 ⟨s.j,s.lt,λb hb=>s.mi b (h b hb),h0,s.mp,s.map,s.rJ,s.rY,s.rK,s.rP⟩
def nc.more(s:nc C X ws w k M Pr MI W)(h:∀b,MF b->M b/\b≠X.bM)(h0:∀b,X.oV b->MF b):nc C X ws w k M Pr MF W:=
 ⟨s.j,s.lt,h,h0,s.mp,s.map,s.rJ,s.rY,s.rK,s.rP⟩
def okv(v:AV):Prop:=v.aw=v/\v.bu=true
def pS(l:Nat)(X:Env)(ws:List Int)(w:Int)(now T:List Nat)(ex:List (Nat×AV)):af:=λt=>
 if t=0 then .slice .view (dL now)else if t=1 then .slice .view (dL T)else if t=2 then .ref (bJ ws w)else if t=3 then .ref [.val (.func (.yield l) #[] #[])]else if t=4 then .ref (dY ws w (dN X.bM))else if t=5 then .ref [.val X.fv]else match ex.lookup t with|some v=>v|none=>.bj
structure PS(C:Cons prog GI l xs)(X:Env)(ws:List Int)(w:Int)(MI:Nat->Prop)(W0:World)(now T:List Nat)(MF:Nat->Prop)(ex:List (Nat×AV))(k:Nat)(a:Act)(W:World):Prop where
 st:∃M Pr,nc C X ws w k M Pr MF W/\∀b,W0.heap.size<=b->b<W.heap.size->M b
 sub:∀b,MI b->MF b
 sm:W0.heap.size<=W.heap.size/\∀b,MI b->W.heap[b]?=W0.heap[b]?
 size:a.tmps.size=64
 defers:a.defers=[]
 t2:a.tmps.getD 2 undef=X.cJ
 t3:a.tmps.getD 3 undef=X.cY
 t4:a.tmps.getD 4 undef=X.cK
 t5:a.tmps.getD 5 undef=X.cP
 r0:RD (λb _=>MI b) W (.slice .view (dL now)) (a.tmps.getD 0 undef)
 r1:RD (λb _=>MI b) W (.slice .view (dL T)) (a.tmps.getD 1 undef)
 ex:∀p∈ex,6<=p.1/\okv p.2/\RD (λb _=>MF b) W p.2 (a.tmps.getD p.1 undef)
variable{now T:List Nat}{ex mj:List (Nat×AV)}{a a':Act}
def zA{v:AV}{t:Nat}:∀{ex:List (Nat×AV)},ex.lookup t=some v->(t,v)∈ex
 |[],h=>by cases h
 |(a,b)::ex,h=>by
  rw[List.lookup_cons]at h
  by_cases ht:(t==a)=true
  .rw[ht]at h
   have:t=a:=by simpa using ht
   subst this;cases h;exact List.mem_cons_self
  .rw[Bool.not_eq_true]at ht;rw[ht]at h;exact List.mem_cons_of_mem _ (zA h)
def PS.gu(h:PS C X ws w MI W0 now T MF ex k a W)(hs:nc C X ws w k M Pr MF W):∀t,t<64->(pS l X ws w now T ex t).aw=pS l X ws w now T ex t/\RV (λb j=>MF b\/Pr b j) bO W (pS l X ws w now T ex t) (a.tmps.getD t undef):=by
 intro t ht
 have hm:∀{v:AV}{c:Value},RD (λb j=>X.oV b\/Pr b j) W v c->RD (λb j=>MF b\/Pr b j) W v c:=λh=>h.mono (aE.same λb j _ hp=>hp.imp (hs.F6 b) id)
 unfold pS
 by_cases t0:t=0
 .subst t0;simp only[if_true];exact⟨rfl,.data _ _ (h.r0.mono (aE.same λb j _ hp=>.inl (h.sub b hp)))⟩
 rw[if_neg t0]
 by_cases t1:t=1
 .subst t1;simp only[if_true];exact⟨rfl,.data _ _ (h.r1.mono (aE.same λb j _ hp=>.inl (h.sub b hp)))⟩
 rw[if_neg t1]
 by_cases t2:t=2
 .subst t2;simp only[if_true];rw[h.t2];exact⟨rfl,.data _ _ (hm hs.rJ)⟩
 rw[if_neg t2]
 by_cases t3:t=3
 .subst t3;simp only[if_true];rw[h.t3];exact⟨rfl,.data _ _ (hm hs.rY)⟩
 rw[if_neg t3]
 by_cases t4:t=4
 .subst t4;simp only[if_true];rw[h.t4];exact⟨rfl,.data _ _ (hm hs.rK)⟩
 rw[if_neg t4]
 by_cases t5:t=5
 .subst t5;simp only[if_true];rw[h.t5];exact⟨rfl,.data _ _ (hm hs.rP)⟩
 rw[if_neg t5]
 cases hl:ex.lookup t with
 |none=>exact⟨rfl,.bj _⟩
 |some v=>
  obtain⟨_,h2,h3⟩:=h.ex _ (zA hl);exact⟨h2.1,.data _ _ (h3.mono (aE.same λb j _ hp=>.inl hp))⟩
def PS.keep (h:PS C X ws w MI W0 now T MF ex k a W) (ht:dG (fun b=>b=X.bM) W W') (hI:∃ y,IL ws X.bM y W') (N:Nat) (hN:6≤N) (aL:a'.tmps.size=64) (c_:a'.defers=[]) (h0:∀ t,t < N→a'.tmps.getD t undef=a.tmps.getD t undef)
  (hex:ex.all (λp=>decide (p.1<N))=true):PS C X ws w MI W0 now T MF ex k a' W':=by
 obtain⟨M,Pr,s,hM⟩:=h.st;have hf:=s.lO ht;have xc:=ht.size;have h1:=h.sm.1;refine⟨⟨_,Pr,s.fQ ht hI,λb hb eN=>?_⟩,h.sub,⟨by omega,λb hb=>(hf b (h.sub b hb)).trans (h.sm.2 b hb)⟩,aL,c_,(h0 2 (by omega)).trans h.t2,(h0 3 (by omega)).trans h.t3,(h0 4 (by omega)).trans h.t4,(h0 5 (by omega)).trans h.t5,?_,?_,λp hp=>?_⟩
 .by_cases Ew:b<W.heap.size
  .exact .inl (hM b hb Ew)
  .exact .inr ⟨by omega,eN⟩
 .rw[h0 0 (by omega)];exact h.r0.mono (aE.of_eq λb j hp=>⟨hp,hf b (h.sub b hp)⟩)
 .rw[h0 1 (by omega)];exact h.r1.mono (aE.of_eq λb j hp=>⟨hp,hf b (h.sub b hp)⟩)
 .obtain⟨q1,q2,q3⟩:=h.ex p hp;have:=List.all_eq_true.1 hex p hp;rw[h0 p.1 (by simpa using this)];exact⟨q1,q2,q3.mono (aE.of_eq λb j hp=>⟨hp,hf b hp⟩)⟩
def PS.PA(h:PS C X ws w MI W0 now T MF ex k a W)(p7:∀p∈mj,p∈ex):PS C X ws w MI W0 now T MF mj k a W:=
 ⟨h.st,h.sub,h.sm,h.size,h.defers,h.t2,h.t3,h.t4,h.t5,h.r0,h.r1,λp hp=>h.ex p (p7 p hp)⟩
def PS.again(h:PS C X ws w MI W0 now T MF ex k a W):PS C X ws w MI W now T MF ex k a W:=by
 obtain⟨M,Pr,s,_⟩:=h.st;exact⟨⟨M,Pr,s,λb h1 h2=>absurd h1 (by omega)⟩,h.sub,⟨Nat.le_refl _,λ_ _=>rfl⟩,h.size,h.defers,h.t2,h.t3,h.t4,h.t5,h.r0,h.r1,h.ex⟩
def PS.down(h:PS C X ws w MI W0 now T MF ex k a W)(h0:∀b,X.oV b->MI b)(hs:ex.all (λp=>gf p.2)=true):PS C X ws w MI W0 now T MI ex k a W:=by
 obtain⟨M,Pr,s,hM⟩:=h.st;refine⟨⟨M,Pr,s.less h.sub h0,hM⟩,λ_ h=>h,h.sm,h.size,h.defers,h.t2,h.t3,h.t4,h.t5,h.r0,h.r1,λp hp=>?_⟩;obtain⟨q1,q2,q3⟩:=h.ex p hp;exact⟨q1,q2,q3.gf (List.all_eq_true.1 hs p hp)⟩
def PS.bool(h:PS C X ws w MI W0 now T MF ex k a W){t:Nat}{b:Bool}(hm:(t,AV.bool b)∈ex):a.tmps.getD t undef=.bool b:=(RV.data (al:=bO) _ _ (h.ex _ hm).2.2).fc
def PS.int(h:PS C X ws w MI W0 now T MF ex k a W){t:Nat}{b:Int}(hm:(t,AV.int .i64 b)∈ex):a.tmps.getD t undef=.int .i64 b:=(RV.data (al:=bO) _ _ (h.ex _ hm).2.2).int_eq
def W6:Nat->Bool:=λt=>decide (6<=t)
def PS.region (hG:av GI) (h:PS C X ws w MI W0 now T MF ex k a W) {id:Nat} {ops:Array Oper} {ac:ae} {Q:Exit→Act→World→Prop} {m:Nat} (hc:iW (.region id ops false)=true) (ja:cE prog 64 (.region id ops false)=ac) (hW:fy ops W6=true)
  (mj:List (Nat×AV)) (hs:mj.all (λp=>decide (6<=p.1)&&(decide (p.1<64)&&gf p.2))=true) (sg:bq prog GI ac (az λS' _=>∀p∈mj,S' p.1=p.2) (pS l X ws w now T ex) (λ_=>none)) (hk:∀a' W',PS C X ws w MI W0 now T MF mj k a' W'->Q .normal a' W'):(Code.region id ops false).wpIn (FR none) m prog Q a W:=by
 obtain⟨M,Pr,s,hM⟩:=h.st;refine cQ hG bL hc ja hW (C.gi s.j) (λb j=>MF b\/Pr b j) (pS l X ws w now T ex) h.size h.defers (h.gu s) sg ?_;intro g S' H' a' W' hg R1 hK bh
 have hb:Below W.heap.size W W':=by have:=R1.below;rwa [R1.base]at this
 have h1:=(h.PA (mj:=[]) (λp hp=>by cases hp)).keep (dG.gP hb) (by obtain⟨y,hy⟩:=s.map;exact⟨y,hy.below hb⟩) 6 (Nat.le_refl _) R1.size (by rw[R1.defers,hg]<;>rfl) (λt ht=>bh t (by simp[W6];omega)) rfl;refine hk a' W' ⟨h1.st,h1.sub,h1.sm,h1.size,h1.defers,h1.t2,h1.t3,h1.t4,h1.t5,h1.r0,h1.r1,λp hp=>?_⟩;have uw:=List.all_eq_true.1 hs p hp;simp only[Bool.and_eq_true,decide_eq_true_eq]at uw;have r:=R1.slot p.1 uw.2.1 (λh=>h);rw[hK p hp]at r
 have hd:p.2.bu=true:=by have:=uw.2.2;revert this;cases p.2<;>simp[Go.AL.gf,AV.bu]
 refine⟨uw.1,⟨?_,hd⟩,(r.bQ hd).gf uw.2.2⟩
 have:=uw.2.2;revert this;cases p.2<;>first|(intro _;rfl)|(intro h;cases h)
end Go.Proofs.Tryz
namespace Go.Proofs.Tryz
open Go Go.AL Go.RowKit Go.Proofs Go.Proofs.Tram
def scK:Code->Code
 |.scope c=>c
 |c=>c
noncomputable def Pg:Code:=scK (jI (f155.body.getD .skip))
noncomputable def Iq:Code:=mr (mr (jI (mr (jI (jI Pg)))))
noncomputable def Cx:Code:=mr (mr (jI (jI Iq)))
noncomputable def GR:Code:=mr (jI (jI (jI Cx)))
def tq{α:Type}{x:Option α}{o o':α}(ho:x=some o)(h:x=some o':=by rfl):o=o':=Option.some.inj (ho.symm.trans h)
def KI{a:Act}{w:World}{o:Oper}{x:Operand}{t ty:TypeId}{k:Nat}(hk:k<4)(ho:o.op=.binOp .shl t (.const (.int .i64 1)) x ty)(hx:a.eval x=.int .i64 (k:Nat)):(execOp a.eval o).run prog w=.ok (.value (.int .i64 ((2^k:Nat):Int))) w:=by
 have hc:a.eval (.const (.int .i64 1))=.int .i64 1:=rfl
 have:k=0\/k=1\/k=2\/k=3:=by omega
 unfold execOp
 rcases this with rfl|rfl|rfl|rfl<;>simp[ho,hx,hc,Go.binOp,Op.shift,eqGuard,IntKind.bits]<;>rfl
def PV{a:Act}{w:World}{o:Oper}{x y:Operand}{t ty:TypeId}{p q:Nat}(hp:p<32)(hq:q<32)(ho:o.op=.binOp .or t x y ty)(hx:a.eval x=.int .i64 (p:Nat))(hy:a.eval y=.int .i64 (q:Nat)):(execOp a.eval o).run prog w=.ok (.value (.int .i64 ((p|||q:Nat):Int))) w:=by
 have hr:(execOp a.eval o).run prog w=.ok (.value (.int .i64 (P9 p q))) w:=by
  unfold execOp;simp[ho,hx,hy,Go.binOp,eqGuard,P9]
  try rfl
 rw[hr,J5 hp hq]
def abg(b i cap n x k:Nat)(c0:Value):Nat->Value
 |38=>.slice (some ⟨b,0,none⟩) n cap
 |39=>.int .i64 (i:Nat)
 |40=>.pointer (some ⟨b,i,none⟩)
 |41=>.int .i64 (x:Nat)
 |42=>c0
 |43=>.int .i64 (k:Nat)
 |44=>.int .i64 ((2^k:Nat):Int)
 |45=>.int .i64 ((x|||2^k:Nat):Int)
 |46=>.pointer (some ⟨b,i,none⟩)
 |_=>undef
def K_ {a:Act} {W:World} {b cap:Nat} {cur:Array Value} {L:List Nat} {i k JN:Nat} {ad:Option Addr} (aL:a.tmps.size=64) (mZ:a.tmps.getD 10 undef = .slice (some ⟨b,0,none⟩) L.length cap) (h9:a.tmps.getD 9 undef = .int .i64 (i:Nat)) (h0:a.tmps.getD 0 undef = .slice ad k JN)
  (hb:W.heap[b]?=some (.cells cur 3 (0,0))) (kW:cur.toList.take L.length=L.map λx:Nat=>Value.int .i64 (x:Int)) (hi:i<L.length) (hk:k<4) (hx:L[i]<16) {Q:Exit->Act->World->Prop} {m:Nat}
  (hQ:∀a':Act,a'.tmps.size=64->a'.defers=a.defers->(∀t,t<38->a'.tmps.getD t undef=a.tmps.getD t undef)->Q .normal a' (({ W with drawn:=W.drawn+1 }:World).putObj b (.cells (cur.setIfInBounds i (.int .i64 ((L[i]|||2^k:Nat):Int))) 3 (0,0)))):GR.wpIn (FR none) m prog Q a W:=by
 show(Code.region 9 _ true).wpIn (FR none) m prog Q a W
 obtain⟨x,Ao⟩:∃x,L[i]=x:=⟨_,rfl⟩
 rw[Ao]at hx hQ
 have hci:cur[i]?=some (.int .i64 (x:Nat)):=by
  have h1:(cur.toList.take L.length)[i]?=some (.int .i64 (x:Nat)):=by rw[kW,List.getElem?_map,List.getElem?_eq_getElem hi,Ao]<;>rfl
  rw[List.getElem?_take,if_pos hi,Array.getElem?_toList]at h1;exact h1
 have ec:i<cur.size:=(Array.getElem?_eq_some_iff.1 hci).1;obtain⟨i3,tC,nV⟩:=iZ 3 1;obtain⟨d3,AY,hn3⟩:=vZ 3
 have B9:prog.underlying 28=some (.slice 3):=by kernel_rfl
 obtain⟨WD,Xd⟩:∃WD:World,({ W with drawn:=W.drawn+1 }:World)=WD:=⟨_,rfl⟩
 rw[Xd]at hQ
 have Kt:WD.heap[b]?=some (.cells cur 3 (0,0)):=by rw[<-Xd];exact hb
 obtain⟨WE,Za⟩:∃WE:World,WD.putObj b (.cells (cur.setIfInBounds i (.int .i64 ((x|||2^k:Nat):Int))) 3 (0,0))=WE:=⟨_,rfl⟩
 rw[Za]at hQ;refine yU bL (p:=10) (n:=64) (val:=abg b i cap L.length x k (.slice ad k JN)) (by kernel_rfl) (by kernel_rfl) (by kernel_rfl) aL (λl w=>(l.getD 9 false=false/\w=WD)\/(w=WE/\∀j,j<10->l.getD j false=true)) (.inl ⟨by simp[Array.getD_eq_getD_getElem?],Xd⟩) ?_ ?_
 .intro n o l aX wx ho C' Fz hI hW hw
  have aaH:n<10:=by
   rcases Nat.lt_or_ge n 10 with h|h
   .exact h
   .rw[Array.getElem?_eq_none (by simp;omega)]at ho;cases ho
  rcases hW with⟨hl9,rfl⟩|⟨_,eP⟩
  case inr=>
   rw[eP n aaH]at Fz;cases Fz
  have C':l.size=10:=C';have x0:aX.tmps.getD 0 undef=.slice ad k JN:=(hI.keep (by kernel_rfl)).trans h0;have x9:aX.tmps.getD 9 undef=.int .i64 (i:Nat):=(hI.keep (by kernel_rfl)).trans h9;have x10:aX.tmps.getD 10 undef=.slice (some ⟨b,0,none⟩) L.length cap:=(hI.keep (by kernel_rfl)).trans mZ
  have left:∀n,n≠9->((l.setIfInBounds n true).getD 9 false=false/\wx=wx)\/(wx=WE/\∀j,j<10->(l.setIfInBounds n true).getD j false=true):=λn hn=>.inl ⟨by
   have:(l.setIfInBounds n true).getD 9 false=l.getD 9 false:=by simp[Array.getD_eq_getD_getElem?,Array.getElem?_setIfInBounds_ne hn]
   exact this.trans hl9,rfl⟩
  match n,ho with
  |0,ho=>
   cases tq ho;exact .inl ⟨38,rfl,wx,(run_move wx rfl).trans (by rw[show aX.eval (.tmp 10)=_ from x10]<;>rfl),left 0 (by decide)⟩
  |1,ho=>
   cases tq ho;exact .inl ⟨39,rfl,wx,(run_move wx rfl).trans (by rw[show aX.eval (.tmp 9)=_ from x9]<;>rfl),left 1 (by decide)⟩
  |2,ho=>
   cases tq ho;have Vm:aX.eval (.tmp 38)=.slice (some ⟨b,0,none⟩) L.length cap:=hI.at 0 38 ⟨_,rfl,rfl⟩ (hw ⟨0,.data⟩ (by simp) rfl);have Vq:aX.eval (.tmp 39)=.int .i64 (i:Nat):=hI.at 1 39 ⟨_,rfl,rfl⟩ (hw ⟨1,.data⟩ (by simp) rfl)
   have hr:=λ(o:Oper)(ho:o.op=.indexAddr 28 (.tmp 38) (.tmp 39))=>qK (P:=prog) (w:=wx) (a:=aX) ho B9 tC Vm Vq hi
   simp only[nV,Nat.mul_one]at hr;exact .inl ⟨40,rfl,wx,hr _ rfl,left 2 (by decide)⟩
  |3,ho=>
   cases tq ho;have x40:aX.eval (.tmp 40)=.pointer (some ⟨b,i,none⟩):=hI.at 2 40 ⟨_,rfl,rfl⟩ (hw ⟨2,.data⟩ (by simp) rfl);exact .inl ⟨41,rfl,wx,sf rfl x40 AY hn3 Kt hci,left 3 (by decide)⟩
  |4,ho=>
   cases tq ho;exact .inl ⟨42,rfl,wx,(run_move wx rfl).trans (by rw[show aX.eval (.tmp 0)=_ from x0]<;>rfl),left 4 (by decide)⟩
  |5,ho=>
   cases tq ho;have x42:aX.eval (.tmp 42)=.slice ad k JN:=hI.at 4 42 ⟨_,rfl,rfl⟩ (hw ⟨4,.data⟩ (by simp) rfl);exact .inl ⟨43,rfl,wx,vT (t:=28) (x:=.tmp 42) rfl rfl rfl rfl B9 x42,left 5 (by decide)⟩
  |6,ho=>
   cases tq ho;have x43:aX.eval (.tmp 43)=.int .i64 (k:Nat):=hI.at 5 43 ⟨_,rfl,rfl⟩ (hw ⟨5,.data⟩ (by simp) rfl);exact .inl ⟨44,rfl,wx,KI hk rfl x43,left 6 (by decide)⟩
  |7,ho=>
   cases tq ho;have x41:aX.eval (.tmp 41)=.int .i64 (x:Nat):=hI.at 3 41 ⟨_,rfl,rfl⟩ (hw ⟨3,.data⟩ (by simp) rfl);have x44:aX.eval (.tmp 44)=.int .i64 ((2^k:Nat):Int):=hI.at 6 44 ⟨_,rfl,rfl⟩ (hw ⟨6,.data⟩ (by simp) rfl);exact .inl ⟨45,rfl,wx,PV (by omega) (yw (by omega)) rfl x41 x44,left 7 (by decide)⟩
  |8,ho=>
   cases tq ho;have Vm:aX.eval (.tmp 38)=.slice (some ⟨b,0,none⟩) L.length cap:=hI.at 0 38 ⟨_,rfl,rfl⟩ (hw ⟨0,.data⟩ (by simp) rfl);have Vq:aX.eval (.tmp 39)=.int .i64 (i:Nat):=hI.at 1 39 ⟨_,rfl,rfl⟩ (hw ⟨1,.data⟩ (by simp) rfl)
   have hr:=λ(o:Oper)(ho:o.op=.indexAddr 28 (.tmp 38) (.tmp 39))=>qK (P:=prog) (w:=wx) (a:=aX) ho B9 tC Vm Vq hi
   simp only[nV,Nat.mul_one]at hr;exact .inl ⟨46,rfl,wx,hr _ rfl,left 8 (by decide)⟩
  |9,ho=>
   cases tq ho;have x46:aX.eval (.tmp 46)=.pointer (some ⟨b,i,none⟩):=hI.at 8 46 ⟨_,rfl,rfl⟩ (hw ⟨8,.data⟩ (by simp) rfl);have x45:aX.eval (.tmp 45)=.int .i64 ((x|||2^k:Nat):Int):=hI.at 7 45 ⟨_,rfl,rfl⟩ (hw ⟨7,.data⟩ (by simp) rfl);refine .inr ⟨rfl,WE,?_,.inr ⟨rfl,λj hj=>?_⟩⟩
   .rw[<-Za];exact ER rfl x46 tC nV Kt ec x45 rfl
   .have hd:∀ j,j < 9→l.getD j false=true:=fun j hj=>by
     have:j=0\/j=1\/j=2\/j=3\/j=4\/j=5\/j=6\/j=7\/j=8:=by omega
     rcases this with rfl|rfl|rfl|rfl|rfl|rfl|rfl|rfl|rfl
     .exact hw ⟨0,.phase⟩ (by simp) rfl
     .exact hw ⟨1,.phase⟩ (by simp) rfl
     .exact hw ⟨2,.phase⟩ (by simp) rfl
     .exact hw ⟨3,.phase⟩ (by simp) rfl
     .exact hw ⟨4,.phase⟩ (by simp) rfl
     .exact hw ⟨5,.phase⟩ (by simp) rfl
     .exact hw ⟨6,.phase⟩ (by simp) rfl
     .exact hw ⟨7,.phase⟩ (by simp) rfl
     .exact hw ⟨8,.data⟩ (by simp) rfl
    by_cases V1:j=9
    .subst V1;simp[Array.getD_eq_getD_getElem?,C']
    have:(l.setIfInBounds 9 true).getD j false=l.getD j false:=by simp[Array.getD_eq_getD_getElem?,Array.getElem?_setIfInBounds_ne (show(9:Nat)≠j by omega)]
    rw[this];exact hd j (by omega)
  |n+10,ho=>exact absurd ho (by simp)
 .intro aX wx hI hW;show Q .normal aX wx
  rcases hW with⟨h,_⟩|⟨rfl,_⟩
  .simp[Array.getD_eq_getD_getElem?]at h
  .exact hQ aX hI.size hI.defers λt ht=>hI.low (k:=38) (by kernel_rfl) t (by simp;omega)
end Go.Proofs.Tryz
