/- A part of the proof. -/
import Derived.Test.YtifmgeicigngbaaGreatRd1
set_option maxRecDepth 100000
set_option maxHeartbeats 8000000
set_option linter.all false
namespace Go.Proofs.Tryz
open Go.AL
def fQ(s:aE)(w:Nat):Nat:=match s.words[w]? with|some x=>x.bc.length|none=>0
def ko{s:aE}{w:Nat}(h:w<s.words.length):fQ s w=s.words[w].bc.length:=by unfold fQ;rw[List.getElem?_eq_getElem h]
def rS(w f t:Nat):List (Nat×Nat):=(List.range' f (t-f)).map λi=>(w,i)
def tI(s:aE)(out:List Int):Nat->Nat->Nat->Nat->List (Nat×Nat)
 |0,w,f,t=>rS w f t
 |d+1,w,f,t=>(if out.contains (w:Int)then[]else rS w f (fQ s w))++tI s out d (w+1) 0 t
def kS(s:aE)(out:List Int)(a e:Nat×Nat):List (Nat×Nat):=tI s out (e.1-a.1) a.1 a.2 e.2
def Hb{w f t:Nat}(h:t<=f):rS w f t=[]:=by
 unfold rS;rw[show t-f=0 by omega];rfl
def B'{w f t:Nat}(h:f<t):rS w f t=(w,f)::rS w (f+1) t:=by
 unfold rS;rw[show t-f=(t-(f+1))+1 by omega,List.range'_succ];rfl
def Mq{w f t:Nat}(h:f<=t):rS w f (t+1)=rS w f t++[(w,t)]:=by
 unfold rS;rw[show t+1-f=(t-f)+1 by omega,List.range'_concat,List.map_append];simp only[List.map_cons,List.map_nil,Nat.one_mul];rw[show f+(t-f)=t by omega]
def HA{w f t:Nat}:(rS w f t).length=t-f:=by simp[rS]
def Hm{w f t:Nat}{g:Nat×Nat}:g∈rS w f t↔g.1=w/\f<=g.2/\g.2<t:=by
 unfold rS;rw[List.mem_map];simp only[List.mem_range'_1]
 constructor
 .rintro⟨i,hi,rfl⟩;exact⟨rfl,hi.1,by have:=hi.2;show i<t;omega⟩
 .rintro⟨h1,h2,h3⟩;exact⟨g.2,by omega,by rw[<-h1]⟩
def IG{s:aE}{out:List Int}{w f t:Nat}(h:t<=f):kS s out (w,f) (w,t)=[]:=by
 unfold kS;simp only[Nat.sub_self];exact Hb h
def zh{s:aE}{out:List Int}{w f t:Nat}:kS s out (w,f) (w,t)=rS w f t:=by
 unfold kS;simp only[Nat.sub_self]
 rfl
def qU{s:aE}{out:List Int}{w f:Nat}{e:Nat×Nat}(h:w<e.1):kS s out (w,f) e=(if out.contains (w:Int)then[]else rS w f (fQ s w))++kS s out (w+1,0) e:=by
 unfold kS;simp only;rw[show e.1-w=(e.1-(w+1))+1 by omega]
 rfl
def KY{s:aE}{out:List Int}{w f:Nat}{e:Nat×Nat}(h:w<e.1)(hc:out.contains (w:Int)=true):kS s out (w,f) e=kS s out (w+1,0) e:=by
 rw[qU h,if_pos hc,List.nil_append]
def Ib{s:aE}{out:List Int}{w f:Nat}{e:Nat×Nat}(h:w<e.1)(hf:fQ s w<=f):kS s out (w,f) e=kS s out (w+1,0) e:=by
 rw[qU h];split
 .rfl
 .rw[Hb hf];rfl
def Nk{s:aE}{out:List Int}{w f:Nat}{e:Nat×Nat}(h:w<e.1/\out.contains (w:Int)=false/\f<fQ s w\/w=e.1/\f<e.2):kS s out (w,f) e=(w,f)::kS s out (w,f+1) e:=by
 rcases h with⟨h,hc,hf⟩|⟨h,hf⟩
 .rw[qU h,qU h,hc];simp only[Bool.false_eq_true,if_false];rw[B' hf];rfl
 .obtain⟨ew,et⟩:=e;simp only at h hf;subst h;rw[zh,zh,B' hf]
def Cb{s:aE}{out:List Int}{b:Nat}(hb:∀w,fQ s w<=b):∀(d w f t:Nat),t<=b->(tI s out d w f t).length<=(d+1)*b
 |0,w,f,t,h=>by
  unfold tI;rw[HA];omega
 |d+1,w,f,t,h=>by
  unfold tI;rw[List.length_append];have h1:=Cb (out:=out) hb d (w+1) 0 t h
  have h2:(if out.contains (w:Int)then[]else rS w f (fQ s w)).length<=b:=by
   split
   .simp
   .rw[HA];have:=hb w;omega
  have:(d+1+1)*b=(d+1)*b+b:=Nat.succ_mul _ _;omega
def Cc{s:aE}{out:List Int}:∀(d w f t:Nat){g:Nat×Nat},g∈tI s out d w f t->(g.1=w+d/\g.2<t)\/(w<=g.1/\g.1<w+d/\g.2<fQ s g.1)
 |0,w,f,t,g,h=>by
  have:=Hm.1 h;left;omega
 |d+1,w,f,t,g,h=>by
  unfold tI at h;rcases List.mem_append.1 h with h|h
  .split at h
   .cases h
   .have:=Hm.1 h;right;rw[this.1];omega
  .rcases Cc d (w+1) 0 t h with h|h
   .left;omega
   .right;omega
def BZ{s:aE}{out:List Int}:∀(d w f t:Nat),(d=0->f<t)->0<t->(tI s out d w f t).getLast?=some (w+d,t-1)
 |0,w,f,t,h,h'=>by
  have h:=h rfl;unfold tI
  obtain⟨t,rfl⟩:∃t',t=t'+1:=⟨t-1,by omega⟩
  rw[Mq (by omega)];simp
 |d+1,w,f,t,h,h'=>by
  unfold tI;have:=BZ (s:=s) (out:=out) d (w+1) 0 t (λ_=>h') h';rw[List.getLast?_append,this];show some (w+1+d,t-1)=some (w+(d+1),t-1);rw[show w+1+d=w+(d+1) by omega]
def nE(e:End):Nat×Nat:=(e.1.toNat,e.2.toNat)
def nf(es:List End):Nat->Nat×Nat
 |0=>(0,0)
 |i+1=>match es[i]? with|some e=>nE e|none=>(0,0)
def nO(s:aE)(out:List Int)(es:List End)(i:Nat):List (Nat×Nat):=match es[i]? with|some e=>kS s out (nf es i) (nE e)|none=>[]
def pj(s:aE)(es:List End)(i:Nat):Bool:=match es[i]? with|some e=>decide (e.2<(fQ s e.1.toNat:Int))|none=>false
structure Good(s:aE)(out:List Int)(es:List End):Prop where
 one:∀i (h:i<es.length),0<=es[i].1/\es[i].1<s.words.length/\out.contains es[i].1=false/\1<=es[i].2/\es[i].2<=fQ s es[i].1.toNat
 ZG:∀i (h:i+1<es.length),es[i].1<es[i+1].1\/es[i].1=es[i+1].1/\es[i].2<es[i+1].2
def Bb{s:aE}(h:br s=true){w:Word}(hw:w∈s.words):kh s w=true:=by
 unfold br sM at h;simp only[Bool.and_eq_true,Bool.not_eq_true',List.any_eq_false]at h;have:=h.2.1.1.2 w hw;simpa using this
structure I9(s:aE)(w:Word):Prop where
 GC:1<=w.bc.length
 si:w.bc.length<=6
 sign:∀n∈w.bc,0<=n/\n<s.dq.length
 d_:kG w.d_ 1 (w.bc.length-1)=true
def lr{s:aE}(h:br s=true){w:Word}(hw:w∈s.words):I9 s w:=by
 have h:=Bb h hw;unfold kh at h;simp only[Bool.and_eq_true,Bool.not_eq_true',List.any_eq_false,da,decide_eq_true_eq]at h;obtain⟨⟨⟨h1,h2⟩,h3⟩,h4⟩:=h;refine⟨by omega,by omega,λn hn=>?_,h4⟩;have:=h3 n hn;simp[mA,da]at this;omega
def vL{s:aE}{out:List Int}{es:List End}(hs:br s=true)(h:sh s out es=true):Good s out es:=by
 unfold sh at h;simp only[Bool.and_eq_true]at h;obtain⟨_,h,_⟩:=h;rw[kB]at h;obtain⟨h1,h2⟩:=h;refine⟨λi hi=>?_,λi hi=>?_⟩
 .have:=h1 _ (List.getElem_mem hi);unfold Qg da at this;simp only[Bool.and_eq_true,decide_eq_true_eq,Bool.not_eq_true']at this;obtain⟨⟨⟨a1,a2⟩,a3⟩,a4⟩:=this
  have av:es[i].1.toNat<s.words.length:=by omega
  rw[List.getElem?_eq_getElem av]at a4;have hw:=lr hs (List.getElem_mem av);rw[ko av];refine⟨a1,by omega,a3,?_⟩;simp only[Bool.or_eq_true,beq_iff_eq]at a4;rcases a4 with a4|a4
  .have:=hw.GC;omega
  .have hc:=hw.d_;unfold kG at hc;rw[kB]at hc;have:=hc.1 _ (by simpa using a4);simp[da]at this;omega
 .have:=h2 i hi;rw[nW]at this;exact this
def En{s:aE}{out:List Int}{es:List End}(g:Good s out es){i:Nat}(h:i<es.length):(nf es i).1<(nE es[i]).1\/(nf es i).1=(nE es[i]).1/\(nf es i).2<(nE es[i]).2:=by
 cases i with
 |zero=>
  have:=g.one 0 h;show 0<es[0].1.toNat\/0=es[0].1.toNat/\0<es[0].2.toNat;omega
 |succ i=>
  have h1:=g.one i (by omega);have h2:=g.one (i+1) h;have h3:=g.ZG i h
  have e:nf es (i+1)=nE es[i]:=by
   show(match es[i]? with|some e=>nE e|none=>(0,0))=_;rw[List.getElem?_eq_getElem (by omega)]
  rw[e];show es[i].1.toNat<es[i+1].1.toNat\/es[i].1.toNat=es[i+1].1.toNat/\es[i].2.toNat<es[i+1].2.toNat;omega
def uR{s:aE}{out:List Int}{es:List End}{i:Nat}(h:i<es.length):nO s out es i=kS s out (nf es i) (nE es[i]):=by
 unfold nO;rw[List.getElem?_eq_getElem h]
def MG{s:aE}{es:List End}{i:Nat}(h:i<es.length):pj s es i=decide (es[i].2<(fQ s es[i].1.toNat:Int)):=by
 unfold pj;rw[List.getElem?_eq_getElem h]
def Jr{s:aE}{out:List Int}{es:List End}(g:Good s out es){i:Nat}(h:i<es.length):(nO s out es i).getLast?=some ((nE es[i]).1,(nE es[i]).2-1):=by
 have h1:=En g h;have h2:=g.one i h;rw[uR h];unfold kS
 have h3:0<(nE es[i]).2:=by show 0<es[i].2.toNat;omega
 rw[BZ _ _ _ _ (λhd=>by omega) h3]
 congr 2
 omega
def Fh{s:aE}{out:List Int}{es:List End}(g:Good s out es){i:Nat}(h:i<es.length):nO s out es i≠[]:=by
 intro e;have:=Jr g h;rw[e]at this;cases this
def Lq{s:aE}{out:List Int}{es:List End}(g:Good s out es){i:Nat}{x:Nat×Nat}(hx:x∈nO s out es i):x.1<s.words.length/\x.2<fQ s x.1:=by
 by_cases h:i<es.length
 case neg=>
  unfold nO at hx;rw[List.getElem?_eq_none (by omega)]at hx;cases hx
 have h1:=En g h;have h2:=g.one i h;rw[uR h]at hx;have e1:(nE es[i]).1=es[i].1.toNat:=rfl;have e2:(nE es[i]).2=es[i].2.toNat:=rfl
 rcases Cc _ _ _ _ hx with⟨h3,h4⟩|⟨h3,h4,h5⟩
 .have h5:x.1=es[i].1.toNat:=by omega
  rw[h5];refine⟨by omega,by omega⟩
 .exact⟨by omega,h5⟩
def Cv{s:aE}{out:List Int}{es:List End}(hs:br s=true)(g:Good s out es)(i:Nat):(nO s out es i).length<=24:=by
 by_cases h:i<es.length
 case neg=>
  unfold nO;rw[List.getElem?_eq_none (by omega)];simp
 have h2:=g.one i h
 have hb:∀w,fQ s w<=6:=by
  intro w;unfold fQ;split
  .rename_i x hx;obtain⟨av,rfl⟩:=List.getElem?_eq_some_iff.1 hx;exact(lr hs (List.getElem_mem av)).si
  .omega
 rw[uR h];unfold kS;have h3:=Cb (s:=s) (out:=out) hb ((nE es[i]).1-(nf es i).1) (nf es i).1 (nf es i).2 (nE es[i]).2 (by have:=hb es[i].1.toNat;show es[i].2.toNat<=6;omega)
 have h4:s.words.length<=4:=by
  unfold br da at hs;simp only[Bool.and_eq_true,decide_eq_true_eq]at hs;omega
 have h5:(nE es[i]).1<s.words.length:=by show es[i].1.toNat<_;omega
 have h6:((nE es[i]).1-(nf es i).1+1)*6<=4*6:=Nat.mul_le_mul_right _ (by omega);omega
abbrev Lt:=Int×Int
def cq(s:aE)(g:Nat×Nat):Lt:=((g.1:Int),match s.words[g.1]? with|some w=>w.bc[g.2]?.getD 0|none=>0)
def lx(lo hi st:Int):Int:=lo+((hi-lo)*st).tdiv 10
def mE(s:aE)(a b:Lt):Int×Int:=if a.1=b.1 then match s.dF.find? λp=>p.l==a.2&&p.r==b.2 with
 |some p=>(p.lo,p.hi)
 |none=>(s.ov,s.nZ)
 else(s.zn,s.Aq)
def ur(s:aE)(st:Int)(a b:Lt):Int:=lx (mE s a b).1 (mE s a b).2 st
def oF(s:aE)(a:Lt):Int:=if a.2<0 then s.fe else s.dq[a.2.toNat]?.getD 0
def lP(s:aE)(st:Int)(l:List Lt):Nat->Int
 |0=>0
 |i+1=>lP s st l i+(match l[i]?,l[i+1]? with|some a,some b=>ur s st a b|_,_=>0)
def xS{s:aE}{st:Int}{l:List Lt}{i:Nat}(h:i+1<l.length):lP s st l (i+1)=lP s st l i+ur s st (l[i]'(by omega)) l[i+1]:=by
 show lP s st l i+(match l[i]?,l[i+1]? with|some a,some b=>ur s st a b|_,_=>0)=_;rw[List.getElem?_eq_getElem (by omega),List.getElem?_eq_getElem h]
def lN(s:aE)(l:List Lt):Nat->Int
 |0=>0
 |i+1=>lN s l i+(match l[i]? with|some a=>oF s a|none=>0)
def xF{s:aE}{l:List Lt}{i:Nat}(h:i<l.length):lN s l (i+1)=lN s l i+oF s l[i]:=by
 show lN s l i+(match l[i]? with|some a=>oF s a|none=>0)=_;rw[List.getElem?_eq_getElem h]
def qO(s:aE)(st:Int)(l:List Lt)(cut:Bool):Int:=(lN s l l.length+(if cut then s.fe else 0))+(lP s st l (l.length-1)+(if cut then lx s.ov s.nZ st else 0))
def lT{lo hi st:Int}(h:lo<=hi)(h0:0<=st)(h1:st<=10):lo<=lx lo hi st/\lx lo hi st<=hi:=by
 unfold lx;have a:0<=(hi-lo)*st:=Int.mul_nonneg (by omega) h0;have b:(hi-lo)*st<=(hi-lo)*10:=Int.mul_le_mul_of_nonneg_left h1 (by omega);rw[Int.tdiv_eq_ediv_of_nonneg a];generalize(hi-lo)*st=x at a b⊢;omega
structure ou(s:aE):Prop where
 dq:∀n∈s.dq,1<=n/\n<=20
 RY:s.dq.length<=6
 dF:∀p∈s.dF,0<=p.l/\0<=p.r/\0<=p.lo/\p.lo<=p.hi/\p.hi<=9
 RQ:s.dF.length<=6
 o:0<=s.ov/\s.ov<=s.nZ/\s.nZ<=9
 g:0<=s.zn/\s.zn<=s.Aq/\s.Aq<=20
 fe:1<=s.fe/\s.fe<=20
 words:1<=s.words.length/\s.words.length<=4
 wide:1<=s.wide/\s.wide<=400
 rows:1<=s.rows/\s.rows<=3
def gN{s:aE}(h:br s=true):ou s:=by
 unfold br sM nG da at h;simp only[Bool.and_eq_true,decide_eq_true_eq,Bool.not_eq_true',List.any_eq_false,kB]at h;obtain⟨⟨⟨⟨h1,h2⟩,h3⟩,h4,_⟩,⟨⟨⟨⟨⟨h5,h6⟩,h7⟩,h8⟩,_⟩,h9⟩,jK⟩:=h;refine⟨λn hn=>?_,by omega,λp hp=>?_,h2,by omega,by omega,by omega,by omega,h9,jK⟩
 .have:=h5 n hn;simpa using this
 .have:=h4 p hp;unfold oR mA nG da at this;simp only[Bool.and_eq_true,decide_eq_true_eq]at this;omega
def tL{s:aE}(h:ou s)(a b:Lt):0<=(mE s a b).1/\(mE s a b).1<=(mE s a b).2/\(mE s a b).2<=20:=by
 unfold mE;split
 .split
  .rename_i p hp;have:=h.dF p (List.mem_of_find?_eq_some hp);simp only;omega
  .have:=h.o;simp only;omega
 .have:=h.g;simp only;omega
def xY{s:aE}(h:ou s){st:Int}(h0:0<=st)(h1:st<=10)(a b:Lt):0<=ur s st a b/\ur s st a b<=20:=by
 have h2:=tL h a b;have h3:=lT h2.2.1 h0 h1;unfold ur;omega
def I1(s:aE)(a:Lt):Prop:=0<=a.2/\a.2<s.dq.length
def xl{s:aE}(h:ou s){a:Lt}(ha:I1 s a):1<=oF s a/\oF s a<=20:=by
 unfold oF;rw[if_neg (by have:=ha.1;omega)]
 have av:a.2.toNat<s.dq.length:=by have:=ha.1;have:=ha.2;omega
 rw[List.getElem?_eq_getElem av];exact h.dq _ (List.getElem_mem av)
def pL{s:aE}(h:ou s){l:List Lt}(hl:∀a∈l,I1 s a):∀{i:Nat},i<=l.length->(i:Int)<=lN s l i/\lN s l i<=20*i
 |0,_=>by simp[lN]
 |i+1,hi=>by
  rw[xF (by omega)];have:=pL h hl (i:=i) (by omega);have:=xl h (hl _ (List.getElem_mem (show i<l.length by omega)));omega
def pK{s:aE}(h:ou s){st:Int}(h0:0<=st)(h1:st<=10){l:List Lt}:∀{i:Nat},i+1<=l.length->0<=lP s st l i/\lP s st l i<=20*i
 |0,_=>by simp[lP]
 |i+1,hi=>by
  rw[xS hi];have:=pK h h0 h1 (l:=l) (i:=i) (by omega);have:=xY h h0 h1 (l[i]'(by omega)) (l[i+1]'hi);omega
def A8{s:aE}(h:ou s){st:Int}(h0:0<=st)(h1:st<=10){l:List Lt}(hl:l≠[])(ho:∀a∈l,I1 s a)(hlen:l.length<=24)(cut:Bool):1<=qO s st l cut/\qO s st l cut<=1000:=by
 have iy:=List.length_pos_iff.2 hl;unfold qO;have:=pK h h0 h1 (l:=l) (i:=l.length-1) (by omega);have:=pL h ho (i:=l.length) (by omega);have:=lT h.o.2.1 h0 h1;have:=h.o;have:=h.fe
 split<;>omega
def EV(s:aE)(out:List Int)(es:List End)(st:Int)(i:Nat):Int:=qO s st ((nO s out es i).map (cq s)) (pj s es i)
def iz(s:aE)(out:List Int)(es:List End)(st:Int):List Int:=(List.range es.length).map (EV s out es st)
def nQ(s:aE)(out:List Int)(es:List End)(st:Int):Bool:=decide ((es.length:Int)<=s.rows)&&(iz s out es st).all λn=>decide (n<=s.wide)
def wj(p:Int->Bool):Nat->Int
 |0=> -1
 |n+1=>if p n then n else wj p n
def wi(s:aE)(out:List Int)(es:List End):Int:=wj (nQ s out es) 11
def OY{s:aE}(hs:br s=true){g:Nat×Nat}(h:g.1<s.words.length/\g.2<fQ s g.1):I1 s (cq s g):=by
 obtain⟨h1,h2⟩:=h;rw[ko h1]at h2;unfold cq I1;simp only;rw[List.getElem?_eq_getElem h1];simp only;rw[List.getElem?_eq_getElem h2];exact(lr hs (List.getElem_mem h1)).sign _ (List.getElem_mem h2)
section
variable{s:aE}{out:List Int}{es:List End}
end
def QC{now es:List End}:∀{all:List End}{m:Nat},all≠[]->all.Nodup->(es∈ch now all m↔∃t,es=now++t/\t.Sublist all/\t.getLast?=all.getLast?/\t.length<=m):=by
 have key:∀(all:List End),all.Nodup->∀(now:List End)(m:Nat),(all≠[]->(es∈ch now all m↔∃t,es=now++t/\t.Sublist all/\t.getLast?=all.getLast?/\t.length<=m))/\(all≠[]->(es∈lp now all m↔∃t,es=now++t/\t.Sublist all/\t.getLast?=all.getLast?/\t.length<=m+1)):=by
  intro all
  induction all with
  |nil=>intro _ now m;exact⟨λh=>absurd rfl h,λh=>absurd rfl h⟩
  |cons a r ih=>
   intro cT;obtain⟨hna,Yz⟩:=List.nodup_cons.1 cT;have ih:=ih Yz
   have Q0:∀(now:List End)(m:Nat),es∈lp now (a::r) m↔∃t,es=now++t/\t.Sublist (a::r)/\t.getLast?=(a::r).getLast?/\t.length<=m+1:=by
    intro now m;unfold lp;rw[List.mem_append]
    by_cases hr:r=[]
    .subst hr;rw[if_pos rfl,List.mem_singleton]
     constructor
     .rintro(h|h)
      .exact⟨[a],h,List.Sublist.refl _,rfl,by simp⟩
      .unfold lp at h;cases h
     .rintro⟨t,h1,h2,h3,h4⟩;left
      have:t=[a]:=by
       cases h2 with
       |cons _ h=>rw[List.sublist_nil.1 h]at h3;cases h3
       |cons_cons _ h=>rw[List.sublist_nil.1 h]
      rw[h1,this]
    .rw[if_neg hr]
     have hl:(a::r).getLast?=r.getLast?:=by
      cases r with
      |nil=>exact absurd rfl hr
      |cons b r=>rfl
     have h1:(es∈(match m with|0=>[]|m+1=>lp (now++[a]) r m))↔∃t,es=now++a::t/\t.Sublist r/\t.getLast?=r.getLast?/\t.length<=m:=by
      cases m with
      |zero=>
       constructor
       .intro h;cases h
       .rintro⟨t,_,_,h3,h4⟩;have:t=[]:=List.length_eq_zero_iff.1 (by omega);subst this;exact absurd (List.getLast?_eq_none_iff.1 h3.symm) hr
      |succ m=>
       simp only;rw[(ih (now++[a]) m).2 hr];simp
     rw[hl];refine(or_congr h1 ((ih now m).2 hr)).trans ?_
     constructor
     .rintro(⟨t,a1,a2,a3,a4⟩|⟨t,a1,a2,a3,a4⟩)
      .refine⟨a::t,a1,a2.cons_cons _,?_,by simp;omega⟩
       cases t with
       |nil=>exact absurd (List.getLast?_eq_none_iff.1 a3.symm) hr
       |cons b t=>rw[<-a3];rfl
      .exact⟨t,a1,a2.cons _,a3,a4⟩
     .rintro⟨t,a1,a2,a3,a4⟩
      cases a2 with
      |cons _ h=>exact .inr ⟨t,a1,h,a3,a4⟩
      |cons_cons _ h=>
       rename_i t;left;refine⟨t,a1,h,?_,by simpa using a4⟩
       cases t with
       |nil=>
        exfalso;apply hna;exact List.mem_of_getLast? a3.symm
       |cons b t=>rw[<-a3];rfl
   intro now m;refine⟨λ_=>?_,λ_=>Q0 now m⟩;unfold ch;rw[if_neg (by simp)]
   cases m with
   |zero=>
    constructor
    .intro h;cases h
    .rintro⟨t,_,_,h3,h4⟩;have:t=[]:=List.length_eq_zero_iff.1 (by omega);subst this
     cases r with
     |nil=>cases h3
     |cons b r=>exact absurd (List.getLast?_eq_none_iff.1 h3.symm) (by simp)
   |succ m=>exact Q0 now m
 intro all m h cT;exact(key all cT now m).1 h
def sm{a b c:End}(h:jl a b=true)(h':jl b c=true):jl a c=true:=by
 rw[nW]at*;omega
def jM(a:End):jl a a=false:=by
 cases h:jl a a with
 |false=>rfl
 |true=>rw[nW]at h;omega
abbrev om(l:List End):Prop:=l.Pairwise λa b=>jl a b=true
def om.nodup{l:List End}(h:om l):l.Nodup:=h.imp λH_ e=>by
 subst e;rw[jM]at H_;cases H_
def sK:∀{all t:List End},om all->om t->(∀x∈t,x∈all)->t.Sublist all
 |[],t,_,_,h=>by
  cases t with
  |nil=>exact .slnil
  |cons a t=>exact absurd (h a List.mem_cons_self) (by simp)
 |a::r,[],_,_,_=>List.nil_sublist _
 |a::r,b::t,hs,ht,h=>by
  obtain⟨BS,DR⟩:=List.pairwise_cons.1 hs;obtain⟨WJ,ht2⟩:=List.pairwise_cons.1 ht;rcases List.mem_cons.1 (h b List.mem_cons_self)with e|hb
  .subst e;refine .cons_cons _ (sK DR ht2 λx hx=>?_);rcases List.mem_cons.1 (h x (List.mem_cons_of_mem _ hx))with e|EJ
   .subst e;have:=WJ _ hx;rw[jM]at this;cases this
   .exact EJ
  .refine .cons _ (sK DR ht λx hx=>?_);rcases List.mem_cons.1 (h x hx)with e|EJ
   .subst e;exfalso;have h1:=BS b hb;rcases List.mem_cons.1 hx with e|kE
    .subst e;rw[jM]at h1;cases h1
    .have:=sm h1 (WJ _ kE);rw[jM]at this;cases this
   .exact EJ
def s_{l:List End}(h:∀j (hj:j+1<l.length),jl (l[j]'(by omega)) l[j+1]=true):om l:=by
 unfold om;rw[List.pairwise_iff_getElem];intro i j hi hj nc
 obtain⟨d,rfl⟩:∃d,j=i+1+d:=⟨j-i-1,by omega⟩
 clear nc
 induction d with
 |zero=>exact h i hj
 |succ d ih=>exact sm (ih (by omega)) (h (i+1+d) hj)
section
variable{s:aE}{out:List Int}{es:List End}
def LD(ho:pY s out=true):kM s out≠[]:=by
 intro e;have:=zb ho;rw[e]at this;cases this
def Gg(hs:br s=true):∀w∈s.words,kG w.d_ 1 (w.bc.length-1)=true:=λ_ hw=>(lr hs hw).d_
def xr(s:aE)(out:List Int)(m:Nat):List (List End):=ch [] (kM s out) m
def Cx(hs:br s=true)(ho:pY s out=true){m:Nat}:es∈xr s out m↔sh s out es=true/\es.length<=m:=by
 have MV:=BM (out:=out) (Gg hs);unfold xr;rw[QC (LD ho) (om.nodup MV)];unfold sh;rw[ho,Bool.true_and,Bool.and_eq_true,Bool.and_eq_true,kB,Bool.not_eq_true',beq_iff_eq];have hl:=zb ho
 constructor
 .rintro⟨t,h1,h2,h3,h4⟩;rw[List.nil_append]at h1;subst h1;rw[h3,hl]
  have bQ:es≠[]:=by
   rintro rfl;rw[hl]at h3;cases h3
  have eZ:om es:=MV.sublist h2;refine⟨⟨by simpa using bQ,⟨λx hx=>AP.1 (h2.subset hx),λj hj=>List.pairwise_iff_getElem.1 eZ j (j+1) _ _ (by omega)⟩,rfl⟩,h4⟩
 .rintro⟨⟨h1,⟨h2,h3⟩,h4⟩,h5⟩
  have bQ:es≠[]:=by
   rintro rfl;cases h1
  refine⟨es,rfl,sK MV (s_ h3) λx hx=>AP.2 (h2 x hx),?_,h5⟩;rw[List.getLast?_eq_some_getLast bQ]at h4⊢;rw[hl];exact congrArg some h4
end
def jy(s:aE)(out:List Int):List (List End):=(xr s out s.rows.toNat).filter λes=>nQ s out es 0
def Im{s:aE}{out:List Int}{es:List End}(hs:br s=true)(ho:pY s out=true):es∈jy s out↔sh s out es=true/\nQ s out es 0=true:=by
 unfold jy;rw[List.mem_filter,Cx hs ho]
 constructor
 .rintro⟨⟨h1,_⟩,h2⟩;exact⟨h1,h2⟩
 .rintro⟨h1,h2⟩;refine⟨⟨h1,?_⟩,h2⟩;unfold nQ at h2;simp only[Bool.and_eq_true,decide_eq_true_eq]at h2;omega
section
variable{α:Type}
def jx(better:α->α->Bool)(x:α)(l:List α):α:=l.foldl (λo x=>if better x o then x else o) x
end
def AN:∀{all now:List End},all≠[]->(lp now all 0).length=1
 |[],_,h=>absurd rfl h
 |a::r,now,_=>by
  unfold lp
  by_cases hr:r=[]
  .subst hr;simp[lp]
  .simp only[if_neg hr,List.nil_append];exact AN hr
def yW:∀{all now:List End},(lp now all 1).length=all.length
 |[],_=>rfl
 |a::r,now=>by
  unfold lp
  by_cases hr:r=[]
  .subst hr;simp[lp]
  .simp only[if_neg hr,List.length_append,List.length_cons];rw[AN hr,yW];omega
def Ft:∀{all now:List End},all≠[]->2*(lp now all 2).length=2+all.length*(all.length-1)
 |[],_,h=>absurd rfl h
 |a::r,now,_=>by
  unfold lp
  by_cases hr:r=[]
  .subst hr;simp[lp]
  .simp only[if_neg hr,List.length_append,List.length_cons];rw[yW,Nat.mul_add,Ft hr]
   obtain⟨n,hn⟩:∃n,r.length=n+1:=⟨r.length-1,by have:=List.length_pos_iff.2 hr;omega⟩
   rw[hn];simp only[Nat.add_sub_cancel]
   have e1:(n+1+1)*(n+1)=(n+1)*n+2*(n+1):=by
    rw[Nat.add_mul,Nat.mul_comm (n+1) n,Nat.add_mul n 1];omega
   omega
def Qd{all now:List End}{m:Nat}(h:all.length<=24)(hm:m<=3):(ch now all m).length<=277:=by
 unfold ch;split
 .simp
 rename_i bQ
 match m,hm with
 |0,_=>simp
 |1,_=>simp only;rw[AN bQ];omega
 |2,_=>simp only;rw[yW];omega
 |3,_=>
  simp only;have:=Ft (now:=now) bQ;have:all.length*(all.length-1)<=24*23:=Nat.mul_le_mul h (by omega);omega
def vK{l:List Int}{lo hi:Int}(h:kG l lo hi=true)(hle:lo<=hi+1):(l.length:Int)<=hi+1-lo:=by
 have h':=h;unfold kG at h;rw[kB]at h;obtain⟨h1,h2⟩:=h
 have key:∀j (hj:j<l.length),lo+j<=l[j]:=by
  intro j
  induction j with
  |zero=>
   intro hj;have:=h1 _ (List.getElem_mem hj);simp[da]at this;simpa using this.1
  |succ j ih=>
   intro hj;have:=ih (by omega);have:=h2 j hj;simp at this;omega
 by_cases h0:l.length=0
 .omega
 .have a:=key (l.length-1) (by omega);have b:=h1 _ (List.getElem_mem (show l.length-1<l.length by omega));simp[da]at b;omega
def uu{s:aE}(hs:br s=true){out:List Int}(n:Nat):(jn s out n).length<=fQ s n/\fQ s n<=6:=by
 unfold jn fQ
 by_cases h:n<s.words.length
 .rw[List.getElem?_eq_getElem h];have hw:=lr hs (List.getElem_mem h);have h1:=hw.GC;have:=vK hw.d_ (by omega);have:=hw.si;split
  .simp only[List.length_nil];omega
  .simp only[List.length_append,List.length_map,List.length_cons,List.length_nil];omega
 .rw[List.getElem?_eq_none (by omega)]
  split<;>simp
def AB{s:aE}(hs:br s=true)(out:List Int):(kM s out).length<=24:=by
 unfold kM;have h4:=(gN hs).words.2
 have key:∀m:Nat,((List.range m).flatMap (jn s out)).length<=6*m:=by
  intro m
  induction m with
  |zero=>simp
  |succ m ih=>
   rw[List.range_succ,List.flatMap_append,List.flatMap_singleton,List.length_append];have:=uu hs (out:=out) m;omega
 have:=key s.words.length;omega
def CK{s:aE}(hs:br s=true)(out:List Int){m:Nat}(hm:m<=3):(xr s out m).length<=277:=Qd (AB hs out) hm
def JS{s:aE}(hs:br s=true)(out:List Int):(jy s out).length<=277:=
 Nat.le_trans (List.length_filter_le _ _) (CK hs out (by have:=(gN hs).rows;omega))
def gW(l:List Word):Nat:=(l.map λw=>w.bc.length).sum
def sP(s:aE)(k:Nat):aE:={ s with words:=eQ s.words k }
section
variable{s x:aE}{m:Nat}{z z':Nat×Nat}
end
def sL(w:Word)(l:List Word):gW (w::l)=w.bc.length+gW l:=rfl
def HM(l r:List Word):gW (l++r)=gW l+gW r:=by
 induction l with
 |nil=>simp[gW]
 |cons a l ih=>rw[List.cons_append,sL,sL,ih];omega
def A6{s:aE}:br s=true↔(da s.dq.length 1 6=true/\s.dF.length<=6/\pq (oR s) CX s.dF=true/\(s.dq.any λn=>!da n 1 20)=false/\nG s.ov s.nZ 0 9=true/\nG s.zn s.Aq 0 20=true/\da s.fe 1 20=true/\da s.wide 1 400=true/\da s.rows 1 3=true)/\da s.words.length 1 4=true/\(s.words.any λw=>!kh s w)=false:=by
 unfold br sM;simp only[Bool.and_eq_true,Bool.not_eq_true',decide_eq_true_eq]
 constructor
 .rintro⟨⟨⟨⟨a,b⟩,c⟩,d⟩,⟨⟨⟨⟨⟨e,f⟩,g⟩,h⟩,i⟩,j⟩,k⟩;exact⟨⟨a,b,d,e,f,g,h,j,k⟩,c,i⟩
 .rintro⟨⟨a,b,d,e,f,g,h,j,k⟩,c,i⟩;exact⟨⟨⟨⟨a,b⟩,c⟩,d⟩,⟨⟨⟨⟨⟨e,f⟩,g⟩,h⟩,i⟩,j⟩,k⟩
def Br{s:aE}(hs:br s=true){ws:List Word}(h1:1<=ws.length)(h2:ws.length<=4)(h3:∀w∈ws,kh s w=true):br { s with words:=ws }=true:=by
 rw[A6]at hs⊢;refine⟨hs.1,?_,?_⟩
 .simp[da];omega
 .rw[List.any_eq_false];intro w hw;have:kh { s with words:=ws } w=kh s w:=rfl;rw[this,h3 w hw];simp
def Iv{s:aE}{w:Word}(hw:I9 s w){k:Nat}(hk:1<=k):kh s { bc:=w.bc.take (min k w.bc.length),d_:=w.d_.filter λc=>!decide (((min k w.bc.length:Nat):Int)<=c),free:=w.free }=true:=by
 unfold kh;have h1:=hw.GC;have h6:=hw.si;simp only[List.length_take,Bool.and_eq_true,Bool.not_eq_true',List.any_eq_false];refine⟨⟨by simp[da];omega,λn hn=>?_⟩,?_⟩
 .have:=hw.sign n (List.mem_of_mem_take hn);simp[mA,da];omega
 .have hc:=hw.d_;unfold kG at hc⊢;rw[kB]at hc⊢;refine⟨λc GQ=>?_,?_⟩
  .obtain⟨a,b⟩:=List.mem_filter.1 GQ;have:=hc.1 c a;simp[da]at this b⊢;omega
  .have hp:w.d_.Pairwise λa b=>a<b:=Dz λj hj=>by simpa using hc.2 j hj
   have hp:=List.pairwise_iff_getElem.1 (hp.sublist (List.filter_sublist (p:=λc=>!decide (((min k w.bc.length:Nat):Int)<=c))));intro j hj;have:=hp j (j+1) (by omega) hj (by omega);simpa using this
def sf{s:aE}:∀{l:List Word}{k:Nat},(∀w∈l,I9 s w)->∀w∈eQ l k,kh s w=true
 |[],k,_,w,hw=>by cases hw
 |a::l,k,h,w,hw=>by
  unfold eQ at hw;split at hw
  .cases hw
  .rename_i h0;rcases List.mem_cons.1 hw with rfl|hw
   .exact Iv (h a List.mem_cons_self) (by omega)
   .exact sf (λx hx=>h x (List.mem_cons_of_mem _ hx)) w hw
def re:∀{l:List Word}{k:Nat},(eQ l k).length<=l.length
 |[],_=>Nat.le_refl _
 |a::l,k=>by
  unfold eQ;split
  .simp
  .have:=re (l:=l) (k:=k-min k a.bc.length);simp only[List.length_cons];omega
def Ed{s:aE}(hs:br s=true){k:Nat}(hk:1<=k):br (sP s k)=true:=by
 refine Br hs ?_ ?_ (sf λw hw=>lr hs hw)
 .have:=(gN hs).words.1
  match hw:s.words with
  |[]=>rw[hw]at this;simp at this
  |a::l=>
   unfold eQ;rw[if_neg (by omega)];simp
 .have:=(gN hs).words.2;have:=re (l:=s.words) (k:=k);omega
section
variable{s:aE}
def tf(hs:br s=true):pY s []=true:=by
 have:=(gN hs).words.1;unfold pY kG pq;simp;omega
end
section
variable{α:Type}{len:α->Nat}{most:α->Int}
def Fe(len:α->Nat)(most:α->Int)(a b:α):Bool:=decide (len a<len b)||(len a==len b&&decide (most b<most a))
end
structure xe(s x:aE)(out:List Int)(k:Nat->Nat)(N:Nat):Prop where
 pos:0<N
 n:x.words.length=N
 lt:∀i,i<N->k i<s.words.length
 mono:∀i,i+1<N->k i<k (i+1)
 inn:∀i,i<N->out.contains (k i:Int)=false
 gap:∀i,i+1<N->∀j,k i<j->j<k (i+1)->out.contains (j:Int)=true
 first:∀j,j<k 0->out.contains (j:Int)=true
 last:∀j,k (N-1)<j->j<s.words.length->out.contains (j:Int)=true
 word:∀i,i<N->x.words[i]?=s.words[k i]?
 h1:x.dq=s.dq
 h2:x.dF=s.dF
 h3:x.ov=s.ov
 h4:x.nZ=s.nZ
 h5:x.zn=s.zn
 h6:x.Aq=s.Aq
 h7:x.fe=s.fe
 h8:x.wide=s.wide
 h9:x.rows=s.rows
section
variable{s x:aE}{out:List Int}{k:Nat->Nat}{N:Nat}
def xe.IP(h:xe s x out k N):∀d i,i+d+1<N->k i<k (i+d+1)
 |0,i,hi=>h.mono i hi
 |d+1,i,hi=>Nat.lt_trans (h.IP d i (by omega)) (h.mono (i+d+1) hi)
def xe.lt_iff(h:xe s x out k N){i j:Nat}(hi:i<N)(hj:j<N):k i<k j↔i<j:=by
 constructor
 .intro hk
  by_cases nc:i<j
  .exact nc
  .by_cases he:i=j
   .subst he;omega
   .have:=h.IP (i-j-1) j (by omega);rw[show j+(i-j-1)+1=i by omega]at this;omega
 .intro nc;have:=h.IP (j-i-1) i (by omega);rwa [show i+(j-i-1)+1=j by omega]at this
def xe.inj(h:xe s x out k N){i j:Nat}(hi:i<N)(hj:j<N)(he:k i=k j):i=j:=by
 have h1:=h.lt_iff hi hj;have h2:=h.lt_iff hj hi;omega
end
def iX(s:aE)(n:Nat):Bool:=!(jy (sP s (gW s.words-n)) []).isEmpty
def wo(s:aE):Nat:=((List.range (gW s.words)).find? (iX s)).getD (gW s.words)
def OW{s:aE}{n:Nat}(h:n<gW s.words)(hp:iX s n=true)(hb:∀j,j<n->iX s j=false):wo s=n:=by
 unfold wo
 have:(List.range (gW s.words)).find? (iX s)=some n:=by
  rw[List.find?_range_eq_some];exact⟨hp,List.mem_range.2 h,λj hj=>by rw[hb j hj];rfl⟩
 rw[this];rfl
def K9{s:aE}(hb:∀j,j<gW s.words->iX s j=false):wo s=gW s.words:=by
 unfold wo
 have:(List.range (gW s.words)).find? (iX s)=none:=by
  rw[List.find?_eq_none];intro j hj;rw[hb j (List.mem_range.1 hj)];simp
 rw[this];rfl
def qT:∀{l:List Word}{b:Nat},(∀w∈l,w.bc.length<=b)->gW l<=b*l.length
 |[],_,_=>by simp[gW]
 |w::l,b,h=>by
  have h1:=h w List.mem_cons_self
  have h2:=qT (l:=l) (b:=b) λx hx=>h x (List.mem_cons_of_mem _ hx)
  rw[sL,List.length_cons,Nat.mul_add];omega
def Fg{l:List Word}{i:Nat}(h:i<l.length):gW (l.take (i+1))=gW (l.take i)+l[i].bc.length:=by
 rw[List.take_succ_eq_append_getElem h,HM];simp[gW]
def Ek{s:aE}(hs:br s=true):gW s.words<=24:=by
 have h4:=(gN hs).words
 have:=qT (l:=s.words) (b:=6) λw hw=>(lr hs hw).si
 omega
end Go.Proofs.Tryz
namespace Go.Proofs.Tryz
open Go Go.AL Go.RowKit Go.Proofs Go.Proofs.Tram
attribute [local simp] dI eb dP db dG cI cJ cb cd dE b_ bL fk fj ar ao ev aD.S aD.H a_ aq aH AL.start AV.cells AV.storable AV.bm aR aT ee aZ HR.okB post cn ct cw AV.out AV.bC bz bW fz fM AV.vw bR vI int bG aB cS cg fS gL dL cG aU AV.aA AV.bF
variable{GI:World->Prop}
def gA(g:Nat×Nat):AV:=.agg [.int .i64 g.1,.int .i64 g.2]
def aN(s:aE):List AV:=an s++[bH s.dF]
def gq(s:aE):AV:=.agg (aN s)
def Ji(l:List (Nat×Nat))(cut:Bool):AV:=Dw ⟨l.map gA,cut⟩
def HJ(s:aE)(g:Nat×Nat):Prop:=g.1<s.words.length/\g.2<fQ s g.1
def Il(hG:aw GI)(s:aE){g:Nat×Nat}(h:HJ s g):AC prog GI 163 [gq s,gA g] (.ret (.int .i64 (cq s g).2)):=by
 obtain⟨h1,h2⟩:=h;rw[ko h1]at h2
 have hr:(cq s g).2=s.words[g.1].bc[g.2]:=by unfold cq;simp[List.getElem?_eq_getElem h1,h2]
 rw[hr];refine dM hG func163 ntmps163 c163 ?_;refine ba (λS H=>S 2=.box 2 0/\S 3=.box 3 0/\H 2=some (aN s)/\H 3=some [.int .i64 g.1,.int .i64 g.2]) (by simp[gq,aN,gA,an,bH]) ?_;rintro S H ⟨s2,s3,e2,e3⟩;simp[s2,s3,e2,e3,aN,an,bH,h1,h2,cU]
def EG(hG:aw GI){lo hi st:Int}(h0:0<=lo)(h1:lo<=hi)(h2:hi<=20)(h3:0<=st)(h4:st<=10):AC prog GI 166 [.agg [.int .i64 lo,.int .i64 hi],.int .i64 st] (.ret (.int .i64 (lx lo hi st))):=by
 have Vq:0<=(hi-lo)*st:=Int.mul_nonneg (by omega) h3;have Uz:(hi-lo)*st<=20*10:=Int.mul_le_mul (by omega) h4 h3 (by omega);have hb:=lT h1 h3 h4;unfold lx at hb;have w1:IntKind.i64.wrap (hi-lo)=hi-lo:=bf (by omega);have w2:IntKind.i64.wrap ((hi-lo)*st)=(hi-lo)*st:=bf (by omega);have w3:IntKind.i64.wrap (((hi-lo)*st).tdiv 10)=((hi-lo)*st).tdiv 10:=bf (by omega);have w4:IntKind.i64.wrap (lo+((hi-lo)*st).tdiv 10)=lo+((hi-lo)*st).tdiv 10:=bf (by omega);refine dM hG func166 ntmps166 c166 ?_;simp[c166,w1,w2,w3,w4,lx]
def xU(x y:Int):∀(ps:List nS),mm [x,y] (ps.map rp) (ps.map nx)=some ((ps.find? λp=>p.l==x&&p.r==y).map nx)
 |[]=>rfl
 |p::ps=>by
  show mm [x,y] (rp p::ps.map rp) (nx p::ps.map nx)=_;unfold mm;simp only[rp,kC,Option.map_some];simp only[List.length_cons,List.length_nil,ne_eq,not_true_eq_false,if_false];rw[List.find?_cons]
  by_cases hp:p.l=x/\p.r=y
  .obtain⟨rfl,rfl⟩:=hp;simp
  .have h1:([x,y]==[p.l,p.r])=false:=by
    simp only[beq_eq_false_iff_ne,ne_eq,List.cons.injEq,and_true];rintro⟨rfl,rfl⟩;exact hp ⟨rfl,rfl⟩
   have h2:(p.l==x&&p.r==y)=false:=by
    rw[Bool.and_eq_false_iff];simp only[beq_eq_false_iff_ne]
    by_cases h:p.l=x
    .exact .inr λh'=>hp ⟨h,h'⟩
    .exact .inl h
   rw[h1,h2];exact xU x y ps
def Uf(hG:aw GI)(s:aE)(hF:ou s){a b:Nat×Nat}(ha:HJ s a)(hb:HJ s b){st:Int}(h3:0<=st)(h4:st<=10):AC prog GI 165 [gq s,gA a,gA b,.int .i64 st] (.ret (.int .i64 (ur s st (cq s a) (cq s b)))):=by
 have u_:=tL hF (cq s a) (cq s b);refine dM hG func165 ntmps165 c165 ?_;refine ba (λS H=>S 4=.box 4 0/\S 5=.box 5 0/\S 6=.box 6 0/\S 3=.int .i64 st/\H 4=some (aN s)/\H 5=some [.int .i64 a.1,.int .i64 a.2]/\H 6=some [.int .i64 b.1,.int .i64 b.2]) (by simp[gq,aN,gA,an,bH]) ?_;rintro S H ⟨s4,s5,s6,s3,e4,e5,e6⟩
 by_cases hw:a.1=b.1
 case neg=>
  have jP:mE s (cq s a) (cq s b)=(s.zn,s.Aq):=by
   unfold mE cq;rw[if_neg];simp only;omega
  have NA:((a.1:Int)!=(b.1:Int))=true:=by simp;omega
  unfold ur;rw[jP]at u_⊢;simp[s4,s5,s6,s3,e4,e5,e6,aN,an,bH,NA];refine⟨_,by kernel_rfl,EG hG u_.1 u_.2.1 u_.2.2 h3 h4,λ_=>rfl,?_⟩;simp
 have nC:(cq s a).1=(cq s b).1:=by unfold cq;simp only;omega
 have NA:((a.1:Int)!=(b.1:Int))=false:=by simp;omega
 simp[s4,s5,s6,s3,e4,e5,e6,aN,an,bH,NA];refine oc (Il hG s ha) ?_;simp[s4,s5,s6,s3,e4,e5,e6,aN,an,bH,NA];refine oc (Il hG s hb) ?_;simp[s4,s5,s6,s3,e4,e5,e6,aN,an,bH,NA,Nd,cL,xU]
 cases hf:s.dF.find? λp=>p.l==(cq s a).2&&p.r==(cq s b).2 with
 |some p=>
  have jP:mE s (cq s a) (cq s b)=(p.lo,p.hi):=by unfold mE;rw[if_pos nC,hf]
  unfold ur;rw[jP]at u_⊢;simp[s4,s5,s6,s3,e4,e5,e6,nx];refine⟨_,by kernel_rfl,EG hG u_.1 u_.2.1 u_.2.2 h3 h4,λ_=>rfl,?_⟩;simp
 |none=>
  have jP:mE s (cq s a) (cq s b)=(s.ov,s.nZ):=by unfold mE;rw[if_pos nC,hf]
  unfold ur;rw[jP]at u_⊢;simp[s4,s5,s6,s3,e4,e5,e6,aN,an,bH];refine⟨_,by kernel_rfl,EG hG u_.1 u_.2.1 u_.2.2 h3 h4,λ_=>rfl,?_⟩;simp
def sX{l:List Int}(h:∀x∈l,0<=x/\x<=1000):0<=l.sum/\l.sum<=1000*l.length:=by
 induction l with
 |nil=>simp
 |cons a l ih=>
  have h1:=h a List.mem_cons_self
  have h2:=ih λx hx=>h x (List.mem_cons_of_mem _ hx)
  simp only[List.sum_cons,List.length_cons];omega
def B0{l:List Int}{i:Nat}(h:i<l.length):(l.take (i+1)).sum=(l.take i).sum+l[i]:=by
 rw[List.take_succ_eq_append_getElem h,List.sum_append];simp
def Dd(hG:aw GI)(l:List Int)(hl:l.length<100000)(h:∀x∈l,0<=x/\x<=1000):AC prog GI 164 [vI l] (.ret (.int .i64 l.sum)):=by
 refine dM hG func164 ntmps164 c164 ?_;simp[c164];refine dg 8 l.length (λi S H=>S 6=vI l/\S 7=.int .i64 l.length/\S 8=.int .i64 (i:Nat)/\S 3=.int .i64 (l.take i).sum) (λi S H h=>h.2.2.1) ⟨by simp,by simp,by simp,by simp⟩ ?_;rintro i hi S H ⟨s6,s7,s8,s3⟩
 by_cases av:i<l.length
 .have hb:=sX (l:=l.take i) λx hx=>h x (List.mem_of_mem_take hx)
  have hx:=h l[i] (List.getElem_mem av);rw[List.length_take]at hb;have hw:IntKind.i64.wrap ((i:Int)+1)=i+1:=bf (by omega);have kc:IntKind.i64.wrap ((l.take i).sum+l[i])=(l.take i).sum+l[i]:=bf (by omega);rw[B0 av];generalize(l.take i).sum=y at s3 kc⊢;simp[s6,s7,s8,s3,av,hw,kc]
 .have dN:i=l.length:=by omega
  subst dN;rw[List.take_length]at s3;simp[s6,s7,s8,s3]
def iN(l:List Int):AV:=grow 3 (l.map (AV.int .i64))
def tx(l:List Int):aF 1 (l.map (AV.int .i64))=true:=kl λa=>⟨rfl,rfl⟩
def yh(l:List Int):(iN l=.slice .nil []/\l=[])\/iN l=.slice (.own 3) (ints l):=by
 unfold iN grow
 cases l with
 |nil=>exact .inl ⟨rfl,rfl⟩
 |cons a l=>exact .inr rfl
def xH(s:aE)(l:List Lt):∀i,i<=l.length->lN s l i=((l.take i).map (oF s)).sum
 |0,_=>rfl
 |i+1,h=>by
  rw[xF (by omega),xH s l i (by omega),List.take_succ_eq_append_getElem (by omega),List.map_append,List.sum_append];simp
def jm(s:aE)(st:Int)(l:List Lt):Nat->List Int
 |0=>[]
 |i+1=>jm s st l i++(if 0<i then match l[i-1]?,l[i]? with
  |some a,some b=>[ur s st a b]
  |_,_=>[]else[])
def zN{s:aE}{st:Int}{l:List Lt}{i:Nat}(h:i+1<l.length):jm s st l (i+2)=jm s st l (i+1)++[ur s st (l[i]'(by omega)) l[i+1]]:=by
 show jm s st l (i+1)++_=_;rw[if_pos (by omega),show i+1-1=i by omega,List.getElem?_eq_getElem (by omega:i<l.length),List.getElem?_eq_getElem h]
def CM{s:aE}{st:Int}{l:List Lt}:∀i,i+1<=l.length->(jm s st l (i+1)).sum=lP s st l i
 |0,_=>rfl
 |i+1,h=>by
  rw[zN (by omega),xS (by omega),List.sum_append,CM i (by omega)];simp
def CE{s:aE}(hF:ou s){st:Int}(h0:0<=st)(h1:st<=10){l:List Lt}:∀i,∀x∈jm s st l i,0<=x/\x<=20
 |0,x,hx=>by cases hx
 |i+1,x,hx=>by
  unfold jm at hx;rw[List.mem_append]at hx;rcases hx with hx|hx
  .exact CE hF h0 h1 i x hx
  .split at hx
   .split at hx
    .rw[List.mem_singleton]at hx;subst hx;exact xY hF h0 h1 _ _
    .cases hx
   .cases hx
def wM{s:aE}{st:Int}{l:List Lt}:∀i,(jm s st l i).length<=i
 |0=>Nat.le_refl _
 |i+1=>by
  have:=wM (s:=s) (st:=st) (l:=l) i;unfold jm;rw[List.length_append];split
  .split<;>simp<;>omega
  .simp;omega
structure lq where
 lo:Int
 hi:Int
 Td:Bool
def oW(c:lq):AV:=.agg [.int .i64 c.lo,.int .i64 c.hi,.bool c.Td]
structure bo where
 cells:List lq
 pos:Int
 reach:Int
 j3:Int
 eP:Int
 name:aE
def bj(s:bo):List AV:=[.slice .view (s.cells.map oW),.int .i64 s.pos,.int .i64 s.reach,.int .i64 s.j3,.int .i64 s.eP]++an s.name
def g_(s:bo):AV:=.agg (bj s)
def AA(hG:aw GI)(n lo hi:Int):AC prog GI 91 [.int .i64 n,.int .i64 lo,.int .i64 hi] (.ret (.bool (da n lo hi))):=by
 refine dM hG func91 ntmps91 c91 ?_
 by_cases h1:lo<=n<;>by_cases h2:n<=hi<;>simp[c91,da,h1,h2]
def od(x:lq):Bool:=!da x.lo 1 20||!da x.hi x.lo 20
def XS(hG:aw GI)(x:lq):AC prog GI 90 [oW x] (.ret (.bool (od x))):=by
 refine dM hG func90 ntmps90 c90 ?_;simp[c90,oW];refine oc (AA hG x.lo 1 20) ?_;cases h1:da x.lo 1 20
 .simp[od,h1]
 .simp;refine oc (AA hG x.hi x.lo 20) ?_;simp[od,h1]
def Wl(hG:aw GI)(x:lq):AC prog GI 94 [oW x] (.ret (.int .i64 x.lo)):=by
 refine dM hG func94 ntmps94 c94 ?_;simp[c94,oW]
def Yf(hG:aw GI)(x:lq):AC prog GI 95 [oW x] (.ret (.int .i64 x.hi)):=by
 refine dM hG func95 ntmps95 c95 ?_;simp[c95,oW]
def Vu (hG:aw GI) (l:List lq) (hl:l.length < 1000000) (k:Nat) (p:lq→Bool) (hk:dz prog k=true) (h:∀ x∈l,AC prog GI k [oW x] (.ret (.bool (p x)))) :
  AC prog GI 151 [.slice .view (l.map oW),.func (.func k) [] []] (.ret (.int .i64 (jd p l))):=by
 refine dM hG func151 ntmps151 c151 ?_;simp[c151];refine dg 8 l.length (λi S H=>S 0=.slice .view (l.map oW)/\S 1=_/\S 7=.int .i64 l.length/\S 8=.int .i64 (i:Nat)/\∀j (hj:j<l.length),j<i->p l[j]=false) (λi S H h=>h.2.2.2.1) ⟨by simp,by simp<;>rfl,by simp,by simp,by simp⟩ ?_;rintro i hi S H ⟨s0,s1,s7,s8,hb⟩
 by_cases av:i<l.length
 .have hw:IntKind.i64.wrap ((i:Int)+1)=i+1:=bf (by omega);have hx:=h l[i] (List.getElem_mem av);cases hp:p l[i]
  .simp[List.getElem_map,oW,s0,s1,s7,s8,av];refine⟨_,hk,hx,by simp[bR],?_⟩;simp[s0,s1,s7,s8,av,hp,hw];intro j hj eE
   by_cases sB:j=i
   .subst sB;exact hp
   .exact hb j hj (by omega)
  .simp[List.getElem_map,oW,s0,s1,s7,s8,av];refine⟨_,hk,hx,by simp[bR],?_⟩;simp[s0,s1,s7,s8,av,hp,hw];exact lg av hp hb
 .have dN:i=l.length:=by omega
  subst dN;simp[s0,s1,s7,s8]
  exact jE λj hj=>hb j hj hj
def WG (hG:aw GI) (l:List lq) (hl:l.length < 1000000) (k:Nat) (p:lq→Bool) (hk:dz prog k=true) (h:∀ x∈l,AC prog GI k [oW x] (.ret (.bool (p x)))) :
  AC prog GI 92 [.slice .view (l.map oW),.func (.func k) [] []] (.ret (.bool (l.any p))):=by
 have hF:=Vu hG l hl k p hk h;refine dM hG func92 ntmps92 c92 ?_;simp[c92];refine⟨_,by kernel_rfl,hF,λ_=>rfl,?_⟩;simp;exact kf.symm
def V0(hG:aw GI)(s:aE)(hs:tR s):AC prog GI 93 [ec s] (.ret (.int .i64 (if br s then 0 else 2))):=by
 have h:=GV hG s hs;refine dM hG func93 ntmps93 c93 ?_;simp[c93,ec,an];refine oc h ?_
 cases br s<;>simp
def jH(s:bo):Bool:=da s.cells.length 1 12&&!s.cells.any od&&da s.pos 1 s.cells.length&&da s.reach 1 12&&da s.j3 1 9&&da s.eP 0 9&&br s.name
structure sQ(s:bo):Prop where
 cells:s.cells.length<1000000
 name:tR s.name
def Nv(hG:aw GI)(s:bo)(hs:sQ s):AC prog GI 36 [g_ s] (.ret (.bool (jH s))):=by
 refine dM hG func36 ntmps36 c36 ?_;simp[c36,g_,bj,an];refine oc (AA hG s.cells.length 1 12) ?_;cases e1:da s.cells.length 1 12
 .simp[jH,e1]
 simp;refine oc (WG hG s.cells hs.cells 90 od (by kernel_rfl) (λx _=>XS hG x)) ?_;cases e3:s.cells.any od
 case true=>simp[jH,e1,e3]
 simp;refine oc (AA hG s.pos 1 s.cells.length) ?_;cases e4:da s.pos 1 s.cells.length
 .simp[jH,e1,e3,e4]
 simp;refine oc (AA hG s.reach 1 12) ?_;cases e5:da s.reach 1 12
 .simp[jH,e1,e3,e4,e5]
 simp;refine oc (AA hG s.j3 1 9) ?_;cases e6:da s.j3 1 9
 .simp[jH,e1,e3,e4,e5,e6]
 simp;refine oc (AA hG s.eP 0 9) ?_;cases e7:da s.eP 0 9
 .simp[jH,e1,e3,e4,e5,e6,e7]
 simp;refine oc (V0 hG s.name hs.name) ?_
 cases e8:br s.name<;>simp[jH,e1,e3,e4,e5,e6,e7,e8]
def jJ(n:Int):AV:=.agg [.int .i64 0,.bool false,.int .i64 n,.int .i64 n,.slice .view []]
def aV(ls:List Int):List AV:=[.int .i64 0,.slice .view [.int .i64 0],.slice .view (ls.map jJ)]
def fK(n:Nat):List Int:=List.replicate n 0
def iH(ls:List Int):Prop:=(1<=ls.length/\ls.length<=4)/\∀x∈ls,1<=x/\x<=6
def rY(hG:aw GI)(n lo hi:Int):AC prog GI 128 [.int .i64 n,.int .i64 lo,.int .i64 hi] (.ret (.bool (da n lo hi))):=by
 refine dM hG func128 ntmps128 c128 ?_
 by_cases h1:lo<=n<;>by_cases h2:n<=hi<;>simp[c128,da,h1,h2]
def Uo(hG:aw GI)(n:Int):AC prog GI 130 [.int .i64 n] (.ret (.bool (!da n 0 60))):=by
 have a:=rY (GI:=GI) hG n 0 60;refine dM hG func130 ntmps130 c130 ?_;simp[c130];refine oc a ?_;simp
def U2(hG:aw GI)(n:Int):AC prog GI 131 [jJ n] (.ret (.int .i64 n)):=by
 refine dM hG func131 ntmps131 c131 ?_;simp[c131,jJ]
def TP(hG:aw GI)(n:Int):AC prog GI 132 [jJ n] (.ret (.int .i64 n)):=by
 refine dM hG func132 ntmps132 c132 ?_;simp[c132,jJ]
def SK(hG:aw GI)(v:Int)(h0:0<=v):AC prog GI 168 [.slice .view [.int .i64 v]] (.ret (.int .i64 v)):=by
 refine dM hG func168 ntmps168 c168 ?_;simp[c168];refine dg 8 1 (λi S H=>S 6=.slice .view [.int .i64 v]/\S 7=.int .i64 (1:Nat)/\S 8=.int .i64 (i:Nat)/\S 3=.int .i64 (if i=0 then 0 else v)) (λi S H h=>h.2.2.1) ⟨by simp,by simp,by simp,by simp⟩ ?_;rintro i hi S H ⟨s6,s7,s8,s3⟩
 by_cases av:i<1
 .have vW:i=0:=by omega
  subst vW
  have hm:max 0 v=v:=by omega
  have hw:IntKind.i64.wrap 1=1:=by decide
  simp[s6,s7,s8,s3,hm,hw]
 .have qd:i=1:=by omega
  subst qd;simp[s6,s7,s8,s3]
def dH(ls:List Int)(m:Value):List AV:=aV ls++[.slice .view (ints (fK ls.length)),.val m,.int .i64 (-1),.int .i64 0]
def jW(ls:List Int)(m:Value):AV:=.agg (dH ls m)
def A5{n i:Nat}(h:i<n):(ints (fK n))[i]?=some (.int .i64 0):=by simp[ints,fK,h]
def Ty(hG:aw GI)(ls:List Int)(m:Value){n:Nat}(hn:n<ls.length)(hl:ls.length<=4):AC prog GI 175 [jW ls m,.int .i64 (n:Nat)] (.ret (.eS [.int .i64 ((n-1:Nat):Int),.bool (decide (0<n))])):=by
 refine dM hG func175 ntmps175 c175 ?_;refine ba (λS H=>S 1=.int .i64 (n:Nat)/\S 2=.box 2 0/\H 2=some (dH ls m)) (by simp[c175,jW,dH,aV]) ?_;rintro S H ⟨s1,s2,e2⟩
 have hz:=λi (h:i<ls.length)=>A5 h
 by_cases h0:n=0
 .subst h0
  have hw:IntKind.i64.wrap (-1)= -1:=by decide
  simp[c175,s1,s2,e2,hw];refine⟨λS H=>S 6=.int .i64 (-1),λ_ _=>0,by simp[hw],?_⟩;intro S H s6;simp[s6]
 .obtain⟨k,rfl⟩:∃k,n=k+1:=⟨n-1,by omega⟩
  have hw:IntKind.i64.wrap (k:Int)=k:=bf (by omega)
  have Az:(0:Int)<=(k:Int)+1:=by omega
  have z1:=hz k (by omega);have z2:=hz (k+1) hn;simp[c175,s1,s2,e2,hw];refine⟨λS H=>S 1=.int .i64 ((k+1:Nat):Int)/\S 2=.box 2 0/\H 2=some (dH ls m)/\S 6=.int .i64 (k:Nat),λ_ _=>0,⟨by simp[s1],by simp[s2],by simp[e2],by simp⟩,?_⟩;rintro S H ⟨s1,s2,e2,s6⟩
  have Dt:k<ls.length:=by omega
  simp[s1,s2,e2,s6,dH,aV,ints,fK,hn,Dt,Az]
def gY(k:Nat):Value:=.func (.func k) #[] #[]
def qy(e:Nat)(c:lq):Int:=if e=0 then c.lo else c.hi
def bw(e:Nat)(s:bo):List Int:=s.cells.map (qy e)
def tj(e:Nat):Nat->Op->Op
 |2,_=>.fieldAddr 25 (.tmp 5) e
 |3,_=>.move (.func (94+e))
 |_,op=>op
def He(s:bo)(e i:Nat)(S:af)(H:ah):Prop:=
 S 1=.int .i64 (e:Nat)/\S 2=.box 2 0/\H 2=some (bj s)/\S 5=.box 5 0/\H 5=some [.val (gY 94),.val (gY 95)]/\S 6=grow 3 (ints ((bw e s).take i))/\S 11=.int .i64 s.cells.length/\S 12=.int .i64 (i:Nat)
noncomputable def BY:ae:=ae.qb c39.qb.qb.qb.qa.qb.qb
def Rw(e:Nat):List bl:=[⟨some 15,none,.mv true (.t 6)⟩,⟨some 16,none,.mv false (.t 1)⟩,⟨some 17,none,.fieldAddr e (.t 5)⟩,⟨some 18,none,.mv false (.f (94+e))⟩,⟨some 19,none,.fieldAddr 0 (.t 2)⟩,
 ⟨some 20,none,.load (.box 2) false 1 (.t 19)⟩,⟨some 21,none,.mv false (.t 7)⟩,⟨some 22,none,.indexAddr 3 (.t 20) (.t 21)⟩,⟨some 23,none,.load .ref true 3 (.t 22)⟩,⟨some 24,none,.gR (.t 18) [.t 23]⟩,
 ⟨some 25,none,.buildSlice 28 3 1 [.t 24]⟩,⟨some 26,none,.append 28 3 1 8 (.t 15) (.t 25)⟩,⟨some 6,none,.mv true (.t 26)⟩]
def vQ{Pr:Nat->Nat->Prop}{al:Nat->Option Nat}{w:World}{f1 f2:Nat}{c:Value}(h:RV Pr al w (.fN [.func (.func f1) [] [],.func (.func f2) [] []]) c):c=.agg #[gY f1,gY f2]:=by
 have one:∀{f:Nat}{c:Value},RV Pr al w (.func (.func f) [] []) c->c=gY f:=by
  intro f c h
  cases h with
  |data _ _ h=>cases h
  |func _ _ _ vs us h1 h2 r1 r2=>
   have:vs=#[]:=Array.eq_empty_of_size_eq_zero (by simpa using h1.symm);subst this;have:us=#[]:=Array.eq_empty_of_size_eq_zero (by simpa using h2.symm);subst this
   rfl
 cases h with
 |data _ _ h=>cases h
 |fN _ vs hl hr=>
  have hs:vs.size=2:=by rw[<-hl]<;>rfl
  have e1:=one (hr 0 (by simp) (by omega));have e2:=one (hr 1 (by simp) (by omega))
  congr 1
  apply Array.ext
  .simpa using hs
  .intro i h1 h2
   match i,h2 with
   |0,_=>exact e1
   |1,_=>exact e2
def CW {rest:List bl} {K:af→ah→Prop} {S:af} {H:ah} {d j k:Nat} {args:List cm} {v:AV} (hj:S j = .func (.func k) [] []) (hk:dz prog k=true) (hb:(args.map (ev S)).any bR=false)
  (Of:AC prog GI k ((args.map (ev S)).map (fz H)) (.ret v)) (h:dc prog GI rest K (aq S d v) H):dc prog GI (⟨some d,none,.gR (.t j) args⟩::rest) K S H:=by
 have e:ev S (.t j)=.func (.func k) [] []:=hj;show fL prog GI (.gR (.t j) args) (some d) (dc prog GI rest K) S H;simp only[fL,aM,e];refine⟨by simpa using hb,.ret v,hk,by simpa using Of,λhh=>?_,h⟩;simp only[List.nil_append,List.append_nil]at hh;rw[hb]at hh;cases hh
def Hw {K:af→ah→Prop} {S:af} {H:ah} {l:List Int} {x:Int} (h15:S 15=grow 3 (ints l)) (h24:S 24 = .int .i64 x) (hn:l.length+1 < 1048576)
  (h:∀S',S' 6=grow 3 (ints (l++[x]))->(∀k,k∉[6,15,25,26]->S' k=S k)->K S' H):dc prog GI [⟨some 25,none,.buildSlice 28 3 1 [.t 24]⟩,⟨some 26,none,.append 28 3 1 8 (.t 15) (.t 25)⟩,⟨some 6,none,.mv true (.t 26)⟩] K S H:=by
 have hb:ao S H (.buildSlice 28 3 1 [.t 24])=some { v:=.slice (.own 3) [.int .i64 x] }:=by simp[ao,ev,h24,aF,AV.storable,AV.cells,AV.vw,AV.bF]
 show fL prog GI (.buildSlice 28 3 1 [.t 24]) (some 25) (dc prog GI _ K) S H;simp only[fL,aM,hb];refine pT (e:=3) (ints l) (.int .i64 x) (.own 3) (by simp[aD.S,aH,aq,h15]) (by simp[aD.S,aH,aq]) rfl (qe _) (by simpa[ints]using hn) ?_;intro S' d1 d2
 have j4:ints l++[.int .i64 x]=ints (l++[x]):=by simp[ints]
 rw[j4]at d1
 have hm:∃dm,(dm=none\/dm=some 26)/\ao S' H (.mv true (.t 26))=some { v:=grow 3 (ints (l++[x])),dm:=dm }:=by
  refine⟨some 26,.inr rfl,?_⟩;simp only[ao,ev,d1]
  rfl
 obtain⟨dm,CU,hm⟩:=hm;obtain⟨k1,k2⟩:=v_ (S:=S') (d:=6) CU (grow 3 (ints (l++[x])));show fL prog GI (.mv true (.t 26)) (some 6) (dc prog GI [] K) S' H;simp only[fL,aM,hm]
 refine h _ k1 λk hk=>?_
 simp only[List.mem_cons,List.not_mem_nil,or_false,not_or]at hk;rw[k2 k hk.1 hk.2.2.2,d2 k hk.2.2.2 hk.2.1];simp[aD.S,aH,aq,hk.2.2.1]
structure P9(e b2 b5:Nat)(l:Array Bool)(a:Act)(w:World):Prop where
 size:a.tmps.size=29
 t1:a.tmps.getD 1 undef=.int .i64 (e:Nat)
 t2:a.tmps.getD 2 undef=.pointer (some ⟨b2,0,none⟩)
 t5:a.tmps.getD 5 undef=.pointer (some ⟨b5,0,none⟩)
 t16:l.getD 1 false=true->a.tmps.getD 16 undef=.int .i64 (e:Nat)
 t17:l.getD 2 false=true->a.tmps.getD 17 undef=.pointer (some ⟨b5,e,none⟩)
 heap:∃ty,w.heap[b5]?=some (.cells #[gY 94,gY 95] ty (0,0))
 c9:l.getD 9 false=true->l.getD 3 false=true
 c10:l.getD 10 false=true->l.getD 9 false=true
 c11:l.getD 11 false=true->l.getD 10 false=true
 c3:l.getD 3 false=true->l.getD 2 false=true
def Yy(e b2 b5:Nat)(l:Array Bool)(a:Act)(w:World):Prop:=(l.getD 2 false=true/\l.getD 3 false=true)\/P9 e b2 b5 l a w
def gF{l:Array Bool}{i:Nat}(h:i<l.size):(l.setIfInBounds i true).getD i false=true:=by
 simp[Array.getD_eq_getD_getElem?,h]
def bV{l:Array Bool}{i j:Nat}(h:i≠j):(l.setIfInBounds i true).getD j false=l.getD j false:=by
 simp[Array.getD_eq_getD_getElem?,Array.getElem?_setIfInBounds_ne h]
def P9.put {e b2 b5:Nat} {l:Array Bool} {a:Act} {w:World} (h:P9 e b2 b5 l a w) (i t:Nat) (v:Value) (ht:t≠1∧t≠2∧t≠5) (hl:l.size=13) (hi:i < 9) (h3:i≠3) (h1:i=1→t=16∧v = .int .i64 (e:Nat)) (h2:i=2→t=17∧v = .pointer (some ⟨b5,e,none⟩)) (ho:i≠1→t≠16) (oV:i≠2→t≠17) (BL:t < 29) :
  P9 e b2 b5 (l.setIfInBounds i true) (a.put (some t) v) w:=by
 have cz:∀k,k≠t->(a.put (some t) v).tmps.getD k undef=a.tmps.getD k undef:=λk hk=>by
  simp[Act.put,Array.getElem?_setIfInBounds_ne (Ne.symm hk)]
 have eO:(a.put (some t) v).tmps.getD t undef=v:=by simp[Act.put,h.size,BL]
 refine⟨by simp[Act.put,h.size],by rw[cz 1 (Ne.symm ht.1)];exact h.t1,by rw[cz 2 (Ne.symm ht.2.1)];exact h.t2,by rw[cz 5 (Ne.symm ht.2.2)];exact h.t5,?_,?_,h.heap,?_,?_,?_,?_⟩
 .by_cases qd:i=1
  .obtain⟨rfl,rfl⟩:=h1 qd
   exact λ_=>eO
  .rw[bV qd,cz 16 (Ne.symm (ho qd))];exact h.t16
 .by_cases nB:i=2
  .obtain⟨rfl,rfl⟩:=h2 nB
   exact λ_=>eO
  .rw[bV nB,cz 17 (Ne.symm (oV nB))];exact h.t17
 .rw[bV (by omega),bV h3];exact h.c9
 .rw[bV (by omega),bV (by omega)];exact h.c10
 .rw[bV (by omega),bV (by omega)];exact h.c11
 .rw[bV h3]
  by_cases nB:i=2
  .subst nB;exact λ_=>gF (by omega)
  .rw[bV nB];exact h.c3
def YL(hG:aw GI)(e:Nat)(he:e=0\/e=1)(x:lq):AC prog GI (94+e) [oW x] (.ret (.int .i64 (qy e x))):=by
 rcases he with rfl|rfl
 .exact Wl hG x
 .exact Yf hG x
noncomputable def KB:Code:=f39.body.getD .skip
def oZ:Code->Code
 |.seq _ y=>y
 |c=>c
def Q8 (hG:aw GI) (s:bo) (hs:s.cells.length < 1000) (e:Nat) (he:e=0∨e=1) (cc:Nat→Nat→Prop) (w:World) {Q:fH}
  (zl:∀S H,S 6=grow 3 (ints (bw e s))->SW prog GI 29 none (oZ (oZ (oZ (oZ KB)))) Q (Old.plain cc w) S H):SW prog GI 29 none KB Q (Old.plain cc w) (AL.start [g_ s,.int .i64 (e:Nat)]) (λ_=>none):=by
 show SW prog GI 29 none (.seq _ (.seq _ (.seq _ (.seq _ _)))) _ _ _ _;refine dR hG c39.qa (λS' H'=>S' 1=.int .i64 (e:Nat)/\S' 2=.box 2 0/\H' 2=some (bj s)) ?_ ?_
 .simp[c39,ae.qa,g_,bj,an]
 rintro S1 H1 ⟨s1,s2,h2⟩
 refine SW.seq (SW.hand hG (p:=1) (lm:=[1,2]) (l2:=[]) (jT:=[_]) (oh:=[_,_]) (jC:=[]) rfl rfl rfl rfl (by kernel_rfl) (λ_ h=>h)
  (nN:=(c39.qb.qa.dl).take 1) (mF:=[]) (by kernel_rfl) rfl (by kernel_rfl) rfl
  (K1:=λS H=>S 1=.int .i64 (e:Nat)/\S 2=.box 2 0/\H 2=some (bj s)/\S 8=.fN [.func (.func 94) [] [],.func (.func 95) [] []])
  (K2:=λo S H=>o=Old.plain cc w/\S 1=.int .i64 (e:Nat)/\S 2=.box 2 0/\H 2=some (bj s)/\S 5=.box 5 0/\H 5=some [.val (gY 94),.val (gY 95)])
  (K3:=λo S H=>o=Old.plain cc w/\S 1=.int .i64 (e:Nat)/\S 2=.box 2 0/\H 2=some (bj s)/\S 5=.box 5 0/\H 5=some [.val (gY 94),.val (gY 95)]) ?_ ?_ ?_ ?_)
 .simp[c39,ae.qa,ae.qb,ae.dl,s1,s2,h2,tW]
 .rintro w0 g S2 H2 a w' m bP ho R ⟨s1,s2,h2,s8⟩;have aI:=R.size
  have e8:a.tmps.getD 8 undef=.agg #[gY 94,gY 95]:=by
   have:=R.slot 8 (by decide) id;rw[s8]at this;exact vQ this
  have cz:∀(a:Act)(d t:Nat)(c:Value),t≠d->(a.put (some d) c).tmps.getD t undef=a.tmps.getD t undef:=λa d t c h=>by
   simp[Act.put,Array.getElem?_setIfInBounds_ne (Ne.symm h)]
  have eO:∀(a:Act)(d:Nat)(c:Value),a.tmps.size=29->d<29->(a.put (some d) c).tmps.getD d undef=c:=λa d c h hd=>by
   simp[Act.put,h,hd]
  obtain⟨it,hi,hz⟩:=Option.bind_eq_some_iff.1 (show(prog.info? 179).bind (·.zero)=some (.agg #[.nilFunc,.nilFunc]) by kernel_rfl)
  have yB:it.size=2:=by
   have:(prog.info? 179).map (·.size)=some 2:=by kernel_rfl
   rw[hi]at this;exact Option.some.inj this
  refine aK rfl rfl (by rfl) (mS (t:=179) rfl hi hz) ?_
  obtain⟨g4,q1,q2,q3,q4,q5,R4⟩:=R.D' 5 (by decide) (by rw[ho];exact λh=>h) [.val .nilFunc,.val .nilFunc] #[.nilFunc,.nilFunc] 179 ⟨rfl,λj h h'=>by
   match j,h with
   |0,_|1,_=>exact .val _ rfl,λj h=>by
   match j,h with
   |0,_|1,_=>rfl⟩ (λg' j h h'=>by
   match j,h with
   |0,_|1,_=>exact⟨trivial,trivial⟩)
  obtain⟨b,hb⟩:∃b,w'.heap.size=b:=⟨_,rfl⟩
  obtain⟨w4,ib⟩:∃w4,w'.alloc (.cells #[.nilFunc,.nilFunc] 179)=w4:=⟨_,rfl⟩
  have tN:w4.heap[b]?=some (.cells #[.nilFunc,.nilFunc] 179 (0,0)):=by rw[<-ib,<-hb];exact World.alloc_heap_new w' _
  rw[hb]at R4 q5
  obtain⟨a4,hZ⟩:∃a4,a.put (some 5) (.pointer (some ⟨b,0,none⟩))=a4:=⟨_,rfl⟩
  show wpOpsIn _ _ _ _ _ [2] (a.put (some 5) (.pointer (some ⟨w'.heap.size,0,none⟩))) (w'.alloc (.cells #[.nilFunc,.nilFunc] 179));rw[hb,ib,hZ];rw[ib,hZ]at R4
  have g8:a4.tmps.getD 8 undef=.agg #[gY 94,gY 95]:=by rw[<-hZ,cz _ _ _ _ (by decide)];exact e8
  have g5:a4.tmps.getD 5 undef=.pointer (some ⟨b,0,none⟩):=by rw[<-hZ];exact eO _ _ _ aI (by decide)
  refine dh rfl rfl (by rfl) (gC (t:=179) (x:=.tmp 5) (y:=.tmp 8) rfl g5 hi tN g8 (by rw[yB]<;>rfl) (by rw[yB]<;>rfl) (by intro u hu;simp[Value.cells]at hu;rcases hu with rfl|rfl<;>rfl)) ?_;show HQ prog w0 29 _ .normal a4 (w4.setRow b #[gY 94,gY 95])
  have R5:=R4.tg 5 b q5 _ #[gY 94,gY 95] 179 tN [.val (gY 94),.val (gY 95)] rfl (λj h h'=>by
   match j,h with
   |0,_|1,_=>exact .val _ rfl) (λj h h'=>by
   match j,h with
   |0,_|1,_=>trivial) (λj h=>by
   match j,h with
   |0,_|1,_=>rfl)
  exact⟨g4,_,_,R5,by rw[q2,ho],by simp[aq,s1,aT],by simp[aq,s2,aT],by simp[aq,h2],by simp[aq],by simp[aq]⟩
 .rintro o S2 H2 h;exact⟨λd hd=>by rw[h.1]at hd;exact hd,h⟩
 rintro o S2 H2 ⟨rfl,s1,s2,h2,s5,h5⟩;show SW prog GI 29 none (.seq _ (.seq (.seq _ (.block 0 (.loop _))) (.seq _ .ret))) _ _ _ _;refine dR hG c39.qb.qb.qa (λS H=>S 1=.int .i64 (e:Nat)/\S 2=.box 2 0/\H 2=some (bj s)/\S 5=.box 5 0/\H 5=some [.val (gY 94),.val (gY 95)]/\S 6=.slice .nil []) ?_ ?_
 .simp[c39,ae.qa,ae.qb,s1,s2,h2,s5,h5,grow]
 clear s1 s2 h2 s5 h5 S2 H2;rintro S2 H2 ⟨s1,s2,h2,s5,h5,s6⟩;refine SW.seq (dR hG c39.qb.qb.qb.qa.qa (He s e 0) ?_ ?_)
 .simp[c39,ae.qa,ae.qb,bj,an,s1,s2,h2,s5,h5,s6,He,grow];exact⟨rfl,rfl⟩
 clear s1 s2 h2 s5 h5 s6 S2 H2;intro S3 H3 hF;refine SW.block (SW.loop (λo S' H'=>∃i,o=Old.plain cc w/\i<=s.cells.length/\He s e i S' H') (λS' _=>match S' 12 with|.int _ j=>s.cells.length-j.toNat|_=>0) ⟨0,rfl,Nat.zero_le _,hF⟩ ?_);rintro o S4 H4 ⟨i,rfl,hi,hF⟩;have m12:S4 12=.int .i64 (i:Nat):=hF.2.2.2.2.2.2.2;show SW prog GI 29 none (.seq _ (.seq (.cond _ _ _) (.seq (.block 1 (.seq _ _)) _))) _ _ _ _;refine dR hG BY.qa (λS' H'=>S' 13=.bool (decide (i<s.cells.length))/\He s e i S' H') ?_ ?_
 .obtain⟨s1,s2,h2,s5,h5,s6,dV,bK⟩:=hF;simp[c39,BY,ae.qa,ae.qb,He,s1,s2,h2,s5,h5,s6,dV,bK]
 rintro S5 H5 ⟨dW,hF⟩
 by_cases av:i<s.cells.length
 case neg=>
  have dN:i=s.cells.length:=by omega
  refine SW.seq (SW.cond rfl false (by show S5 13=_;rw[dW];simp[av]) (SW.exit ?_));subst dN;obtain⟨s1,s2,h2,s5,h5,s6,dV,bK⟩:=hF;have el:(bw e s).take s.cells.length=bw e s:=List.take_of_length_le (by simp[bw]);rw[el]at s6;exact zl S5 H5 s6
 case pos=>
  refine SW.seq (SW.cond rfl true (by show S5 13=_;rw[dW];simp[av]) (SW.skip ?_));show SW prog GI 29 none (.seq (.block 1 (.seq _ _)) _) _ _ _ _;refine SW.seq (SW.block (dR hG BY.qb.qb.qa.qb.qa (λS' H'=>S' 7=.int .i64 (i:Nat)/\He s e i S' H') ?_ ?_))
  .obtain⟨s1,s2,h2,s5,h5,s6,dV,bK⟩:=hF;simp[c39,BY,ae.qa,ae.qb,He,s1,s2,h2,s5,h5,s6,dV,bK]
  clear dW hF;rintro S6 H6 ⟨s7,hF⟩;have hx:=YL hG e he s.cells[i]
  have LZ:(bw e s).take (i+1)=(bw e s).take i++[qy e s.cells[i]]:=by
   rw[List.take_succ,List.getElem?_eq_getElem (by simpa[bw]using av)];simp[bw]
  refine SW.mono (Q:=λx o S H=>x=.normal/\o=Old.plain cc w/\S 1=.int .i64 (e:Nat)/\S 2=.box 2 0/\H 2=some (bj s)/\S 5=.box 5 0/\H 5=some [.val (gY 94),.val (gY 95)]/\S 6=grow 3 (ints ((bw e s).take (i+1)))/\S 11=.int .i64 s.cells.length/\S 12=.int .i64 (i:Nat)) ?_ (SW.U4 hG cV (ops':=vd (tj e) _) (Ex _ (by kernel_rfl)) ?_ ?_ (l:=Rw e) ?_ ?_ ?_)
  .rintro x o S7 H7 ⟨rfl,rfl,s1,s2,h2,s5,h5,s6,dV,bK⟩;show SW prog GI 29 none _ _ _ _ _;have hw:IntKind.i64.wrap ((i:Int)+1)=i+1:=bf (by omega);refine SW.pt hG cV (by kernel_rfl) (λ_ _ h=>h) (ac:=ae.qb BY.qb.qb) (by kernel_rfl) ?_
   have m12:S4 12=.int .i64 (i:Nat):=by assumption
   simp[c39,BY,ae.qa,ae.qb,He,thenS,fH.bD,s1,s2,h2,s5,h5,s6,dV,bK,hw];refine⟨⟨i+1,by omega,rfl,by simp⟩,?_⟩;rw[m12];simp;omega
  .rcases he with rfl|rfl<;>kernel_rfl
  .rcases he with rfl|rfl<;>kernel_rfl
  .rcases he with rfl|rfl<;>kernel_rfl
  .intro w0 g a w' iE R;obtain⟨s1,s2,h2,s5,h5,s6,dV,bK⟩:=hF;obtain⟨b2,mF,e2⟩:=jk R (by decide) s2;obtain⟨b5,al5,e5⟩:=jk R (by decide) s5;obtain⟨cs,vs,ty5,k0,k1,k2,k3,k4,k5,k6,k7,k8⟩:=R.box 5 b5 al5;rw[h5]at k0;cases k0
   have eJ:vs.size=2:=by rw[<-k5]<;>rfl
   have uo:vs=#[gY 94,gY 95]:=by
    have c0:=k6 0 (by simp) (by omega);have c1:=k6 1 (by simp) (by omega);simp only[List.getElem_cons_zero,List.getElem_cons_succ]at c0 c1;apply Array.ext
    .simpa using eJ
    .intro j h1 h2
     match j,h2 with
     |0,_=>exact(RV.data (al:=bU) _ _ c0).gp
     |1,_=>exact(RV.data (al:=bU) _ _ c1).gp
   subst uo;refine⟨Yy e b2 b5,.inr ⟨R.size,eR R (by decide) s1,e2,e5,by simp,by simp,⟨ty5,k2⟩,by simp,by simp,by simp,by simp⟩,?_⟩;intro i o o' l a w i_ nP hl eI hJ eD;have hl:l.size=13:=hl;rw[xZ,i_]at nP;simp only[Option.map_some,Option.some.injEq]at nP
   have flip:∀j,j<13->l.getD j true=l.getD j false:=λj hj=>by simp[Array.getD_eq_getD_getElem?,hl,hj]
   have mono:∀j,l.getD j false=true->(l.setIfInBounds i true).getD j false=true:=λj hj=>by
    by_cases nc:i=j
    .subst nc;exact gF (by
      rw[hl]
      exact(Array.getElem?_eq_some_iff.1 i_).1)
    .rw[bV nc];exact hj
   rcases hJ with⟨h2,h3⟩|hI
   .have n2:i≠2:=by rintro rfl;rw[flip 2 (by omega),h2]at eI;cases eI
    have n3:i≠3:=by rintro rfl;rw[flip 3 (by omega),h3]at eI;cases eI
    refine⟨?_,.inl λa' w'=>.inl ⟨mono 2 h2,mono 3 h3⟩⟩;subst nP
    have:tj e i o.op=o.op:=by unfold tj;split<;>first|omega|rfl
    rw[this]
   .have nf:∀ j,(o.after.any fun ed=>Region.binds .any ed && ed.on==j)=true→l.getD j false=true:=fun j hj=>by
     obtain⟨ed,VH,DV⟩:=Array.any_eq_true'.1 hj;simp only[Bool.and_eq_true,beq_iff_eq]at DV;have:=eD ed VH DV.1;rwa [DV.2]at this
    have done:l.getD 3 false=true->Yy e b2 b5 (l.setIfInBounds i true)=λ_ _=>True:=λh3=>by
     funext a' w'
     exact eq_true (.inl ⟨mono 2 (hI.c3 h3),mono 3 h3⟩)
    match i,i_ with
    |0,i_=>
     have e0:=Option.some.inj (i_.symm.trans (rfl:_=some _));subst nP
     have cM:o.op=.move (.tmp 6):=by rw[e0]<;>rfl
     have hd:o.dst=some 15:=by rw[e0]<;>rfl
     refine⟨rfl,.inr λx w' hr=>?_⟩;have iR:(execOp a.eval o).run prog w=.ok x w':=hr;obtain⟨rfl,v,rfl⟩:=pw (by rw[cM]) iR;rw[hd];exact⟨v,rfl,.inr (hI.put 0 15 v (by decide) hl (by decide) (by decide) (λh=>absurd h (by decide)) (λh=>absurd h (by decide)) (by decide) (by decide) (by decide))⟩
    |1,i_=>
     have e0:=Option.some.inj (i_.symm.trans (rfl:_=some _));subst nP
     have cM:o.op=.move (.tmp 1):=by rw[e0]<;>rfl
     have hd:o.dst=some 16:=by rw[e0]<;>rfl
     refine⟨rfl,.inr λx w' hr=>?_⟩;have iR:(execOp a.eval o).run prog w=.ok x w':=hr;have QK:a.eval (.tmp 1)=.int .i64 (e:Nat):=hI.t1;rw[run_move (x:=.tmp 1) w cM,QK]at iR;cases iR;rw[hd];exact⟨_,rfl,.inr (hI.put 1 16 _ (by decide) hl (by decide) (by decide) (λ_=>⟨rfl,rfl⟩) (λh=>absurd h (by decide)) (by decide) (by decide) (by decide))⟩
    |2,i_=>
     have e0:=Option.some.inj (i_.symm.trans (rfl:_=some _));subst nP
     have cM:o.op=.indexAddr 179 (.tmp 5) (.tmp 16):=by rw[e0]<;>rfl
     have hd:o.dst=some 17:=by rw[e0]<;>rfl
     have OT:a.eval (.tmp 16)=.int .i64 (e:Nat):=hI.t16 (nf 1 (by rw[e0];kernel_rfl));have Tq:a.eval (.tmp 5)=.pointer (some ⟨b5,0,none⟩):=hI.t5
     have DV:e<2:=by omega
     have V7:prog.underlying 179=some (.array 2 176):=by kernel_rfl
     obtain⟨i176,Tf,UA⟩:=iZ 176 1
     have r1:(execOp a.eval o).run prog w=.ok (.value (.pointer (some ⟨b5,e,none⟩))) w:=by
      have:=kZ (P:=prog) (w:=w) (o:=o) cM V7 Tf Tq OT DV;rw[UA,Nat.mul_one,Nat.zero_add]at this;exact this
     have r2:(execOp a.eval { o with op:=tj e 2 o.op }).run prog w=.ok (.value (.pointer (some ⟨b5,e,none⟩))) w:=by
      have hc:yP prog 25 e=some (e,1):=by rcases he with rfl|rfl<;>kernel_rfl
      have:=ld (P:=prog) (w:=w) (a:=a) (o:={ o with op:=tj e 2 o.op }) hc (by decide) rfl Tq;rw[Nat.zero_add]at this;exact this
     refine⟨r1.trans r2.symm,.inr λx w' hr=>?_⟩;have iR:(execOp a.eval o).run prog w=.ok x w':=hr;rw[r1]at iR;cases iR;rw[hd];exact⟨_,rfl,.inr (hI.put 2 17 _ (by decide) hl (by decide) (by decide) (λh=>absurd h (by decide)) (λ_=>⟨rfl,rfl⟩) (by decide) (by decide) (by decide))⟩
    |3,i_=>
     have e0:=Option.some.inj (i_.symm.trans (rfl:_=some _));subst nP
     have cM:o.op=.load 176 (.tmp 17):=by rw[e0]<;>rfl
     have hd:o.dst=some 18:=by rw[e0]<;>rfl
     have oY:l.getD 2 false=true:=nf 2 (by rw[e0];kernel_rfl);have h17:a.eval (.tmp 17)=.pointer (some ⟨b5,e,none⟩):=hI.t17 oY;obtain⟨ty,EX⟩:=hI.heap;obtain⟨d,Ab,cT⟩:=vZ 176
     have r1:(execOp a.eval o).run prog w=.ok (.value (gY (94+e))) w:=
      m_ (P:=prog) (o:=o) cM h17 Ab cT EX (by rcases he with rfl|rfl<;>rfl)
     have r2:(execOp a.eval { o with op:=tj e 3 o.op }).run prog w=.ok (.value (gY (94+e))) w:=
      run_move (x:=.func (94+e)) w rfl
     refine⟨r1.trans r2.symm,.inl λa' w'=>.inl ⟨mono 2 oY,?_⟩⟩;exact gF (by omega)
    |4,i_=>
     have e0:=Option.some.inj (i_.symm.trans (rfl:_=some _));subst nP
     have cM:o.op=.fieldAddr 40 (.tmp 2) 0:=by rw[e0]<;>rfl
     have hd:o.dst=some 19:=by rw[e0]<;>rfl
     have Ez:a.eval (.tmp 2)=.pointer (some ⟨b2,0,none⟩):=hI.t2;have r1:(execOp a.eval o).run prog w=.ok (.value (.pointer (some ⟨b2,0+0,none⟩))) w:=ld (P:=prog) (w:=w) (a:=a) (o:=o) (show yP prog 40 0=some (0,1) by kernel_rfl) (by decide) cM Ez;refine⟨rfl,.inr λx w' hr=>?_⟩;have iR:(execOp a.eval o).run prog w=.ok x w':=hr;rw[r1]at iR;cases iR;rw[hd];exact⟨_,rfl,.inr (hI.put 4 19 _ (by decide) hl (by decide) (by decide) (λh=>absurd h (by decide)) (λh=>absurd h (by decide)) (by decide) (by decide) (by decide))⟩
    |5,i_=>
     have e0:=Option.some.inj (i_.symm.trans (rfl:_=some _));subst nP
     have cM:o.op=.load 38 (.tmp 19):=by rw[e0]<;>rfl
     have hd:o.dst=some 20:=by rw[e0]<;>rfl
     refine⟨rfl,.inr λx w' hr=>?_⟩;have iR:(execOp a.eval o).run prog w=.ok x w':=hr;obtain⟨rfl,v,rfl⟩:=pw (by rw[cM]) iR;rw[hd];exact⟨v,rfl,.inr (hI.put 5 20 v (by decide) hl (by decide) (by decide) (λh=>absurd h (by decide)) (λh=>absurd h (by decide)) (by decide) (by decide) (by decide))⟩
    |6,i_=>
     have e0:=Option.some.inj (i_.symm.trans (rfl:_=some _));subst nP
     have cM:o.op=.move (.tmp 7):=by rw[e0]<;>rfl
     have hd:o.dst=some 21:=by rw[e0]<;>rfl
     refine⟨rfl,.inr λx w' hr=>?_⟩;have iR:(execOp a.eval o).run prog w=.ok x w':=hr;obtain⟨rfl,v,rfl⟩:=pw (by rw[cM]) iR;rw[hd];exact⟨v,rfl,.inr (hI.put 6 21 v (by decide) hl (by decide) (by decide) (λh=>absurd h (by decide)) (λh=>absurd h (by decide)) (by decide) (by decide) (by decide))⟩
    |7,i_=>
     have e0:=Option.some.inj (i_.symm.trans (rfl:_=some _));subst nP
     have cM:o.op=.indexAddr 38 (.tmp 20) (.tmp 21):=by rw[e0]<;>rfl
     have hd:o.dst=some 22:=by rw[e0]<;>rfl
     refine⟨rfl,.inr λx w' hr=>?_⟩;have iR:(execOp a.eval o).run prog w=.ok x w':=hr;obtain⟨rfl,v,rfl⟩:=pw (by rw[cM]) iR;rw[hd];exact⟨v,rfl,.inr (hI.put 7 22 v (by decide) hl (by decide) (by decide) (λh=>absurd h (by decide)) (λh=>absurd h (by decide)) (by decide) (by decide) (by decide))⟩
    |8,i_=>
     have e0:=Option.some.inj (i_.symm.trans (rfl:_=some _));subst nP
     have cM:o.op=.load 42 (.tmp 22):=by rw[e0]<;>rfl
     have hd:o.dst=some 23:=by rw[e0]<;>rfl
     refine⟨rfl,.inr λx w' hr=>?_⟩;have iR:(execOp a.eval o).run prog w=.ok x w':=hr;obtain⟨rfl,v,rfl⟩:=pw (by rw[cM]) iR;rw[hd];exact⟨v,rfl,.inr (hI.put 8 23 v (by decide) hl (by decide) (by decide) (λh=>absurd h (by decide)) (λh=>absurd h (by decide)) (by decide) (by decide) (by decide))⟩
    |9,i_=>
     have e0:=Option.some.inj (i_.symm.trans (rfl:_=some _));subst nP;exact⟨rfl,.inl λa' w'=>by rw[done (nf 3 (by rw[e0];kernel_rfl))];trivial⟩
    |10,i_=>
     have e0:=Option.some.inj (i_.symm.trans (rfl:_=some _));subst nP;exact⟨rfl,.inl λa' w'=>by rw[done (hI.c9 (nf 9 (by rw[e0];kernel_rfl)))];trivial⟩
    |11,i_=>
     have e0:=Option.some.inj (i_.symm.trans (rfl:_=some _));subst nP;exact⟨rfl,.inl λa' w'=>by rw[done (hI.c9 (hI.c10 (nf 10 (by rw[e0];kernel_rfl))))];trivial⟩
    |12,i_=>
     have e0:=Option.some.inj (i_.symm.trans (rfl:_=some _));subst nP;exact⟨rfl,.inl λa' w'=>by rw[done (hI.c9 (hI.c10 (hI.c11 (nf 11 (by rw[e0];kernel_rfl)))))];trivial⟩
    |k+13,i_=>exact absurd i_ (by simp)
  .obtain⟨s1,s2,h2,s5,h5,s6,dV,bK⟩:=hF;simp only[Rw];simp[s1,s2,h2,s5,h5,s7,dV,bK,bj,an,av,oW];refine CW (k:=94+e) (v:=.int .i64 (qy e s.cells[i])) (by simp[aq]) (by rcases he with rfl|rfl<;>kernel_rfl) (by simp[ev,aq,bR]) (by simpa[ev,aq,fz,fM,oW,AV.vw,AV.bF]using hx) ?_;refine Hw (l:=(bw e s).take i) (x:=qy e s.cells[i]) (by simp only[aG _ _ (show(15:Nat)≠24 by decide),aG _ _ (show(15:Nat)≠23 by decide),aG _ _ (show(15:Nat)≠22 by decide),aG _ _ (show(15:Nat)≠21 by decide),aG _ _ (show(15:Nat)≠20 by decide),aG _ _ (show(15:Nat)≠19 by decide),aG _ _ (show(15:Nat)≠18 by decide),aG _ _ (show(15:Nat)≠17 by decide),aG _ _ (show(15:Nat)≠16 by decide),aJ];exact s6) (aJ _ _ _) (by simp;omega) ?_;intro S' d1 d2;rw[LZ];refine⟨?_,?_,?_,?_,h5,d1,?_,?_⟩
   .rw[d2 1 (by decide)];simp[aq,s1]
   .rw[d2 2 (by decide)];simp[aq,s2]
   .rw[h2]<;>rfl
   .rw[d2 5 (by decide)];simp[aq,s5]
   .rw[d2 11 (by decide)];simp[aq,dV]
   .rw[d2 12 (by decide)];simp[aq,bK]
def RL(hG:aw GI)(s:bo)(hs:s.cells.length<1000)(e:Nat)(he:e=0\/e=1):AC prog GI 39 [g_ s,.int .i64 (e:Nat)] (.ret (vI (bw e s))):=by
 refine AC.rR (o:=if bw e s=[]then .nil else .view) ?_
 refine AC.iL func39 rfl ntmps39 (by simp) λcc w=>Q8 hG s hs e he cc w λS5 H5 s6=>?_
 show SW prog GI 29 none (.seq _ .ret) _ _ _ _;refine SW.pt hG cV (by kernel_rfl) (λ_ _ h=>h) (ac:=ae.qb c39.qb.qb.qb) (by kernel_rfl) ?_
 by_cases h0:bw e s=[]
 .have Nt:S5 6=.slice .nil []:=by rw[s6,h0]<;>rfl
  simp[c39,ae.qb,fH.bD,pv,Nt,h0];exact⟨ea.plain rfl,rfl,rfl⟩
 .have P2:ints (bw e s)≠[]:=by simpa[ints]using h0
  have Nt:S5 6=.slice (.own 3) (ints (bw e s)):=by rw[s6];simp[grow,P2]
  simp[c39,ae.qb,fH.bD,pv,Nt,h0]
  try exact⟨ea.plain rfl,rfl⟩
end Go.Proofs.Tryz
namespace Go.Proofs.Tryz
open Go Go.AL Go.RowKit Go.Proofs Go.Proofs.Tram
attribute [local simp] dI eb dP db dG cI cJ cb cd dE b_ bL fk fj ar ao ev aD.S aD.H a_ aq aH AL.start AV.cells AV.storable AV.bm aR aT ee aZ HR.okB post cn ct cw AV.out AV.bC bz bW fz fM AV.vw bR vI int bG aB cS cg fS gL dL cG aU AV.aA AV.bF
abbrev GT:World->Prop:=λ_=>True
def eN:aw GT:=λ_ _ _ _=>trivial
def rQ(k:List Int):Value:=.agg (dw k)
def er(b:Nat):Value:=.map (some b)
def tU(s:bO)(bM:Nat)(l0:List (List Int×Value))(k:Nat)(w:World):Prop:=
 ∃es clock l,w.heap[bM]?=some (.map es clock)/\kU rQ es l/\Lf s l/\∀x∈l,x∈l0\/∃k' d':Nat,x.1=[(k':Int),(d':Int)]/\k<=k'
def FG(s:bO)(k d bM:Nat)(S:af):Prop:=
 S 3=.val (er bM)/\S 4=.ref (cC s)/\S 5=.ref [.int .i64 (k:Nat)]/\S 6=.ref [.int .i64 (d:Nat)]/\S 9=.ref [.int .i64 (k:Nat),.int .i64 (d:Nat)]
def fY(ops:Array Oper):fP ops (λ_=>true)=true:=by
 unfold fP;rw[Array.all_eq_true'];intro o _
 cases o.dst<;>rfl
def GS(s:bO)(k d bM:Nat)(l0:List (List Int×Value))(wS:World)(o0:Old)(kk:Nat)(E:af->ah->Prop)(a:Act)(w:World):Prop:=
 ∃wB g S H,Rel prog wB 75 bu g S H a w/\g.old=o0/\ft (λb=>b=bM) wS wB/\wB.heap.size=wS.heap.size/\FG s k d bM S/\E S H/\tU s bM l0 kk w
section
variable{s:bO}{k d bM kk:Nat}{l0:List (List Int×Value)}{wS:World}{o0:Old}{E E':af->ah->Prop}{a:Act}{w:World}{Q:Exit->Act->World->Prop}{m:Nat}
def tU.same{w w':World}{k:Nat}(h:tU s bM l0 k w)(he:w'.heap[bM]?=w.heap[bM]?):tU s bM l0 k w':=by
 obtain⟨es,clock,l,h1,h2⟩:=h;exact⟨es,clock,l,by rw[he];exact h1,h2⟩
def GS.region (h:GS s k d bM l0 wS o0 kk E a w) (av:bM < wS.heap.size) (bI:∀ d,¬ o0.bx d) {id:Nat} {ops:Array Oper} {ac:ae} (hc:jV (.region id ops false)=true) (jN:de prog 75 (.region id ops false)=ac)
  (tY:∀S H,FG s k d bM S->E S H->bD prog GT ac (aB λS' H'=>FG s k d bM S'/\E' S' H') S H) (hk:∀a' w',GS s k d bM l0 wS o0 kk E' a' w'->Q .normal a' w'):(Code.region id ops false).wpIn (FR none) m prog Q a w:=by
 obtain⟨wB,g,S,H,R,ho,ht,aI,hF,hE,hM⟩:=h;refine dT R eN trivial cV hc jN (W:=λ_=>true) (fY ops) (by rw[ho];exact bI) (tY S H hF hE) ?_;rintro g' S' H' a' w' iJ R' ⟨hF',CT⟩ _;refine hk a' w' ⟨wB,g',S',H',R',iJ.trans ho,ht,aI,hF',CT,hM.same ?_⟩
 have hb:bM<g.base:=by rw[R.base,aI];exact av
 have fg:bM<g'.base:=by rw[R'.base,aI];exact av
 rw[R'.below.block bM fg,R.below.block bM hb]
def GS.bool(h:GS s k d bM l0 wS o0 kk E a w){t:Nat}(ht:t<75){b:Bool}(hS:∀S H,E S H->S t=.bool b):a.tmps.getD t undef=.bool b:=by
 obtain⟨wB,g,S,H,R,ho,_,aI,hF,hE,hM⟩:=h;have:=R.slot t ht id;rw[hS S H hE]at this;exact this.fB
def GS.fin(h:GS s k d bM l0 wS o0 kk E a w)(hd:o0.ds=[]):a.defers=[]/\ft (λb=>b=bM) wS w/\tU s bM l0 kk w:=by
 obtain⟨wB,g,S,H,R,ho,ht,aI,hF,hE,hM⟩:=h
 have hb:Below wS.heap.size wB w:=by have:=R.below;rwa [R.base,aI]at this
 refine⟨by rw[R.defers,ho];exact hd,⟨hb.os.trans ht.os,hb.tape.trans ht.tape,hb.output.trans ht.output,by rw[<-aI];have:=hb.size;omega,λb av bQ=>(hb.block b av).trans (ht.block b av bQ)⟩,hM⟩
def GS.mono(h:GS s k d bM l0 wS o0 kk E a w)(he:∀S H,E S H->E' S H):GS s k d bM l0 wS o0 kk E' a w:=by
 obtain⟨wB,g,S,H,R,ho,ht,aI,hF,hE,hM⟩:=h;exact⟨wB,g,S,H,R,ho,ht,aI,hF,he S H hE,hM⟩
end
noncomputable def jU:ae:=ae.qb c143.qb.qb.qb
noncomputable def kg:ae:=ae.qa jU
noncomputable def kW:ae:=ae.qb kg.qb
noncomputable def nI:ae:=ae.qb kW.qb.qb
noncomputable def lQ:ae:=ae.qb nI.qb.qb.qa
def ae.vX:ae->ae
 |.cond _ x _=>x
 |c=>c
def tU.YJ{s:bO}{bM:Nat}{l0:List (List Int×Value)}{k k':Nat}{w:World}(h:tU s bM l0 k w)(hk:k'<=k):tU s bM l0 k' w:=by
 obtain⟨es,clock,l,h1,h2,h3,h4⟩:=h;refine⟨es,clock,l,h1,h2,h3,λx hx=>?_⟩
 rcases h4 x hx with h|⟨a,b,e,H_⟩
 .exact .inl h
 .exact .inr ⟨a,b,e,by omega⟩
def t_{wS wB w9 ka:World}{bM k:Nat}{o:Obj}(ht:ft (λb=>b=bM) wS wB)(aI:wB.heap.size=wS.heap.size)(hB:Below k wB w9)(nj:ft (λb=>b=bM) w9 ka):ft (λb=>b=bM) wS (iK wB ka bM o):=by
 refine⟨by simp only[iK];rw[nj.os,hB.os,ht.os],by simp only[iK];rw[nj.tape,hB.tape,ht.tape],by simp only[iK];rw[nj.output,hB.output,ht.output],by simp[iK,aI],λb hb bQ=>?_⟩;simp only[iK];rw[Array.getElem?_setIfInBounds_ne (Ne.symm bQ)];exact ht.block b hb bQ
def Lf.len{s:bO}{l:List (List Int×Value)}(h:Lf s l):∀x∈l,x.1.length=2:=λx hx=>by
 obtain⟨k,d,r,rfl,_⟩:=h x hx
 rfl
def qw(s:bO)(r k d:Nat)(x:Int):Bool:=decide ((d:Int)<x)&&(fU s k d x.toNat true&&fy s r (k+1) x.toNat)
def Oq (s:bO) (hl:s.dY.length≤1000) (hb:lL s) (yA:∀ x∈s.work,0≤x∧x < s.dY.length) (yl:s.work.length≤1000) (jr:s.eG.length≤1000) :
  ∀(r k d:Nat),k+r+1=s.eG.length->d<=s.dY.length->∀(w:World)(Pr:Nat->Nat->Prop)(bM:Nat)(es:Array MapEntry)(clock:Nat)(l:List (List Int×Value))(c0:Value),
   w.heap[bM]?=some (.map es clock)->kU rQ es l->Lf s l->(∀j,¬Pr bM j)->RD Pr w (fb s) c0->
   Calls prog 143 #[c0,.int .i64 (k:Nat),.int .i64 (d:Nat),er bM] w λe w'=>e=.returned (.bool (fy s r k d))/\ft (λb=>b=bM) w w'/\tU s bM l k w':=by
 intro r
 induction r using Nat.strongRecOn with
 |_ r ih=>
 intro k d hk hd w Pr bM es clock l c0 hM iM Nz dZ vH;have av:bM<w.heap.size:=(Array.getElem?_eq_some_iff.1 hM).1
 have Y1:k<s.eG.length:=by omega
 refine(eA (ro:=none) (m:=0)).1 (callsIn_of_wp func143 rfl trivial ?_)
 have R:Rel prog w 75 bu _ (AL.start [fb s,.int .i64 (k:Nat),.int .i64 (d:Nat),.val (er bM)]) (λ_=>none) { tmps:=#[c0,.int .i64 (k:Nat),.int .i64 (d:Nat),er bM]++Array.replicate (f143.ntmps-4) undef,defers:=[] } w:=Rel.begin (old:=Pr) ntmps143 (by simp) rfl (λi h h'=>by
  match i,h with
  |0,_=>exact .data _ _ vH
  |1,_=>exact .data _ _ (.int _ _)
  |2,_=>exact .data _ _ (.int _ _)
  |3,_=>exact .data _ _ (.val _ rfl))
 refine wpIn_seq ?_;refine dT R eN trivial cV (ac:=ae.qa c143) (W:=λ_=>true) (by kernel_rfl) (by kernel_rfl) (fY _) (λ_ h=>h) (K:=λS H=>S 3=.val (er bM)/\S 4=.box 4 0/\H 4=some (cC s)/\S 5=.box 5 0/\H 5=some [.int .i64 (k:Nat)]/\S 6=.box 6 0/\H 6=some [.int .i64 (d:Nat)]) ?_ ?_
 .simp[c143,ae.qa,fb,cC,cK]
 rintro g1 S1 H1 a1 w1 lH R1 ⟨s3,s4,h4,s5,h5,s6,h6⟩ _;show Code.wpIn _ _ _ _ _ a1 w1;refine wpIn_seq ?_;refine dT R1 eN trivial cV (ac:=ae.qa c143.qb) (W:=λ_=>true) (by kernel_rfl) (by kernel_rfl) (fY _) (by rw[lH];exact λ_ h=>h) (K:=λS H=>S 3=.val (er bM)/\S 4=.box 4 0/\H 4=some (cC s)/\S 5=.box 5 0/\H 5=some [.int .i64 (k:Nat)]/\S 6=.box 6 0/\H 6=some [.int .i64 (d:Nat)]/\S 9=.box 9 0/\H 9=some [.int .i64 (k:Nat),.int .i64 (d:Nat)]) ?_ ?_
 .simp[c143,ae.qa,ae.qb,cL,s3,s4,h4,s5,h5,s6,h6]
 rintro g2 S2 H2 a2 w2 oV R2 ⟨s3,s4,h4,s5,h5,s6,h6,s9,h9⟩ _;show Code.wpIn _ _ _ _ _ a2 w2;obtain⟨g21,HK,Y0⟩:=R2.freeze h4 (by rw[oV,lH]<;>rfl);obtain⟨g22,LV,Z5⟩:=Y0.freeze (i:=5) (by rw[aG _ _ (by decide)];exact h5) (by rw[HK,oV,lH]<;>rfl);obtain⟨g23,Nw,Z8⟩:=Z5.freeze (i:=6) (by rw[aG _ _ (by decide),aG _ _ (by decide)];exact h6) (by rw[LV,HK,oV,lH]<;>rfl);obtain⟨g24,Qi,TY⟩:=Z8.freeze (i:=9) (by rw[aG _ _ (by decide),aG _ _ (by decide),aG _ _ (by decide)];exact h9) (by rw[Nw,LV,HK,oV,lH]<;>rfl)
 obtain⟨SF,Su⟩:∃SF:af,SF=λt=>nu 9 [.int .i64 (k:Nat),.int .i64 (d:Nat)] (nu 6 [.int .i64 (d:Nat)] (nu 5 [.int .i64 (k:Nat)] (nu 4 (cC s) (S2 t)))):=⟨_,rfl⟩
 rw[<-Su]at TY
 have hF:FG s k d bM SF:=by
  rw[Su];refine⟨?_,?_,?_,?_,?_⟩
  .simp[nu,s3,aT]
  .simp[nu,s4,aT,cC,cK,vI,AV.aA]
  .simp[nu,s5,aT,AV.aA]
  .simp[nu,s6,aT,AV.aA]
  .simp[nu,s9,aT,AV.aA]
 have hM2:w2.heap[bM]?=some (.map es clock):=by
  rw[R2.below.block bM (by rw[R2.base];exact av)];exact hM
 have og:∃o0,g24.old=o0/\(∀d,¬o0.bx d)/\o0.ds=[]/\o0.c=Pr/\o0.facts=[]:=⟨_,rfl,by rw[Qi,Nw,LV,HK,oV,lH];exact λ_ h=>h,by rw[Qi,Nw,LV,HK,oV,lH]<;>rfl,by rw[Qi,Nw,LV,HK,oV,lH]<;>rfl,by rw[Qi,Nw,LV,HK,oV,lH]<;>rfl⟩
 obtain⟨o0,XP,bI,cD,Pu,hof⟩:=og
 have BO:prog.underlying 232=some (.map 259 4):=by kernel_rfl
 obtain⟨fs,iD⟩:=uZ 259
 have sy:iY prog 10000 259=some 2:=by kernel_rfl
 obtain⟨i4,T6,Uv⟩:=Option.bind_eq_some_iff.1 (show(prog.info? 4).bind (·.zero)=some (.bool false) by kernel_rfl);refine wpIn_seq (wpIn_seq ?_)
 refine lB TY eN trivial (p:=2) (l2:=[2,3,4,5,6,7]) rfl (by kernel_rfl) (by kernel_rfl) (l:=(c143.qb.qb.qa.qa.dl).take 2) (by kernel_rfl) (by decide) (W:=λ_=>true) (fY _) (by rw[XP];exact bI)
  (K:=λS H=>FG s k d bM S/\S 23=.val (er bM)/\S 24=.agg [.int .i64 (k:Nat),.int .i64 (d:Nat)]) ?_ ?_
 .obtain⟨s3,s4,s5,s6,s9⟩:=hF;simp[c143,ae.qa,ae.qb,ae.dl,bg,ar,aM,ao,aD.S,aD.H,ev,aq,aH,FG,s3,s4,s5,s6,s9,aZ,AV.aA,HR.okB]
 clear hF Su;rintro g3 S3 H3 a3 w3 pH R3 ⟨hF,Hk,pP⟩ _;rw[XP]at pH
 have gx:bM<g3.base:=by rw[R3.base];exact av
 have hM3:w3.heap[bM]?=some (.map es clock):=by
  rw[R3.below.block bM gx];exact hM
 have Nf:a3.eval (.tmp 23)=er bM:=by
  have:=R3.slot 23 (by decide) id;rw[Hk]at this;exact this.gp
 have JN:a3.eval (.tmp 24)=.agg (dw [(k:Int),(d:Int)]):=by
  have:=R3.slot 24 (by decide) id;rw[pP]at this;exact sc this
 have look:∃(b1 b2:Bool),(∀o:Oper,o.op=.lookup 232 (.tmp 23) (.tmp 24) true->(execOp a3.eval o).run prog w3=.ok (.value (.tuple #[.bool b1,.bool b2])) w3)/\(b2=true->b1=fy s r k d)/\(b2=false->∀x∈l,x.1≠[(k:Int),(d:Int)]):=by
  have dJ:∀o:Oper,o.op=.lookup 232 (.tmp 23) (.tmp 24) true->_:=λo ho=>vo (P:=prog) (a:=a3) (w:=w3) (t:=232) (x1:=.tmp 23) (x2:=.tmp 24) (key:=[(k:Int),(d:Int)]) ho BO iD sy T6 Uv Nf JN rfl hM3 iM Nz.len
  cases Mr:fq [(k:Int),(d:Int)] l 0 with
  |none=>
   refine⟨false,false,λo ho=>?_,(λh=>by cases h),λ_=>wD Mr⟩;have:=dJ o ho;rw[Mr]at this;exact this
  |some q=>
   obtain⟨j,v⟩:=q;obtain⟨k',d',r',e,TZ⟩:=Nz _ (uC Mr);simp only[Prod.mk.injEq,List.cons.injEq,and_true]at e;obtain⟨⟨e1,e2⟩,rfl⟩:=e
   have e1:k=k':=by omega
   have e2:d=d':=by omega
   subst e1 e2
   have:r'=r:=by omega
   subst this;refine⟨_,true,λo ho=>?_,λ_=>rfl,(λh=>by cases h)⟩;have:=dJ o ho;rw[Mr]at this;exact this
 obtain⟨b1,b2,Mr,l_,iU⟩:=look;refine aK rfl rfl (by rfl) (Mr _ rfl) ?_;show wpOpsIn _ _ _ _ _ [3,4,5,6,7] (a3.put (some 25) (.tuple #[.bool b1,.bool b2])) w3
 have R4:=R3.put 25 (.eS [.bool b1,.bool b2]) (.tuple #[.bool b1,.bool b2]) (by decide) (.data _ _ (.eS _ _ rfl (λi hi ck=>by
  match i,hi with
  |0,_|1,_=>exact .bool _))) trivial
 refine uB R4 eN trivial (l2:=[3,4,5,6,7]) (jC:=[_,_,_,_,_]) rfl (by kernel_rfl) (al:=(c143.qb.qb.qa.qa.dl).drop 3) (by kernel_rfl) (by kernel_rfl) (W:=λ_=>true) (fY _) (by rw[pH];exact bI)
  (K:=λS H=>FG s k d bM S/\S 10=.bool b1/\S 11=.bool b2) ?_ ?_
 .obtain⟨s3,s4,s5,s6,s9⟩:=hF;simp[c143,ae.qa,ae.qb,ae.dl,bg,ar,aM,ao,aD.S,aD.H,ev,aq,aH,FG,s3,s4,s5,s6,s9,aZ,AV.aA,HR.okB,a_]
 clear hF;rintro g5 S5 H5 a5 w5 WN R5 ⟨hF,fu,dV⟩ _;rw[pH]at WN
 have hM5:w5.heap[bM]?=some (.map es clock):=by
  rw[R5.below.block bM (by rw[R5.base];exact av)];exact hM
 have hg:GS s k d bM l w o0 (k+1) (λS _=>S 10=.bool b1/\S 11=.bool b2) a5 w5:=⟨w,g5,S5,H5,R5,WN,ft.refl _ _,rfl,hF,⟨fu,dV⟩,es,clock,l,hM5,iM,Nz,λx hx=>.inl hx⟩
 clear R5 hF fu dV R4 R3 TY Z8 Z5 Y0 R2 R1 R Hk pP Nf JN
 have ret:∀(E:af->ah->Prop)(b:Bool)(a:Act)(w':World)(kk:Nat),GS s k d bM l w o0 kk E a w'->(∀S H,E S H->S 8=.bool b)->k<=kk->b=fy s r k d->bodyPost prog f143 (λe w'=>e=.returned (.bool (fy s r k d))/\ft (λb=>b=bM) w w'/\tU s bM l k w') .ret a w':=by
  intro E b a w' kk h he zc ja;obtain⟨f1,f2,f3⟩:=h.fin cD;refine⟨f1,.bool b,results_tmp results143 (h.bool (by decide) he),by rw[ja],f2,f3.YJ zc⟩
 show Code.wpIn _ _ _ _ _ a5 w5;refine wpIn_seq (hg.region av bI (by kernel_rfl) (ac:=ae.qa c143.qb.qb.qa.qb) (by kernel_rfl) (E':=λS _=>S 28=.bool b2/\S 10=.bool b1) ?_ ?_)
 .rintro S H ⟨s3,s4,s5,s6,s9⟩ ⟨fu,dV⟩;simp[c143,ae.qa,ae.qb,FG,s3,s4,s5,s6,s9,fu,dV]
 intro a6 w6 hg;show Code.wpIn _ _ _ _ _ a6 w6;refine wpIn_cond (t:=b2) (hg.bool (by decide) λ_ _ h=>h.1) ?_
 cases b2 with
 |true=>
  simp only[if_true];refine wpIn_seq (hg.region av bI (by kernel_rfl) (ac:=ae.qa (ae.vX c143.qb.qb.qa.qb.qb)) (by kernel_rfl) (E':=λS _=>S 8=.bool b1) ?_ ?_)
  .rintro S H ⟨s3,s4,s5,s6,s9⟩ ⟨sq,fu⟩;simp[c143,ae.qa,ae.qb,ae.vX,FG,s3,s4,s5,s6,s9,sq,fu]
  intro a7 w7 hg;exact wpIn_ret (ret _ b1 a7 w7 _ hg (λ_ _ h=>h) (by omega) (l_ rfl))
 |false=>
  have AG:=iU rfl;simp only[Bool.false_eq_true,if_false];refine wpIn_skip ?_;show Code.wpIn _ _ _ _ _ a6 w6;refine wpIn_seq (hg.region av bI (by kernel_rfl) (ac:=ae.qa c143.qb.qb.qb) (by kernel_rfl) (E':=λS _=>S 12=.bool false) ?_ ?_)
  .rintro S H ⟨s3,s4,s5,s6,s9⟩ ⟨sq,fu⟩;simp[c143,ae.qa,ae.qb,FG,s3,s4,s5,s6,s9]
  clear hg;intro a7 w7 hg;show Code.wpIn _ _ _ _ _ a7 w7;refine wpIn_seq (wpIn_mono (Q:=λe a w'=>e=.normal/\GS s k d bM l w o0 (k+1) (λS _=>S 12=.bool (fy s r k d)) a w') ?_ ?_)
  .
   refine wpIn_seq (hg.region av bI (by kernel_rfl) (ac:=ae.qa kg) (by kernel_rfl) (E':=λS _=>S 12=.bool false/\S 36=.bool (decide (r=0))) ?_ ?_)
   .rintro S H ⟨s3,s4,s5,s6,s9⟩ bK;have hw:IntKind.i64.wrap ((s.eG.length:Int)-1)=s.eG.length-1:=bf (by omega)
    have hr:((k:Int)=s.eG.length-1)↔r=0:=by omega
    simp[c143,kg,jU,ae.qa,ae.qb,FG,cC,cK,aW,s3,s4,s5,s6,s9,bK,hw];rw[Bool.eq_iff_iff];simp[hr]
   clear hg;intro a8 w8 hg;show Code.wpIn _ _ _ _ _ a8 w8;refine wpIn_cond (t:=decide (r=0)) (hg.bool (by decide) λ_ _ h=>h.2) ?_
   cases r with
   |zero=>
    simp only[decide_true,if_true];obtain⟨c,e',Hd⟩:=Dj eN s (f:=171) (by kernel_rfl) (Ux eN s hl hb Y1 hd);refine wpIn_seq (hg.region av bI (by kernel_rfl) (ac:=ae.qa (ae.vX kg.qb)) (by kernel_rfl) (E':=λS _=>S 14=.int .i64 (if fU s k d s.dY.length false then 0 else 7)) ?_ ?_)
    .rintro S H ⟨s3,s4,s5,s6,s9⟩ ⟨bK,O1⟩;simp[c143,kg,jU,ae.qa,ae.qb,ae.vX,FG,s3,s4,s5,s6,s9];refine⟨_,by kernel_rfl,Hd,by simp[bR,mG],?_⟩;simp[Cy,s3,s4,s5,s6,s9]
    clear hg;intro a9 w9 hg;show Code.wpIn _ _ _ _ _ a9 w9;refine hg.region av bI (by kernel_rfl) (ac:=ae.qb (ae.vX kg.qb)) (by kernel_rfl) (E':=λS _=>S 12=.bool (fy s 0 k d)) ?_ ?_
    .rintro S H ⟨s3,s4,s5,s6,s9⟩ fo;simp only[fy]
     cases eZ:fU s k d s.dY.length false<;>simp[c143,kg,jU,ae.qa,ae.qb,ae.vX,FG,s3,s4,s5,s6,s9,fo,eZ]
    clear hg;intro yk ka hg;exact⟨rfl,hg⟩
   |succ r=>
    simp only[Nat.succ_ne_zero,decide_false,Bool.false_eq_true,if_false];refine wpIn_seq (hg.region av bI (by kernel_rfl) (ac:=ae.qa kW) (by kernel_rfl) (E':=λS _=>S 12=.bool false/\S 46=vI s.work/\S 47=.int .i64 s.work.length/\S 48=.int .i64 (0:Nat)) ?_ ?_)
    .rintro S H ⟨s3,s4,s5,s6,s9⟩ ⟨bK,O1⟩;simp[c143,kW,kg,jU,ae.qa,ae.qb,FG,cC,cK,s3,s4,s5,s6,s9,bK]
    clear hg;intro a9 w9 hg;show Code.wpIn _ _ _ _ _ a9 w9
    obtain⟨EL,wz⟩:∃EL:Nat->af->ah->Prop,EL=λi S _=>S 12=.bool false/\S 46=vI s.work/\S 47=.int .i64 s.work.length/\S 48=.int .i64 (i:Nat):=⟨_,rfl⟩
    have hg:GS s k d bM l w o0 (k+1) (EL 0) a9 w9:=by rw[wz];exact hg
    refine wpIn_block (wpIn_loop (λa w'=>∃i,i<=s.work.length/\GS s k d bM l w o0 (k+1) (EL i) a w'/\∀j (hj:j<s.work.length),j<i->qw s r k d s.work[j]=false) (λa _=>match a.tmps.getD 48 undef with|.int _ i=>s.work.length-i.toNat|_=>0) ⟨0,Nat.zero_le _,hg,λj hj h=>absurd h (Nat.not_lt_zero _)⟩ ?_);clear hg;rintro a wl ⟨i,hi,hg,Kb⟩
    have Um:a.tmps.getD 48 undef=.int .i64 (i:Nat):=by
     obtain⟨wB,g,S,H,R,ho,ht,aI,hF,hE,hM⟩:=hg;rw[wz]at hE;exact eR R (by decide) hE.2.2.2
    refine wpIn_seq (hg.region av bI (by kernel_rfl) (ac:=ae.qa nI) (by kernel_rfl) (E':=λS H=>EL i S H/\S 49=.bool (decide (i<s.work.length))) ?_ ?_)
    .rw[wz];rintro S H ⟨s3,s4,s5,s6,s9⟩ ⟨bK,mD,nX,rH⟩;simp[c143,nI,kW,kg,jU,ae.qa,ae.qb,FG,s3,s4,s5,s6,s9,bK,mD,nX,rH]
    clear hg;intro yk ka hg;show Code.wpIn _ _ _ _ _ yk ka;refine wpIn_seq (wpIn_cond (t:=decide (i<s.work.length)) (hg.bool (by decide) λ_ _ h=>h.2) ?_)
    by_cases km:i<s.work.length
    case neg=>
     simp only[km,decide_false,Bool.false_eq_true,if_false];refine wpIn_exit ?_;refine⟨rfl,hg.mono ?_⟩;rw[wz];rintro S H ⟨⟨bK,_⟩,_⟩;rw[bK]
     have:fy s (r+1) k d=false:=by
      simp only[fy];rw[List.any_eq_false];intro x hx;obtain⟨j,hj,rfl⟩:=List.getElem_of_mem hx;have:=Kb j hj (by omega);unfold qw at this;rw[this];simp
     rw[this]
    case pos=>
     simp only[km,decide_true,if_true];refine wpIn_skip ?_;show Code.wpIn _ _ _ _ _ yk ka
     obtain⟨x,hx⟩:∃x,s.work[i]=x:=⟨_,rfl⟩
     have IF:x∈s.work:=by rw[<-hx];exact List.getElem_mem km
     obtain⟨hx0,hxn⟩:=yA x IF
     obtain⟨xn,rfl⟩:∃xn:Nat,x=xn:=⟨x.toNat,by omega⟩
     refine wpIn_seq (wpIn_block (wpIn_mono (Q:=λe a w'=>((e=.normal\/e=.exit 1)/\GS s k d bM l w o0 (k+1) (EL i) a w'/\qw s r k d xn=false)\/(e=.exit 0/\GS s k d bM l w o0 (k+1) (λS _=>S 12=.bool true) a w'/\qw s r k d xn=true)) ?_ ?_))
     .refine wpIn_seq (hg.region av bI (by kernel_rfl) (ac:=ae.qa lQ) (by kernel_rfl) (E':=λS H=>EL i S H/\S 16=.box 16 0/\H 16=some [.int .i64 (xn:Nat)]) ?_ ?_)
      .rw[wz];rintro S H ⟨s3,s4,s5,s6,s9⟩ ⟨⟨bK,mD,nX,rH⟩,ZW⟩;simp[c143,lQ,nI,kW,kg,jU,ae.qa,ae.qb,FG,s3,s4,s5,s6,s9,bK,mD,nX,rH,km,hx]
      clear hg;intro KW IN hg;show Code.wpIn _ _ _ _ _ KW IN
      have hg:GS s k d bM l w o0 (k+1) (λS H=>EL i S H/\S 16=.ref [.int .i64 (xn:Nat)]) KW IN:=by
       obtain⟨wB,g,S,H,R,ho,ht,aI,⟨s3,s4,s5,s6,s9⟩,⟨hE,uv,OT⟩,hM⟩:=hg;obtain⟨g',og',R'⟩:=R.freeze OT (by rw[ho];exact hof);refine⟨wB,g',_,_,R',og'.trans ho,ht,aI,⟨?_,?_,?_,?_,?_⟩,?_,hM⟩
       .simp[nu,s3,aT]
       .simp[nu,s4,aT]
       .simp[nu,s5,aT]
       .simp[nu,s6,aT]
       .simp[nu,s9,aT]
       .rw[wz]at hE⊢;obtain⟨bK,mD,nX,rH⟩:=hE;simp[nu,bK,mD,nX,rH,uv,aT,vI,AV.aA]
      refine wpIn_seq (wpIn_seq (hg.region av bI (by kernel_rfl) (ac:=ae.qa lQ.qb.qa) (by kernel_rfl) (E':=λS H=>(EL i S H/\S 16=.ref [.int .i64 (xn:Nat)])/\S 54=.bool (decide (xn<=d))) ?_ ?_))
      .rw[wz];rintro S H ⟨s3,s4,s5,s6,s9⟩ ⟨⟨bK,mD,nX,rH⟩,uv⟩;simp[c143,lQ,nI,kW,kg,jU,ae.qa,ae.qb,FG,s3,s4,s5,s6,s9,bK,mD,nX,rH,uv]
      clear hg;intro a12 MW hg;show Code.wpIn _ _ _ _ _ a12 MW;refine wpIn_cond (t:=decide (xn<=d)) (hg.bool (by decide) λ_ _ h=>h.2) ?_
      by_cases hle:xn<=d
      .simp only[hle,decide_true,if_true];refine wpIn_exit (.inl ⟨.inr rfl,hg.mono λ_ _ h=>h.1.1,?_⟩)
       have:¬(d:Int)<xn:=by omega
       simp only[qw,this,decide_false,Bool.false_and]
      simp only[hle,decide_false,Bool.false_eq_true,if_false]
      have TO:(d:Int)<xn:=by omega
      refine wpIn_skip ?_;show Code.wpIn _ _ _ _ _ a12 MW;obtain⟨c,e',Hd⟩:=Dj eN s (f:=172) (by kernel_rfl) (SD eN s hl hb Y1 hd (b:=xn) (by omega));refine wpIn_seq (hg.region av bI (by kernel_rfl) (ac:=ae.qa lQ.qb.qb) (by kernel_rfl) (E':=λS H=>(EL i S H/\S 16=.ref [.int .i64 (xn:Nat)])/\S 18=.int .i64 (if fU s k d xn true then 0 else 7)) ?_ ?_)
      .rw[wz];rintro S H ⟨s3,s4,s5,s6,s9⟩ ⟨⟨⟨bK,mD,nX,rH⟩,uv⟩,Yi⟩;simp[c143,lQ,nI,kW,kg,jU,ae.qa,ae.qb,FG,s3,s4,s5,s6,s9,bK,mD,nX,rH,uv];refine⟨_,by kernel_rfl,Hd,by simp[bR,mG],?_⟩;simp[Cy,s3,s4,s5,s6,s9,bK,mD,nX,rH,uv]
      clear hg;intro a13 Zr hg;show Code.wpIn _ _ _ _ _ a13 Zr
      cases eZ:fU s k d xn true with
      |false=>
       have hp:qw s r k d xn=false:=by
        simp only[qw,Int.toNat_natCast,eZ,Bool.false_and,Bool.and_false]
       refine wpIn_seq (hg.region av bI (by kernel_rfl) (ac:=ae.qa lQ.qb.qb.qb) (by kernel_rfl) (E':=λS H=>EL i S H/\S 69=.bool false) ?_ ?_)
       .rw[wz,eZ];rintro S H ⟨s3,s4,s5,s6,s9⟩ ⟨⟨⟨bK,mD,nX,rH⟩,uv⟩,zZ⟩;simp[c143,lQ,nI,kW,kg,jU,ae.qa,ae.qb,FG,s3,s4,s5,s6,s9,bK,mD,nX,rH,uv,zZ]
       clear hg;intro a14 DC hg;show Code.wpIn _ _ _ _ _ a14 DC;refine wpIn_cond (t:=false) (hg.bool (by decide) λ_ _ h=>h.2) ?_;simp only[Bool.false_eq_true,if_false];exact wpIn_skip (.inl ⟨.inl rfl,hg.mono λ_ _ h=>h.1,hp⟩)
      |true=>
       rw[eZ]at hg;simp only[if_true]at hg;obtain⟨wB,g,S,H,R,ho,ht,aI,hF,⟨⟨hE,uv⟩,zZ⟩,hM⟩:=hg;refine wpIn_seq ?_
       refine lB R eN trivial (p:=8) (l2:=[8,9]) rfl (by kernel_rfl) (by kernel_rfl) (l:=(lQ.qb.qb.qb.qa.dl).take 8) (by kernel_rfl) (by decide) (W:=λ_=>true) (fY _) (by rw[ho];exact bI)
        (K:=λS H=>FG s k d bM S/\EL i S H/\S 62=.bool true/\S 63=fb s/\S 65=.int .i64 ((k+1:Nat):Int)/\S 66=.int .i64 (xn:Nat)/\S 67=.val (er bM)) ?_ ?_
       .rw[wz]at hE⊢;obtain⟨s3,s4,s5,s6,s9⟩:=hF;obtain⟨bK,mD,nX,rH⟩:=hE;have hw:IntKind.i64.wrap ((k:Int)+1)=k+1:=bf (by omega);simp[c143,lQ,nI,kW,kg,jU,ae.qa,ae.qb,ae.dl,bg,ar,aM,ao,aD.S,aD.H,ev,aq,aH,FG,fb,cC,cK,s3,s4,s5,s6,s9,bK,mD,nX,rH,uv,zZ,aZ,AV.aA,ee,hw,vI]
       clear hF hE uv zZ;rintro g9 S9 H9 a9 w9 vG R9 ⟨hF,hE,YB,Qz,s65,s66,s67⟩ _;rw[ho]at vG
       have yF:bM<g9.base:=by rw[R9.base,aI];exact av
       have US:bM<g.base:=by rw[R.base,aI];exact av
       have Lh:=hM.same (show w9.heap[bM]?=Zr.heap[bM]? by rw[R9.below.block bM yF,R.below.block bM US]);obtain⟨Nr,De,l9,m1,m2,m3,m4⟩:=Lh
       have e62:a9.tmps.getD 62 undef=.bool true:=by
        have:=R9.slot 62 (by decide) id;rw[YB]at this;exact this.fB
       have Yh:a9.tmps[62]?=some (.bool true):=by
        have hs:=R9.size
        have h2:a9.tmps[62]?=some (a9.tmps.getD 62 undef):=by simp[hs]
        rw[h2,e62]
       have r63:RD g9.Pr w9 (fb s) (a9.tmps.getD 63 undef):=by
        have:=R9.slot 63 (by decide) id;rw[Qz]at this;exact this.dA rfl
       have e65:a9.tmps.getD 65 undef=.int .i64 ((k+1:Nat):Int):=eR R9 (by decide) s65;have M9:a9.tmps.getD 66 undef=.int .i64 (xn:Nat):=eR R9 (by decide) s66
       have TG:a9.tmps.getD 67 undef=er bM:=by
        have:=R9.slot 67 (by decide) id;rw[s67]at this;exact this.gp
       have jv:=ih r (Nat.lt_succ_self r) (k+1) xn (by omega) (by omega) w9 g9.Pr bM Nr De l9 (a9.tmps.getD 63 undef) m1 m2 m3 (λj hp=>by
        rcases hp with hp|hp
        .rw[vG,Pu]at hp;exact dZ j hp.2
        .omega) r63
       refine xC rfl (by simp[Region.wanted,yielded,rO,Yh]) (by rfl) (fV (k:=143) (args:=#[a9.tmps.getD 63 undef,.int .i64 ((k+1:Nat):Int),.int .i64 (xn:Nat),er bM]) w9 rfl rfl ?_ (by kernel_rfl)) jv ?_
       .simp only[List.map_toArray,List.map_cons,List.map_nil,Act.eval];rw[e65,M9,TG]
       rintro e ka ⟨rfl,nj,Xi⟩;refine⟨_,rfl,?_⟩;obtain⟨X5,Xm,P5,n1,n2,n3,n4⟩:=Xi;have Pg:=R9.Ij nj yF (by rw[vG,Pu];exact dZ) n1;have FI:=Pg.put 68 (.bool (fy s r (k+1) xn)) (.bool (fy s r (k+1) xn)) (by decide) (.data _ _ (.bool _)) trivial
       refine uB FI eN trivial (l2:=[9]) (jC:=[_]) rfl (by kernel_rfl) (al:=(lQ.qb.qb.qb.qa.dl).drop 9) (by kernel_rfl) (by kernel_rfl) (W:=λ_=>true) (fY _) (by rw[vG];exact bI)
        (K:=λS H=>FG s k d bM S/\EL i S H/\S 69=.bool (fy s r (k+1) xn)) ?_ ?_
       .rw[wz]at hE⊢;obtain⟨s3,s4,s5,s6,s9⟩:=hF;obtain⟨bK,mD,nX,rH⟩:=hE;simp[c143,lQ,nI,kW,kg,jU,ae.qa,ae.qb,ae.dl,bg,ar,aM,ao,aD.S,aD.H,ev,aq,aH,FG,s3,s4,s5,s6,s9,bK,mD,nX,rH,YB,AV.aA]
       clear hF hE;rintro g12 QN Qo a12 MW Zf UO ⟨hF,hE,s69⟩ _
       have WU:bM<g12.base:=by rw[UO.base];simp only[iK,Array.size_setIfInBounds];rw[aI];exact av
       have aaz:bM<g9.base:=yF
       have hg:GS s k d bM l w o0 (k+1) (λS H=>EL i S H/\S 69=.bool (fy s r (k+1) xn)) a12 MW:=by
        refine⟨_,g12,QN,Qo,UO,Zf.trans vG,t_ ht aI R9.below nj,by simp[iK,aI],hF,⟨hE,s69⟩,X5,Xm,P5,?_,n2,n3,λx hx=>?_⟩
        .rw[UO.below.block bM WU];simp[iK,aI,av,n1]
        .rcases n4 x hx with h|h
         .exact m4 x h
         .exact .inr h
       show Code.wpIn _ _ _ _ _ a12 MW;refine wpIn_cond (t:=fy s r (k+1) xn) (hg.bool (by decide) λ_ _ h=>h.2) ?_
       cases iE:fy s r (k+1) xn with
       |false=>
        simp only[Bool.false_eq_true,if_false];exact wpIn_skip (.inl ⟨.inl rfl,hg.mono λ_ _ h=>h.1,by simp only[qw,Int.toNat_natCast,iE,Bool.and_false]⟩)
       |true=>
        simp only[if_true];refine wpIn_seq (hg.region av bI (by kernel_rfl) (ac:=ae.qa (ae.vX lQ.qb.qb.qb.qb)) (by kernel_rfl) (E':=λS _=>S 12=.bool true) ?_ ?_)
        .rintro S H ⟨s3,s4,s5,s6,s9⟩ _;simp[c143,lQ,nI,kW,kg,jU,ae.qa,ae.qb,ae.vX,FG,s3,s4,s5,s6,s9]
        clear hg;intro a15 w15 hg;exact wpIn_exit (.inr ⟨rfl,hg,by simp only[qw,Int.toNat_natCast,eZ,iE,TO,decide_true,Bool.and_true]⟩)
     .have hw:IntKind.i64.wrap ((i:Int)+1)=i+1:=bf (by omega);rintro e a2 VK (⟨rfl|rfl,hg,hp⟩|⟨rfl,hg,hp⟩)
      all_goals try
       show Code.wpIn _ _ _ _ _ a2 VK;refine hg.region av bI (by kernel_rfl) (ac:=ae.qb nI.qb.qb) (by kernel_rfl) (E':=EL (i+1)) ?_ ?_
       .rw[wz];rintro S H ⟨s3,s4,s5,s6,s9⟩ ⟨bK,mD,nX,rH⟩;simp[c143,nI,kW,kg,jU,ae.qa,ae.qb,FG,s3,s4,s5,s6,s9,bK,mD,nX,rH,hw]
       .intro MH w16 hg
        have P4:MH.tmps.getD 48 undef=.int .i64 ((i+1:Nat):Int):=by
         obtain⟨wB,g,S,H,R,ho,ht,aI,hF,hE,hM⟩:=hg;rw[wz]at hE;exact eR R (by decide) hE.2.2.2
        refine⟨⟨i+1,by omega,hg,λj hj eE=>?_⟩,?_⟩
        .by_cases sB:j=i
         .subst sB;rw[hx];exact hp
         .exact Kb j hj (by omega)
        .simp only[P4,Um];simp;omega
      .refine⟨rfl,hg.mono ?_⟩;rintro S H bK;rw[bK]
       have:fy s (r+1) k d=true:=by
        simp only[fy];rw[List.any_eq_true];exact⟨_,IF,hp⟩
       rw[this]
  .rintro e a w8 ⟨rfl,hg⟩;show Code.wpIn _ _ _ _ _ a w8;obtain⟨wB,g,S,H,R,ho,ht,aI,hF,bK,hM⟩:=hg;refine wpIn_seq ?_
   refine lB R eN trivial (p:=3) (l2:=[3]) rfl (by kernel_rfl) (by kernel_rfl) (l:=(jU.qb.qa.dl).take 3) (by kernel_rfl) (by decide) (W:=λ_=>true) (fY _) (by rw[ho];exact bI)
    (K:=λS H=>FG s k d bM S/\S 12=.bool (fy s r k d)/\S 71=.val (er bM)/\S 72=.agg [.int .i64 (k:Nat),.int .i64 (d:Nat)]/\S 73=.bool (fy s r k d)) ?_ ?_
   .obtain⟨s3,s4,s5,s6,s9⟩:=hF;simp[c143,jU,ae.qa,ae.qb,ae.dl,bg,ar,aM,ao,aD.S,aD.H,ev,aq,aH,FG,s3,s4,s5,s6,s9,bK,aZ,AV.aA,HR.okB]
   clear hF bK;rintro g9 S9 H9 a9 w9 vG R9 ⟨hF,bK,s71,s72,s73⟩ _;rw[ho]at vG
   have yF:bM<g9.base:=by rw[R9.base,aI];exact av
   have US:bM<g.base:=by rw[R.base,aI];exact av
   have Lh:=hM.same (show w9.heap[bM]?=w8.heap[bM]? by rw[R9.below.block bM yF,R.below.block bM US]);obtain⟨Nr,De,l9,m1,m2,m3,m4⟩:=Lh
   have e71:a9.eval (.tmp 71)=er bM:=by
    have:=R9.slot 71 (by decide) id;rw[s71]at this;exact this.gp
   have e72:a9.eval (.tmp 72)=.agg (dw [(k:Int),(d:Int)]):=by
    have:=R9.slot 72 (by decide) id;rw[s72]at this;exact sc this
   have e73:a9.eval (.tmp 73)=.bool (fy s r k d):=by
    have:=R9.slot 73 (by decide) id;rw[s73]at this;exact this.fB
   have XF:fq [(k:Int),(d:Int)] l9 0=none:=po λx hx=>by
    rcases m4 x hx with h|⟨k',d',e,zc⟩
    .exact AG x h
    .rw[e];intro h;simp only[List.cons.injEq,and_true]at h;omega
   refine dh rfl rfl (by rfl) (vq (t:=232) (x1:=.tmp 71) (x2:=.tmp 72) (x3:=.tmp 73) (key:=[(k:Int),(d:Int)]) rfl BO iD sy e71 e72 rfl m1 m2 m3.len XF) ?_;rw[e73]
   obtain⟨ka,y9⟩:∃ka,w9.putObj bM (.map (Nr.push { key:=.agg (dw [(k:Int),(d:Int)]),val:=.bool (fy s r k d),born:=De }) (De+1))=ka:=⟨_,rfl⟩
   show Code.wpIn _ _ _ _ _ a9 (w9.putObj bM (.map (Nr.push { key:=.agg (dw [(k:Int),(d:Int)]),val:=.bool (fy s r k d),born:=De }) (De+1)));rw[y9];have O4:=(Array.getElem?_eq_some_iff.1 m1).1
   have jK:ka.heap[bM]?=some (.map (Nr.push { key:=.agg (dw [(k:Int),(d:Int)]),val:=.bool (fy s r k d),born:=De }) (De+1)):=by rw[<-y9];exact World.putObj_heap_same O4
   have nj:ft (λb=>b=bM) w9 ka:=by
    rw[<-y9];exact⟨rfl,rfl,rfl,by simp[World.putObj],λb _ hb=>World.putObj_heap_other hb⟩
   have Pg:=R9.Ij nj yF (by rw[vG,Pu];exact dZ) jK
   have hg:GS s k d bM l w o0 k (λS _=>S 12=.bool (fy s r k d)) a9 ka:=by
    refine⟨_,g9,S9,H9,Pg,vG,?_,by simp[iK,aI],hF,bK,_,_,l9++[([(k:Int),(d:Int)],.bool (fy s r k d))],jK,(by exact m2.push [(k:Int),(d:Int)] (.bool (fy s r k d)) De),?_,?_⟩
    .exact t_ ht aI R9.below nj
    .intro x hx;rcases List.mem_append.1 hx with h|h
     .exact m3 x h
     .rw[List.mem_singleton]at h;exact⟨k,d,r,h,hk⟩
    .intro x hx;rcases List.mem_append.1 hx with h|h
     .rcases m4 x h with h|⟨k',d',e,zc⟩
      .exact .inl h
      .exact .inr ⟨k',d',e,by omega⟩
     .rw[List.mem_singleton]at h;exact .inr ⟨k,d,by rw[h],Nat.le_refl _⟩
   refine wpIn_seq (hg.region av bI (by kernel_rfl) (ac:=ae.qa jU.qb.qb) (by kernel_rfl) (E':=λS _=>S 8=.bool (fy s r k d)) ?_ ?_)
   .rintro S H ⟨s3,s4,s5,s6,s9⟩ bK;simp[c143,jU,ae.qa,ae.qb,FG,s3,s4,s5,s6,s9,bK]
   clear hg;intro KW IN hg;exact wpIn_ret (ret _ _ KW IN _ hg (λ_ _ h=>h) (Nat.le_refl _) rfl)
end Go.Proofs.Tryz
namespace Go.Proofs.Tryz
open Go Go.AL Go.RowKit Go.Proofs Go.Proofs.Tram
def DM {bE:Nat} {u:Value} {ty:TypeId} (w:World) (hE:w.heap[bE]? = some (.cells #[u] ty (0,0))) (n:Int) :
    CallsD prog 150 #[.pointer (some ⟨bE,0,none⟩)] (.panicking [{ v := .iface 241 (.agg #[.int .i64 n]),recovered:=false }]) w fun e u' w' =>
      e=.returned (.tuple #[])/\u'=.panicking [{ v:=.iface 241 (.agg #[.int .i64 n]),recovered:=true }]/\∃w1,Below w.heap.size w w1/\w'=w1.setRow bE #[.int .i64 7]:=by
  refine callsD_of_wpS func150 rfl λtJ cs hu=>?_
  apply wpS_seq;apply wpS_region;simp[wpOpsS,go_sem,recoverD,hu,ntmps150,Exit.thenS];refine wpS_of_wp ?_;refine(gz (m:=0)).1 ?_;refine fc (λa=>a.tmps.size=14/\a.defers=[]/\a.tmps.getD 0 undef=.pointer (some ⟨bE,0,none⟩)/\a.tmps.getD 5 undef=.iface 241 (.agg #[.int .i64 n])) ⟨by simp,rfl,by simp,by simp⟩ ?_;rintro a ⟨aI,cD,h0,h5⟩;have av:=(Array.getElem?_eq_some_iff.1 hE).1;refine wpIn_block (wpIn_seq (wpIn_region ?_));show wpOpsIn _ _ _ _ _ [0] a w;refine aK rfl rfl (by rfl) (oL (x:=.tmp 5) w rfl h5) ?_;show Code.wpIn _ _ _ _ _ (a.put (some 7) (.bool false)) w
  have h7:(a.put (some 7) (.bool false)).tmps.getD 7 undef=.bool false:=by simp[Act.put,aI]
  refine wpIn_cond (t:=false) h7 ?_;simp only[Bool.false_eq_true,if_false];refine fc (λa=>a.tmps.size=14/\a.defers=[]/\a.tmps.getD 0 undef=.pointer (some ⟨bE,0,none⟩)/\a.tmps.getD 5 undef=.iface 241 (.agg #[.int .i64 n])) ⟨by simp[Act.put,aI],cD,by simpa[Act.put,Array.getElem?_setIfInBounds_ne]using h0,by simpa[Act.put,Array.getElem?_setIfInBounds_ne]using h5⟩ ?_;clear h7 h5 h0 cD aI a;rintro a ⟨aI,cD,h0,h5⟩
  have hS:∀ (a:Act) (w:World),a.tmps.getD 5 undef = .iface 241 (.agg #[.int .i64 n])→∀ t,t < 14→((fun t=>if t=5 then AV.iface 241 (.agg [.int .i64 n]) else AV.bh:af) t).aA=(fun t=>if t=5 then AV.iface 241 (.agg [.int .i64 n]) else AV.bh:af) t ∧
      RV (λ_ _=>True) bU w ((λt=>if t=5 then AV.iface 241 (.agg [.int .i64 n])else AV.bh:af) t) (a.tmps.getD t undef):=by
    intro a w h5 t ht
    by_cases h:t=5
    . subst h
      rw[h5];refine⟨rfl,.data _ _ (.iface _ _ _ (.agg _ _ rfl (λi hi=>?_) (λi hi ck=>?_)))⟩
      . have:i=0:=by simpa using hi
        subst this;rfl
      . have:i=0:=by simpa using hi
        subst this;exact .int _ _
    . simp only[h,if_false];exact⟨rfl,.bh _⟩
  refine wpIn_seq ?_;refine dK (GI:=λ_=>True) (λ_ _ _ _=>trivial) cV (ac:=ae.qa c150.qb.qb.qb.qb) (W:=λt=>decide (8<=t)) (by kernel_rfl) (by kernel_rfl) (by kernel_rfl) trivial (λ_ _=>True) _ aI cD (hS a w h5) (K:=λS' _=>S' 9=.bool true/\S' 10=.agg [.int .i64 n]) ?_ ?_
  . simp[c150,ae.qa,ae.qb,bD,bg,ar,aM,ao,aB,aD.S,aD.H,ev,aq,aH,AV.aA]
  rintro g S' H' a' w' hg R1 ⟨h9,jK⟩ aY;have t9:=R1.slot 9 (by decide) (λh=>h);rw[h9]at t9;have t9:=t9.fB;have t10:=R1.slot 10 (by decide) (λh=>h);rw[jK]at t10
  have b1:Below w.heap.size w w':=by have:=R1.below;rwa [R1.base]at this
  show Code.wpIn _ _ _ _ _ a' w';refine wpIn_cond (t:=true) t9 ?_;simp only[if_true];refine wpIn_seq ?_;refine dT R1 (GI:=λ_=>True) (λ_ _ _ _=>trivial) trivial cV (ac:=ae.qa c150.qb.qb.qb.qb.qb.qa) (W:=λt=>decide (1<=t)) (by kernel_rfl) (by kernel_rfl) (by kernel_rfl) (by rw[hg];exact λ_ h=>h) (K:=λ_ _=>True) ?_ ?_
  . simp[c150,ae.qa,ae.qb,bD,bg,ar,aM,ao,aB,aD.S,aD.H,ev,aq,aH,AV.aA,jK,aT,HR.okB,AV.cells,AV.storable,aR,AV.bm,a_]
  rintro g2 S2 H2 a2 w2 n9 R2 _ gM
  have b2:Below w.heap.size w w2:=by have:=R2.below;rwa [R2.base]at this
  have e0:a2.tmps.getD 0 undef=.pointer (some ⟨bE,0,none⟩):=(gM 0 rfl).trans ((aY 0 rfl).trans h0);have C1:w2.heap[bE]?=some (.cells #[u] ty (0,0)):=(b2.block bE av).trans hE;obtain⟨i36,mT,nk⟩:=iZ 43 1;show Code.wpIn _ _ _ _ _ a2 w2;refine wpIn_region ?_;show wpOpsIn _ _ _ _ _ [0] a2 w2;refine dh rfl rfl (by rfl) (gK (x:=.tmp 0) (y:=.const (.int .i64 7)) (v:=.int .i64 7) rfl e0 mT nk C1 rfl rfl) ?_;refine⟨by show a2.defers=[];rw[R2.defers,n9,hg]<;>rfl,_,rfl,.tuple #[],?_,rfl,rfl,w2,b2,rfl⟩;simp[results,results150]
def Ep {bE:Nat} {u:Value} {ty:TypeId} (w:World) (hE:w.heap[bE]? = some (.cells #[u] ty (0,0))) (n:List UInt8) :
    CallsD prog 150 #[.pointer (some ⟨bE,0,none⟩)] (.panicking [{ v := .iface 243 (.agg #[.string ⟨n.toArray⟩]),recovered:=false }]) w fun e u' w' =>
      e=.returned (.tuple #[])/\u'=.panicking [{ v:=.iface 243 (.agg #[.string ⟨n.toArray⟩]),recovered:=true }]/\∃w1,Below w.heap.size w w1/\w'=w1.setRow bE #[.int .i64 4]:=by
  refine callsD_of_wpS func150 rfl λtJ cs hu=>?_
  apply wpS_seq;apply wpS_region;simp[wpOpsS,go_sem,recoverD,hu,ntmps150,Exit.thenS];refine wpS_of_wp ?_;refine(gz (m:=0)).1 ?_;refine fc (λa=>a.tmps.size=14/\a.defers=[]/\a.tmps.getD 0 undef=.pointer (some ⟨bE,0,none⟩)/\a.tmps.getD 5 undef=.iface 243 (.agg #[.string ⟨n.toArray⟩])) ⟨by simp,rfl,by simp,by simp⟩ ?_;rintro a ⟨aI,cD,h0,h5⟩;have av:=(Array.getElem?_eq_some_iff.1 hE).1;refine wpIn_block (wpIn_seq (wpIn_region ?_));show wpOpsIn _ _ _ _ _ [0] a w;refine aK rfl rfl (by rfl) (oL (x:=.tmp 5) w rfl h5) ?_;show Code.wpIn _ _ _ _ _ (a.put (some 7) (.bool false)) w
  have h7:(a.put (some 7) (.bool false)).tmps.getD 7 undef=.bool false:=by simp[Act.put,aI]
  refine wpIn_cond (t:=false) h7 ?_;simp only[Bool.false_eq_true,if_false];refine fc (λa=>a.tmps.size=14/\a.defers=[]/\a.tmps.getD 0 undef=.pointer (some ⟨bE,0,none⟩)/\a.tmps.getD 5 undef=.iface 243 (.agg #[.string ⟨n.toArray⟩])) ⟨by simp[Act.put,aI],cD,by simpa[Act.put,Array.getElem?_setIfInBounds_ne]using h0,by simpa[Act.put,Array.getElem?_setIfInBounds_ne]using h5⟩ ?_;clear h7 h5 h0 cD aI a;rintro a ⟨aI,cD,h0,h5⟩
  have hS:∀ (a:Act) (w:World),a.tmps.getD 5 undef = .iface 243 (.agg #[.string ⟨n.toArray⟩])→∀ t,t < 14→((fun t=>if t=5 then AV.iface 243 (.agg [.str n]) else AV.bh:af) t).aA=(fun t=>if t=5 then AV.iface 243 (.agg [.str n]) else AV.bh:af) t ∧
      RV (λ_ _=>True) bU w ((λt=>if t=5 then AV.iface 243 (.agg [.str n])else AV.bh:af) t) (a.tmps.getD t undef):=by
    intro a w h5 t ht
    by_cases h:t=5
    . subst h
      rw[h5];refine⟨rfl,.data _ _ (.iface _ _ _ (.agg _ _ rfl (λi hi=>?_) (λi hi ck=>?_)))⟩
      . have:i=0:=by simpa using hi
        subst this;rfl
      . have:i=0:=by simpa using hi
        subst this;exact .str _
    . simp only[h,if_false];exact⟨rfl,.bh _⟩
  refine wpIn_seq ?_;refine dK (GI:=λ_=>True) (λ_ _ _ _=>trivial) cV (ac:=ae.qa c150.qb.qb.qb.qb) (W:=λt=>decide (8<=t)) (by kernel_rfl) (by kernel_rfl) (by kernel_rfl) trivial (λ_ _=>True) _ aI cD (hS a w h5) (K:=λS' _=>S' 9=.bool false/\S' 5=.iface 243 (.agg [.str n])) ?_ ?_
  . simp[c150,ae.qa,ae.qb,bD,bg,ar,aM,ao,aB,aD.S,aD.H,ev,aq,aH,AV.aA]
  rintro g0 S0 H0 a0 Tl ER R0 ⟨LO,Vz⟩ EO;have t90:=R0.slot 9 (by decide) (λh=>h);rw[LO]at t90;have t90:=t90.fB;show Code.wpIn _ _ _ _ _ a0 Tl;refine wpIn_cond (t:=false) t90 ?_;simp only[Bool.false_eq_true,if_false];refine wpIn_seq ?_;refine dT R0 (GI:=λ_=>True) (λ_ _ _ _=>trivial) trivial cV (ac:=ae.qa c150.qb.qb.qb.qb.qb.qb) (W:=λt=>decide (8<=t)) (by kernel_rfl) (by kernel_rfl) (by kernel_rfl) (by rw[ER];exact λ_ h=>h) (K:=λS' _=>S' 12=.bool true/\S' 13=.agg [.str n]) ?_ ?_
  . simp[c150,ae.qa,ae.qb,bD,bg,ar,aM,ao,aB,aD.S,aD.H,ev,aq,aH,AV.aA,Vz]
  rintro g S' H' a' w' hg R1 ⟨h9,jK⟩ Dy;have aY:=EO.trans Dy;rw[ER]at hg;have t9:=R1.slot 12 (by decide) (λh=>h);rw[h9]at t9;have t9:=t9.fB;have t10:=R1.slot 13 (by decide) (λh=>h);rw[jK]at t10
  have b1:Below w.heap.size w w':=by have:=R1.below;rwa [R1.base]at this
  show Code.wpIn _ _ _ _ _ a' w';refine wpIn_cond (t:=true) t9 ?_;simp only[if_true];refine wpIn_seq ?_;refine dT R1 (GI:=λ_=>True) (λ_ _ _ _=>trivial) trivial cV (ac:=ae.qa c150.qb.qb.qb.qb.qb.qb.qb.qa) (W:=λt=>decide (1<=t)) (by kernel_rfl) (by kernel_rfl) (by kernel_rfl) (by rw[hg];exact λ_ h=>h) (K:=λ_ _=>True) ?_ ?_
  . simp[c150,ae.qa,ae.qb,bD,bg,ar,aM,ao,aB,aD.S,aD.H,ev,aq,aH,AV.aA,jK,aT,HR.okB,AV.cells,AV.storable,aR,AV.bm,a_]
  rintro g2 S2 H2 a2 w2 n9 R2 _ gM
  have b2:Below w.heap.size w w2:=by have:=R2.below;rwa [R2.base]at this
  have e0:a2.tmps.getD 0 undef=.pointer (some ⟨bE,0,none⟩):=(gM 0 rfl).trans ((aY 0 rfl).trans h0);have C1:w2.heap[bE]?=some (.cells #[u] ty (0,0)):=(b2.block bE av).trans hE;obtain⟨i36,mT,nk⟩:=iZ 43 1;show Code.wpIn _ _ _ _ _ a2 w2;refine wpIn_region ?_;show wpOpsIn _ _ _ _ _ [0] a2 w2;refine dh rfl rfl (by rfl) (gK (x:=.tmp 0) (y:=.const (.int .i64 4)) (v:=.int .i64 4) rfl e0 mT nk C1 rfl rfl) ?_;refine⟨by show a2.defers=[];rw[R2.defers,n9,hg]<;>rfl,_,rfl,.tuple #[],?_,rfl,rfl,w2,b2,rfl⟩;simp[results,results150]
def Es (p:Addr) (w:World) :
    CallsD prog 150 #[.pointer (some p)] .returning w λe u' w'=>e=.returned (.tuple #[])/\u'=.returning/\w'=w:=by
  refine callsD_of_wpS func150 rfl λtJ cs hu=>?_
  apply wpS_seq;apply wpS_region;simp[wpOpsS,go_sem,recoverD,hu,ntmps150,Exit.thenS];refine wpS_of_wp ?_
  go_wp2
  cases tJ
  simp_all[bodyPostS,results,results150]
def KE {a:Act} {w:World} {b:Nat} {v:Value} {ty:TypeId} (h2:a.tmps.getD 2 undef = .pointer (some ⟨b,0,none⟩)) (h:w.heap[b]? = some (.cells #[v] ty (0,0))):(results f87 a.tmps).run prog w = .ok v w:=by
  obtain⟨d,yt,pR⟩:=vZ 43
  have jL:(isAgg 43).run prog w = .ok false w:=by
    unfold isAgg;rw[Sem.run_bind,run_underlying yt w]
    cases d<;>simp_all[eB]
  have hl:(loadVar 43 ⟨b,0,none⟩).run prog w = .ok v w:=by
    simp[loadVar,Sem.run_bind,jL,World.cell?,h]
  have hr:f87.results=#[.cell 2 43]:=rfl
  have Ez:a.tmps[2]?.getD undef=.pointer (some ⟨b,0,none⟩):=by rw[<-h2];simp
  simp[results,hr,Ez,asAddr,hl]
def rD {k:Nat} {us:Array Value} {w:World} {R1 R:Ending→World→Prop} (lF:dz prog k=true) (hc:Calls prog k us (w.alloc (.cells #[.int .i64 0] 43)) R1)
    (h:∀ e w2,R1 e w2→w.heap.size < w2.heap.size∧(∃ u ty,w2.heap[w.heap.size]? = some (.cells #[u] ty (0,0))) ∧
      ((∃c,e=.returned c/\R (.returned (.int .i64 0)) (w2.setRow w.heap.size #[.int .i64 0]))\/
       (∃n,e=.panicked [{ v:=.iface 241 (.agg #[.int .i64 n]),recovered:=false }]/\∀w3,Below w2.heap.size w2 w3->R (.returned (.int .i64 7)) (w3.setRow w.heap.size #[.int .i64 7]))\/
       (∃s:List UInt8,e=.panicked [{ v:=.iface 243 (.agg #[.string ⟨s.toArray⟩]),recovered:=false }]/\∀w3,Below w2.heap.size w2 w3->R (.returned (.int .i64 4)) (w3.setRow w.heap.size #[.int .i64 4])))):
    Calls prog 87 #[.func (.func k) #[] us] w R:=by
  refine calls_of_wp_defers func87 rfl ?_;refine(gz (m:=0)).1 ?_;refine fc (λa=>a.tmps.size=6/\a.defers=[]/\a.tmps.getD 0 undef=.func (.func k) #[] us) ⟨by simp[ntmps87],rfl,ef _ _ 0 (by simp)⟩ ?_;rintro a ⟨aI,cD,h0⟩
  obtain⟨bE,Nx⟩:∃bE,w.heap.size=bE:=⟨_,rfl⟩
  have cz:∀ (a:Act) (d t:Nat) (c:Value),t≠d→(a.put (some d) c).tmps.getD t undef=a.tmps.getD t undef:=fun a d t c h=>by
    simp[Act.put,Array.getElem?_setIfInBounds_ne (Ne.symm h)]
  have eO:∀ (a:Act) (d:Nat) (c:Value),a.tmps.size=6→d < 6→(a.put (some d) c).tmps.getD d undef=c:=fun a d c h hd=>by
    simp[Act.put,h,hd]
  have fJ:∀(a:Act)(d:Option Nat)(c:Value),(a.put d c).tmps.size=a.tmps.size:=λa d c=>by cases d<;>simp[Act.put]
  refine wpIn_seq (wpIn_region ?_);show wpOpsIn _ _ _ _ _ [0] a w;refine aK rfl rfl (by rfl) (ju (t:=43) (z:=.int .i64 0) rfl (by kernel_rfl)) ?_;show Code.wpIn _ _ _ _ _ (a.put (some 2) (.pointer (some ⟨w.heap.size,0,none⟩))) (w.alloc (.cells #[.int .i64 0] 43));rw[Nx]at h;simp only[Nx]
  obtain⟨w1,ig⟩:∃w1,w.alloc (.cells #[.int .i64 0] 43)=w1:=⟨_,rfl⟩
  rw[ig]at hc⊢;refine fc (λa=>a.tmps.size=6/\a.defers=[]/\a.tmps.getD 0 undef=.func (.func k) #[] us/\a.tmps.getD 2 undef=.pointer (some ⟨bE,0,none⟩)) ⟨by rw[fJ];exact aI,cD,by rw[cz _ _ _ _ (by decide)];exact h0,eO _ _ _ aI (by decide)⟩ ?_;clear h0 cD aI a;rintro a ⟨aI,cD,h0,h2⟩;refine wpIn_seq (wpIn_region ?_);show wpOpsIn _ _ _ _ _ [0,1] a w1;refine aK rfl rfl (by rfl) (oB (fn:=.func 150) (c:=#[.tmp 2]) rfl) ?_
  have dX:(#[Operand.tmp 2].map a.eval) = #[.pointer (some ⟨bE,0,none⟩)]:=by
    simp only[List.map_toArray,List.map_cons,List.map_nil,Act.eval];rw[h2]
  rw[dX];show wpOpsIn _ _ _ _ _ [1] (a.put (some 3) (.func (.func 150) #[] #[.pointer (some ⟨bE,0,none⟩)])) w1
  obtain⟨a2,gu⟩:∃a2,a.put (some 3) (.func (.func 150) #[] #[.pointer (some ⟨bE,0,none⟩)])=a2:=⟨_,rfl⟩
  rw[gu]
  have z2:a2.tmps.size=6:=by rw[<-gu,fJ];exact aI
  have u3:a2.tmps.getD 3 undef=.func (.func 150) #[] #[.pointer (some ⟨bE,0,none⟩)]:=by rw[<-gu];exact eO _ _ _ aI (by decide)
  have u0:a2.tmps.getD 0 undef=.func (.func k) #[] us:=by rw[<-gu,cz _ _ _ _ (by decide)];exact h0
  have u2:a2.tmps.getD 2 undef=.pointer (some ⟨bE,0,none⟩):=by rw[<-gu,cz _ _ _ _ (by decide)];exact h2
  have ud:a2.defers=[]:=by rw[<-gu];exact cD
  refine so rfl rfl (d:={ target:=.fn (.func 150) #[.pointer (some ⟨bE,0,none⟩)],args:=#[] }) (w':=w1) ?_ ?_
  . unfold execOp
    simp[eu,Deferred.ofValue,Act.eval,u3]
  have Hu:∀ (w:World),(invoke (.fn (.func 150) #[.pointer (some ⟨bE,0,none⟩)]) #[]).run prog w = .ok (.enter 150 #[.pointer (some ⟨bE,0,none⟩)]) w:=fun w=>by
    simp[invoke,fC (P:=prog) (f:=150) (by kernel_rfl)]
  show Code.wpIn _ _ _ _ _ { a2 with defers:={ target:=.fn (.func 150) #[.pointer (some ⟨bE,0,none⟩)],args:=#[] }::a2.defers } w1;refine fc (λa=>a.tmps.size=6/\a.defers=[{ target:=.fn (.func 150) #[.pointer (some ⟨bE,0,none⟩)],args:=#[] }]/\a.tmps.getD 0 undef=.func (.func k) #[] us/\a.tmps.getD 2 undef=.pointer (some ⟨bE,0,none⟩)) ⟨z2,by show _::a2.defers=_;rw[ud],u0,u2⟩ ?_;clear u0 u2 u3 ud z2 gu a2 h0 h2 cD aI dX a;rintro a ⟨aI,cD,h0,h2⟩;refine wpIn_seq (wpIn_region ?_);show wpOpsIn _ _ _ _ _ [0,1] a w1;refine aK rfl rfl (by rfl) (run_move (x:=.tmp 0) w1 rfl) ?_;have e0:a.eval (.tmp 0)=.func (.func k) #[] us:=h0;rw[e0];show wpOpsIn _ _ _ _ _ [1] (a.put (some 4) (.func (.func k) #[] us)) w1
  obtain⟨a2,gu⟩:∃a2,a.put (some 4) (.func (.func k) #[] us)=a2:=⟨_,rfl⟩
  rw[gu]
  have z2:a2.tmps.size=6:=by rw[<-gu,fJ];exact aI
  have u4:a2.eval (.tmp 4)=.func (.func k) #[] us:=by show a2.tmps.getD 4 undef=_;rw[<-gu];exact eO _ _ _ aI (by decide)
  have u2:a2.tmps.getD 2 undef=.pointer (some ⟨bE,0,none⟩):=by rw[<-gu,cz _ _ _ _ (by decide)];exact h2
  have ud:a2.defers=[{ target:=.fn (.func 150) #[.pointer (some ⟨bE,0,none⟩)],args:=#[] }]:=by rw[<-gu];exact cD
  refine pk rfl rfl (by rfl) (mY (f:=.tmp 4) w1 rfl rfl rfl u4 lF) hc ?_;intro e w2 he;obtain⟨av,⟨uE,Tv,hE⟩,nF⟩:=h e w2 he
  have rL:∀ {args:Array Value} {u:FrameMode} {w:World} {R R':Ending→FrameMode→World→Prop},CallsD prog 150 args u w R→(∀ e u w,R e u w→R' e u w)→CallsD prog 150 args u w R':=fun h hr c cs hu =>
    let⟨e,u',w',fr,r,rest⟩:=h c cs hu;⟨e,u',w',fr,hr _ _ _ r,rest⟩
  have vD:∀ (p:PanicEntry) (v:Value) (hv:CallsD prog 150 #[.pointer (some ⟨bE,0,none⟩)] (.panicking [p]) w2 fun e u' w'=>e = .returned (.tuple #[])∧u' = .panicking [{ p with recovered:=true }]∧∃ w1,Below w2.heap.size w2 w1∧w'=w1.setRow bE #[v]),
      p.goexit=false->(∀w3,Below w2.heap.size w2 w3->R (.returned v) (w3.setRow bE #[v]))->Leaves prog f87 a2.tmps R a2.defers (.panicking [p]) w2:=by
    intro p v hv iE hR;rw[ud];refine leaves_cons (by simp) (Hu w2) (rL hv ?_);rintro e u' w' ⟨rfl,rfl,w3,oA,rfl⟩;have On:w3.heap[bE]?=some (.cells #[uE] Tv (0,0)):=(oA.block bE av).trans hE;show Leaves prog f87 a2.tmps R [] .returning (w3.setRow bE #[v]);exact⟨v,KE u2 (yK On),hR w3 oA⟩
  rcases nF with⟨c,rfl,hR⟩|⟨n,rfl,hR⟩|⟨s,rfl,hR⟩
  . show Code.wpIn _ _ _ _ _ (a2.put (some 5) c) w2
    have N6:(a2.put (some 5) c).tmps.getD 2 undef=.pointer (some ⟨bE,0,none⟩):=by rw[cz _ _ _ _ (by decide)];exact u2
    refine wpIn_seq (wpIn_region ?_);show wpOpsIn _ _ _ _ _ [0] (a2.put (some 5) c) w2;obtain⟨i36,mT,nk⟩:=iZ 43 1;refine dh rfl rfl (by rfl) (gK (x:=.tmp 2) (y:=.const (.int .i64 0)) (v:=.int .i64 0) rfl N6 mT nk hE rfl rfl) ?_;show Code.wpIn _ _ _ _ _ (a2.put (some 5) c) (w2.setRow bE #[.int .i64 0]);refine wpIn_ret ?_;show Leaves prog f87 (a2.put (some 5) c).tmps R a2.defers .returning (w2.setRow bE #[.int .i64 0]);rw[ud];refine leaves_cons (by simp) (Hu _) (rL (Es _ _) ?_);rintro e u' w' ⟨rfl,rfl,rfl⟩;exact⟨_,KE N6 (yK hE),hR⟩
  . exact vD _ _ (DM w2 hE n) rfl hR
  . exact vD _ _ (Ep w2 hE s) rfl hR
def nH(s:bO)(r:Nat)(now:List Int)(x:Int):Bool:=
 (match now.getLast? with|none=>true|some d=>decide (d<x))&&(fy s r now.length x.toNat&&(match now.getLast? with|none=>true|some d=>fU s (now.length-1) d.toNat x.toNat true))
def kA(s:bO):Nat->List Int->List (List Int)
 |0,now=>[now]
 |r+1,now=>s.work.flatMap λx=>if nH s r now x then kA s r (now++[x])else[]
def UG (s:bO) (hl:s.dY.length≤1000) (hb:lL s) {now:List Int} {d x:Nat} (hn:now.length≤s.eG.length) (jr:s.eG.length≤1000) (Na:now.getLast? = some (d:Int)) (hd:d≤s.dY.length) (hx:x≤s.dY.length) :
  AC prog GT 144 [.ref (cC s),.ref [.int .i64 now.length],.ref [vI now],.ref [.int .i64 (x:Nat)]] (lM s (now.length-1) d x true):=by
 have bQ:now≠[]:=by rintro rfl;cases Na
 have iy:0<now.length:=by cases now with|nil=>exact absurd rfl bQ|cons _ _=>simp
 have hw:IntKind.i64.wrap ((now.length:Int)-1)=((now.length-1:Nat):Int):=by rw[bf (by omega)];omega
 have hg:now[now.length-1]?=some (d:Int):=by rw[<-Na,List.getLast?_eq_getElem?]
 have E8:now[now.length-1]'(by omega)=(d:Int):=by
  rw[List.getElem?_eq_getElem (by omega)]at hg;exact Option.some.inj hg
 have h:=N' eN s hl hb true (k:=now.length-1) (by omega) hd hx
 have n1:¬((now.length-1:Nat):Int)<0:=by omega
 have n2:now.length-1<now.length:=by omega
 have n3:((now.length:Int)-1).toNat=now.length-1:=by omega
 refine AC.iL func144 rfl ntmps144 (by simp) λcc w=>?_
 refine SW.Us eN cV [9] [0,1,2,3,4,5,6,7,8,9] (by kernel_rfl) (by kernel_rfl) (l:=ae.dl c144) (by kernel_rfl) (((ae.dl c144).take 9).map (λo=>(false,o))++((true,⟨some 13,none,.call 84 [.t 4,.t 6,.t 11,.t 12,.c (.bool true)]⟩)::(([]:List bl).map λo=>(false,o)))) rfl ?_;refine qP _ ?_;simp[c144,ae.dl,dc,ar,fL,aM,ao,aD.S,aD.H,ev,aq,aH,AL.start,aZ,AV.aA,ee,hw,cC,cK,vI,ints,n2,E8,n1];refine Hp (by simp[ev,aq,bR,AV.aA]) (by kernel_rfl) (by simpa[ev,aq,fz,fM,fb,cC,cK,vI,ints,AV.vw,AV.bF,AV.aA]using h) ?_
 rcases lX s (now.length-1) d x true with⟨_,e⟩|⟨_,r,e⟩
 .rw[e];refine Ip [] ?_;simp only[dc,pv];exact⟨ea.plain rfl,rfl,_,rfl,rfl⟩
 .rw[e];exact⟨rfl,rfl,rfl⟩
variable{l:Nat}{xs:List AV}
structure pD(C:Cons prog GT l xs)(s:bO) where
 bN:Nat
 bM:Nat
 bX:Nat
 oX:Nat
 fx:Nat->Value
 cY:Value
 cP:Value
 cR:Value
 MI:Nat->Prop
 wI:World
 hY:RV (λb _=>MI b) bU wI (.ref [.val (.func (.yield l) #[] #[])]) cY
 hP:RV (λb _=>MI b) bU wI (.ref [.val (er bM)]) cP
 hR:RV (λb _=>MI b) bU wI (.ref [.val (.func (.func 142) #[] #[.pointer (some ⟨bN,0,none⟩),.pointer (some ⟨bX,oX,none⟩),cY,cP,cR])]) cR
 ne:bM≠bN
variable{C:Cons prog GT l xs}{s:bO}
structure js(X:pD C s)(k:Nat)(M:Nat->Prop)(Pr:Nat->Nat->Prop)(now:List Int)(w:World):Prop where
 j:C.J k M Pr w
 lt:∀b,M b->b<w.heap.size
 mi:∀b,X.MI b->M b/\b≠X.bN/\b≠X.bM/\w.heap[b]?=X.wI.heap[b]?
 now:∃v ty j5,w.heap[X.bN]?=some (.cells #[v] ty (0,0))/\M X.bN/\w.ownsRow (X.bN+1) 3 1 v now.length j5/\iP (λ_ _=>False) w 1 (ints now) j5/\∀b,v.ownBlock=some b->M b/\¬X.MI b/\b≠X.bM
 x:∀j (h:j<5),Pr X.bX (X.oX+j)/\w.cell? ⟨X.bX,X.oX+j,none⟩=some (X.fx j)/\RD Pr w ((cC s)[j]'(by simpa[cC,cK]using h)) (X.fx j)
 mp:M X.bM/\∃es clock l',w.heap[X.bM]?=some (.map es clock)/\kU rQ es l'/\Lf s l'
def wY {X:pD C s} {Pr dB:Nat→Nat→Prop} {w w':World} (h:∀ j (h:j < 5),Pr X.bX (X.oX+j)∧w.cell? ⟨X.bX,X.oX+j,none⟩=some (X.fx j)∧RD Pr w ((cC s)[j]'(by simpa [cC,cK] using h)) (X.fx j)) (hk:aL Pr dB w w') :
  ∀j (h:j<5),dB X.bX (X.oX+j)/\w'.cell? ⟨X.bX,X.oX+j,none⟩=some (X.fx j)/\RD dB w' ((cC s)[j]'(by simpa[cC,cK]using h)) (X.fx j):=by
 intro j hj;obtain⟨h1,h2,h3⟩:=h j hj;obtain⟨q1,q2⟩:=hk.cell _ _ h1 _ h2;exact⟨q1,q2,h3.mono hk⟩
def js.xR{X:pD C s}{k:Nat}{M:Nat->Prop}{Pr:Nat->Nat->Prop}{now:List Int}{w:World}(st:js X k M Pr now w):RD Pr w (.ref (cC s)) (.pointer (some ⟨X.bX,X.oX,none⟩)):=by
 refine .ref _ _ _ X.fx (λi hi=>?_) (λi hi=>?_) (λi hi=>?_)
 .have:i<5:=by simpa[cC,cK]using hi
  match i,this with
  |0,_|1,_|2,_|3,_|4,_=>rfl
 .exact⟨(st.x i (by simpa[cC,cK]using hi)).1,(st.x i (by simpa[cC,cK]using hi)).2.1⟩
 .exact(st.x i (by simpa[cC,cK]using hi)).2.2
structure rE(X:pD C s)(a:Act):Prop where
 size:a.tmps.size=70
 defers:a.defers=[]
 t0:a.tmps.getD 0 undef=.pointer (some ⟨X.bN,0,none⟩)
 t1:a.tmps.getD 1 undef=.pointer (some ⟨X.bX,X.oX,none⟩)
 t2:a.tmps.getD 2 undef=X.cY
 t3:a.tmps.getD 3 undef=X.cP
 t4:a.tmps.getD 4 undef=X.cR
def pD.fv(X:pD C s):Value:=.func (.func 142) #[] #[.pointer (some ⟨X.bN,0,none⟩),.pointer (some ⟨X.bX,X.oX,none⟩),X.cY,X.cP,X.cR]
def eM(X:pD C s)(now:List Int)(ex:Nat->AV):af:=λt=>match t with
 |0=>.ref [vI now]
 |1=>.ref (cC s)
 |2=>.ref [.val (.func (.yield l) #[] #[])]
 |3=>.ref [.val (er X.bM)]
 |4=>.ref [.val X.fv]
 |t+5=>ex (t+5)
def js.Wg{X:pD C s}{k:Nat}{M:Nat->Prop}{Pr:Nat->Nat->Prop}{now:List Int}{w:World}(st:js X k M Pr now w):RV (λb _=>b≠X.bM) bU w (.ref [vI now]) (.pointer (some ⟨X.bN,0,none⟩)):=by
 obtain⟨v,ty,j5,h1,h2,h3,h4,h5⟩:=st.now;refine .data _ _ (.ref _ _ _ (λ_=>v) (λi hi=>?_) (λk hk=>⟨Ne.symm X.ne,?_⟩) (λk hk=>?_))
 .have:i=0:=by simpa using hi
  subst this;rfl
 .have:k=0:=by simpa using hk
  subst this;simp[World.cell?,h1]
 .have:k=0:=by simpa using hk
  subst this
  exact RD.ofRow (size:=1) (es:=ints now) (by simpa[ints]using h3) (h4.mono (aL.same λ_ _ _ h=>h.elim)) λb hb _ _=>(h5 b hb).2.2
def js.gO {X:pD C s} {k:Nat} {M:Nat→Prop} {Pr:Nat→Nat→Prop} {now:List Int} {w:World} (st:js X k M Pr now w) {a:Act} (fr:rE X a) {ex:Nat→AV} (hex:∀ t,5≤t→t < 70→(ex t).aA=ex t∧RV (fun b _=>b≠X.bM) bU w (ex t) (a.tmps.getD t undef)) :
  ∀t,t<70->(eM X now ex t).aA=eM X now ex t/\RV (λb _=>b≠X.bM) bU w (eM X now ex t) (a.tmps.getD t undef):=by
 intro t ht
 have LK:∀{P':Nat->Nat->Prop},(∀b k,P' b k->X.MI b)->aL P' (λb _=>b≠X.bM) X.wI w:=λh=>aL.of_eq λb k hp=>⟨(st.mi b (h b k hp)).2.2.1,(st.mi b (h b k hp)).2.2.2⟩
 unfold eM;split
 .rw[fr.t0];exact⟨rfl,st.Wg⟩
 .rw[fr.t1];exact⟨rfl,.data _ _ (st.xR.mono (aL.same λb k _ hp=>by rintro rfl;exact C.apart st.j _ k st.mp.1 hp))⟩
 .rw[fr.t2];exact⟨rfl,X.hY.mono (LK λb k h=>h) λ_ _ h=>h⟩
 .rw[fr.t3];exact⟨rfl,X.hP.mono (LK λb k h=>h) λ_ _ h=>h⟩
 .rw[fr.t4];exact⟨rfl,X.hR.mono (LK λb k h=>h) λ_ _ h=>h⟩
 .exact hex _ (by omega) ht
def js.grow{X:pD C s}{k:Nat}{M:Nat->Prop}{Pr:Nat->Nat->Prop}{now:List Int}{w w':World}(st:js X k M Pr now w)(hb:Below w.heap.size w w'):js X k M Pr now w':=by
 have hM:=st.lt
 have aY:∀b,M b->w'.heap[b]?=w.heap[b]?:=λb h=>hb.block b (hM b h)
 have hk:aL Pr Pr w w':=aL.fI (λb h=>hb.block b h) λ_ _ _ h=>h
 obtain⟨v,ty,j5,h1,h2,h3,h4,h5⟩:=st.now;refine⟨C.eP st.j (ft.lz hb) λb h=>⟨Nat.lt_of_lt_of_le (hM b h) hb.size,.inl h⟩,λb h=>Nat.lt_of_lt_of_le (hM b h) hb.size,λb h=>⟨(st.mi b h).1,(st.mi b h).2.1,(st.mi b h).2.2.1,(aY b (st.mi b h).1).trans (st.mi b h).2.2.2⟩,⟨v,ty,j5,(aY _ h2).trans h1,h2,?_,h4.mono (aL.of_eq λ_ _ h=>h.elim),h5⟩,wY st.x hk,st.mp.1,by rw[aY _ st.mp.1];exact st.mp.2⟩;refine⟨h3.1,?_⟩
 rcases h3.2 with h|⟨gg,cap,cur,rfl,mz,tC,rest⟩
 .exact .inl h
 .exact .inr ⟨gg,cap,cur,rfl,mz,(aY gg (h5 gg rfl).1).trans tC,rest⟩
def js.swap{X:pD C s}{k:Nat}{M:Nat->Prop}{Pr:Nat->Nat->Prop}{now:List Int}{w w':World}(st:js X k M Pr now w)(ht:ft (λb=>b=X.bM) w w')(hm:∃es clock l',w'.heap[X.bM]?=some (.map es clock)/\kU rQ es l'/\Lf s l'):js X k M Pr now w':=by
 have hM:=st.lt
 have aY:∀b,M b->b≠X.bM->w'.heap[b]?=w.heap[b]?:=λb h bQ=>ht.block b (hM b h) bQ
 have hk:aL Pr Pr w w':=aL.iO λb k hl hp=>ht.block b hl (by
  rintro rfl
  exact C.apart st.j _ k st.mp.1 hp)
 obtain⟨v,ty,j5,h1,h2,h3,h4,h5⟩:=st.now;refine⟨C.eP st.j ⟨ht.os,ht.tape,ht.output,ht.size,λb hb hm=>ht.block b hb (by rintro rfl;exact hm st.mp.1)⟩ λb h=>⟨Nat.lt_of_lt_of_le (hM b h) ht.size,.inl h⟩,λb h=>Nat.lt_of_lt_of_le (hM b h) ht.size,λb h=>⟨(st.mi b h).1,(st.mi b h).2.1,(st.mi b h).2.2.1,(aY b (st.mi b h).1 (st.mi b h).2.2.1).trans (st.mi b h).2.2.2⟩,⟨v,ty,j5,(aY _ h2 (Ne.symm X.ne)).trans h1,h2,?_,h4.mono (aL.of_eq λ_ _ h=>h.elim),h5⟩,wY st.x hk,st.mp.1,hm⟩;refine⟨h3.1,?_⟩
 rcases h3.2 with h|⟨gg,cap,cur,rfl,mz,tC,rest⟩
 .exact .inl h
 .exact .inr ⟨gg,cap,cur,rfl,mz,(aY gg (h5 gg rfl).1 (h5 gg rfl).2.2).trans tC,rest⟩
def js.after {X:pD C s} {k k':Nat} {M G:Nat→Prop} {Pr dB:Nat→Nat→Prop} {now:List Int} {w w':World} (st:js X k M Pr now w) (hj:C.J k' (fun b=>(M b∨G b)∧¬ G b) dB w') (hG:∀ b,G b→¬ M b)
  (hs:∀b,M b\/G b->¬G b->w'.heap[b]?=w.heap[b]?) (hk:aL Pr dB w w'):js X k' (λb=>(M b\/G b)/\¬G b) dB now w':=by
 have wF:∀b,M b->¬G b:=λb hb hg=>hG b hg hb
 have aY:∀b,M b->w'.heap[b]?=w.heap[b]?:=λb hb=>hs b (.inl hb) (wF b hb)
 obtain⟨v,ty,j5,h1,h2,h3,h4,h5⟩:=st.now;refine⟨hj,λb hb=>?_,λb h=>⟨⟨.inl (st.mi b h).1,wF b (st.mi b h).1⟩,(st.mi b h).2.1,(st.mi b h).2.2.1,(aY b (st.mi b h).1).trans (st.mi b h).2.2.2⟩,⟨v,ty,j5,(aY _ h2).trans h1,⟨.inl h2,wF _ h2⟩,?_,h4.mono (aL.of_eq λ_ _ h=>h.elim),λb hb=>⟨⟨.inl (h5 b hb).1,wF b (h5 b hb).1⟩,(h5 b hb).2⟩⟩,wY st.x hk,⟨.inl st.mp.1,wF _ st.mp.1⟩,by rw[aY _ st.mp.1];exact st.mp.2⟩
 .have l_:M b:=hb.1.resolve_right hb.2;have:=st.lt b l_;have h2:=aY b l_;rw[Array.getElem?_eq_getElem this]at h2;exact(Array.getElem?_eq_some_iff.1 h2).1
 .refine⟨h3.1,?_⟩
  rcases h3.2 with h|⟨gg,cap,cur,rfl,mz,tC,rest⟩
  .exact .inl h
  .exact .inr ⟨gg,cap,cur,rfl,mz,(aY gg (h5 gg rfl).1).trans tC,rest⟩
def pD.more(X:pD C s)(w:World)(b6:Nat)(h:∀b,X.MI b->w.heap[b]?=X.wI.heap[b]?):pD C s:={
 bN:=X.bN
 bM:=X.bM
 bX:=X.bX
 oX:=X.oX
 fx:=X.fx
 cY:=X.cY
 cP:=X.cP
 cR:=X.cR
 MI b:=X.MI b\/b=b6
 wI:=w
 hY:=X.hY.mono (aL.of_eq λb k hp=>⟨.inl hp,h b hp⟩) λ_ _ h=>h
 hP:=X.hP.mono (aL.of_eq λb k hp=>⟨.inl hp,h b hp⟩) λ_ _ h=>h
 hR:=X.hR.mono (aL.of_eq λb k hp=>⟨.inl hp,h b hp⟩) λ_ _ h=>h
 ne:=X.ne }
def js.more{X:pD C s}{k:Nat}{M:Nat->Prop}{Pr:Nat->Nat->Prop}{now:List Int}{w w':World}{b6:Nat}(st:js X k M Pr now w)(hb:Below w.heap.size w w')(oq:w.heap.size<=b6)(rI:b6<w'.heap.size)(h:∀b,X.MI b->w'.heap[b]?=X.wI.heap[b]?):js (X.more w' b6 h) k (λb=>M b\/b=b6) Pr now w':=by
 have g:=st.grow hb
 have dZ:¬M b6:=λhm=>by have:=st.lt _ hm;omega
 obtain⟨v,ty,j5,h1,h2,h3,h4,h5⟩:=g.now;refine⟨C.eP st.j (ft.lz hb) λb hm=>?_,λb hm=>?_,λb hm=>?_,⟨v,ty,j5,h1,.inl h2,h3,h4,λb fg=>⟨.inl (h5 b fg).1,?_,(h5 b fg).2.2⟩⟩,g.x,.inl g.mp.1,g.mp.2⟩
 .rcases hm with hm|rfl
  .exact⟨g.lt b hm,.inl hm⟩
  .exact⟨rI,.inr oq⟩
 .rcases hm with hm|rfl
  .exact g.lt b hm
  .exact rI
 .rcases hm with hm|rfl
  .exact⟨.inl (g.mi b hm).1,(g.mi b hm).2.1,(g.mi b hm).2.2.1,rfl⟩
  .exact⟨.inr rfl,λe=>dZ ((show b=X.bN from e)▸h2),λe=>dZ ((show b=X.bM from e)▸g.mp.1),rfl⟩
 .rintro(hm|rfl)
  .exact(h5 b fg).2.1 hm
  .exact dZ (h5 b fg).1
def js.less{X:pD C s}{k:Nat}{M:Nat->Prop}{Pr:Nat->Nat->Prop}{now:List Int}{w w1:World}{b6:Nat}{h:∀b,X.MI b->w1.heap[b]?=X.wI.heap[b]?}(st:js (X.more w1 b6 h) k M Pr now w):js X k M Pr now w:=by
 obtain⟨v,ty,j5,h1,h2,h3,h4,h5⟩:=st.now;refine⟨st.j,st.lt,λb hm=>?_,⟨v,ty,j5,h1,h2,h3,h4,λb hb=>⟨(h5 b hb).1,λhm=>(h5 b hb).2.1 (.inl hm),(h5 b hb).2.2⟩⟩,st.x,st.mp⟩;obtain⟨q1,q2,q3,q4⟩:=st.mi b (.inl hm);exact⟨q1,q2,q3,q4.trans (h b hm)⟩
def rE.step{X:pD C s}{a a':Act}(fr:rE X a)(aI:a'.tmps.size=70)(cD:a'.defers=[])(h:∀t,t<5->a'.tmps.getD t undef=a.tmps.getD t undef):rE X a':=
 ⟨aI,cD,(h 0 (by decide)).trans fr.t0,(h 1 (by decide)).trans fr.t1,(h 2 (by decide)).trans fr.t2,(h 3 (by decide)).trans fr.t3,(h 4 (by decide)).trans fr.t4⟩
def rE.of{X:pD C s}{a:Act}{w:World}{b6:Nat}{h:∀b,X.MI b->w.heap[b]?=X.wI.heap[b]?}(fr:rE X a):rE (X.more w b6 h) a:=⟨fr.size,fr.defers,fr.t0,fr.t1,fr.t2,fr.t3,fr.t4⟩
def W5:Nat->Bool:=λt=>decide (5<=t)
def kV:Nat->Bool:=λt=>decide (28<=t)
def kn{P:Program}{ro:Option Nat}{m:Nat}{ops:Array Oper}{l:List Nat}{Q:Exit->Act->World->Prop}{a:Act}{w:World}(A:Act->Prop)(ha:A a)(h:∀a,A a->wpOpsIn (FR ro) m P ops Q l a w):wpOpsIn (FR ro) m P ops Q l a w:=h a ha
def IZ{P:Program}{a:Act}{w:World}{o:Oper}{c x y:Operand}{b:Bool}(ho:o.op=.pick c x y)(hc:a.eval c=.bool b):(execOp a.eval o).run P w=.ok (.value (if b then a.eval x else a.eval y)) w:=by
 unfold execOp
 cases b<;>simp[ho,hc,asBool]
noncomputable def lu:ae:=ae.qb c142.qb.qb.qb.qa.qb.qb
noncomputable def lk:ae:=ae.qb lu.qb.qb.qa
noncomputable def xf:ae:=ae.qb lk.qb.qb
noncomputable def wv:ae:=ae.qa lk.qb.qb
def r0(len i:Nat)(n:Nat)(work:List Int)(v8:AV):Nat->AV:=λt=>if t=6 then .ref [.int .i64 (n:Nat)]else if t=25 then vI work else if t=26 then .int .i64 (len:Nat)else if t=27 then .int .i64 (i:Nat)else if t=8 then v8 else .bh
def LB (s:bO) (hl:s.dY.length≤1000) (hb:lL s) (yA:∀ x∈s.work,0≤x∧x < s.dY.length) (yl:s.work.length≤1000) (jr:s.eG.length≤1000) :
  ∀(r:Nat)(X:pD C s)(now:List Int)(k:Nat)(M:Nat->Prop)(Pr:Nat->Nat->Prop)(w:World)(tail:List AV),now.length+r=s.eG.length->(∀x∈now,x∈s.work)->js X k M Pr now w->
   xs.drop k=(kA s r now).map vI++tail->
   Calls prog 142 #[.pointer (some ⟨X.bN,0,none⟩),.pointer (some ⟨X.bX,X.oX,none⟩),X.cY,X.cP,X.cR] w λe w'=>∃M' dB,
    (e=.returned (.bool true)/\js X (k+(kA s r now).length) M' dB now w')\/(e=.returned (.bool false)/\C.X M' dB w'):=by
 intro r
 induction r using Nat.strongRecOn with
 |_ r ih=>
 intro X now k M Pr w tail Yz Q3 st iC;refine(eA (ro:=none) (m:=0)).1 (callsIn_of_wp func142 rfl trivial ?_)
 have fr:rE X { tmps:=#[.pointer (some ⟨X.bN,0,none⟩),.pointer (some ⟨X.bX,X.oX,none⟩),X.cY,X.cP,X.cR]++Array.replicate (f142.ntmps-5) undef,defers:=[] }:=
  ⟨by simp[ntmps142],rfl,ef _ _ 0 (by simp),ef _ _ 1 (by simp),ef _ _ 2 (by simp),ef _ _ 3 (by simp),ef _ _ 4 (by simp)⟩
 generalize hc:(λe w'=>∃M' dB,(e=Ending.returned (.bool true)/\js X (k+(kA s r now).length) M' dB now w')\/(e=.returned (.bool false)/\C.X M' dB w'))=R
 have wR:now.length<=s.eG.length:=by omega
 have Nj:∀(a:Act)(w:World),∀t,5<=t->t<70->(AV.bh).aA=AV.bh/\RV (λb _=>b≠X.bM) bU w AV.bh (a.tmps.getD t undef):=λa w t _ _=>⟨rfl,.bh _⟩
 refine wpIn_seq ?_;refine dK eN cV (ac:=ae.qa c142) (W:=W5) (by kernel_rfl) (by kernel_rfl) (by kernel_rfl) trivial (λb _=>b≠X.bM) (eM X now λ_=>.bh) fr.size fr.defers (st.gO fr (Nj _ _)) (K:=λ_ _=>True) ?_ ?_
 .simp[c142,ae.qa,bD,bg,ar,aM,ao,aB]
 intro g S' H' a w1 hg R1 _ aY
 have fr:=fr.step R1.size (by rw[R1.defers,hg]<;>rfl) λt ht=>aY t (by simp[W5];omega)
 have st:=st.grow (by have:=R1.below;rwa [R1.base]at this);clear aY R1 hg g S' H';show Code.wpIn _ _ _ _ _ a w1;refine wpIn_seq ?_;refine dK eN cV (ac:=ae.qa c142.qb) (W:=W5) (by kernel_rfl) (by kernel_rfl) (by kernel_rfl) trivial (λb _=>b≠X.bM) (eM X now λ_=>.bh) fr.size fr.defers (st.gO fr (Nj _ _)) (K:=λS H=>S 6=.box 6 0/\H 6=some [.int .i64 now.length]) ?_ ?_
 .simp[c142,ae.qa,ae.qb,eM,dI,eb,dP,db,dG,cI,cJ,cb,cd,dE,b_,bL,fk,fj,ar,ao,ev,aD.S,aD.H,a_,aq,aH,AL.start,AV.aA,AV.cells,AV.storable,AV.bm,aR,aT,ee,aZ,HR.okB,post,cn,ct,cw,AV.out,AV.bC,bz,bW,fz,fM,AV.vw,AV.bF,bR,vI,int,bG,aB,cS,cg,fS,gL,dL,cG,aU]
 intro g S' H' a w2 hg R1 ⟨s6,h6⟩ aY
 have fr:=fr.step R1.size (by rw[R1.defers,hg]<;>rfl) λt ht=>aY t (by simp[W5];omega)
 obtain⟨b6,BJ,e6⟩:=jk R1 (by decide) s6;obtain⟨cs,vs,HO,k0,k1,k2,k3,k4,k5,k6,k7,k8⟩:=R1.box 6 b6 BJ;rw[h6]at k0;cases k0
 have hv6:vs=#[.int .i64 now.length]:=by
  obtain⟨v0,rfl⟩:=j6 (vs:=vs) (by rw[<-k5]<;>rfl);have:=(RV.data (al:=bU) _ _ (k6 0 (by simp) (by simp))).int_eq;simp only[List.getElem_toArray,List.getElem_cons_zero]at this;rw[this]
 subst hv6
 have fW:Below w1.heap.size w1 w2:=by have:=R1.below;rwa [R1.base]at this
 have oq:w1.heap.size<=b6:=by rw[R1.base]at k1;exact k1
 have rI:=(Array.getElem?_eq_some_iff.1 k2).1
 have N5:∀b,X.MI b->w2.heap[b]?=X.wI.heap[b]?:=λb hm=>(st.grow fW).mi b hm|>.2.2.2
 have Qa:=st.more (b6:=b6) fW oq rI N5;have NU:rE (X.more w2 b6 N5) a:=fr.of
 obtain⟨Y,hY⟩:∃Y,Y=X.more w2 b6 N5:=⟨_,rfl⟩
 have less:∀{k:Nat}{M:Nat->Prop}{Pr:Nat->Nat->Prop}{w:World},js Y k M Pr now w->js X k M Pr now w:=λh=>by rw[hY]at h;exact h.less
 have yN:Y.bN=X.bN:=by rw[hY]<;>rfl
 have yM:Y.bM=X.bM:=by rw[hY]<;>rfl
 have y6:∀{now:List Int}{k:Nat}{M:Nat->Prop}{Pr:Nat->Nat->Prop}{w:World},js Y k M Pr now w->w.heap[b6]?=some (.cells #[.int .i64 now.length] HO (0,0))\/True:=λh=>.inr trivial
 have c6:∀{Fq:List Int}{k:Nat}{M:Nat->Prop}{Pr:Nat->Nat->Prop}{w:World},js Y k M Pr Fq w->w.heap[b6]?=some (.cells #[.int .i64 (now.length:Nat)] HO (0,0)):=λh=>by
  rw[hY]at h;exact(h.mi b6 (.inr rfl)).2.2.2.trans k2
 have r6:∀{Fq:List Int}{k:Nat}{M:Nat->Prop}{Pr:Nat->Nat->Prop}{w:World},js Y k M Pr Fq w->RV (λb _=>b≠X.bM) bU w (.ref [.int .i64 (now.length:Nat)]) (.pointer (some ⟨b6,0,none⟩)):=λh=>by
  have h6:=c6 h;refine .data _ _ (.ref _ _ _ (λ_=>.int .i64 (now.length:Nat)) (λi hi=>?_) (λk hk=>⟨?_,?_⟩) (λk hk=>?_))
  .have:i=0:=by simpa using hi
   subst this;rfl
  .rw[hY]at h;exact(h.mi b6 (.inr rfl)).2.2.1
  .have:k=0:=by simpa using hk
   subst this;simp[World.cell?,h6]
  .have:k=0:=by simpa using hk
   subst this;exact .int _ _
 rw[<-hY]at Qa NU
 have Pz:∀{b:Bool}{a:Act}{w':World},a.defers=[]->a.tmps.getD 5 undef=.bool b->R (.returned (.bool b)) w'->bodyPost prog f142 R .ret a w':=λhd h5 hR=>⟨hd,_,results_tmp results142 h5,hR⟩
 clear aY R1 hg g S' H' s6 h6 BJ k1 k3 k4 k5 k6 k7 k8 y6 st fr fW;show Code.wpIn _ _ _ _ _ a w2
 obtain⟨ID,Rn⟩:∃ID:Nat->AV,ID=λt=>if t=6 then .ref [.int .i64 (now.length:Nat)]else .bh:=⟨_,rfl⟩
 have Mz:∀{Fq:List Int}{k:Nat}{M:Nat->Prop}{Pr:Nat->Nat->Prop}{w:World}{a:Act},js Y k M Pr Fq w->a.tmps.getD 6 undef=.pointer (some ⟨b6,0,none⟩)->∀t,5<=t->t<70->(ID t).aA=ID t/\RV (λb _=>b≠X.bM) bU w (ID t) (a.tmps.getD t undef):=λh e6 t _ _=>by
  rw[Rn]
  by_cases ht:t=6
  .subst ht;rw[e6];exact⟨rfl,r6 h⟩
  .simp only[ht,if_false];exact⟨rfl,.bh _⟩
 refine wpIn_seq (wpIn_seq ?_);refine dK eN cV (ac:=ae.qa c142.qb.qb.qa) (W:=λt=>decide (7<=t)) (by kernel_rfl) (by kernel_rfl) (by kernel_rfl) trivial (λb _=>b≠Y.bM) (eM Y now ID) NU.size NU.defers (Qa.gO NU (by rw[yM];exact Mz Qa e6)) (K:=λS _=>S 18=.bool (decide (r=0))) ?_ ?_
 .have hr:((now.length:Int)=s.eG.length)↔r=0:=by omega
  rw[Rn];simp[c142,ae.qa,ae.qb,eM,cC,cK,aW,dI,eb,dP,db,dG,cI,cJ,cb,cd,dE,b_,bL,fk,fj,ar,ao,ev,aD.S,aD.H,a_,aq,aH,AL.start,AV.aA,AV.cells,AV.storable,AV.bm,aR,aT,ee,aZ,HR.okB,post,cn,ct,cw,AV.out,AV.bC,bz,bW,fz,fM,AV.vw,AV.bF,bR,vI,int,bG,aB,cS,cg,fS,gL,dL,cG,aU];rw[Bool.eq_iff_iff];simp;omega
 intro g S' H' a w3 hg R1 zZ aY
 have fr:=NU.step R1.size (by rw[R1.defers,hg]<;>rfl) λt ht=>aY t (by simp;omega)
 have st:=Qa.grow (by have:=R1.below;rwa [R1.base]at this);have e6:a.tmps.getD 6 undef=.pointer (some ⟨b6,0,none⟩):=(aY 6 rfl).trans e6;have t18:=R1.slot 18 (by decide) id;rw[zZ]at t18;have QY:=t18.fB;clear t18 aY R1 hg g S' H' zZ;show Code.wpIn _ _ _ _ _ a w3;refine wpIn_cond (t:=decide (r=0)) QY ?_
 cases r with
 |zero=>
  simp only[decide_true,if_true];have Nu:kA s 0 now=[now]:=rfl;rw[Nu]at iC hc;refine wpIn_seq ?_
  refine LH eN cV (n:=70) (p:=3) (W:=W5) (l:=(ae.dl (ae.qa (ae.vX c142.qb.qb.qa.qb))).take 3) (by kernel_rfl) (by kernel_rfl) (by kernel_rfl) (by kernel_rfl) (by kernel_rfl) (by kernel_rfl) trivial (λb _=>b≠Y.bM) (eM Y now ID) fr.size fr.defers (st.gO fr (by rw[yM];exact Mz st e6))
   (K:=λS _=>S 19=.val (.func (.yield l) #[] #[])/\S 21=.slice (if(ints now).isEmpty then .nil else .own 3) (ints now)) ?_ ?_
  .simp[c142,ae.qa,ae.qb,ae.vX,ae.dl,dL,cG,aU,dc,ar,fL,ao,aM,aD.S,aD.H,ev,aq,aH,eM,aZ,AV.aA,AV.vw,AV.cells,AV.storable,AV.bF,fz,fM,jB,lR,vI];refine⟨rfl,by kernel_rfl,_,JD eN _ (qe now) (by rw[bz];omega),by simp[bR],?_⟩
   by_cases ho:ints now=[]<;>simp[ho,aq]
  .intro g' S' H' a w4 hg R3 ⟨hy,h21⟩ aY
   have fW:Below w3.heap.size w3 w4:=by have:=R3.below;rwa [R3.base]at this
   have fr:=fr.step R3.size (by rw[R3.defers,hg]<;>rfl) λt ht=>aY t (by simp[W5];omega)
   have Ew:=st.grow fW
   have Ho:=(R3.slot 19 (by decide) id)
   rw[hy]at Ho;have Ho:=Ho.gp;obtain⟨i3,wX,uf⟩:=iZ 3 1;have f21:=R3.rT (t:=21) (by decide) (e:=3) wX (es:=ints now) h21 (λx hx=>by obtain⟨k,_,rfl⟩:=List.mem_map.1 hx;exact⟨uf.symm,rfl,λc hc=>by simp[AV.cells]at hc;subst hc;rfl⟩) (λx hx c hc=>by obtain⟨k,_,rfl⟩:=List.mem_map.1 hx;simp[AV.cells]at hc;subst hc;rfl);rw[R3.base]at f21
   let G:Nat->Prop:=λb=>w3.heap.size<=b/\b<w4.heap.size
   have hj:C.J k (λb=>(M b\/b=b6)\/G b) Pr w4:=C.eP st.j (ft.lz fW) λb hb=>by
    rcases hb with hb|hb
    .exact⟨Ew.lt b hb,.inl hb⟩
    .exact⟨hb.2,.inr hb.1⟩
   have Ar:k<xs.length:=by
    have:=congrArg List.length iC;simp at this;omega
   have ui:xs[k]=vI now:=by
    have:=congrArg (·[0]?) iC;simp at this;rw[List.getElem?_eq_getElem Ar]at this;exact Option.some.inj this
   have hx:RD (λb j=>Pr b j\/(G b/\j<g'.hi b)) w4 xs[k] (a.tmps.getD 21 undef):=by
    rw[ui];exact f21.mono (aL.same λb j _ h=>.inr h)
   obtain⟨ff,tmps,NJ,bd,Ax,qn⟩:=C.round Ar G g'.hi _ hj (λb hb=>.inr hb) hx;show wpOpsIn _ _ _ _ _ [3,4] a w4;refine yc rfl rfl (by rfl) ?_ qn ?_
   .exact(mC (f:=.tmp 19) (x:=.tmp 21) w4 rfl rfl rfl Ho).trans Ax
   .rintro e w5 ⟨FH,dB,tZ,nr⟩
    have eZ:∀{k'},C.J k' (λb=>((M b\/b=b6)\/G b)/\¬G b) dB w5->js Y k' (λb=>((M b\/b=b6)\/G b)/\¬G b) dB now w5:=λhj=>Ew.after hj (λb hg hm=>by have:=st.lt b hm;have:=hg.1;omega) FH tZ
    obtain⟨b,rfl,hR⟩:∃b:Bool,e=.returned (.bool b)/\R (.returned (.bool b)) w5:=by
     rcases nr with⟨rfl,c_⟩|⟨rfl,EJ⟩
     .exact⟨true,rfl,by rw[<-hc];exact⟨_,_,.inl ⟨rfl,less (eZ c_)⟩⟩⟩
     .exact⟨false,rfl,by rw[<-hc];exact⟨_,_,.inr ⟨rfl,EJ⟩⟩⟩
    refine⟨_,rfl,?_⟩
    have Qv:(a.put (some 22) (.bool b)).tmps.getD 22 undef=.bool b:=by simp[Act.put,fr.size]
    refine aK rfl rfl (by rfl) (v:=.bool b) (w':=w5) ((run_assign (x:=.tmp 22) w5 rfl).trans (congrArg (λv=>Result.ok (Next.value v) w5) Qv)) ?_;show Code.wpIn _ _ _ _ _ _ _
    have h5:((a.put (some 22) (.bool b)).put (some 5) (.bool b)).tmps.getD 5 undef=.bool b:=by simp[Act.put,fr.size]
    exact wpIn_ret (Pz fr.defers h5 hR)
 |succ r=>
  simp only[Nat.succ_ne_zero,decide_false,Bool.false_eq_true,if_false];refine wpIn_skip ?_;show Code.wpIn _ _ _ _ _ a w3
  have cz:∀(a:Act)(d t:Nat)(c:Value),t≠d->(a.put (some d) c).tmps.getD t undef=a.tmps.getD t undef:=λa d t c h=>by
   simp[Act.put,Array.getElem?_setIfInBounds_ne (Ne.symm h)]
  have eO:∀(a:Act)(d:Nat)(c:Value),a.tmps.size=70->d<70->(a.put (some d) c).tmps.getD d undef=c:=λa d c h hd=>by
   simp[Act.put,h,hd]
  have fJ:∀(a:Act)(d:Option Nat)(c:Value),(a.put d c).tmps.size=a.tmps.size:=λa d c=>by cases d<;>simp[Act.put]
  have xj:∀{a:Act}{d:Nat}{c:Value},rE Y a->5<=d->rE Y (a.put (some d) c):=λh hd=>h.step (by rw[fJ];exact h.size) h.defers λt ht=>cz _ _ _ _ (by omega)
  obtain⟨d28,Kz,CZ⟩:=vZ 28
  have RN:prog.underlying 28=some (.slice 3):=by kernel_rfl
  obtain⟨aaF,aan,f25⟩:=FE (st.x 1 (by decide)).2.2;rw[bz]at f25;refine wpIn_seq (wpIn_seq (wpIn_region ?_));show wpOpsIn _ _ _ _ _ [0,1,2,3,4] a w3;refine aK rfl rfl (by rfl) (ld (s:=89) (j:=0) (KG:=0) (sz:=3) (x:=.tmp 1) (by kernel_rfl) (by decide) rfl fr.t1) ?_;show wpOpsIn _ _ _ _ _ [1,2,3,4] (a.put (some 23) (.pointer (some ⟨Y.bX,Y.oX+0,none⟩))) w3;refine kn (λa=>rE Y a/\a.tmps.getD 6 undef=.pointer (some ⟨b6,0,none⟩)/\a.tmps.getD 23 undef=.pointer (some ⟨Y.bX,Y.oX+0,none⟩)) ⟨xj fr (by decide),by rw[cz _ _ _ _ (by decide)];exact e6,eO _ _ _ fr.size (by decide)⟩ ?_;clear e6 fr QY a;rintro a ⟨fr,e6,Nf⟩;refine aK rfl rfl (by rfl) (ld (s:=30) (j:=1) (KG:=1) (sz:=1) (x:=.tmp 23) (by kernel_rfl) (by decide) rfl Nf) ?_;show wpOpsIn _ _ _ _ _ [2,3,4] (a.put (some 24) (.pointer (some ⟨Y.bX,Y.oX+1,none⟩))) w3;refine kn (λa=>rE Y a/\a.tmps.getD 6 undef=.pointer (some ⟨b6,0,none⟩)/\a.tmps.getD 24 undef=.pointer (some ⟨Y.bX,Y.oX+1,none⟩)) ⟨xj fr (by decide),by rw[cz _ _ _ _ (by decide)];exact e6,eO _ _ _ fr.size (by decide)⟩ ?_;clear e6 fr Nf a;rintro a ⟨fr,e6,JN⟩;refine aK rfl rfl (by rfl) (gV (t:=28) (x:=.tmp 24) (v:=Y.fx 1) rfl JN Kz CZ (st.x 1 (by decide)).2.1) ?_;show wpOpsIn _ _ _ _ _ [3,4] (a.put (some 25) (Y.fx 1)) w3;refine kn (λa=>rE Y a/\a.tmps.getD 6 undef=.pointer (some ⟨b6,0,none⟩)/\a.tmps.getD 25 undef=Y.fx 1) ⟨xj fr (by decide),by rw[cz _ _ _ _ (by decide)];exact e6,eO _ _ _ fr.size (by decide)⟩ ?_;clear e6 fr JN a;rintro a ⟨fr,e6,wA⟩;refine aK rfl rfl (by rfl) (CD rfl rfl rfl rfl RN (show a.eval (.tmp 25)=_ from wA.trans f25)) ?_;show wpOpsIn _ _ _ _ _ [4] (a.put (some 26) (.int .i64 (s.work.length:Nat))) w3;refine kn (λa=>rE Y a/\a.tmps.getD 6 undef=.pointer (some ⟨b6,0,none⟩)/\a.tmps.getD 25 undef=Y.fx 1/\a.tmps.getD 26 undef=.int .i64 (s.work.length:Nat)) ⟨xj fr (by decide),by rw[cz _ _ _ _ (by decide)];exact e6,by rw[cz _ _ _ _ (by decide)];exact wA,eO _ _ _ fr.size (by decide)⟩ ?_;clear e6 fr wA a;rintro a ⟨fr,e6,wA,EH⟩;refine aK rfl rfl (by rfl) (run_move (x:=.const (.int .i64 0)) w3 rfl) ?_;show Code.wpIn _ _ _ _ _ (a.put (some 27) (.int .i64 ((0:Nat):Int))) w3;refine fc (λa=>rE Y a/\a.tmps.getD 6 undef=.pointer (some ⟨b6,0,none⟩)/\a.tmps.getD 25 undef=Y.fx 1/\a.tmps.getD 26 undef=.int .i64 (s.work.length:Nat)/\a.tmps.getD 27 undef=.int .i64 ((0:Nat):Int)) ⟨xj fr (by decide),by rw[cz _ _ _ _ (by decide)];exact e6,by rw[cz _ _ _ _ (by decide)];exact wA,by rw[cz _ _ _ _ (by decide)];exact EH,eO _ _ _ fr.size (by decide)⟩ ?_;clear e6 fr wA EH a;rintro a ⟨fr,e6,wA,EH,Gk⟩
  obtain⟨rem,zI⟩:∃rem:Nat->List (List Int),rem=λi=>(s.work.drop i).flatMap λx=>if nH s r now x then kA s r (now++[x])else[]:=⟨_,rfl⟩
  have Vc:kA s (r+1) now=rem 0:=by rw[zI]<;>rfl
  rw[Vc]at iC hc
  obtain⟨FA,Gu⟩:∃FA:Nat->Act->Prop,FA=λi a=>rE Y a/\a.tmps.getD 6 undef=.pointer (some ⟨b6,0,none⟩)/\a.tmps.getD 25 undef=Y.fx 1/\a.tmps.getD 26 undef=.int .i64 (s.work.length:Nat)/\a.tmps.getD 27 undef=.int .i64 (i:Nat):=⟨_,rfl⟩
  have fa:FA 0 a:=by rw[Gu];exact⟨fr,e6,wA,EH,Gk⟩
  have uD:∀{i:Nat}{a a':Act}{W:Nat->Bool},FA i a->a'.tmps.size=70->a'.defers=[]->eF W a a'->(∀t,t<28->t≠8->t≠9->t≠10->W t=false)->FA i a':=by
   intro i a a' W h aI cD hs hW;rw[Gu]at h⊢;obtain⟨fr,e6,wA,EH,Gk⟩:=h;exact⟨fr.step aI cD λt ht=>hs t (hW t (by omega) (by omega) (by omega) (by omega)),(hs 6 (hW 6 (by decide) (by decide) (by decide) (by decide))).trans e6,(hs 25 (hW 25 (by decide) (by decide) (by decide) (by decide))).trans wA,(hs 26 (hW 26 (by decide) (by decide) (by decide) (by decide))).trans EH,(hs 27 (hW 27 (by decide) (by decide) (by decide) (by decide))).trans Gk⟩
  have P0:∀ {i:Nat} {a:Act} {k:Nat} {M:Nat→Prop} {Pr:Nat→Nat→Prop} {w:World} {v8:AV},FA i a→js Y k M Pr now w→(v8.aA=v8∧RV (fun b _=>b≠Y.bM) bU w v8 (a.tmps.getD 8 undef)) →
    ∀t,t<70->(eM Y now (r0 s.work.length i now.length s.work v8) t).aA=eM Y now (r0 s.work.length i now.length s.work v8) t/\RV (λb _=>b≠Y.bM) bU w (eM Y now (r0 s.work.length i now.length s.work v8) t) (a.tmps.getD t undef):=by
   intro i a k M Pr w v8 h st h8;rw[Gu]at h;obtain⟨fr,e6,wA,EH,Gk⟩:=h
   refine st.gO fr λt h5 ht=>?_
   unfold r0
   by_cases t6:t=6
   .subst t6;rw[if_pos rfl,e6];exact⟨rfl,by rw[yM];exact r6 st⟩
   rw[if_neg t6]
   by_cases t25:t=25
   .subst t25;rw[if_pos rfl,wA];exact⟨rfl,.data _ _ ((st.x 1 (by decide)).2.2.mono (aL.same λb k _ hp=>by rintro rfl;exact C.apart st.j _ k st.mp.1 hp))⟩
   rw[if_neg t25]
   by_cases t26:t=26
   .subst t26;rw[if_pos rfl,EH];exact⟨rfl,.data _ _ (.int _ _)⟩
   rw[if_neg t26]
   by_cases t27:t=27
   .subst t27;rw[if_pos rfl,Gk];exact⟨rfl,.data _ _ (.int _ _)⟩
   rw[if_neg t27]
   by_cases t8:t=8
   .subst t8;rw[if_pos rfl];exact h8
   rw[if_neg t8];exact⟨rfl,.bh _⟩
  have lE:∀{i:Nat}{a:Act},FA i a->a.tmps.size=70/\a.defers=[]/\rE Y a:=λh=>by rw[Gu]at h;exact⟨h.1.size,h.1.defers,h.1⟩
  obtain⟨NB,Lb⟩:∃NB:Nat->Nat->World->Prop,NB=λi k' w=>∃M' dB,js Y k' M' dB now w/\xs.drop k'=(rem i).map vI++tail/\k'+(rem i).length=k+(rem 0).length:=⟨_,rfl⟩
  clear e6 fr wA EH Gk;refine wpIn_block (wpIn_loop (λa w=>∃i k',FA i a/\i<=s.work.length/\NB i k' w) (λa _=>match a.tmps.getD 27 undef with|.int _ i=>s.work.length-i.toNat|_=>0) ⟨0,k,fa,Nat.zero_le _,by rw[Lb];exact⟨_,_,st,iC,rfl⟩⟩ ?_);clear fa st iC a;rintro a wl ⟨i,k',fa,hi,G9⟩
  have Gk:a.tmps.getD 27 undef=.int .i64 (i:Nat):=by rw[Gu]at fa;exact fa.2.2.2.2
  rw[Lb]at G9;obtain⟨M',dB,st,iC,l4⟩:=G9
  have j8:∀(a:Act)(w:World),(AV.bh).aA=AV.bh/\RV (λb _=>b≠Y.bM) bU w AV.bh (a.tmps.getD 8 undef):=λa w=>⟨rfl,.bh _⟩
  refine wpIn_seq ?_;refine dK eN cV (ac:=ae.qa lu) (W:=kV) (by kernel_rfl) (by kernel_rfl) (by kernel_rfl) trivial (λb _=>b≠Y.bM) (eM Y now (r0 s.work.length i now.length s.work .bh)) (lE fa).1 (lE fa).2.1 (P0 fa st (j8 _ _)) (K:=λS _=>S 28=.bool (decide (i<s.work.length))) ?_ ?_
  .simp[c142,lu,ae.qa,ae.qb,eM,r0,dI,eb,dP,db,dG,cI,cJ,cb,cd,dE,b_,bL,fk,fj,ar,ao,ev,aD.S,aD.H,a_,aq,aH,AL.start,AV.aA,AV.cells,AV.storable,AV.bm,aR,aT,ee,aZ,HR.okB,post,cn,ct,cw,AV.out,AV.bC,bz,bW,fz,fM,AV.vw,AV.bF,bR,vI,int,bG,aB,cS,cg,fS,gL,dL,cG,aU]
  intro g S' H' a4 w4 hg R1 sq aY;have fa:=uD fa R1.size (by rw[R1.defers,hg]<;>rfl) aY (λt h _ _ _=>by simp[kV];omega);have st:=st.grow (by have:=R1.below;rwa [R1.base]at this);have t28:=R1.slot 28 (by decide) id;rw[sq]at t28;have NZ:=t28.fB;clear t28 aY R1 hg g S' H' sq;show Code.wpIn _ _ _ _ _ a4 w4;refine wpIn_seq (wpIn_cond (t:=decide (i<s.work.length)) NZ ?_)
  by_cases av:i<s.work.length
  case neg=>
   simp only[av,decide_false,Bool.false_eq_true,if_false];refine wpIn_exit ?_
   have dN:rem i=[]:=by rw[zI];simp only;rw[List.drop_eq_nil_of_le (by omega)]<;>rfl
   rw[dN]at l4;show Code.wpIn _ _ _ _ _ a4 w4;refine wpIn_seq (wpIn_region ?_);show wpOpsIn _ _ _ _ _ [0] a4 w4;refine aK rfl rfl (by rfl) (v:=.bool true) (w':=w4) (run_assign (x:=.const (.bool true)) w4 rfl) ?_;show Code.wpIn _ _ _ _ _ (a4.put (some 5) (.bool true)) w4;refine wpIn_ret (Pz (lE fa).2.1 (eO _ _ _ (lE fa).1 (by decide)) ?_);rw[<-hc];refine⟨M',dB,.inl ⟨rfl,?_⟩⟩;rw[<-l4];exact less st
  case pos=>
   simp only[av,decide_true,if_true];refine wpIn_skip ?_;show Code.wpIn _ _ _ _ _ a4 w4
   obtain⟨x,hx⟩:∃x,s.work[i]=x:=⟨_,rfl⟩
   have IF:x∈s.work:=by rw[<-hx];exact List.getElem_mem av
   obtain⟨hx0,hxn⟩:=yA x IF
   obtain⟨xn,rfl⟩:∃xn:Nat,x=xn:=⟨x.toNat,by omega⟩
   have OZ:rem i=(if nH s r now xn then kA s r (now++[(xn:Int)])else[])++rem (i+1):=by
    rw[zI];simp only;rw[List.drop_eq_getElem_cons av,List.flatMap_cons,hx]
   rw[OZ]at iC l4
   obtain⟨NX,TE⟩:∃NX:World->Prop,NX=λw=>∃k',NB (i+1) k' w:=⟨_,rfl⟩
   have JX:∀{M:Nat->Prop}{Pr:Nat->Nat->Prop}{w:World},nH s r now xn=false->js Y k' M Pr now w->NX w:=λdZ st=>by
    rw[TE,Lb];rw[dZ]at iC l4;exact⟨k',_,_,st,by simpa using iC,by simpa using l4⟩
   refine wpIn_seq (wpIn_block (wpIn_mono (Q:=λe a w=>((e=.normal\/e=.exit 1)/\FA i a/\NX w)\/(e=.ret/\bodyPost prog f142 R .ret a w)) ?_ ?_))
   .
    have VM:=lE fa;refine wpIn_seq ?_;refine dK eN cV (ac:=ae.qa lk) (W:=λt=>decide (28<=t)||t==8) (by kernel_rfl) (by kernel_rfl) (by kernel_rfl) trivial (λb _=>b≠Y.bM) (eM Y now (r0 s.work.length i now.length s.work .bh)) VM.1 VM.2.1 (P0 fa st (j8 _ _)) (K:=λS H=>S 8=.box 8 0/\H 8=some [.int .i64 (xn:Nat)]) ?_ ?_
    .simp[c142,lk,lu,ae.qa,ae.qb,eM,r0,av,hx,dI,eb,dP,db,dG,cI,cJ,cb,cd,dE,b_,bL,fk,fj,ar,ao,ev,aD.S,aD.H,a_,aq,aH,AL.start,AV.aA,AV.cells,AV.storable,AV.bm,aR,aT,ee,aZ,HR.okB,post,cn,ct,cw,AV.out,AV.bC,bz,bW,fz,fM,AV.vw,AV.bF,bR,vI,int,bG,aB,cS,cg,fS,gL,dL,cG,aU]
    intro g S' H' a5 w5 hg R1 ⟨s8,h8⟩ aY;have fa:=uD fa R1.size (by rw[R1.defers,hg]<;>rfl) aY (λt h h8 _ _=>by simp[h8];omega)
    have fW:Below w4.heap.size w4 w5:=by have:=R1.below;rwa [R1.base]at this
    obtain⟨b8,YO,e8⟩:=jk R1 (by decide) s8;obtain⟨cs,vs,GZ,k0,k1,k2,k3,k4,k5,k6,k7,k8⟩:=R1.box 8 b8 YO;rw[h8]at k0;cases k0
    have hv8:vs=#[.int .i64 (xn:Nat)]:=by
     obtain⟨v0,rfl⟩:=j6 (vs:=vs) (by rw[<-k5]<;>rfl);have:=(RV.data (al:=bU) _ _ (k6 0 (by simp) (by simp))).int_eq;simp only[List.getElem_toArray,List.getElem_cons_zero]at this;rw[this]
    subst hv8
    have aat:w4.heap.size<=b8:=by rw[R1.base]at k1;exact k1
    have Xo:b8≠Y.bM:=by rintro rfl;have:=st.lt _ st.mp.1;omega
    have st:=st.grow fW;have q8:w5.heap[b8]?=some (.cells #[.int .i64 (xn:Nat)] GZ (0,0)):=k2
    have r8:∀{w:World},w.heap[b8]?=some (.cells #[.int .i64 (xn:Nat)] GZ (0,0))->RV (λb _=>b≠Y.bM) bU w (.ref [.int .i64 (xn:Nat)]) (.pointer (some ⟨b8,0,none⟩)):=λh=>by
     refine .data _ _ (.ref _ _ _ (λ_=>.int .i64 (xn:Nat)) (λi hi=>?_) (λk hk=>⟨Xo,?_⟩) (λk hk=>?_))
     .have:i=0:=by simpa using hi
      subst this;rfl
     .have:k=0:=by simpa using hk
      subst this;simp[World.cell?,h]
     .have:k=0:=by simpa using hk
      subst this;exact .int _ _
    clear aY R1 hg g S' H' s8 h8 YO k1 k2 k3 k4 k5 k6 k7 k8 VM;have Hx:=st;show Code.wpIn _ _ _ _ _ a5 w5
    have OF:∀{a:Act}{k:Nat}{M:Nat->Prop}{Pr:Nat->Nat->Prop}{w:World},FA i a->a.tmps.getD 8 undef=.pointer (some ⟨b8,0,none⟩)->w.heap[b8]?=some (.cells #[.int .i64 (xn:Nat)] GZ (0,0))->js Y k M Pr now w->_:=λ{a}{k}{M}{Pr}{w} fa e8 q8 st=>P0 (v8:=.ref [.int .i64 (xn:Nat)]) fa st ⟨rfl,by rw[e8];exact r8 q8⟩
    obtain⟨skip,uQ⟩:∃skip:Bool,skip=(match now.getLast? with|none=>false|some d=>decide ((xn:Int)<=d)):=⟨_,rfl⟩
    refine wpIn_seq (wpIn_seq ?_)
    refine IL eN cV (n:=70) (p:=16) (W:=kV) (l:=(lk.qb.qa.qa.dl).take 16) (by kernel_rfl) (by kernel_rfl) (by kernel_rfl) (by kernel_rfl) (by kernel_rfl) (by kernel_rfl) trivial (λb _=>b≠Y.bM) (eM Y now (r0 s.work.length i now.length s.work (.ref [.int .i64 (xn:Nat)]))) (lE fa).1 (lE fa).2.1 (OF fa e8 q8 st)
     (K:=λS _=>S 42=.bool skip/\(skip=false->S 43=fb s/\S 44=.int .i64 now.length/\S 45=.int .i64 (xn:Nat)/\S 46=.val (er Y.bM))) ?_ ?_
    .rw[uQ]
     cases qI:now.getLast? with
     |none=>
      have p_:now=[]:=by cases now with|nil=>rfl|cons _ _=>simp at qI
      subst p_;simp[c142,lk,lu,ae.qa,ae.qb,ae.dl,dL,cG,aU,dc,ar,fL,ao,aM,aD.S,aD.H,ev,aq,aH,eM,r0,aZ,AV.aA,AV.vw,AV.cells,AV.storable,AV.bF,vI,ints,ee,bG,fb,cC,cK]
     |some dl=>
      have bQ:now≠[]:=by rintro rfl;cases qI
      have iy:0<now.length:=by cases now with|nil=>exact absurd rfl bQ|cons _ _=>simp
      have Sj:IntKind.i64.wrap ((now.length:Int)-1)=((now.length-1:Nat):Int):=by rw[bf (by omega)];omega
      have n1:¬((now.length-1:Nat):Int)<0:=by omega
      have n2:now.length-1<now.length:=by omega
      have E8:now[now.length-1]'(by omega)=dl:=by
       rw[List.getLast?_eq_getElem?,List.getElem?_eq_getElem (by omega)]at qI;exact Option.some.inj qI
      by_cases hle:(xn:Int)<=dl<;>
      simp[c142,lk,lu,ae.qa,ae.qb,ae.dl,dL,cG,aU,dc,ar,fL,ao,aM,aD.S,aD.H,ev,aq,aH,eM,r0,aZ,AV.aA,AV.vw,AV.cells,AV.storable,AV.bF,vI,ints,ee,bG,fb,cC,cK,iy,Sj,n1,n2,E8,hle]
    intro g S' H' a6 w6 hg R1 ⟨VI,PD⟩ aY;show wpOpsIn _ _ _ _ _ [16,17,18] a6 w6;have fa5:=fa;have fa:=uD fa R1.size (by rw[R1.defers,hg]<;>rfl) aY (λt h _ _ _=>by simp[kV];omega)
    have R_:Below w5.heap.size w5 w6:=by have:=R1.below;rwa [R1.base]at this
    have e8:a6.tmps.getD 8 undef=.pointer (some ⟨b8,0,none⟩):=(aY 8 rfl).trans e8;have hl8:b8<w5.heap.size:=(Array.getElem?_eq_some_iff.1 q8).1;have q8:w6.heap[b8]?=some (.cells #[.int .i64 (xn:Nat)] GZ (0,0)):=(R_.block b8 hl8).trans q8;have st:=st.grow R_
    have Fo:a6.tmps.getD 42 undef=.bool skip:=by
     have:=R1.slot 42 (by decide) id;rw[VI]at this;exact this.fB
    have NL:=R1.size
    cases skip with
    |true=>
     have dZ:nH s r now xn=false:=by
      unfold nH
      cases qI:now.getLast? with
      |none=>rw[qI]at uQ;cases uQ
      |some dl=>
       rw[qI]at uQ
       have:¬dl<(xn:Int):=by have:=of_decide_eq_true uQ.symm;omega
       simp[this]
     refine uB R1 eN trivial (l2:=[16,17,18]) (jC:=[_,_,_]) rfl (by kernel_rfl) (al:=(lk.qb.qa.qa.dl).drop 16) (by kernel_rfl) (by kernel_rfl) (W:=kV) (by kernel_rfl) (by rw[hg];exact λ_ h=>h) (K:=λS _=>S 49=.bool true) ?_ ?_
     .simp[c142,lk,lu,ae.qa,ae.qb,ae.dl,bg,ar,aM,ao,aD.S,aD.H,ev,aq,aH,VI,bG,AV.aA]
     intro g2 S2 H2 a7 w7 n9 R2 ZW gM;have fa:=uD fa R2.size (by rw[R2.defers,n9,hg]<;>rfl) gM (λt h _ _ _=>by simp[kV];omega)
     have VA:a7.tmps.getD 49 undef=.bool true:=by
      have:=R2.slot 49 (by decide) id;rw[ZW]at this;exact this.fB
     have Wf:Below w5.heap.size w5 w7:=by have:=R2.below;rwa [R2.base]at this
     show Code.wpIn _ _ _ _ _ a7 w7;refine wpIn_cond (t:=true) VA ?_;simp only[if_true];exact wpIn_exit (.inl ⟨.inr rfl,fa,JX dZ (Hx.grow Wf)⟩)
    |false=>
     obtain⟨YK,Ob,F9,mD⟩:=PD rfl
     have XO:RD g.Pr w6 (fb s) (a6.tmps.getD 43 undef):=by
      have:=R1.slot 43 (by decide) id;rw[YK]at this;exact this.dA rfl
     have Wn:a6.tmps.getD 44 undef=.int .i64 (now.length:Nat):=eR R1 (by decide) Ob;have JU:a6.tmps.getD 45 undef=.int .i64 (xn:Nat):=eR R1 (by decide) F9
     have Zv:a6.tmps.getD 46 undef=er Y.bM:=by
      have:=R1.slot 46 (by decide) id;rw[mD]at this;exact this.gp
     obtain⟨hMM,es6,ck6,l6,m1,m2,m3⟩:=st.mp;have RS:Y.bM<w5.heap.size:=Hx.lt _ Hx.mp.1
     have jv:=Oq s hl hb yA yl jr r now.length xn (by omega) (by omega) w6 g.Pr Y.bM es6 ck6 l6 (a6.tmps.getD 43 undef) m1 m2 m3 (λj hp=>by
      rcases hp with hp|hp
      .rw[hg]at hp;exact hp.2 rfl
      .have:=R1.base;omega) XO
     have wanted:∀(a:Act),a.tmps.size=70->a.tmps.getD 42 undef=.bool false->a.tmps[42]?=some (.bool false):=λa hs h=>by
      have h2:a.tmps[42]?=some (a.tmps.getD 42 undef):=by simp[hs]
      rw[h2,h]
     have Kf:=wanted a6 NL Fo;refine xC rfl (by simp[Region.wanted,yielded,rO,Kf]) (by rfl) (fV (k:=143) (args:=#[a6.tmps.getD 43 undef,.int .i64 (now.length:Nat),.int .i64 (xn:Nat),er Y.bM]) w6 rfl rfl ?_ (by kernel_rfl)) jv ?_
     .simp only[List.map_toArray,List.map_cons,List.map_nil,Act.eval];rw[Wn,JU,Zv]
     rintro e w7 ⟨rfl,Z2,hM7⟩;refine⟨_,rfl,?_⟩;obtain⟨es7,ck7,l7,n1,n2,n3,_⟩:=hM7;have st:=st.swap Z2 ⟨es7,ck7,l7,n1,n2,n3⟩;have Xc:b8<w6.heap.size:=(Array.getElem?_eq_some_iff.1 q8).1;have q8:w7.heap[b8]?=some (.cells #[.int .i64 (xn:Nat)] GZ (0,0)):=(Z2.block b8 Xc Xo).trans q8
     obtain⟨go,iE⟩:∃go,fy s r now.length xn=go:=⟨_,rfl⟩
     rw[iE]
     have z1:(a6.put (some 47) (.bool go)).tmps.size=70:=by rw[fJ];exact NL
     have f47:(a6.put (some 47) (.bool go)).tmps.getD 47 undef=.bool go:=eO _ _ _ NL (by decide);have f42:=wanted _ z1 (by rw[cz _ _ _ _ (by decide)];exact Fo);refine Af rfl (by simp[Region.wanted,yielded,rO,f42]) (by rfl) (wg (x:=.tmp 47) w7 rfl f47) ?_
     have z2:((a6.put (some 47) (.bool go)).put (some 48) (.bool !go)).tmps.size=70:=by rw[fJ,fJ];exact NL
     have WK:((a6.put (some 47) (.bool go)).put (some 48) (.bool !go)).tmps.getD 48 undef=.bool !go:=eO _ _ _ z1 (by decide)
     have X_:((a6.put (some 47) (.bool go)).put (some 48) (.bool !go)).tmps.getD 42 undef=.bool false:=by rw[cz _ _ _ _ (by decide),cz _ _ _ _ (by decide)];exact Fo
     have P4:((a6.put (some 47) (.bool go)).put (some 48) (.bool !go)).eval (.tmp 48)=.bool !go:=WK;refine aK rfl rfl (by rfl) (v:=.bool !go) (w':=w7) ((IZ (b:=false) (c:=.tmp 42) (x:=.const (.bool true)) (y:=.tmp 48) rfl X_).trans (by simp only[Bool.false_eq_true,if_false];rw[P4])) ?_
     obtain⟨a7,Pq⟩:∃a7,((a6.put (some 47) (.bool go)).put (some 48) (.bool !go)).put (some 49) (.bool !go)=a7:=⟨_,rfl⟩
     have Kk:eF kV a6 a7:=λt ht=>by
      have:t<28:=by simp[kV]at ht;omega
      rw[<-Pq,cz _ _ _ _ (by omega),cz _ _ _ _ (by omega),cz _ _ _ _ (by omega)]
     have z7:a7.tmps.size=70:=by rw[<-Pq,fJ,fJ,fJ];exact NL
     have d7:a7.defers=[]:=by rw[<-Pq];exact(lE fa).2.1
     have fa:=uD fa z7 d7 Kk (λt h _ _ _=>by simp[kV];omega);have e8:a7.tmps.getD 8 undef=.pointer (some ⟨b8,0,none⟩):=(Kk 8 rfl).trans e8
     have VA:a7.tmps.getD 49 undef=.bool !go:=by rw[<-Pq];exact eO _ _ _ z2 (by decide)
     show Code.wpIn _ _ _ _ _ (((a6.put (some 47) (.bool go)).put (some 48) (.bool !go)).put (some 49) (.bool !go)) w7;rw[Pq];clear P4 WK X_ f42 f47 z1 z2 Kf Zv JU Wn XO YK Ob F9 mD jv R1 PD VI Fo aY;refine wpIn_cond (t:=!go) VA ?_
     cases go with
     |false=>
      simp only[Bool.not_false,if_true];refine wpIn_exit (.inl ⟨.inr rfl,fa,JX ?_ st⟩);simp only[nH,Int.toNat_natCast,iE,Bool.false_and,Bool.and_false]
     |true=>
     simp only[Bool.not_true,Bool.false_eq_true,if_false];refine wpIn_skip ?_;show Code.wpIn _ _ _ _ _ a7 w7;refine wpIn_seq (wpIn_mono (Q:=λe a w=>(e=.normal/\FA i a/\a.tmps.getD 8 undef=.pointer (some ⟨b8,0,none⟩)/\w.heap[b8]?=some (.cells #[.int .i64 (xn:Nat)] GZ (0,0))/\(∃M Pr,js Y k' M Pr now w)/\nH s r now xn=true)\/(e=.exit 1/\FA i a/\NX w)) ?_ ?_)
     .refine wpIn_seq ?_;refine dK eN cV (ac:=ae.qa wv) (W:=kV) (by kernel_rfl) (by kernel_rfl) (by kernel_rfl) trivial (λb _=>b≠Y.bM) (eM Y now (r0 s.work.length i now.length s.work (.ref [.int .i64 (xn:Nat)]))) (lE fa).1 (lE fa).2.1 (OF fa e8 q8 st) (K:=λS _=>S 51=.bool (decide (0<now.length))) ?_ ?_
      .simp[c142,wv,lk,lu,ae.qa,ae.qb,eM,r0,dI,eb,dP,db,dG,cI,cJ,cb,cd,dE,b_,bL,fk,fj,ar,ao,ev,aD.S,aD.H,a_,aq,aH,AL.start,AV.aA,AV.cells,AV.storable,AV.bm,aR,aT,ee,aZ,HR.okB,post,cn,ct,cw,AV.out,AV.bC,bz,bW,fz,fM,AV.vw,AV.bF,bR,vI,int,bG,aB,cS,cg,fS,gL,dL,cG,aU]
      intro g S' H' a8 w8 hg R1 WT aY;have fa:=uD fa R1.size (by rw[R1.defers,hg]<;>rfl) aY (λt h _ _ _=>by simp[kV];omega)
      have Rk:Below w7.heap.size w7 w8:=by have:=R1.below;rwa [R1.base]at this
      have WI:b8<w7.heap.size:=(Array.getElem?_eq_some_iff.1 q8).1;have e8:a8.tmps.getD 8 undef=.pointer (some ⟨b8,0,none⟩):=(aY 8 rfl).trans e8;have q8:w8.heap[b8]?=some (.cells #[.int .i64 (xn:Nat)] GZ (0,0)):=(Rk.block b8 WI).trans q8;have st:=st.grow Rk
      have e51:a8.tmps.getD 51 undef=.bool (decide (0<now.length)):=by
       have:=R1.slot 51 (by decide) id;rw[WT]at this;exact this.fB
      clear R1 hg WT aY g S' H';show Code.wpIn _ _ _ _ _ a8 w8;refine wpIn_cond (t:=decide (0<now.length)) e51 ?_
      cases qI:now.getLast? with
      |none=>
       have p_:now=[]:=by cases now with|nil=>rfl|cons _ _=>simp at qI
       have ZT:¬0<now.length:=by rw[p_];simp
       simp only[ZT,decide_false,Bool.false_eq_true,if_false];refine wpIn_skip (.inl ⟨rfl,fa,e8,q8,⟨_,_,st⟩,?_⟩);unfold nH;rw[qI];simp only[Int.toNat_natCast,iE,Bool.true_and,Bool.and_true]
      |some dl=>
       have bQ:now≠[]:=by rintro rfl;cases qI
       have iy:0<now.length:=by cases now with|nil=>exact absurd rfl bQ|cons _ _=>simp
       have CU:dl∈s.work:=Q3 dl (List.mem_of_getLast? qI);obtain⟨hd0,oa⟩:=yA dl CU
       obtain⟨dn,rfl⟩:∃dn:Nat,dl=dn:=⟨dl.toNat,by omega⟩
       rw[qI]at uQ
       have TO:(dn:Int)<xn:=by have:=of_decide_eq_false uQ.symm;omega
       have Rs:nH s r now xn=fU s (now.length-1) dn xn true:=by
        unfold nH;rw[qI];simp only[Int.toNat_natCast,iE,TO,decide_true,Bool.true_and]
       simp only[iy,decide_true,if_true];obtain⟨c,e',Hd⟩:=Dj eN s (f:=144) (by kernel_rfl) (UG s hl hb wR jr qI (by omega) (x:=xn) (by omega));refine wpIn_seq ?_;refine dK eN cV (ac:=ae.qa (ae.vX wv.qb)) (W:=λt=>decide (28<=t)||t==9||t==10) (by kernel_rfl) (by kernel_rfl) (by kernel_rfl) trivial (λb _=>b≠Y.bM) (eM Y now (r0 s.work.length i now.length s.work (.ref [.int .i64 (xn:Nat)]))) (lE fa).1 (lE fa).2.1 (OF fa e8 q8 st) (K:=λS _=>S 10=.int .i64 (if fU s (now.length-1) dn xn true then 0 else 7)) ?_ ?_
       .simp[c142,wv,lk,lu,ae.qa,ae.qb,ae.vX,eM,r0,dI,eb,dP,db,dG,cI,cJ,cb,cd,dE,b_,bL,fk,fj,ar,ao,ev,aD.S,aD.H,a_,aq,aH,AL.start,AV.aA,AV.cells,AV.storable,AV.bm,aR,aT,ee,aZ,HR.okB,post,cn,ct,cw,AV.out,AV.bC,bz,bW,fz,fM,AV.vw,AV.bF,bR,vI,int,bG,aB,cS,cg,fS,gL,dL,cG,aU];refine⟨_,by kernel_rfl,Hd,by simp[bR,mG],?_⟩;simp[Cy,dI,eb,dP,db,dG,cI,cJ,cb,cd,dE,b_,bL,fk,fj,ar,ao,ev,aD.S,aD.H,a_,aq,aH,AL.start,AV.aA,AV.cells,AV.storable,AV.bm,aR,aT,ee,aZ,HR.okB,post,cn,ct,cw,AV.out,AV.bC,bz,bW,fz,fM,AV.vw,AV.bF,bR,vI,int,bG,aB,cS,cg,fS,gL,dL,cG,aU]
       intro g S' H' a9 w9 hg R1 fu aY;have fa:=uD fa R1.size (by rw[R1.defers,hg]<;>rfl) aY (λt h _ h9 jK=>by simp[h9,jK];omega);have Yr:b8<w8.heap.size:=(Array.getElem?_eq_some_iff.1 q8).1;have e8:a9.tmps.getD 8 undef=.pointer (some ⟨b8,0,none⟩):=(aY 8 rfl).trans e8;show Code.wpIn _ _ _ _ _ a9 w9;refine wpIn_seq ?_;refine dT R1 eN trivial cV (ac:=ae.qa (ae.qb (ae.vX wv.qb))) (W:=kV) (by kernel_rfl) (by kernel_rfl) (by kernel_rfl) (by rw[hg];exact λ_ h=>h) (K:=λS _=>S 58=.bool (!fU s (now.length-1) dn xn true)) ?_ ?_
       .cases eZ:fU s (now.length-1) dn xn true<;>rw[eZ]at fu<;>simp[c142,wv,lk,lu,ae.qa,ae.qb,ae.vX,fu,dI,eb,dP,db,dG,cI,cJ,cb,cd,dE,b_,bL,fk,fj,ar,ao,ev,aD.S,aD.H,a_,aq,aH,AL.start,AV.aA,AV.cells,AV.storable,AV.bm,aR,aT,ee,aZ,HR.okB,post,cn,ct,cw,AV.out,AV.bC,bz,bW,fz,fM,AV.vw,AV.bF,bR,vI,int,bG,aB,cS,cg,fS,gL,dL,cG,aU]
       intro g2 S2 H2 yk ka n9 R2 s58 gM;have fa:=uD fa R2.size (by rw[R2.defers,n9,hg]<;>rfl) gM (λt h _ _ _=>by simp[kV];omega)
       have ON:Below w8.heap.size w8 ka:=by have:=R2.below;rwa [R2.base]at this
       have e8:yk.tmps.getD 8 undef=.pointer (some ⟨b8,0,none⟩):=(gM 8 rfl).trans e8
       have e58:yk.tmps.getD 58 undef=.bool (!fU s (now.length-1) dn xn true):=by
        have:=R2.slot 58 (by decide) id;rw[s58]at this;exact this.fB
       have q8:ka.heap[b8]?=some (.cells #[.int .i64 (xn:Nat)] GZ (0,0)):=(ON.block b8 Yr).trans q8;have st:=st.grow ON;show Code.wpIn _ _ _ _ _ yk ka;refine wpIn_cond (t:=!fU s (now.length-1) dn xn true) e58 ?_
       cases eZ:fU s (now.length-1) dn xn true with
       |false=>
        simp only[Bool.not_false,if_true];exact wpIn_exit (.inr ⟨rfl,fa,JX (by rw[Rs];exact eZ) st⟩)
       |true=>
        simp only[Bool.not_true,Bool.false_eq_true,if_false];exact wpIn_skip (.inl ⟨rfl,fa,e8,q8,⟨_,_,st⟩,by rw[Rs];exact eZ⟩)
     .rintro e yk ka (⟨rfl,fa,e8,q8,⟨M,Pr,st⟩,bB⟩|⟨rfl,fa,hn⟩)
      case inr=>exact .inl ⟨.inr rfl,fa,hn⟩
      show Code.wpIn _ _ _ _ _ yk ka;have fr:=(lE fa).2.2;obtain⟨v,ty,j5,hN,Oo,cE,sy,G7⟩:=st.now;obtain⟨i3,wX,uf⟩:=iZ 3 1;obtain⟨i28,N8,OL⟩:=iZ 28 1;obtain⟨d3,BB,Rv⟩:=vZ 3;have Vd:(ints now).length=now.length:=bz now
      have cN:ka.cell? ⟨Y.bN,0,none⟩=some v:=by simp[World.cell?,hN]
      have c8:ka.cell? ⟨b8,0,none⟩=some (.int .i64 (xn:Nat)):=by simp[World.cell?,q8]
      refine wpIn_seq (wpIn_region ?_);show wpOpsIn _ _ _ _ _ [0,1,2,3,4] yk ka;refine G4 (i:=0) (j:=1) (d:=59) (e:=60) rfl rfl rfl rfl rfl rfl rfl rfl (by decide) (gV (t:=28) (x:=.tmp 0) (v:=v) rfl fr.t0 Kz CZ cN) (gV (t:=3) (x:=.tmp 8) (v:=.int .i64 (xn:Nat)) rfl ((cz _ _ _ _ (by decide)).trans e8) BB Rv c8) (gV (t:=28) (x:=.tmp 0) (v:=v) rfl ((cz _ _ _ _ (by decide)).trans fr.t0) Kz CZ cN) ?_;have Ml:=xj (c:=.int .i64 (xn:Nat)) fr (d:=60) (by decide);have fap:FA i (yk.put (some 60) (.int .i64 (xn:Nat))):=uD fa Ml.size Ml.defers (W:=kV) (λt ht=>cz _ _ _ _ (by rintro rfl;simp[kV]at ht)) (λt h _ _ _=>by simp[kV];omega);have p60:(yk.put (some 60) (.int .i64 (xn:Nat))).tmps.getD 60 undef=.int .i64 (xn:Nat):=eO _ _ _ fr.size (by decide)
      refine G8 (n:=70) (l2:=[0,2,3,4]) (jC:=[_,_,_,_]) rfl (by kernel_rfl) (al:=(xf.qa.dl).take 1++(xf.qa.dl).drop 2) (by kernel_rfl) (by kernel_rfl) (W:=kV) (by kernel_rfl) (λ_ _=>False)
       (λt=>if t=0 then .box 0 0 else if t=60 then .int .i64 (xn:Nat)else .bh) (nm:=0) (tp:=0) (es:=ints now) (es':=ints (now++[(xn:Int)])) (by decide) rfl Ml.t0 Ml.size Ml.defers hN wX (by rw[uf,Vd];exact cE) (by rw[uf];exact sy.mono (aL.same λ_ _ _ h=>h.elim)) ?_ ?_ ?_ ?_ ?_
      .intro t ht
       by_cases t0:t=0
       .subst t0;rw[if_pos rfl];exact⟨rfl,.inl ⟨rfl,Ml.t0⟩⟩
       rw[if_neg t0]
       by_cases t60:t=60
       .subst t60;rw[if_pos rfl,p60];exact⟨rfl,.inr (.data _ _ (.int _ _))⟩
       rw[if_neg t60];exact⟨rfl,.inr (.bh _)⟩
      .have uF:now.length+1<1048576:=by omega
       cases zz:v.ownBlock with
       |none=>
        have he:now=[]:=by
         rcases cE.2 with⟨_,h⟩|⟨gg,cap,cur,rfl,_⟩
         .exact List.eq_nil_of_length_eq_zero h
         .cases zz
        subst he;simp[c142,xf,lk,lu,ae.qa,ae.qb,ae.dl,bg,ar,aM,ao,aD.S,aD.H,ev,aq,aH,aZ,AV.aA,AV.vw,AV.cells,AV.storable,AV.bF,kz,zz,HR.okB,a_,ints,aF,aR,AV.bm]
       |some bv=>
        simp[c142,xf,lk,lu,ae.qa,ae.qb,ae.dl,bg,ar,aM,ao,aD.S,aD.H,ev,aq,aH,aZ,AV.aA,AV.vw,AV.cells,AV.storable,AV.bF,kz,zz,HR.okB,a_,ints,aF,aR,AV.bm,uF]
      .intro y hy;obtain⟨z,_,rfl⟩:=List.mem_map.1 hy;exact⟨uf.symm,rfl,λc hc=>by simp[AV.cells]at hc;subst hc;rfl⟩
      .intro y hy c hc;obtain⟨z,_,rfl⟩:=List.mem_map.1 hy;simp[AV.cells]at hc;subst hc;rfl
      intro a2 JH v' sU SA AU FZ gM MY qi zg gf pV;have fa2:=uD fap AU FZ gM (λt h _ _ _=>by simp[kV];omega)
      have Bo:∀b,(b=Y.bN\/v.ownBlock=some b)->M b/\¬Y.MI b/\b≠Y.bM:=by
       rintro b (rfl|hb)
       .exact⟨Oo,λh=>(st.mi _ h).2.1 rfl,Ne.symm Y.ne⟩
       .exact G7 b hb
      have lO:aL Pr Pr ka JH:=aL.iO λb k av hp=>gf.block b av λhm=>C.apart st.j b k (Bo b hm).1 hp
      have Cq:∀b,Y.MI b->JH.heap[b]?=ka.heap[b]?:=λb h=>gf.block b (st.lt b (st.mi b h).1) λhm=>(Bo b hm).2.1 h
      have RE:JH.heap[Y.bM]?=ka.heap[Y.bM]?:=gf.block _ (st.lt _ st.mp.1) λhm=>(Bo _ hm).2.2 rfl
      have Oh:(ints (now++[(xn:Int)])).length=(now++[(xn:Int)]).length:=bz _
      have Lm:js Y k' (λb=>M b\/(ka.heap.size<=b/\b<JH.heap.size)) Pr (now++[(xn:Int)]) JH:=by
       refine⟨C.eP st.j (M':=λb=>M b\/(ka.heap.size<=b/\b<JH.heap.size)) ⟨gf.os,gf.tape,gf.output,gf.size,λb hb hm=>gf.block b hb λh=>hm (Bo b h).1⟩ λb hb=>?_,λb hb=>?_,λb h=>⟨.inl (st.mi b h).1,(st.mi b h).2.1,(st.mi b h).2.2.1,(Cq b h).trans (st.mi b h).2.2.2⟩,⟨v',sU,SA,MY,.inl Oo,?_,?_,λb hb=>?_⟩,wY st.x lO,.inl st.mp.1,by rw[RE];exact st.mp.2⟩
       .rcases hb with hb|hb
        .exact⟨Nat.lt_of_lt_of_le (st.lt b hb) gf.size,.inl hb⟩
        .exact⟨hb.2,.inr hb.1⟩
       .rcases hb with hb|hb
        .exact Nat.lt_of_lt_of_le (st.lt b hb) gf.size
        .exact hb.2
       .rw[uf,Oh]at qi;exact qi
       .rw[uf]at zg;exact zg
       .rcases pV b hb with h|h
        .exact⟨.inl (G7 b h).1,(G7 b h).2⟩
        .refine⟨.inr ⟨h,(qi.lt b hb).2⟩,λhm=>?_,?_⟩
         .have:=st.lt b (st.mi b hm).1;omega
         .rintro rfl;have:=st.lt _ st.mp.1;omega
      clear Bo lO Cq RE pV qi zg MY gf cE sy hN cN c8 G7;show Code.wpIn _ _ _ _ _ a2 JH;have Ge:=(lE fa2).2.2;refine wpIn_seq (wpIn_seq ?_);refine mP eN (p:=1) (l2:=[1,2]) rfl (by kernel_rfl) (by kernel_rfl) (l:=(xf.qb.qa.qa.dl).take 1) (by kernel_rfl) (by decide) (W:=kV) (by kernel_rfl) trivial (λb _=>b≠Y.bM) (eM Y (now++[(xn:Int)]) λ_=>.bh) Ge.size Ge.defers (Lm.gO Ge λ_ _ _=>⟨rfl,.bh _⟩) (K:=λS _=>S 63=.val Y.fv) ?_ ?_
      .simp[c142,xf,lk,lu,ae.qa,ae.qb,ae.dl,bg,ar,aM,ao,aD.S,aD.H,ev,aq,aH,eM,aZ,AV.aA]
      rintro g S' H' a3 Wa hg R1 Qz oe;have NO:=uD fa2 R1.size (by rw[R1.defers,hg]<;>rfl) oe (λt h _ _ _=>by simp[kV];omega);have Ew:=Lm.grow (by have:=R1.below;rwa [R1.base]at this);have Qy:=R1.slot 63 (by decide) id;rw[Qz]at Qy;have Qy:=Qy.gp;clear R1 hg oe Qz;have Bz:nH s r now xn=true:=bB;rw[bB]at iC l4;simp only[if_true]at iC l4;rw[List.map_append,List.append_assoc]at iC
      have jv:=ih r (Nat.lt_succ_self r) Y (now++[(xn:Int)]) k' _ Pr Wa _ (by simp;omega) (λy hy=>by
       rcases List.mem_append.1 hy with h|h
       .exact Q3 y h
       .rw[List.mem_singleton]at h;rw[h];exact IF) Ew iC
      refine ik rfl rfl (by rfl) (mY (f:=.tmp 63) Wa rfl rfl rfl Qy (by kernel_rfl)) jv ?_;rintro e mu ⟨M4,vn,nr⟩
      obtain⟨b,rfl⟩:∃b:Bool,e=.returned (.bool b):=by rcases nr with⟨rfl,_⟩|⟨rfl,_⟩<;>exact⟨_,rfl⟩
      refine⟨_,rfl,?_⟩;have h64:(a3.put (some 64) (.bool b)).tmps.getD 64 undef=.bool b:=eO _ _ _ (lE NO).1 (by decide);refine aK rfl rfl (by rfl) (v:=.bool !b) (w':=mu) (wg (x:=.tmp 64) mu rfl h64) ?_;show Code.wpIn _ _ _ _ _ ((a3.put (some 64) (.bool b)).put (some 65) (.bool !b)) mu
      obtain⟨Bq,hZ⟩:∃Bq,(a3.put (some 64) (.bool b)).put (some 65) (.bool !b)=Bq:=⟨_,rfl⟩
      have FH:eF kV a3 Bq:=λt ht=>by
       have:t<28:=by simp[kV]at ht;omega
       rw[<-hZ,cz _ _ _ _ (by omega),cz _ _ _ _ (by omega)]
      have Mi:=uD NO (by rw[<-hZ,fJ,fJ];exact(lE NO).1) (by rw[<-hZ];exact(lE NO).2.1) FH (λt h _ _ _=>by simp[kV];omega)
      have h65:Bq.tmps.getD 65 undef=.bool !b:=by rw[<-hZ];exact eO _ _ _ (by rw[fJ];exact(lE NO).1) (by decide)
      rw[hZ];refine wpIn_cond (t:=!b) h65 ?_
      cases b with
      |false=>
       have hX:C.X M4 vn mu:=by
        rcases nr with⟨h,_⟩|⟨_,h⟩
        .cases h
        .exact h
       simp only[Bool.not_false,if_true];refine wpIn_seq (wpIn_region ?_);show wpOpsIn _ _ _ _ _ [0] Bq mu;refine aK rfl rfl (by rfl) (v:=.bool false) (w':=mu) (run_assign (x:=.const (.bool false)) mu rfl) ?_;show Code.wpIn _ _ _ _ _ (Bq.put (some 5) (.bool false)) mu;refine wpIn_ret (.inr ⟨rfl,Pz (lE Mi).2.1 (eO _ _ _ (lE Mi).1 (by decide)) ?_⟩);rw[<-hc];exact⟨M4,vn,.inr ⟨rfl,hX⟩⟩
      |true=>
       have mb:js Y (k'+(kA s r (now++[(xn:Int)])).length) M4 vn (now++[(xn:Int)]) mu:=by
        rcases nr with⟨_,h⟩|⟨h,_⟩
        .exact h
        .cases h
       simp only[Bool.not_true,Bool.false_eq_true,if_false];refine wpIn_skip ?_;show Code.wpIn _ _ _ _ _ Bq mu;obtain⟨v4,Lj,Eu,KP,AD,zj,MR,O2⟩:=mb.now
       have U6:Eu.length=(now.length+1)*1:=by have:=zj.1;simpa using this
       have PL:mu.ownsRow (Y.bN+1) 3 1 v4 (now.length+1) (Eu.take now.length++Eu.drop now.length):=by rw[List.take_append_drop];simpa using zj
       obtain⟨AH,sD,rfl,UZ,J3⟩:=Gl (P:=prog) PL (by rw[List.length_take,U6];omega);have y5:=(lE Mi).2.2
       have cN4:mu.cell? ⟨Y.bN,0,none⟩=some (.slice (some ⟨AH,0,none⟩) (now.length+1) sD):=by simp[World.cell?,KP]
       have c64:mu.cell? ⟨b6,0,none⟩=some (.int .i64 (now.length:Nat)):=by simp[World.cell?,c6 mb]
       have e6:Bq.tmps.getD 6 undef=.pointer (some ⟨b6,0,none⟩):=by rw[Gu]at Mi;exact Mi.2.1
       refine wpIn_region ?_;show wpOpsIn _ _ _ _ _ [0,1,2,3] Bq mu;refine aK rfl rfl (by rfl) (gV (t:=28) (x:=.tmp 0) rfl y5.t0 Kz CZ cN4) ?_;show wpOpsIn _ _ _ _ _ [1,2,3] (Bq.put (some 66) (.slice (some ⟨AH,0,none⟩) (now.length+1) sD)) mu;refine kn (λa=>FA i a/\a.tmps.getD 66 undef=.slice (some ⟨AH,0,none⟩) (now.length+1) sD) ⟨uD Mi (by rw[fJ];exact y5.size) y5.defers (W:=kV) (λt ht=>cz _ _ _ _ (by rintro rfl;simp[kV]at ht)) (λt h _ _ _=>by simp[kV];omega),eO _ _ _ y5.size (by decide)⟩ ?_;rintro YA ⟨Cd,M9⟩
       have e6:YA.tmps.getD 6 undef=.pointer (some ⟨b6,0,none⟩):=by rw[Gu]at Cd;exact Cd.2.1
       refine aK rfl rfl (by rfl) (gV (t:=3) (x:=.tmp 6) rfl e6 BB Rv c64) ?_;show wpOpsIn _ _ _ _ _ [2,3] (YA.put (some 67) (.int .i64 (now.length:Nat))) mu;refine kn (λa=>FA i a/\a.tmps.getD 66 undef=.slice (some ⟨AH,0,none⟩) (now.length+1) sD/\a.tmps.getD 67 undef=.int .i64 (now.length:Nat)) ⟨uD Cd (by rw[fJ];exact(lE Cd).1) (lE Cd).2.1 (W:=kV) (λt ht=>cz _ _ _ _ (by rintro rfl;simp[kV]at ht)) (λt h _ _ _=>by simp[kV];omega),(cz _ _ _ _ (by decide)).trans M9,eO _ _ _ (lE Cd).1 (by decide)⟩ ?_;rintro a6x ⟨J8,M9,TG⟩;refine aK rfl rfl (by rfl) (xV (t:=28) (x:=.tmp 66) (y:=.tmp 67) rfl RN wX M9 TG UZ) ?_;show wpOpsIn _ _ _ _ _ [3] (a6x.put (some 68) (.slice (some ⟨AH,0,none⟩) now.length sD)) mu;refine kn (λa=>FA i a/\a.tmps.getD 68 undef=.slice (some ⟨AH,0,none⟩) now.length sD) ⟨uD J8 (by rw[fJ];exact(lE J8).1) (lE J8).2.1 (W:=kV) (λt ht=>cz _ _ _ _ (by rintro rfl;simp[kV]at ht)) (λt h _ _ _=>by simp[kV];omega),eO _ _ _ (lE J8).1 (by decide)⟩ ?_;rintro a7x ⟨RZ,e68⟩;refine dh rfl rfl (by rfl) (gK (t:=28) (x:=.tmp 0) (y:=.tmp 68) rfl (lE RZ).2.2.t0 N8 OL KP e68 rfl) ?_;show((Exit.normal=.normal\/Exit.normal=.exit 1)/\FA i a7x/\NX (mu.setRow Y.bN #[.slice (some ⟨AH,0,none⟩) now.length sD]))\/_;refine .inl ⟨.inl rfl,RZ,?_⟩
       have lY:∀b,b≠Y.bN->(mu.setRow Y.bN #[.slice (some ⟨AH,0,none⟩) now.length sD]).heap[b]?=mu.heap[b]?:=λb hb=>setRow_other mu Y.bN b _ hb
       have sN:(mu.setRow Y.bN #[.slice (some ⟨AH,0,none⟩) now.length sD]).heap.size=mu.heap.size:=by simp
       have Lg:aL vn vn mu (mu.setRow Y.bN #[.slice (some ⟨AH,0,none⟩) now.length sD]):=aL.iO λb k _ hp=>lY b (by rintro rfl;exact C.apart mb.j _ k AD hp)
       have X':js Y (k'+(kA s r (now++[(xn:Int)])).length) M4 vn now (mu.setRow Y.bN #[.slice (some ⟨AH,0,none⟩) now.length sD]):=by
        refine⟨C.eP mb.j ⟨rfl,rfl,rfl,by rw[sN];exact Nat.le_refl _,λb _ hm=>lY b (by rintro rfl;exact hm AD)⟩ λb hb=>⟨by rw[sN];exact mb.lt b hb,.inl hb⟩,λb hb=>by rw[sN];exact mb.lt b hb,λb h=>⟨(mb.mi b h).1,(mb.mi b h).2.1,(mb.mi b h).2.2.1,(lY b (mb.mi b h).2.1).trans (mb.mi b h).2.2.2⟩,
         ⟨_,Lj,Eu.take now.length,setRow_heap mu Y.bN _ _ Lj (0,0) KP,AD,?_,?_,λb hb=>O2 b hb⟩,wY mb.x Lg,mb.mp.1,by rw[lY _ Y.ne];exact mb.mp.2⟩
        .refine⟨J3.1,?_⟩
         rcases J3.2 with h|⟨gg,cap,cur,hv,mz,Nl,rest⟩
         .exact .inl h
         .exact .inr ⟨gg,cap,cur,hv,mz,(lY gg (by omega)).trans Nl,rest⟩
        .refine⟨λy hy=>by obtain⟨z,_,rfl⟩:=List.mem_map.1 hy;exact⟨rfl,rfl,λc hc=>by simp[AV.cells]at hc;subst hc;rfl⟩,λj hj k hk=>?_⟩
         have Pv:j<now.length:=by simpa[ints]using hj
         have c_:j<(ints (now++[(xn:Int)])).length:=by simp[ints];omega
         have j0:(ints (now++[(xn:Int)]))[j]=(ints now)[j]:=by
          simp only[ints,List.map_append,List.map_cons,List.map_nil];exact List.getElem_append_left (by simpa using Pv)
         obtain⟨u,u1,u2⟩:=MR.2 j c_ k (by rw[j0];exact hk);refine⟨u,?_,?_⟩
         .have lO:k < 1:=by
           simpa[ints,AV.cells]using hk
          rw[List.getElem?_take_of_lt (by omega)];exact u1
         .simp only[j0]at u2;exact u2.mono (aL.of_eq λ_ _ h=>h.elim)
       rw[TE,Lb];refine⟨_,_,_,X',?_,?_⟩
       .rw[<-List.drop_drop,iC];simp
       .rw[List.length_append]at l4;omega
   .have hw:IntKind.i64.wrap ((i:Int)+1)=i+1:=bf (by omega);rintro e a2 VK (⟨he,fa,hn⟩|⟨rfl,hr⟩)
    case inr=>exact hr
    rw[TE,Lb]at hn;obtain⟨k2,M2,Pr2,st,kE,iI⟩:=hn;rcases he with rfl|rfl
    all_goals
     show Code.wpIn _ _ _ _ _ a2 VK;refine dK eN cV (ac:=ae.qb lu.qb.qb) (W:=λt=>t==27||t==69) (by kernel_rfl) (by kernel_rfl) (by kernel_rfl) trivial (λb _=>b≠Y.bM) (eM Y now (r0 s.work.length i now.length s.work .bh)) (lE fa).1 (lE fa).2.1 (P0 fa st (j8 _ _)) (K:=λS _=>S 27=.int .i64 ((i+1:Nat):Int)) ?_ ?_
     .simp[c142,lu,ae.qa,ae.qb,eM,r0,hw,dI,eb,dP,db,dG,cI,cJ,cb,cd,dE,b_,bL,fk,fj,ar,ao,ev,aD.S,aD.H,a_,aq,aH,AL.start,AV.aA,AV.cells,AV.storable,AV.bm,aR,aT,ee,aZ,HR.okB,post,cn,ct,cw,AV.out,AV.bC,bz,bW,fz,fM,AV.vw,AV.bF,bR,vI,int,bG,aB,cS,cg,fS,gL,dL,cG,aU]
     intro g S' H' MH w16 hg R1 n_ aY;have RP:MH.tmps.getD 27 undef=.int .i64 ((i+1:Nat):Int):=eR R1 (by decide) n_;have st:=st.grow (by have:=R1.below;rwa [R1.base]at this)
     have fa':FA (i+1) MH:=by
      have hd:MH.defers=[]:=by rw[R1.defers,hg]<;>rfl
      have hz:=R1.size;rw[Gu]at fa⊢;obtain⟨fr,f6,f25,f26,f27⟩:=fa;exact⟨fr.step hz hd λt ht=>aY t (by simp;omega),(aY 6 rfl).trans f6,(aY 25 rfl).trans f25,(aY 26 rfl).trans f26,RP⟩
     refine⟨⟨i+1,k2,fa',by omega,by rw[Lb];exact⟨M2,Pr2,st,kE,iI⟩⟩,?_⟩;simp only[RP,Gk];simp;omega
end Go.Proofs.Tryz
namespace Go.Proofs.Tryz
open Go Go.AL Go.RowKit Go.Proofs Go.Proofs.Tram
def LJ{P:Program}{a:Act}{o:Oper}{t:TypeId}{x:Operand}{v:Value}(w:World)(ho:o.op=.box t x)(hx:a.eval x=v):(execOp a.eval o).run P w=.ok (.value (.pointer (some ⟨w.heap.size,0,none⟩))) (w.alloc (.cells v.cells t)):=by
 unfold execOp;simp[ho,hx,Instr.box,newVar,newRow]
def Le{Pr:Nat->Nat->Prop}{w:World}{s:bO}{c:Value}(h:RV Pr bU w (.ref (cC s)) c):∃(bX oX:Nat)(fx:Nat->Value),c=.pointer (some ⟨bX,oX,none⟩)/\∀j (h:j<5),Pr bX (oX+j)/\w.cell? ⟨bX,oX+j,none⟩=some (fx j)/\RD Pr w ((cC s)[j]'(by simpa[cC,cK]using h)) (fx j):=by
 cases h with
 |data _ _ h=>
  cases h with
  |ref cs b off f h1 h2 h3=>exact⟨b,off,f,rfl,λj hj=>⟨(h2 j (by simpa[cC,cK]using hj)).1,(h2 j (by simpa[cC,cK]using hj)).2,h3 j (by simpa[cC,cK]using hj)⟩⟩
def Sz (s:bO) (hl:s.dY.length≤1000) (hb:lL s) (yA:∀ x∈s.work,0≤x∧x < s.dY.length) (yl:s.work.length≤1000) (jr:s.eG.length≤1000) :
  nK prog GT 141 [.ref (cC s)] ((kA s s.eG.length []).map vI):=by
 intro l C w Pr bp hJ hlen hr;obtain⟨cX,rfl⟩:∃cX,bp=#[cX]:=j6 (by simpa using hlen.symm);have Lv:=hr 0 (by simp) (by simp);simp only[List.getElem_cons_zero,List.getElem_toArray]at Lv;obtain⟨bX,oX,fx,rfl,hx⟩:=Le Lv;refine(eA (ro:=none) (m:=0)).1 (callsIn_of_wp func141 rfl trivial ?_);refine fc (λa=>a.tmps.size=10/\a.defers=[]/\a.tmps.getD 0 undef=.func (.yield l) #[] #[]/\a.tmps.getD 1 undef=.pointer (some ⟨bX,oX,none⟩)) ⟨by simp[ntmps141],rfl,ef _ _ 0 (by simp),ef _ _ 1 (by simp)⟩ ?_;rintro a ⟨aI,cD,e0,e1⟩
 have cz:∀(a:Act)(d t:Nat)(c:Value),t≠d->(a.put (some d) c).tmps.getD t undef=a.tmps.getD t undef:=λa d t c h=>by
  simp[Act.put,Array.getElem?_setIfInBounds_ne (Ne.symm h)]
 have eO:∀(a:Act)(d:Nat)(c:Value),a.tmps.size=10->d<10->(a.put (some d) c).tmps.getD d undef=c:=λa d c h hd=>by
  simp[Act.put,h,hd]
 have fJ:∀(a:Act)(d:Option Nat)(c:Value),(a.put d c).tmps.size=a.tmps.size:=λa d c=>by cases d<;>simp[Act.put]
 obtain⟨b0,oP⟩:∃b0,w.heap.size=b0:=⟨_,rfl⟩
 have pV:∀(w:World)(o:Obj),(w.alloc o).heap[w.heap.size]?=some o:=λw o=>World.alloc_heap_new w o
 have hold:∀(w:World)(o:Obj)(k:Nat),k<w.heap.size->(w.alloc o).heap[k]?=w.heap[k]?:=λw o k hk=>Below.heap_alloc _ _ _ hk
 refine wpIn_seq (wpIn_region ?_);show wpOpsIn _ _ _ _ _ [0] a w;refine aK rfl rfl (by rfl) (LJ (t:=157) (x:=.tmp 0) w rfl e0) ?_
 obtain⟨w1,ig⟩:∃w1,w.alloc (.cells #[.func (.yield l) #[] #[]] 157)=w1:=⟨_,rfl⟩
 have s1:w1.heap.size=b0+1:=by rw[<-ig];simp[oP]
 have n1:w1.heap[b0]?=some (.cells #[.func (.yield l) #[] #[]] 157 (0,0)):=by rw[<-ig,<-oP];exact pV w _
 have o1:∀k,k<b0->w1.heap[k]?=w.heap[k]?:=λk hk=>by rw[<-ig];exact hold w _ k (by omega)
 show Code.wpIn _ _ _ _ _ (a.put (some 2) (.pointer (some ⟨w.heap.size,0,none⟩))) (w.alloc (.cells #[.func (.yield l) #[] #[]] 157));rw[ig,oP];refine fc (λa=>a.tmps.size=10/\a.defers=[]/\a.tmps.getD 1 undef=.pointer (some ⟨bX,oX,none⟩)/\a.tmps.getD 2 undef=.pointer (some ⟨b0,0,none⟩)) ⟨by rw[fJ];exact aI,cD,(cz _ _ _ _ (by decide)).trans e1,eO _ _ _ aI (by decide)⟩ ?_;clear e0 e1 cD aI a;rintro a ⟨aI,cD,e1,e2⟩;refine wpIn_seq (wpIn_region ?_);show wpOpsIn _ _ _ _ _ [0,1,2] a w1;refine aK rfl rfl (by rfl) (run_makeMap (t:=232) rfl) ?_
 obtain⟨w2,kc⟩:∃w2,w1.alloc (.map #[] 0)=w2:=⟨_,rfl⟩
 have s2:w2.heap.size=b0+2:=by rw[<-kc];simp[s1]
 have n2:w2.heap[b0+1]?=some (.map #[] 0):=by rw[<-kc,<-s1];exact pV w1 _
 have o2:∀k,k<b0+1->w2.heap[k]?=w1.heap[k]?:=λk hk=>by rw[<-kc];exact hold w1 _ k (by omega)
 show wpOpsIn _ _ _ _ _ [1,2] (a.put (some 6) (.map (some w1.heap.size))) (w1.alloc (.map #[] 0));rw[kc,s1];refine kn (λa=>a.tmps.size=10/\a.defers=[]/\a.tmps.getD 1 undef=.pointer (some ⟨bX,oX,none⟩)/\a.tmps.getD 2 undef=.pointer (some ⟨b0,0,none⟩)/\a.tmps.getD 6 undef=er (b0+1)) ⟨by rw[fJ];exact aI,cD,(cz _ _ _ _ (by decide)).trans e1,(cz _ _ _ _ (by decide)).trans e2,eO _ _ _ aI (by decide)⟩ ?_;clear e1 e2 cD aI a;rintro a ⟨aI,cD,e1,e2,e6⟩;refine aK rfl rfl (by rfl) (ju (t:=232) (z:=.map none) rfl (by kernel_rfl)) ?_
 obtain⟨w3,mW⟩:∃w3,w2.alloc (.cells #[.map none] 232)=w3:=⟨_,rfl⟩
 have s3:w3.heap.size=b0+3:=by rw[<-mW];simp[s2]
 have n3:w3.heap[b0+2]?=some (.cells #[.map none] 232 (0,0)):=by rw[<-mW,<-s2];exact pV w2 _
 have o3:∀k,k<b0+2->w3.heap[k]?=w2.heap[k]?:=λk hk=>by rw[<-mW];exact hold w2 _ k (by omega)
 show wpOpsIn _ _ _ _ _ [2] (a.put (some 3) (.pointer (some ⟨w2.heap.size,0,none⟩))) (w2.alloc (.cells #[.map none] 232));rw[mW,s2];refine kn (λa=>a.tmps.size=10/\a.defers=[]/\a.tmps.getD 1 undef=.pointer (some ⟨bX,oX,none⟩)/\a.tmps.getD 2 undef=.pointer (some ⟨b0,0,none⟩)/\a.tmps.getD 6 undef=er (b0+1)/\a.tmps.getD 3 undef=.pointer (some ⟨b0+2,0,none⟩)) ⟨by rw[fJ];exact aI,cD,(cz _ _ _ _ (by decide)).trans e1,(cz _ _ _ _ (by decide)).trans e2,(cz _ _ _ _ (by decide)).trans e6,eO _ _ _ aI (by decide)⟩ ?_;clear e1 e2 e6 cD aI a;rintro a ⟨aI,cD,e1,e2,e6,e3⟩;obtain⟨i232,TK,U8⟩:=iZ 232 1;refine dh rfl rfl (by rfl) (gK (t:=232) (x:=.tmp 3) (y:=.tmp 6) rfl e3 TK U8 n3 e6 rfl) ?_
 obtain⟨w4,ib⟩:∃w4,w3.setRow (b0+2) #[er (b0+1)]=w4:=⟨_,rfl⟩
 have s4:w4.heap.size=b0+3:=by rw[<-ib];simpa using s3
 have n4:w4.heap[b0+2]?=some (.cells #[er (b0+1)] 232 (0,0)):=by rw[<-ib];exact setRow_heap w3 _ _ _ _ _ n3
 have o4:∀k,k≠b0+2->w4.heap[k]?=w3.heap[k]?:=λk hk=>by rw[<-ib];exact setRow_other w3 _ _ _ hk
 show Code.wpIn _ _ _ _ _ a (w3.setRow (b0+2) #[er (b0+1)]);rw[ib];refine wpIn_seq (wpIn_region ?_);show wpOpsIn _ _ _ _ _ [0] a w4;refine aK rfl rfl (by rfl) (ju (t:=28) (z:=.slice none 0 0) rfl (by kernel_rfl)) ?_
 obtain⟨w5,ue⟩:∃w5,w4.alloc (.cells #[.slice none 0 0] 28)=w5:=⟨_,rfl⟩
 have s5:w5.heap.size=b0+4:=by rw[<-ue];simp[s4]
 have n5:w5.heap[b0+3]?=some (.cells #[.slice none 0 0] 28 (0,0)):=by rw[<-ue,<-s4];exact pV w4 _
 have o5:∀k,k<b0+3->w5.heap[k]?=w4.heap[k]?:=λk hk=>by rw[<-ue];exact hold w4 _ k (by omega)
 show Code.wpIn _ _ _ _ _ (a.put (some 4) (.pointer (some ⟨w4.heap.size,0,none⟩))) (w4.alloc (.cells #[.slice none 0 0] 28));rw[ue,s4];refine fc (λa=>a.tmps.size=10/\a.defers=[]/\a.tmps.getD 1 undef=.pointer (some ⟨bX,oX,none⟩)/\a.tmps.getD 2 undef=.pointer (some ⟨b0,0,none⟩)/\a.tmps.getD 3 undef=.pointer (some ⟨b0+2,0,none⟩)/\a.tmps.getD 4 undef=.pointer (some ⟨b0+3,0,none⟩)) ⟨by rw[fJ];exact aI,cD,(cz _ _ _ _ (by decide)).trans e1,(cz _ _ _ _ (by decide)).trans e2,(cz _ _ _ _ (by decide)).trans e3,eO _ _ _ aI (by decide)⟩ ?_;clear e1 e2 e3 e6 cD aI a;rintro a ⟨aI,cD,e1,e2,e3,e4⟩;refine wpIn_seq (wpIn_region ?_);show wpOpsIn _ _ _ _ _ [0] a w5;refine aK rfl rfl (by rfl) (ju (t:=24) (z:=.nilFunc) rfl (by kernel_rfl)) ?_
 obtain⟨w6,Bt⟩:∃w6,w5.alloc (.cells #[.nilFunc] 24)=w6:=⟨_,rfl⟩
 have s6:w6.heap.size=b0+5:=by rw[<-Bt];simp[s5]
 have n6:w6.heap[b0+4]?=some (.cells #[.nilFunc] 24 (0,0)):=by rw[<-Bt,<-s5];exact pV w5 _
 have o6:∀k,k<b0+4->w6.heap[k]?=w5.heap[k]?:=λk hk=>by rw[<-Bt];exact hold w5 _ k (by omega)
 show Code.wpIn _ _ _ _ _ (a.put (some 5) (.pointer (some ⟨w5.heap.size,0,none⟩))) (w5.alloc (.cells #[.nilFunc] 24));rw[Bt,s5];refine fc (λa=>a.tmps.size=10/\a.defers=[]/\a.tmps.getD 1 undef=.pointer (some ⟨bX,oX,none⟩)/\a.tmps.getD 2 undef=.pointer (some ⟨b0,0,none⟩)/\a.tmps.getD 3 undef=.pointer (some ⟨b0+2,0,none⟩)/\a.tmps.getD 4 undef=.pointer (some ⟨b0+3,0,none⟩)/\a.tmps.getD 5 undef=.pointer (some ⟨b0+4,0,none⟩)) ⟨by rw[fJ];exact aI,cD,(cz _ _ _ _ (by decide)).trans e1,(cz _ _ _ _ (by decide)).trans e2,(cz _ _ _ _ (by decide)).trans e3,(cz _ _ _ _ (by decide)).trans e4,eO _ _ _ aI (by decide)⟩ ?_;clear e1 e2 e3 e4 cD aI a;rintro a ⟨aI,cD,e1,e2,e3,e4,e5⟩;refine wpIn_seq (wpIn_region ?_);show wpOpsIn _ _ _ _ _ [0,1] a w6;refine aK rfl rfl (by rfl) (oB (fn:=.func 142) (c:=#[.tmp 4,.tmp 1,.tmp 2,.tmp 3,.tmp 5]) rfl) ?_
 have dX:(#[Operand.tmp 4,.tmp 1,.tmp 2,.tmp 3,.tmp 5].map a.eval)=#[.pointer (some ⟨b0+3,0,none⟩),.pointer (some ⟨bX,oX,none⟩),.pointer (some ⟨b0,0,none⟩),.pointer (some ⟨b0+2,0,none⟩),.pointer (some ⟨b0+4,0,none⟩)]:=by
  simp only[List.map_toArray,List.map_cons,List.map_nil,Act.eval];rw[e1,e2,e3,e4,e5]
 rw[dX]
 obtain⟨fv,rK⟩:∃fv:Value,fv=.func (.func 142) #[] #[.pointer (some ⟨b0+3,0,none⟩),.pointer (some ⟨bX,oX,none⟩),.pointer (some ⟨b0,0,none⟩),.pointer (some ⟨b0+2,0,none⟩),.pointer (some ⟨b0+4,0,none⟩)]:=⟨_,rfl⟩
 rw[<-rK];show wpOpsIn _ _ _ _ _ [1] (a.put (some 7) fv) w6;refine kn (λa=>a.tmps.size=10/\a.defers=[]/\a.tmps.getD 5 undef=.pointer (some ⟨b0+4,0,none⟩)/\a.tmps.getD 7 undef=fv) ⟨by rw[fJ];exact aI,cD,(cz _ _ _ _ (by decide)).trans e5,eO _ _ _ aI (by decide)⟩ ?_;clear dX e1 e2 e3 e4 e5 cD aI a;rintro a ⟨aI,cD,e5,e7⟩;obtain⟨i24,V2,Y6⟩:=iZ 24 1;refine dh rfl rfl (by rfl) (gK (t:=24) (x:=.tmp 5) (y:=.tmp 7) rfl e5 V2 Y6 n6 e7 (by rw[rK]<;>rfl)) ?_
 obtain⟨w7,IV⟩:∃w7,w6.setRow (b0+4) #[fv]=w7:=⟨_,rfl⟩
 have s7:w7.heap.size=b0+5:=by rw[<-IV];simpa using s6
 have n7:w7.heap[b0+4]?=some (.cells #[fv] 24 (0,0)):=by rw[<-IV];exact setRow_heap w6 _ _ _ _ _ n6
 have o7:∀k,k≠b0+4->w7.heap[k]?=w6.heap[k]?:=λk hk=>by rw[<-IV];exact setRow_other w6 _ _ _ hk
 show Code.wpIn _ _ _ _ _ a (w6.setRow (b0+4) #[fv]);rw[IV]
 have q0:w7.heap[b0]?=some (.cells #[.func (.yield l) #[] #[]] 157 (0,0)):=by rw[o7 _ (by omega),o6 _ (by omega),o5 _ (by omega),o4 _ (by omega),o3 _ (by omega),o2 _ (by omega)];exact n1
 have q1:w7.heap[b0+1]?=some (.map #[] 0):=by rw[o7 _ (by omega),o6 _ (by omega),o5 _ (by omega),o4 _ (by omega),o3 _ (by omega)];exact n2
 have q2:w7.heap[b0+2]?=some (.cells #[er (b0+1)] 232 (0,0)):=by rw[o7 _ (by omega),o6 _ (by omega),o5 _ (by omega)];exact n4
 have q3:w7.heap[b0+3]?=some (.cells #[.slice none 0 0] 28 (0,0)):=by rw[o7 _ (by omega),o6 _ (by omega)];exact n5
 have ql:∀k,k<b0->w7.heap[k]?=w.heap[k]?:=λk hk=>by rw[o7 _ (by omega),o6 _ (by omega),o5 _ (by omega),o4 _ (by omega),o3 _ (by omega),o2 _ (by omega),o1 _ hk]
 have gf:ft (λ_=>False) w w7:=by
  refine⟨?_,?_,?_,by omega,λk hk _=>ql k (by omega)⟩
  .rw[<-IV,<-Bt,<-ue,<-ib,<-mW,<-kc,<-ig]<;>rfl
  .rw[<-IV,<-Bt,<-ue,<-ib,<-mW,<-kc,<-ig]<;>rfl
  .rw[<-IV,<-Bt,<-ue,<-ib,<-mW,<-kc,<-ig]<;>rfl
 have qp:aL Pr Pr w w7:=aL.iO λb k hb _=>gf.block b hb (λh=>h)
 have OB:∀{b:Nat}{v:Value}{ty:TypeId}{MI:Nat->Prop},MI b->w7.heap[b]?=some (.cells #[v] ty (0,0))->v.oneCell'=true->RV (λb _=>MI b) bU w7 (.ref [.val v]) (.pointer (some ⟨b,0,none⟩)):=by
  intro b v ty MI hm hh h1;refine .data _ _ (.ref _ _ _ (λ_=>v) (λi hi=>?_) (λk hk=>⟨hm,?_⟩) (λk hk=>?_))
  .have:i=0:=by simpa using hi
   subst this;rfl
  .have:k=0:=by simpa using hk
   subst this;simp[World.cell?,hh]
  .have:k=0:=by simpa using hk
   subst this;exact .val _ h1
 let X:pD C s:={
  bN:=b0+3
  bM:=b0+1
  bX:=bX
  oX:=oX
  fx:=fx
  cY:=.pointer (some ⟨b0,0,none⟩)
  cP:=.pointer (some ⟨b0+2,0,none⟩)
  cR:=.pointer (some ⟨b0+4,0,none⟩)
  MI:=λb=>b=b0\/b=b0+2\/b=b0+4
  wI:=w7
  hY:=OB (.inl rfl) q0 rfl
  hP:=OB (.inr (.inl rfl)) q2 rfl
  hR:=by
   have:=OB (MI:=λb=>b=b0\/b=b0+2\/b=b0+4) (.inr (.inr rfl)) n7 (by rw[rK]<;>rfl);rw[rK]at this;exact this
  ne:=by omega }
 have st:js X 0 (λb=>b0<=b/\b<b0+5) Pr [] w7:=by
  refine⟨C.eP hJ gf λb hb=>⟨by omega,.inr (by omega)⟩,λb hb=>by omega,λb hb=>?_,⟨.slice none 0 0,28,[],q3,⟨by show b0<=b0+3;omega,by show b0+3<b0+5;omega⟩,⟨rfl,.inl ⟨rfl,rfl⟩⟩,⟨λx hx=>(by cases hx),λj hj=>(by simp[ints]at hj)⟩,λb hb=>(by cases hb)⟩,wY (X:=X) hx qp,⟨by show b0<=b0+1;omega,by show b0+1<b0+5;omega⟩,#[],0,[],q1,⟨rfl,λi hi=>by simp at hi⟩,λx hx=>by cases hx⟩;have hb:b=b0\/b=b0+2\/b=b0+4:=hb;exact⟨by omega,by show b≠b0+3;omega,by show b≠b0+1;omega,rfl⟩
 have Da:=LB s hl hb yA yl jr s.eG.length X [] 0 _ Pr w7 [] (by simp) (λx hx=>by cases hx) st (by simp);refine wpIn_region ?_;show wpOpsIn _ _ _ _ _ [0,1] a w7;obtain⟨d24,XE,Tj⟩:=vZ 24;refine aK rfl rfl (by rfl) (gV (t:=24) (x:=.tmp 5) (v:=fv) rfl e5 XE Tj (by simp[World.cell?,n7])) ?_;show wpOpsIn _ _ _ _ _ [1] (a.put (some 8) fv) w7;refine kn (λa=>a.tmps.size=10/\a.defers=[]/\a.tmps.getD 8 undef=fv) ⟨by rw[fJ];exact aI,cD,eO _ _ _ aI (by decide)⟩ ?_;rintro a ⟨aI,cD,e8⟩;refine ik rfl rfl (by rfl) (mY (f:=.tmp 8) (k:=142) (cap:=#[.pointer (some ⟨X.bN,0,none⟩),.pointer (some ⟨X.bX,X.oX,none⟩),X.cY,X.cP,X.cR]) w7 rfl rfl rfl (show a.tmps.getD 8 undef=_ from e8.trans rK) (by kernel_rfl)) Da ?_;rintro e w8 ⟨M',dB,nr⟩
 obtain⟨b,rfl,hv⟩:∃b:Bool,e=.returned (.bool b)/\(C.J ((kA s s.eG.length []).map vI).length M' dB w8\/C.X M' dB w8):=by
  rcases nr with⟨rfl,h⟩|⟨rfl,h⟩
  .refine⟨true,rfl,.inl ?_⟩;have:=h.j;simpa using this
  .exact⟨false,rfl,.inr h⟩
 refine⟨_,rfl,?_⟩;show bodyPost prog f141 _ .normal (a.put (some 9) (.bool b)) w8;refine⟨cD,.tuple #[],?_,.tuple #[],_,_,rfl,hv⟩;simp[results,results141]
def Xt(s:bO):AC prog GT 70 [fb s] (.ret (.func (.func 141) [] [.ref (cC s)])):=by
 refine AC.wH eN cV func70 rfl ntmps70 (by simp) (ac:=c70) (by kernel_rfl) ?_;simp[c70,fb,cC,cK,vI,bD,bg,ar,aM,ao,cS,ev,aD.S,aD.H,aq,aH,AL.start,AV.aA,AV.cells,AV.storable,aT,iQ,a_];refine⟨2,.func 141,[],[.box 1 0],rfl,by decide,by simp[aq],?_⟩;simp[aq,fz,fM,AV.bF]
def DQ(l:List (List Int)):AV:=.slice (if l.isEmpty then .nil else .own 28) (l.map vI)
def kF(l:List (List Int)):AV:=.slice (if l.isEmpty then .nil else .view) (l.map vI)
def vJ(s:bO):AV:=.func (.func 141) [] [.ref (cC s)]
def Te (s:bO) {ps:List (List Int)} (hlen:ps.length≤1000000) (my:nK prog GT 141 [.ref (cC s)] (ps.map vI)) :
  AC prog GT 140 [.slice .nil [],vJ s] (.ret (kF ps)):=by
 refine AC.iL func140 rfl ntmps140 (by simp) λcc w=>?_
 refine dR eN c140.qa (λS' H'=>S' 1=vJ s/\S' 2=.box 2 0/\H' 2=some [.slice .nil []]) ?_ ?_
 .simp[c140,vJ,ae.qa,bD,bg,ar,aM,ao,ev,aD.S,aD.H,aq,aH,AL.start,AV.aA,AV.cells,AV.storable,aT,iQ,a_,vI,aB]
 rintro S1 H1 ⟨s1,s2,h2⟩;refine SW.seq (dR eN c140.qb.qa.qa (λS' H'=>S' 2=.box 2 0/\S' 6=vJ s/\H' 2=some [.slice .nil []]) ?_ ?_)
 .simp[c140,vJ,ae.qa,ae.qb,bD,bg,ar,aM,ao,ev,aD.S,aD.H,aq,aH,s2,h2,aB,AV.aA]
  rw[s1]<;>rfl
 rintro S3 H3 ⟨s2,s6,h2⟩
 refine SW.block (SW.range eN cV (E3:=.tmp 6) (y:=.t 6) (p:=7) (f:=141) (caps:=[.ref (cC s)]) (xs:=ps.map vI) rfl s6 (by kernel_rfl) rfl my (by decide) (λx hx=>by obtain⟨e,_,rfl⟩:=List.mem_map.1 hx;rfl)
  (λd=>d==99) (aa:=.ops [⟨(some 5),none,.mv true (.t 7)⟩]) (ab:=.block 1 (.ops [⟨(some 8),none,.loadT .any (.t 2)⟩,⟨(some 9),none,.mv false (.t 5)⟩,⟨(some 10),none,.buildSlice 82 28 1 [(.t 9)]⟩,⟨(some 11),none,.append 82 28 1 24 (.t 8) (.t 10)⟩,⟨none,none,.store .any 1 (.t 2) (.t 11)⟩]))
  (by kernel_rfl) (by kernel_rfl) (by simp[ae.names,bl.fX,dS.fX]) (by simp[ae.names,bl.fX,dS.fX]) (λ_ _ h=>h) (by kernel_rfl) (by kernel_rfl)
  (λk H'=>H' 2=some [DQ (ps.take k)]) (λ_ _=>False) h2 ?_ ?_ ?_)
 .rintro k hk H' h2
  have eK:k<ps.length:=by simpa using hk
  have ui:(ps.map vI)[k]=vI ps[k]:=by simp
  have ng:ps.take (k+1)=ps.take k++[ps[k]]:=by rw[List.take_succ_eq_append_getElem eK]
  have sH:lG (λd=>d==99) (S3 2)=.box 2 0:=by rw[s2]<;>rfl
  rw[ui,ng]
  have hL:(List.take k ps).length<=1000000:=by simp;omega
  generalize List.take k ps=L at hL h2⊢
  cases L with
  |nil=>simp[bD,bg,ar,aM,ao,ev,aD.S,aD.H,aq,aH,aB,sH,h2,HR.okB,vI,AV.cells,AV.storable,AV.aA,aR,AV.bm,a_,cS,cg,aZ,lK,DQ,aF,AV.vw,AV.bF]
  |cons x L=>
   have uF:L.length+1+1<1048576:=by simp at hL;omega
   have bB:aF 1 (vI x::L.map vI)=true:=by simp[aF,vI,AV.storable,AV.cells]
   simp[bD,bg,ar,aM,ao,ev,aD.S,aD.H,aq,aH,aB,sH,h2,HR.okB,vI,AV.cells,AV.storable,AV.aA,aR,AV.bm,a_,cS,cg,aZ,lK,DQ,aF,AV.vw,AV.bF,uF]
 .rintro D H' hD h2;show SW prog GT 13 none (.seq _ .ret) _ _ _ _
  have sH:lG (λd=>d==99) (S3 2)=.box 2 0:=by rw[s2]<;>rfl
  have ng:List.take (ps.map vI).length ps=ps:=List.take_of_length_le (by simp);rw[ng]at h2;refine dR eN c140.qb.qb.qa (λS' _=>S' 4=kF ps) ?_ ?_
  .cases ps<;>simp[c140,ae.qa,ae.qb,bD,bg,ar,aM,ao,ev,aD.S,aD.H,aq,aH,aZ,sH,h2,HR.okB,aB,DQ,kF,AV.aA,a_]
  intro S4 H4 s4;refine SW.ret ⟨(ea.plain rfl).mark hD,rfl,_,?_,rfl⟩;show cn prog 13 [.tmp 4] S4 H4=_;simp[cn,ct,cw,s4,kF,AV.bC,AV.out]
 .exact λ_ _ _ _ _ h=>h.elim
def XI(s:bO){ps:List (List Int)}(hlen:ps.length<=1000000)(my:nK prog GT 141 [.ref (cC s)] (ps.map vI)):AC prog GT 69 [vJ s] (.ret (kF ps)):=by
 refine AC.iL func69 rfl ntmps69 (by simp) λcc w=>?_
 refine dR eN c69.qa (λS' H'=>S' 0=vJ s) ?_ ?_
 .simp[c69,vJ,ae.qa,bD,bg,ar,aM,ao,ev,aD.S,aD.H,aq,aH,AL.start,AV.aA,aB,a_]
 intro S1 H1 s0
 refine SW.seq (SW.hand eN (p:=1) (lm:=[1]) (l2:=[2]) (jT:=[_]) (oh:=[_]) (jC:=[_]) rfl rfl rfl rfl (by kernel_rfl) (λ_ h=>h)
  (nN:=(c69.qb.qa.dl).take 1) (mF:=(c69.qb.qa.dl).drop 2) (by kernel_rfl) (by kernel_rfl) (by kernel_rfl) (by kernel_rfl)
  (K1:=λS _=>S 3=vJ s) (K2:=λo S _=>o=Old.plain cc w/\S 4=kF ps) (K3:=λo S _=>o=Old.plain cc w/\S 2=kF ps) ?_ ?_ ?_ ?_)
 .simp[c69,ae.qa,ae.qb,ae.dl,bg,ar,aM,ao,aD.S,aD.H,ev,aq,aH]
  rw[s0]<;>rfl
 .rintro w0 g S2 H2 a w' m bP ho R s3;have r3:=R.slot 3 (by decide) id;rw[s3]at r3
  refine ik rfl rfl (by rfl) (fV (k:=140) (args:=#[.slice none 0 0,a.tmps.getD 3 undef]) w' rfl rfl ?_ (by kernel_rfl)) (Te s hlen my w' (iu g false) #[.slice none 0 0,a.tmps.getD 3 undef] trivial rfl (λi h h'=>by
   match i,h with
   |0,_=>exact .data _ _ (.gy _)
   |1,_=>exact(r3.bU rfl).mono (aL.same λb k _ hp=>.inl hp) λ_ _ h=>h)) ?_
  .simp only[List.map_toArray,List.map_cons,List.map_nil,Act.eval]
  rintro e w2 ⟨iU,hi,rP,c,rfl,Ns,cE⟩;refine⟨_,rfl,?_⟩;obtain⟨g',q1,q2,R'⟩:=R.call (some 4) (λt ht=>by cases ht;exact⟨by decide,id⟩) false iU rP Ns cE (λh=>by cases h);exact⟨g',_,_,R',q2.trans ho,aJ _ _ _⟩
 .rintro o S2 H2 ⟨rfl,s4⟩;refine⟨λ_ h=>h,?_⟩
  cases ps<;>simp[c69,ae.qa,ae.qb,ae.dl,bg,ar,aM,ao,aD.S,aD.H,ev,aq,aH,s4,kF,a_]
 .rintro o S2 H2 ⟨rfl,s2⟩;refine SW.ret ⟨ea.plain rfl,rfl,_,?_,rfl⟩;show cn prog 5 [.tmp 2] S2 H2=_;simp[cn,ct,cw,s2,kF,AV.bC,AV.out]
structure Ny(s:bO):Prop where
 aau:1<=s.dY.length
 No:s.dY.length<=12
 aak:1<=s.eG.length
 Qb:s.eG.length<=5
 ok:lL s
 work:∀x∈s.work,0<=x/\x<s.dY.length
 len:s.work.length<=12
def Ig{l:List Int}(h:td l=true){n:Nat}(hb:∀x∈l,0<=x/\x<n):l.length<=n:=by
 rw[sk]at h
 have key:∀j,j<l.length->(j:Int)<=l.getD j 0:=by
  intro j
  induction j with
  |zero=>
   intro hj;have:=hb l[0] (List.getElem_mem hj);simp[List.getD_eq_getElem?_getD,hj];omega
  |succ j ih=>
   intro hj;have h1:=ih (by omega);have h2:=h j hj;omega
 rcases Nat.eq_zero_or_pos l.length with h0|h0
 .omega
 .have h1:=key (l.length-1) (by omega);have h2:=hb (l[l.length-1]'(by omega)) (List.getElem_mem _)
  have h3:l.getD (l.length-1) 0=l[l.length-1]'(by omega):=by
   simp[List.getD_eq_getElem?_getD,show l.length-1<l.length by omega]
  omega
def KQ{s:bO}(h:oD s=true):Ny s:=by
 simp only[oD,Bool.and_eq_true,da,decide_eq_true_eq,Bool.not_eq_true',List.any_eq_false,th,Bool.not_eq_true,Bool.not_eq_false']at h;obtain⟨⟨⟨⟨⟨⟨d1,d2⟩,c1,c2⟩,hd⟩,hc⟩,hr⟩,hw⟩:=h
 have Ng:∀x∈s.work,0<=x/\x<s.dY.length:=λx hx=>by
  have:=hw x hx;simp at this;omega
 refine⟨by omega,by omega,by omega,by omega,λx hx=>?_,Ng,?_⟩
 .have:=hd x hx;simp[qE,da]at this;omega
 .have:=Ig hr Ng;omega
end Go.Proofs.Tryz
namespace Go.Proofs.Tryz
open Go Go.AL Go.RowKit Go.Proofs Go.Proofs.Tram
attribute [local simp] dI eb tw qH dG cI cJ cb cd dE b_ bL fk fj ar ao ev aD.S aD.H a_ aq aH AL.start AV.cells AV.storable AV.bm aR aT ee aZ HR.okB post cn ct cw AV.out AV.bC bz bW fz fM AV.vw bR vI int bG aB cS cg fS gL dL cG aU AV.aA AV.bF
variable{GI:World->Prop}
def pG(l:List End):AV:=grow 214 (l.map bq)
def K5{s:aE}{out:List Int}{n:Nat}(h:n<s.words.length)(hc:out.contains (n:Int)=false):jn s out n=(s.words[n].d_.map λk=>((n:Int),k))++[((n:Int),(s.words[n].bc.length:Int))]:=by
 unfold jn;rw[hc,List.getElem?_eq_getElem h]
 rfl
def Je{s:aE}{out:List Int}{n:Nat}(hc:out.contains (n:Int)=true):jn s out n=[]:=by
 unfold jn;rw[hc]
 rfl
def qt(s:aE)(out:List Int)(i:Nat):List End:=(List.range i).flatMap (jn s out)
def FW(s:aE)(out:List Int)(i:Nat):qt s out (i+1)=qt s out i++jn s out i:=by unfold qt;rw[List.range_succ,List.flatMap_append,List.flatMap_singleton]
def Uu(hG:aw GI)(s:aE)(hs:tR s)(out:List Int)(ho:out.length<1000000):AC prog GI 122 [ec s,vI out] (.ret (.slice .view (aW (kM s out)))):=by
 have q3:=hs.words;refine AC.rR (o:=if kM s out=[]then .nil else .view) ?_;refine dM hG func122 ntmps122 c122 ?_;simp[c122,au,ai,ec,an];refine dg 12 s.words.length (λi S H=>S 1=vI out/\S 2=.box 2 0/\H 2=some (an s)/\S 11=.int .i64 s.words.length/\S 12=.int .i64 (i:Nat)/\S 5=pG (qt s out i)/\(qt s out i).length<=1001*i) (λi S H h=>h.2.2.2.2.1) ⟨by simp[au,ai],by simp[au,ai],by simp[au,ai,an],by simp[au,ai],by simp[au,ai],by simp[au,ai,pG,qt,grow],by simp[qt]⟩ ?_;rintro i hi S H ⟨s1,s2,e2,dV,bK,s5,hl⟩
 by_cases av:i<s.words.length
 case neg=>
  have dN:i=s.words.length:=by omega
  subst dN;have s5:S 5=pG (kM s out):=s5
  by_cases h0:kM s out=[]
  .rw[h0]at s5
   have nD:S 5=.slice .nil []:=by rw[s5];simp[pG,grow]
   simp[au,ai,s1,s2,e2,dV,bK,nD,h0,aW]
  .have nD:S 5=.slice (.own 214) ((kM s out).map bq):=by rw[s5];simp[pG,grow,h0]
   simp[au,ai,s1,s2,e2,dV,bK,nD,h0,aW]
 have hw:IntKind.i64.wrap ((i:Int)+1)=i+1:=bf (by omega);have rm:=hs.d_ _ (List.getElem_mem av);have hr:=FW s out i;generalize hL:qt s out i=L at s5 hl hr;simp[au,ai,s1,s2,e2,dV,bK,av];refine⟨_,by kernel_rfl,Rq hG out ho i,λ_=>rfl,?_⟩;cases hc:out.contains (i:Int)
 case true=>
  have iR:qt s out (i+1)=L:=by rw[hr,Je hc,List.append_nil]
  rw[iR];simp[au,ai,s1,s2,e2,dV,bK,s5,hw,av];omega
 have hew:=K5 av hc;simp[au,ai,s1,s2,e2,dV,bK,av,an,cU];refine dg 25 s.words[i].d_.length (λj S H=>S 1=vI out/\S 2=.box 2 0/\H 2=some (an s)/\S 11=.int .i64 s.words.length/\S 12=.int .i64 (i:Nat)/\S 6=.int .i64 (i:Nat)/\S 23=vI s.words[i].d_/\S 24=.int .i64 s.words[i].d_.length/\S 25=.int .i64 (j:Nat)/\S 5=pG (L++(s.words[i].d_.take j).map λk=>((i:Int),k))) (λi S H h=>h.2.2.2.2.2.2.2.2.1) ⟨by simp[au,ai,s1],by simp[au,ai,s2],by simp[au,ai,e2,an],by simp[au,ai,dV],by simp[au,ai,bK],by simp[au,ai],by simp[au,ai],by simp[au,ai],by simp[au,ai],by simp[au,ai,s5]⟩ ?_;clear s1 s2 e2 dV bK s5 S H;rintro j hj S H ⟨s1,s2,e2,dV,bK,s6,Hk,pP,kQ,s5⟩
 by_cases Vy:j<s.words[i].d_.length
 .have Vl:IntKind.i64.wrap ((j:Int)+1)=j+1:=bf (by omega);have ng:s.words[i].d_.take (j+1)=s.words[i].d_.take j++[s.words[i].d_[j]]:=List.take_succ_eq_append_getElem Vy
  have hlen:(L++(s.words[i].d_.take j).map λk=>((i:Int),k)).length<1040000:=by
   simp only[List.length_append,List.length_map,List.length_take];omega
  rw[ng,List.map_append,<-List.append_assoc];generalize(L++(s.words[i].d_.take j).map λk=>((i:Int),k))=M at s5 hlen⊢;have iA:aF 2 [AV.agg [AV.int .i64 (i:Nat),AV.int .i64 s.words[i].d_[j]]]=true:=rfl;simp[s1,s2,e2,dV,bK,s6,Hk,pP,kQ,Vy,iA];refine mo (M.map bq) (bq ((i:Int),s.words[i].d_[j])) (.own 214) (by simp[s5,pG]) (by simp[bq]) rfl (CG _) (by rw[List.length_map];omega) ?_;intro S' sd hk;simp[sd,hk,s1,s2,e2,dV,bK,s6,Hk,pP,kQ,Vl,Vy,pG]
 .have wU:j=s.words[i].d_.length:=by omega
  subst wU;rw[List.take_length]at s5
  have hlen:(L++s.words[i].d_.map λk=>((i:Int),k)).length<=1001*i+1000:=by
   simp only[List.length_append,List.length_map];omega
  rw[hr,hew,<-List.append_assoc];generalize(L++s.words[i].d_.map λk=>((i:Int),k))=M at s5 hlen⊢;have iA:aF 2 [AV.agg [AV.int .i64 (i:Nat),AV.int .i64 s.words[i].bc.length]]=true:=rfl;simp[s1,s2,e2,dV,bK,s6,Hk,pP,kQ,av,iA,an,cU];refine mo (M.map bq) (bq ((i:Int),(s.words[i].bc.length:Int))) (.own 214) (by simp[s5,pG]) (by simp[bq]) rfl (CG _) (by rw[List.length_map];omega) ?_;intro S' sd hk;simp[sd,hk,s1,s2,e2,dV,bK,hw,av,pG,an];omega
def tt{s:aE}(hs:br s=true){g:Nat×Nat}(h:HJ s g):I1 s (cq s g):=OY hs h
def Tn(hG:aw GI)(s:aE)(hs:br s=true){l:List (Nat×Nat)}(hl:l.length<10000)(kd:∀g∈l,HJ s g)(cut:Bool)(x:Int):AC prog GI 126 [gq s,Ji l cut,.int .i64 x] (.ret (.int .i64 (lN s (l.map (cq s)) l.length+(if cut then s.fe else 0)))):=by
 have hF:=gN hs;have yl:=hF.RY
 have hb:∀x∈(l.map λg=>oF s (cq s g)),0<=x/\x<=1000:=by
  intro x hx;obtain⟨g,hg,rfl⟩:=List.mem_map.1 hx;have:=xl hF (tt hs (kd g hg));omega
 have rM:lN s (l.map (cq s)) l.length=(l.map λg=>oF s (cq s g)).sum:=by
  have:=xH s (l.map (cq s)) l.length (by simp);rw[this,List.take_of_length_le (by simp),List.map_map];rfl
 have IB:(l.map λg=>oF s (cq s g)).length<10000:=by rw[List.length_map];exact hl
 rw[rM];refine dM hG func126 ntmps126 c126 ?_;refine ba (λS H=>S 3=.box 3 0/\S 4=.box 4 0/\H 3=some (aN s)/\H 4=some [.slice .view (l.map gA),.bool cut]) (by simp[au,ai,gq,aN,Ji,Dw,an,bH]) ?_;rintro S H ⟨s3,s4,e3,e4⟩;refine ba (λS H=>S 3=.box 3 0/\S 4=.box 4 0/\H 3=some (aN s)/\H 4=some [.slice .view (l.map gA),.bool cut]/\S 7=iN []) (by simp[au,ai,s3,s4,e3,e4,iN,grow]) ?_;clear s3 s4 e3 e4 S H;rintro S H ⟨s3,s4,e3,e4,s7⟩;refine ba (λS H=>S 3=.box 3 0/\S 4=.box 4 0/\H 3=some (aN s)/\H 4=some [.slice .view (l.map gA),.bool cut]/\S 7=iN (l.map λg=>oF s (cq s g))) ?_ ?_
 .simp[au,ai,s3,s4,e3,e4];refine dg 13 l.length (λi S H=>S 3=.box 3 0/\S 4=.box 4 0/\H 3=some (aN s)/\H 4=some [.slice .view (l.map gA),.bool cut]/\S 11=.slice .view (l.map gA)/\S 12=.int .i64 l.length/\S 13=.int .i64 (i:Nat)/\S 7=iN ((l.take i).map λg=>oF s (cq s g))) (λi S H h=>h.2.2.2.2.2.2.1) ⟨by simp[au,ai,s3],by simp[au,ai,s4],by simp[au,ai,e3],by simp[au,ai,e4],by simp[au,ai],by simp[au,ai],by simp[au,ai],by simp[au,ai,s7]⟩ ?_;clear s3 s4 e3 e4 s7 S H;rintro i hi S H ⟨s3,s4,e3,e4,dV,bK,dW,s7⟩
  by_cases av:i<l.length
  case neg=>
   have dN:i=l.length:=by omega
   subst dN;rw[List.take_length]at s7;simp[au,ai,s3,s4,e3,e4,dV,bK,dW,s7]
  have hw:IntKind.i64.wrap ((i:Int)+1)=i+1:=bf (by omega)
  obtain⟨k,hk⟩:∃k:Nat,(cq s l[i]).2=k:=⟨(cq s l[i]).2.toNat,by have:=(tt hs (kd _ (List.getElem_mem av))).1;omega⟩
  have nv:k<s.dq.length:=by have:=(tt hs (kd _ (List.getElem_mem av))).2;omega
  have Pn:oF s (cq s l[i])=s.dq[k]:=by
   unfold oF;rw[hk,if_neg (by omega),Int.toNat_natCast,List.getElem?_eq_getElem nv];rfl
  rw[List.take_succ_eq_append_getElem av,List.map_append,List.map_singleton,Pn]
  have hlen:((l.take i).map λg=>oF s (cq s g)).length<1000000:=by
   rw[List.length_map,List.length_take];omega
  generalize((l.take i).map λg=>oF s (cq s g))=L at s7 hlen⊢;simp[s3,s4,e3,e4,dV,bK,dW,s7,av,gA,aN,an,bH];refine oc (Il hG s (kd _ (List.getElem_mem av))) ?_;have iA:aF 1 [AV.int .i64 s.dq[k]]=true:=rfl;simp[s3,s4,e3,e4,dV,bK,dW,s7,av,aN,an,bH,hk,nv,iA];refine pT (L.map (AV.int .i64)) (AV.int .i64 s.dq[k]) (.own 3) (by simp[s7,iN,grow]) (by simp) rfl (tx _) (by rw[List.length_map];omega) ?_;intro S' sd eK;simp[sd,eK,s3,s4,e3,e4,dV,bK,dW,av,hw,iN,aN,an,bH]
 clear s3 s4 e3 e4 s7 S H;rintro S H ⟨s3,s4,e3,e4,s7⟩;refine ba (λS H=>S 7=iN ((l.map λg=>oF s (cq s g))++if cut then[s.fe]else[])) ?_ ?_
 .cases cut with
  |false=>simp[au,ai,s3,s4,e3,e4,s7]
  |true=>
   have iA:aF 1 [AV.int .i64 s.fe]=true:=rfl;generalize(l.map λg=>oF s (cq s g))=L at s7 IB⊢;simp[s3,s4,e3,e4,s7,aN,an,bH,iA];refine mo (L.map (AV.int .i64)) (AV.int .i64 s.fe) (.own 3) (by simp[iN]) (by simp) rfl (tx _) (by rw[List.length_map];omega) ?_;intro S' sd eK;simp[sd,eK,iN]
 clear s3 s4 e3 e4 s7 S H;rintro S H s7;have hh:=hF.fe
 have iU:∀x∈((l.map λg=>oF s (cq s g))++if cut then[s.fe]else[]),0<=x/\x<=1000:=by
  intro x hx;rcases List.mem_append.1 hx with hx|hx
  .exact hb x hx
  .cases cut with
   |false=>simp at hx
   |true=>simp at hx;omega
 have HX:((l.map λg=>oF s (cq s g))++if cut then[s.fe]else[]).sum=(l.map λg=>oF s (cq s g)).sum+if cut then s.fe else 0:=by
  rw[List.sum_append]
  cases cut<;>simp
 have oY:((l.map λg=>oF s (cq s g))++if cut then[s.fe]else[]).length<100000:=by
  rw[List.length_append]
  cases cut<;>simp<;>omega
 rw[<-HX];generalize((l.map λg=>oF s (cq s g))++if cut then[s.fe]else[])=L at s7 iU oY⊢;rcases yh L with⟨hg,rfl⟩|hg
 .rw[hg]at s7;simp[au,ai,s7];refine oc (Dd hG [] oY iU) ?_;simp[au,ai]
 .rw[hg]at s7;simp[au,ai,s7];refine oc (Dd hG L oY iU) ?_;simp[au,ai]
def Sf(hG:aw GI)(s:aE)(hs:br s=true){l:List (Nat×Nat)}(bQ:l≠[])(hl:l.length<10000)(kd:∀g∈l,HJ s g)(cut:Bool){st:Int}(h0:0<=st)(h1:st<=10):AC prog GI 127 [gq s,Ji l cut,.int .i64 st] (.ret (.int .i64 (lP s st (l.map (cq s)) (l.length-1)+(if cut then lx s.ov s.nZ st else 0)))):=by
 have hF:=gN hs;have iy:=List.length_pos_iff.2 bQ
 have rM:lP s st (l.map (cq s)) (l.length-1)=(jm s st (l.map (cq s)) l.length).sum:=by
  have:=CM (s:=s) (st:=st) (l:=l.map (cq s)) (l.length-1) (by rw[List.length_map];omega);rw[show l.length-1+1=l.length by omega]at this;exact this.symm
 rw[rM];refine dM hG func127 ntmps127 c127 ?_;refine ba (λS H=>S 2=.int .i64 st/\S 3=.box 3 0/\S 4=.box 4 0/\H 3=some (aN s)/\H 4=some [.slice .view (l.map gA),.bool cut]) (by simp[au,ai,gq,aN,Ji,Dw,an,bH]) ?_;rintro S H ⟨s2,s3,s4,e3,e4⟩;refine ba (λS H=>S 2=.int .i64 st/\S 3=.box 3 0/\S 4=.box 4 0/\H 3=some (aN s)/\H 4=some [.slice .view (l.map gA),.bool cut]/\S 7=iN []) (by simp[au,ai,s2,s3,s4,e3,e4,iN,grow]) ?_;clear s2 s3 s4 e3 e4 S H;rintro S H ⟨s2,s3,s4,e3,e4,s7⟩;refine ba (λS H=>S 2=.int .i64 st/\S 3=.box 3 0/\S 4=.box 4 0/\H 3=some (aN s)/\H 4=some [.slice .view (l.map gA),.bool cut]/\S 7=iN (jm s st (l.map (cq s)) l.length)) ?_ ?_
 .simp[au,ai,s2,s3,s4,e3,e4];refine dg 13 l.length (λi S H=>S 2=.int .i64 st/\S 3=.box 3 0/\S 4=.box 4 0/\H 3=some (aN s)/\H 4=some [.slice .view (l.map gA),.bool cut]/\S 11=.slice .view (l.map gA)/\S 12=.int .i64 l.length/\S 13=.int .i64 (i:Nat)/\S 7=iN (jm s st (l.map (cq s)) i)) (λi S H h=>h.2.2.2.2.2.2.2.1) ⟨by simp[au,ai,s2],by simp[au,ai,s3],by simp[au,ai,s4],by simp[au,ai,e3],by simp[au,ai,e4],by simp[au,ai],by simp[au,ai],by simp[au,ai],by simp[au,ai,s7,jm]⟩ ?_;clear s2 s3 s4 e3 e4 s7 S H;rintro i hi S H ⟨s2,s3,s4,e3,e4,dV,bK,dW,s7⟩
  by_cases av:i<l.length
  case neg=>
   have dN:i=l.length:=by omega
   subst dN;simp[au,ai,s2,s3,s4,e3,e4,dV,bK,dW,s7]
  have hw:IntKind.i64.wrap ((i:Int)+1)=i+1:=bf (by omega)
  cases i with
  |zero=>
   have s7':S 7=.slice .nil []:=by rw[s7];rfl
   simp[au,ai,s2,s3,s4,e3,e4,dV,bK,dW,s7',av,gA];exact⟨bf (by omega),by simp[jm,iN,grow]⟩
  |succ m=>
   have O6:m<l.length:=by omega
   have qI:jm s st (l.map (cq s)) (m+1+1)=jm s st (l.map (cq s)) (m+1)++[ur s st (cq s l[m]) (cq s l[m+1])]:=by
    rw[zN (by simpa using av)];simp
   have hlen:(jm s st (l.map (cq s)) (m+1)).length<1000000:=by have:=wM (s:=s) (st:=st) (l:=l.map (cq s)) (m+1);omega
   rw[qI];have Jp:IntKind.i64.wrap (m:Int)=m:=bf (by omega);have kc:IntKind.i64.wrap ((m:Int)+1+1)=m+1+1:=bf (by omega)
   have Pj:(0:Int)<(m:Int)+1:=by omega
   have We:(0:Int)<=(m:Int)+1:=by omega
   have km:(m:Int)+1<l.length:=by omega
   generalize jm s st (l.map (cq s)) (m+1)=L at s7 hlen⊢;have iA:aF 1 [AV.int .i64 (ur s st (cq s l[m]) (cq s l[m+1]))]=true:=rfl;simp[s2,s3,s4,e3,e4,dV,bK,dW,s7,av,gA,aN,an,bH,Jp,Pj,We,O6,km];refine oc (Uf hG s hF (kd _ (List.getElem_mem O6)) (kd _ (List.getElem_mem av)) h0 h1) ?_;simp[s2,s3,s4,e3,e4,dV,bK,dW,s7,iA];refine pT (L.map (AV.int .i64)) (AV.int .i64 (ur s st (cq s l[m]) (cq s l[m+1]))) (.own 3) (by simp[s7,iN,grow]) (by simp) rfl (tx _) (by rw[List.length_map];omega) ?_;intro S' sd eK;simp[sd,eK,s2,s3,s4,e3,e4,dV,bK,dW,av,km,kc,iN,aN,an,bH]
 clear s2 s3 s4 e3 e4 s7 S H;rintro S H ⟨s2,s3,s4,e3,e4,s7⟩;have Uy:=lT hF.o.2.1 h0 h1
 have IB:(jm s st (l.map (cq s)) l.length).length<10000:=by have:=wM (s:=s) (st:=st) (l:=l.map (cq s)) l.length;omega
 have hb:∀x∈jm s st (l.map (cq s)) l.length,0<=x/\x<=1000:=λx hx=>by have:=CE hF h0 h1 _ x hx;omega
 refine ba (λS H=>S 7=iN (jm s st (l.map (cq s)) l.length++if cut then[lx s.ov s.nZ st]else[])) ?_ ?_
 .cases cut with
  |false=>simp[au,ai,s2,s3,s4,e3,e4,s7]
  |true=>
   have iA:aF 1 [AV.int .i64 (lx s.ov s.nZ st)]=true:=rfl;generalize jm s st (l.map (cq s)) l.length=L at s7 IB⊢;simp[s2,s3,s4,e3,e4,s7,aN,an,bH];refine oc (EG hG hF.o.1 hF.o.2.1 (by have:=hF.o.2.2;omega) h0 h1) ?_;simp[iA];refine mo (L.map (AV.int .i64)) (AV.int .i64 (lx s.ov s.nZ st)) (.own 3) (by simp[iN]) (by simp) rfl (tx _) (by rw[List.length_map];omega) ?_;intro S' sd eK;simp[sd,eK,iN]
 clear s2 s3 s4 e3 e4 s7 S H;rintro S H s7;have ho:=hF.o
 have iU:∀x∈(jm s st (l.map (cq s)) l.length++if cut then[lx s.ov s.nZ st]else[]),0<=x/\x<=1000:=by
  intro x hx;rcases List.mem_append.1 hx with hx|hx
  .exact hb x hx
  .cases cut with
   |false=>simp at hx
   |true=>simp at hx;omega
 have HX:(jm s st (l.map (cq s)) l.length++if cut then[lx s.ov s.nZ st]else[]).sum=(jm s st (l.map (cq s)) l.length).sum+if cut then lx s.ov s.nZ st else 0:=by
  rw[List.sum_append]
  cases cut<;>simp
 have oY:(jm s st (l.map (cq s)) l.length++if cut then[lx s.ov s.nZ st]else[]).length<100000:=by
  rw[List.length_append]
  cases cut<;>simp<;>omega
 rw[<-HX];generalize(jm s st (l.map (cq s)) l.length++if cut then[lx s.ov s.nZ st]else[])=L at s7 iU oY⊢;rcases yh L with⟨hg,rfl⟩|hg
 .rw[hg]at s7;simp[au,ai,s7];refine oc (Dd hG [] oY iU) ?_;simp[au,ai]
 .rw[hg]at s7;simp[au,ai,s7];refine oc (Dd hG L oY iU) ?_;simp[au,ai]
def X0(hG:aw GI)(s:aE)(hs:br s=true){l:List (Nat×Nat)}(bQ:l≠[])(hl:l.length<=24)(kd:∀g∈l,HJ s g)(cut:Bool){st:Int}(h0:0<=st)(h1:st<=10):AC prog GI 51 [gq s,Ji l cut,.int .i64 st] (.ret (.int .i64 (qO s st (l.map (cq s)) cut))):=by
 have hF:=gN hs
 have bB:∀a∈l.map (cq s),I1 s a:=λa ha=>by
  obtain⟨g,hg,rfl⟩:=List.mem_map.1 ha;exact tt hs (kd g hg)
 have Yc:l.map (cq s)≠[]:=by simpa using bQ
 have hb:=A8 hF h0 h1 Yc bB (by simpa using hl) cut;have iy:=List.length_pos_iff.2 bQ;have hg:=pK hF h0 h1 (l:=l.map (cq s)) (i:=l.length-1) (by rw[List.length_map];omega);have gZ:=pL hF bB (i:=l.length) (by simp);have Uy:=lT hF.o.2.1 h0 h1;have ho:=hF.o;have hh:=hF.fe;have a1:=Tn hG s hs (by omega:l.length<10000) kd cut st;have a2:=Sf hG s hs bQ (by omega) kd cut h0 h1
 have hwp:qO s st (l.map (cq s)) cut=(lN s (l.map (cq s)) l.length+(if cut then s.fe else 0))+(lP s st (l.map (cq s)) (l.length-1)+(if cut then lx s.ov s.nZ st else 0)):=by
  unfold qO;rw[List.length_map]
 rw[hwp]at hb⊢
 have ma:0<=lN s (l.map (cq s)) l.length+(if cut then s.fe else 0):=by cases cut<;>simp<;>omega
 have kE:0<=lP s st (l.map (cq s)) (l.length-1)+(if cut then lx s.ov s.nZ st else 0):=by cases cut<;>simp<;>omega
 generalize lN s (l.map (cq s)) l.length+(if cut then s.fe else 0)=X at a1 ma hb⊢;generalize lP s st (l.map (cq s)) (l.length-1)+(if cut then lx s.ov s.nZ st else 0)=Y at a2 kE hb⊢;have w1:IntKind.i64.wrap X=X:=bf (by omega);have w2:IntKind.i64.wrap (X+Y)=X+Y:=bf (by omega);refine dM hG func51 ntmps51 c51 ?_;refine ba (λS H=>S 2=.int .i64 st/\S 3=.box 3 0/\S 4=.box 4 0/\H 3=some (aN s)/\H 4=some [.slice .view (l.map gA),.bool cut]) (by simp[au,ai,gq,aN,Ji,Dw,an,bH]) ?_;rintro S H ⟨s2,s3,s4,e3,e4⟩;simp[au,ai,s2,s3,s4,e3,e4];refine dg 11 2 (λi S H=>S 2=.int .i64 st/\S 3=.box 3 0/\S 4=.box 4 0/\H 3=some (aN s)/\H 4=some [.slice .view (l.map gA),.bool cut]/\S 10=.fN [.func (.func 126) [] [],.func (.func 127) [] []]/\S 11=.int .i64 (i:Nat)/\S 7=.int .i64 (if i=0 then 0 else if i=1 then X else X+Y)) (λi S H h=>h.2.2.2.2.2.2.1) ⟨by simp[au,ai,s2],by simp[au,ai,s3],by simp[au,ai,s4],by simp[au,ai,e3],by simp[au,ai,e4],by simp[au,ai],by simp[au,ai],by simp[au,ai]⟩ ?_;clear s2 s3 s4 e3 e4 S H;rintro i hi S H ⟨s2,s3,s4,e3,e4,fu,dV,s7⟩
 match i,hi with
 |0,_=>
  simp[au,ai,s2,s3,s4,e3,e4,fu,dV,s7,aN,an,bH,tW];refine oc a1 ?_;simp[au,ai,s2,s3,s4,e3,e4,fu,dV,s7,aN,an,bH,w1];exact bf (by omega)
 |1,_=>
  simp[au,ai,s2,s3,s4,e3,e4,fu,dV,s7,aN,an,bH,tW];refine oc a2 ?_;simp[au,ai,s2,s3,s4,e3,e4,fu,dV,s7,aN,an,bH,w2];exact bf (by omega)
 |2,_=>
  simp[au,ai,s2,s3,s4,e3,e4,fu,dV,s7]
def QV(s:aE)(out:List Int)(es:List End)(i:Nat):AV:=Ji (nO s out es i) (pj s es i)
def gB(s:aE)(out:List Int)(es:List End)(n:Nat):List AV:=(List.range n).map (QV s out es)
def Eh(s:aE)(out:List Int)(es:List End)(n:Nat):gB s out es (n+1)=gB s out es n++[QV s out es n]:=by
 unfold gB;rw[List.range_succ,List.map_append];rfl
def JM(s:aE)(out:List Int)(es:List End)(n:Nat):aF 2 (gB s out es n)=true:=kl λa=>⟨rfl,rfl⟩
def P7(l:List (Nat×Nat)):aF 2 (l.map gA)=true:=kl λa=>⟨rfl,rfl⟩
def xM(s:aE)(out:List Int)(es:List End)(n:Nat):(gB s out es n).length=n:=by unfold gB;simp
def LA(a:Nat)(S:af)(_:ah):Nat:=match S 6,S 7 with
 |.int _ w,.int _ f=>((a-w)*1000+(1000-f)).toNat
 |_,_=>0
def I81(s:aE)(out:List Int)(es:List End)(i a b:Nat)(S:af)(H:ah):Prop:=S 2=.box 2 0/\S 3=.box 3 0/\H 2=some (aN s)/\H 3=some [vI out,.slice .view (es.map bq)]/\S 12=.slice .view (es.map bq)/\S 13=.int .i64 es.length/\S 14=.int .i64 (i:Nat)/\S 5=grow 134 (gB s out es i)/\S 9=.box 9 0/\H 9=some [.int .i64 a,.int .i64 b]/\S 10=.box 10 0/\∃(w f:Nat)(D:List (Nat×Nat)),H 10=some [grow 216 (D.map gA),.bool (pj s es i)]/\S 6=.int .i64 w/\S 7=.int .i64 f/\D++kS s out (w,f) (a,b)=nO s out es i/\w<=a/\(w=a->f<=b)/\(w<a->f<=fQ s w)
def XA(hG:aw GI)(s:aE)(hs:br s=true)(out:List Int)(ho:out.length<1000000)(es:List End)(he:es.length<100000)(g:Good s out es):AC prog GI 50 [gq s,aQ out es] (.ret (.slice .view (gB s out es es.length))):=by
 have hF:=gN hs;refine AC.rR (o:=if gB s out es es.length=[]then .nil else .view) ?_;refine dM hG func50 ntmps50 c50 ?_;refine ba (λS H=>S 2=.box 2 0/\S 3=.box 3 0/\H 2=some (aN s)/\H 3=some [vI out,.slice .view (es.map bq)]) (by simp[au,ai,gq,aN,an,bH,aQ,aW]) ?_;rintro S H ⟨s2,s3,e2,e3⟩;simp[au,ai,s2,s3,e2,e3];refine dg 14 es.length (λi S H=>S 2=.box 2 0/\S 3=.box 3 0/\H 2=some (aN s)/\H 3=some [vI out,.slice .view (es.map bq)]/\S 12=.slice .view (es.map bq)/\S 13=.int .i64 es.length/\S 14=.int .i64 (i:Nat)/\S 5=grow 134 (gB s out es i)/\S 6=.int .i64 (nf es i).1/\S 7=.int .i64 (nf es i).2) (λi S H h=>h.2.2.2.2.2.2.1) ⟨by simp[au,ai,s2],by simp[au,ai,s3],by simp[au,ai,e2],by simp[au,ai,e3],by simp[au,ai],by simp[au,ai],by simp[au,ai],by simp[au,ai,grow,gB],by simp[au,ai,nf],by simp[au,ai,nf]⟩ ?_;clear s2 s3 e2 e3 S H;rintro i hi S H ⟨s2,s3,e2,e3,bK,dW,fo,s5,s6,s7⟩
 by_cases av:i<es.length
 case neg=>
  have dN:i=es.length:=by omega
  subst dN
  by_cases h0:gB s out es es.length=[]
  .have nD:S 5=.slice .nil []:=by rw[s5,h0];rfl
   simp[au,ai,s2,s3,e2,e3,bK,dW,fo,nD,h0]
  .have nD:S 5=.slice (.own 134) (gB s out es es.length):=by rw[s5];simp[grow,h0]
   simp[au,ai,s2,s3,e2,e3,bK,dW,fo,nD,h0]
 obtain⟨g1,g2,g3,g4,g5⟩:=g.one i av
 obtain⟨a,ha⟩:∃a:Nat,es[i].1=a:=⟨es[i].1.toNat,by omega⟩
 obtain⟨b,hb⟩:∃b:Nat,es[i].2=b:=⟨es[i].2.toNat,by omega⟩
 have hE:es[i]=((a:Int),(b:Int)):=Prod.ext ha hb
 have VE:nE es[i]=(a,b):=by rw[hE];rfl
 have gE:a<s.words.length:=by omega
 have rm:pj s es i=decide (b<s.words[a].bc.length):=by
  rw[MG av,hE];show decide ((b:Int)<(fQ s (a:Int).toNat:Int))=_;rw[Int.toNat_natCast,ko gE,decide_eq_decide];omega
 rw[ha]at g3 g5;rw[hb]at g4 g5
 have g5:b<=s.words[a].bc.length:=by rw[Int.toNat_natCast,ko gE]at g5;omega
 have Yu:nO s out es i=kS s out (nf es i) (a,b):=by rw[uR av,VE]
 have MZ:=Cv hs g i;have hw:IntKind.i64.wrap ((i:Int)+1)=i+1:=bf (by omega)
 have XG:nf es (i+1)=(a,b):=by
  show(match es[i]? with|some e=>nE e|none=>(0,0))=_;rw[List.getElem?_eq_getElem av];exact VE
 have YG:=En g av;rw[VE]at YG;simp[au,ai,s2,s3,e2,e3,bK,dW,fo,av,hE,bq,aN,an,bH,gE,cU,cL];refine⟨I81 s out es i a b,LA a,⟨by simp[au,ai,s2],by simp[au,ai,s3],by simp[au,ai,e2,aN,an,bH],by simp[au,ai,e3],by simp[au,ai,bK],by simp[au,ai,dW],by simp[au,ai,fo],by simp[au,ai,s5,grow],by simp[au,ai],by simp[au,ai],by simp[au,ai],(nf es i).1,(nf es i).2,[],by simp[au,ai,grow,rm],by simp[au,ai,s6],by simp[au,ai,s7],by rw[Yu];rfl,by omega,by omega,?_⟩,?_⟩
 .intro _
  cases i with
  |zero=>exact Nat.zero_le _
  |succ j=>
   have hj:=g.one j (by omega)
   have:nf es (j+1)=nE es[j]:=by show(match es[j]? with|some e=>nE e|none=>(0,0))=_;rw[List.getElem?_eq_getElem (by omega)]
   rw[this];show es[j].2.toNat<=fQ s es[j].1.toNat;omega
 clear s2 s3 e2 e3 bK dW fo s5 s6 s7 S H;rintro S H ⟨s2,s3,e2,e3,bK,dW,fo,s5,s9,e9,fu,w,f,D,p7,s6,s7,hD,hwa,ZA,sy⟩
 have hDl:D.length<=24:=by
  have:=congrArg List.length hD;rw[List.length_append]at this;omega
 have hl6:=(uu hs (out:=out) w).2;have W2:=(uu hs (out:=out) a).2;rw[ko gE]at W2
 have hf6:f<=6:=by
  by_cases h:w<a
  .have:=sy h;omega
  .have:=ZA (by omega);omega
 by_cases iE:w<a\/w=a/\f<b
 case neg=>
  obtain rfl:w=a:=by omega
  obtain rfl:f=b:=by have:=ZA rfl;omega
  rw[IG (Nat.le_refl _),List.append_nil]at hD
  have YQ:D≠[]:=by rw[hD];exact Fh g av
  have hg:grow 216 (D.map gA)=.slice (.own 216) (D.map gA):=by simp[grow,YQ]
  rw[hg]at p7
  have E4:QV s out es i=.agg [.slice .view (D.map gA),.bool (pj s es i)]:=by rw[hD];rfl
  have iA:aF 2 [AV.agg [AV.slice .view (D.map gA),AV.bool (pj s es i)]]=true:=rfl;simp[s2,s3,e2,e3,bK,dW,fo,s5,s9,e9,fu,p7,s6,s7,iA];refine mo (gB s out es i) (QV s out es i) (.own 134) (by simp[s5,grow]) (by rw[E4];simp) (by rw[E4];rfl) (JM _ _ _ _) (by rw[xM];omega) ?_;intro S' sd eK;simp[sd,eK,s2,s3,e2,e3,bK,dW,fo,s6,s7,hw,av,XG,Eh,grow,aN,an,bH]
 have yl:w<s.words.length:=by omega
 have T_:=ko yl;refine ba (λS H=>S 2=.box 2 0/\S 3=.box 3 0/\H 2=some (aN s)/\H 3=some [vI out,.slice .view (es.map bq)]/\S 12=.slice .view (es.map bq)/\S 13=.int .i64 es.length/\S 14=.int .i64 (i:Nat)/\S 5=grow 134 (gB s out es i)/\S 9=.box 9 0/\H 9=some [.int .i64 a,.int .i64 b]/\S 10=.box 10 0/\H 10=some [grow 216 (D.map gA),.bool (pj s es i)]/\S 6=.int .i64 w/\S 7=.int .i64 f) ?_ ?_
 .rcases iE with Hn|⟨rfl,YP⟩
  .have nC:(w:Int)<a:=by omega
   simp[au,ai,s2,s3,e2,e3,bK,dW,fo,s5,s9,e9,fu,p7,s6,s7,nC,Hn]
  .have hfi:(f:Int)<b:=by omega
   simp[au,ai,s2,s3,e2,e3,bK,dW,fo,s5,s9,e9,fu,p7,s6,s7,hfi,YP]
 have Ic:LA a S H=(a-w)*1000+(1000-f):=by unfold LA;rw[s6,s7];simp only;omega
 rw[Ic];clear s2 s3 e2 e3 bK dW fo s5 s9 e9 fu p7 s6 s7 Ic S H;rintro S H ⟨s2,s3,e2,e3,bK,dW,fo,s5,s9,e9,fu,p7,s6,s7⟩;simp[s2,s3,e2,e3,bK,dW,fo,s5,s9,e9,fu,p7,s6,s7];refine⟨_,by kernel_rfl,Rq hG out ho w,λ_=>rfl,?_⟩;have ib:=hF.words.2;have ig:IntKind.i64.wrap ((w:Int)+1)=w+1:=bf (by omega);have Qk:IntKind.i64.wrap ((f:Int)+1)=f+1:=bf (by omega);have HG:IntKind.i64.wrap 0=0:=bf (by omega);cases zL:out.contains (w:Int)
 case true=>
  have Hn:w<a:=by
   rcases iE with h|⟨rfl,_⟩
   .exact h
   .rw[zL]at g3;cases g3
  simp[s2,s3,e2,e3,bK,dW,fo,s5,s9,e9,fu,p7,s6,s7,ig,HG];refine⟨⟨by simp[au,ai,s2],by simp[au,ai,s3],e2,e3,by simp[au,ai,bK],by simp[au,ai,dW],by simp[au,ai,fo],by simp[au,ai,s5,grow],by simp[au,ai,s9],e9,by simp[au,ai,fu],w+1,0,D,p7,by simp[au,ai],by simp[au,ai],by rw[<-hD,KY Hn zL],by omega,λ_=>Nat.zero_le _,λ_=>Nat.zero_le _⟩,?_⟩;simp[LA,aq];omega
 have hlen:(((w:Nat):Int))<s.words.length:=by omega
 cases Mm:((f:Int)==s.words[w].bc.length)
 case true=>
  have Rg:fQ s w<=f:=by rw[T_];simp at Mm;omega
  have Hn:w<a:=by
   rcases iE with h|⟨rfl,h⟩
   .exact h
   .rw[T_]at Rg;omega
  simp[s2,s3,e2,e3,bK,dW,fo,s5,s9,e9,fu,p7,s6,s7,ig,HG,aN,an,bH,cU,yl,Mm];refine⟨⟨by simp[au,ai,s2],by simp[au,ai,s3],e2,e3,by simp[au,ai,bK],by simp[au,ai,dW],by simp[au,ai,fo],by simp[au,ai,s5,grow],by simp[au,ai,s9],e9,by simp[au,ai,fu],w+1,0,D,p7,by simp[au,ai],by simp[au,ai],by rw[<-hD,Ib Hn Rg],by omega,λ_=>Nat.zero_le _,λ_=>Nat.zero_le _⟩,?_⟩;simp[LA,aq];omega
 have bQ:f≠s.words[w].bc.length:=by simp at Mm;omega
 have hfw:f<fQ s w:=by
  rcases iE with h|⟨rfl,h⟩
  .have:=sy h;omega
  .omega
 have iA:aF 2 [AV.agg [AV.int .i64 (w:Nat),AV.int .i64 (f:Nat)]]=true:=rfl;simp[s2,s3,e2,e3,bK,dW,fo,s5,s9,e9,fu,p7,s6,s7,aN,an,bH,cU,yl,Mm,cL,iA];refine mo (D.map gA) (gA (w,f)) (.own 216) (by simp[grow]) (by simp[gA]) rfl (P7 _) (by rw[List.length_map];omega) ?_;intro S' sd eK;simp[sd,eK,s2,s3,e2,e3,bK,dW,fo,s5,s9,e9,fu,s6,s7,Qk,grow];refine⟨⟨by simp[au,ai,eK,s2],by simp[au,ai,eK,s3],?_,?_,by simp[au,ai,eK,bK],by simp[au,ai,eK,dW],by simp[au,ai,eK,fo],by simp[au,ai,eK,s5,grow],by simp[au,ai,eK,s9],?_,by simp[au,ai,eK,fu],w,f+1,D++[(w,f)],?_,by simp[au,ai,eK,s6],by simp[au,ai],?_,hwa,?_,?_⟩,?_⟩
 .simp[au,ai,e2,aN,an,bH]
 .simp[au,ai,e3]
 .simp[au,ai,e9]
 .simp[au,ai,grow]
 .have jF:kS s out (w,f) (a,b)=(w,f)::kS s out (w,f+1) (a,b):=Nk (by
   rcases iE with h|h
   .exact .inl ⟨h,zL,hfw⟩
   .exact .inr h)
  rw[<-hD,jF];simp
 .intro h;rcases iE with h'|h'<;>omega
 .intro _;omega
 .simp[LA,aq,eK,s6];omega
end Go.Proofs.Tryz
namespace Go.Proofs.Tryz
open Go Go.AL Go.RowKit Go.Proofs Go.Proofs.Tram
attribute [local simp] dI eb dP db dG cI cJ cb cd dE b_ bL fk fj ar ao ev aD.S aD.H a_ aq aH AL.start AV.cells AV.storable AV.bm aR aT ee aZ HR.okB post cn ct cw AV.out AV.bC bz bW fz fM AV.vw bR vI int bG aB cS cg fS gL dL cG aU AV.aA AV.bF
variable{GI:World->Prop}
def GM(bM:Nat)(l:List (List Int×Value)):World->Prop:=λw=>∃es clock,w.heap[bM]?=some (.map es clock)/\kU rQ es l
def qj(bM:Nat)(l:List (List Int×Value)):aw (GM bM l):=by
 rintro w w' ⟨es,clock,h,he⟩ hb;exact⟨es,clock,by rw[hb.block bM (Array.getElem?_eq_some_iff.1 h).1];exact h,he⟩
def fG(n e:Nat):List Int:=[(n:Int),(e:Int)]
noncomputable def xw:List bl:=c57.qb.qb.qa.qa.dl
def KK {a:Act} {w:World} {bM:Nat} {l:List (List Int×Value)} (hw:GM bM l w) (hx:∀ x∈l,x.1.length=2) {n e:Nat} (h1:a.eval (.tmp 17)=er bM) (h2:a.eval (.tmp 18) = .agg (dw (fG n e))) {o:Oper} (ho:o.op = .lookup 140 (.tmp 17) (.tmp 18) true) :
  (execOp a.eval o).run prog w=.ok (.value (match fq (fG n e) l 0 with|some (_,v)=>.tuple #[v,.bool true]|none=>.tuple #[.int .i64 0,.bool false])) w:=by
 obtain⟨es,clock,hb,he⟩:=hw
 have BO:prog.underlying 140=some (.map 221 3):=by kernel_rfl
 obtain⟨fs,iD⟩:=uZ 221
 have sy:iY prog 10000 221=some 2:=by kernel_rfl
 obtain⟨i3,wX,PS⟩:=Option.bind_eq_some_iff.1 (show(prog.info? 3).bind (·.zero)=some (.int .i64 0) by kernel_rfl);exact vo (P:=prog) (a:=a) (w:=w) (t:=140) (x1:=.tmp 17) (x2:=.tmp 18) (key:=fG n e) ho BO iD sy wX PS h1 h2 rfl hb he hx
def Vv{bM:Nat}{l:List (List Int×Value)}(hx:∀x∈l,x.1.length=2)(ls:List Int){n e j:Nat}{v:Int}(hk:fq (fG n e) l 0=some (j,.int .i64 v)):AC prog (GM bM l) 57 [jW ls (er bM),.int .i64 (n:Nat),.int .i64 (e:Nat)] (.ret (.int .i64 v)):=by
 have hG:=qj bM l
 refine AC.iL func57 rfl ntmps57 (by simp) λcc w=>?_
 refine dR hG c57.qa (λS H=>S 1=.int .i64 (n:Nat)/\S 2=.int .i64 (e:Nat)/\S 3=.box 3 0/\H 3=some (dH ls (er bM))) ?_ ?_
 .simp[c57,ae.qa,jW,dH,aV]
 rintro S H ⟨s1,s2,s3,h3⟩;refine dR hG c57.qb.qa (λS H=>S 3=.box 3 0/\H 3=some (dH ls (er bM))/\S 7=.box 7 0/\H 7=some [.int .i64 (n:Nat),.int .i64 (e:Nat)]) ?_ ?_
 .simp[c57,ae.qa,ae.qb,s1,s2,s3,h3,cL]
 clear s1 s2 s3 h3 S H;rintro S H ⟨s3,h3,s7,h7⟩;show SW prog (GM bM l) 58 none (.seq (.seq _ (.seq _ (.cond _ _ _))) _) _ _ _ _
 refine SW.seq (SW.seq (SW.hand hG (p:=3) (lm:=[3]) (l2:=[4,5,6,7,8]) (jT:=[_,_,_]) (oh:=[_]) (jC:=[_,_,_,_,_]) rfl rfl rfl rfl (by kernel_rfl) (λ_ h=>h) (nN:=xw.take 3) (mF:=xw.drop 4) (by kernel_rfl) (by kernel_rfl) (by kernel_rfl) (by kernel_rfl)
  (K1:=λS H=>S 17=.val (er bM)/\S 18=.agg [.int .i64 (n:Nat),.int .i64 (e:Nat)])
  (K2:=λo S H=>o=Old.plain cc w/\S 19=.eS [.int .i64 v,.bool true])
  (K3:=λo S H=>o=Old.plain cc w/\S 8=.int .i64 v/\S 9=.bool true) ?_ ?_ ?_ ?_))
 .simp[xw,c57,ae.qa,ae.qb,ae.dl,s3,h3,s7,h7,dH,aV,eB]
 .rintro w0 g S1 H1 a w1 m bP ho R ⟨OM,zZ⟩;have t17:=R.slot 17 (by decide) id;rw[OM]at t17;have t18:=R.slot 18 (by decide) id;rw[zZ]at t18;have hw:GM bM l w1:=hG _ _ bP (by have:=R.below;rwa [R.base]at this)
  have hr:=λ(o:Oper)(ho:o.op=.lookup 140 (.tmp 17) (.tmp 18) true)=>KK hw hx (n:=n) (e:=e) t17.gp (sc t18) ho
  simp only[hk]at hr;refine aK rfl rfl (by rfl) (hr _ rfl) ?_
  have R2:=R.put 19 (.eS [.int .i64 v,.bool true]) (.tuple #[.int .i64 v,.bool true]) (by decide) (.data _ _ (.eS _ _ rfl (λi hi ck=>by
   match i,hi with
   |0,_=>exact .int _ _
   |1,_=>exact .bool _))) trivial
  exact⟨_,_,_,R2,ho,aJ _ _ _⟩
 .rintro o S H ⟨rfl,K_⟩;refine⟨λ_ h=>h,?_⟩;simp[xw,c57,ae.qa,ae.qb,ae.dl,K_]
 clear s3 h3 s7 h7 S H;rintro o S H ⟨rfl,s8,s9⟩;refine dR hG c57.qb.qb.qa.qb.qa (λS H=>S 8=.int .i64 v/\S 22=.bool true) ?_ ?_
 .simp[c57,ae.qa,ae.qb,s8,s9]
 clear s8 s9 S H;rintro S H ⟨s8,DF⟩;refine SW.cond rfl true (by show S 22=_;rw[DF]) ?_;refine dR hG (.ops [⟨some 23,none,.mv false (.t 8)⟩,⟨some 6,none,.mv true (.t 23)⟩]) (λS H=>S 6=.int .i64 v) ?_ ?_
 .simp[s8]
 intro S H s6;refine SW.ret ⟨ea.plain rfl,rfl,.int .i64 v,?_,rfl⟩;show cn prog 58 [.tmp 6] S H=_;simp[cn,ct,cw,s6,AV.bC,AV.out,AV.aA]
def SM (hG:aw GI) (ls:List Int) (m:Value) {n e:Nat} (hn:n < ls.length) (hl:ls.length≤4) {v:Int} (h:0 < n→AC prog GI 57 [jW ls m,.int .i64 ((n - 1:Nat):Int),.int .i64 (e:Nat)] (.ret (.int .i64 v))) :
  AC prog GI 167 [jW ls m,.int .i64 (n:Nat),.int .i64 (e:Nat)] (.ret (.int .i64 (if n=0 then 0 else v))):=by
 have a175:=Ty (GI:=GI) hG ls m hn hl;unfold jW at a175 h⊢;refine dM hG func167 ntmps167 c167 ?_;refine ba (λS H=>S 1=.int .i64 (n:Nat)/\S 2=.int .i64 (e:Nat)/\S 3=.box 3 0/\H 3=some (dH ls m)) (by simp[c167,dH,aV]) ?_;rintro S H ⟨s1,s2,s3,h3⟩
 by_cases h0:n=0
 .subst h0;simp[c167,s1,s2,s3,h3,dH,aV];refine oc (by simpa[dH,aV]using a175) ?_;simp[s1,s2,s3,h3]
 .have hp:0<n:=by omega
  have h:=h hp;simp[c167,s1,s2,s3,h3,dH,aV];refine oc (by simpa[dH,aV]using a175) ?_;simp[s1,s2,s3,h3,hp,dH,aV];refine oc (by simpa[dH,aV]using h) ?_;simp[h0]
def Ao{ls:List Int}{n:Nat}(h:n<ls.length):(ls.map jJ)[n]?=some (jJ ls[n]):=by simp[h]
def U7 (hG:aw GI) (ls:List Int) (m:Value) {n e:Nat} (hn:n < ls.length) {v:Int} (h0:0≤v) (h:AC prog GI 167 [jW ls m,.int .i64 (n:Nat),.int .i64 (e:Nat)] (.ret (.int .i64 v))) :
  AC prog GI 133 [jW ls m,.int .i64 (n:Nat),.int .i64 (e:Nat)] (.ret (.int .i64 v)):=by
 have a168:=SK (GI:=GI) hG v h0;have hg:=Ao hn;unfold jW at h⊢;refine dM hG func133 ntmps133 c133 ?_;refine ba (λS H=>S 1=.int .i64 (n:Nat)/\S 2=.int .i64 (e:Nat)/\S 3=.box 3 0/\H 3=some (dH ls m)) (by simp[c133,dH,aV]) ?_;rintro S H ⟨s1,s2,s3,h3⟩;refine ba (λS H=>S 1=.int .i64 (n:Nat)/\S 3=.box 3 0/\H 3=some (dH ls m)/\S 7=.slice (.own 3) [.int .i64 v]) ?_ ?_
 .have bB:aF 1 [AV.int .i64 v]=true:=rfl;simp[c133,s1,s2,s3,h3,dH,aV];refine oc (by simpa[dH,aV]using h) ?_;simp[s1,s2,s3,h3,dH,aV,bB]
 clear s1 s2 s3 h3 S H;rintro S H ⟨s1,s3,h3,s7⟩;refine ba (λS H=>S 7=.slice (.own 3) [.int .i64 v]) ?_ ?_
 .simp[c133,s1,s3,h3,s7,dH,aV,hn,jJ];refine⟨λS H=>S 22=.int .i64 0/\S 23=.int .i64 0/\S 7=.slice (.own 3) [.int .i64 v],λ_ _=>0,⟨by simp,by simp,by simp[s7]⟩,?_⟩;rintro S H ⟨DF,Hk,s7⟩;simp[DF,Hk,s7]
 clear s1 s3 h3 s7 S H;intro S H s7;simp[c133,s7];refine oc a168 ?_;simp
def Ur(hG:aw GI){ls:List Int}(gZ:iH ls){n:Nat}(hn:n<ls.length):AC prog GI 129 [.agg (aV ls),.int .i64 (n:Nat)] (.ret (.bool true)):=by
 have hL:=gZ.2 _ (List.getElem_mem hn);have hg:=Ao hn;have q1:=rY (GI:=GI) hG 0 0 0;have q2:=rY (GI:=GI) hG ls[n] 1 6;have q3:=rY (GI:=GI) hG ls[n] ls[n] 6
 have i1:da 0 0 0=true:=by decide
 have i2:da ls[n] 1 6=true:=by simp[da];omega
 have i3:da ls[n] ls[n] 6=true:=by simp[da];omega
 rw[i1]at q1;rw[i2]at q2;rw[i3]at q3
 obtain⟨L,X7⟩:∃L,ls[n]=L:=⟨_,rfl⟩
 rw[X7]at hL hg q2 q3 i2 i3;refine dM hG func129 ntmps129 c129 ?_;refine ba (λS H=>S 1=.int .i64 (n:Nat)/\S 2=.box 2 0/\H 2=some (aV ls)) (by simp[c129,aV]) ?_;rintro S H ⟨s1,s2,h2⟩;refine ba (λS H=>S 1=.int .i64 (n:Nat)/\S 2=.box 2 0/\H 2=some (aV ls)/\S 5=.box 5 0/\H 5=some [.int .i64 0,.bool false,.int .i64 L,.int .i64 L,.slice .view []]) (by simp[c129,s1,s2,h2,aV,hg,hn,X7,jJ,cL]) ?_;clear s1 s2 h2 S H;rintro S H ⟨s1,s2,h2,s5,h5⟩;refine ba (λS H=>S 2=.box 2 0/\H 2=some (aV ls)/\S 5=.box 5 0/\H 5=some [.int .i64 0,.bool false,.int .i64 L,.int .i64 L,.slice .view []]) ?_ ?_
 .simp[c129,s5,h5];refine⟨λS H=>S 15=.int .i64 0/\S 16=.int .i64 0/\S 2=.box 2 0/\H 2=some (aV ls)/\S 5=.box 5 0/\H 5=some [.int .i64 0,.bool false,.int .i64 L,.int .i64 L,.slice .view []],λ_ _=>0,⟨by simp,by simp,by simp[s2],by simp[h2],by simp[s5],by simp[h5]⟩,?_⟩;rintro S H ⟨Bx,uv,s2,h2,s5,h5⟩;simp[Bx,uv,s2,h2,s5,h5]
 clear s1 s2 h2 s5 h5 S H;rintro S H ⟨s2,h2,s5,h5⟩;simp[c129,s2,h2,s5,h5,aV];refine oc q1 ?_;simp[s2,h2,s5,h5,aV];refine oc q2 ?_;simp[s2,h2,s5,h5,aV];refine oc q3 ?_;simp
def Y4(hG:aw GI){ls:List Int}(gZ:iH ls):AC prog GI 54 [.agg (aV ls)] (.ret (.bool true)):=by
 have q1:=rY (GI:=GI) hG 0 0 3;have q2:=rY (GI:=GI) hG 1 1 3;have q3:=rY (GI:=GI) hG ls.length 1 6;have BH:=gZ.1
 have i1:da 0 0 3=true:=by decide
 have i2:da 1 1 3=true:=by decide
 have i3:da ls.length 1 6=true:=by simp[da];omega
 rw[i1]at q1;rw[i2]at q2;rw[i3]at q3
 have q4:=λn (h:n<ls.length)=>Ur (GI:=GI) hG gZ h
 have q5:=Kv (GI:=GI) hG [0] (by simp) 130 [] (.inl rfl) (λn=>!da n 0 60) (by kernel_rfl) (λx _=>by simpa using Uo (GI:=GI) hG x)
 have i5:([0]:List Int).any (λn=>!da n 0 60)=false:=by decide
 rw[i5]at q5;refine dM hG func54 ntmps54 c54 ?_;refine ba (λS H=>S 1=.box 1 0/\H 1=some (aV ls)) (by simp[c54,aV]) ?_;rintro S H ⟨s1,h1⟩;refine ba (λS H=>S 1=.box 1 0/\H 1=some (aV ls)) ?_ ?_
 .simp[c54,s1,h1,aV];refine oc q1 ?_;simp[s1,h1,aV];refine oc q2 ?_;simp[s1,h1,aV];refine oc q3 ?_;simp[s1,h1,aV]
 clear s1 h1 S H;rintro S H ⟨s1,h1⟩;refine ba (λS H=>S 1=.box 1 0/\H 1=some (aV ls)) ?_ ?_
 .simp[c54,s1,h1,aV];refine dg 25 ls.length (λi S H=>S 1=.box 1 0/\H 1=some (aV ls)/\S 24=.int .i64 ls.length/\S 25=.int .i64 (i:Nat)) (λi S H h=>h.2.2.2) ⟨by simp[s1],by simp[h1,aV],by simp,by simp⟩ ?_;rintro i hi S H ⟨s1,h1,pP,kQ⟩
  by_cases av:i<ls.length
  .have hw:IntKind.i64.wrap ((i:Int)+1)=i+1:=bf (by omega);have q:=q4 i av;unfold aV at q;simp[s1,h1,pP,kQ,av,aV];refine oc q ?_;simp[s1,h1,pP,kQ,av,hw,aV]
  .have dN:i=ls.length:=by omega
   subst dN;simp[s1,h1,pP,kQ,aV]
 clear s1 h1 S H;rintro S H ⟨s1,h1⟩;simp[c54,s1,h1,aV];refine oc (by simpa[ints,vI]using q5) ?_;simp
def Yj(hG:aw GI){ls:List Int}(gZ:iH ls):AC prog GI 55 [.agg (aV ls),vI (fK ls.length)] (.ret (.bool true)):=by
 have q1:=rY (GI:=GI) hG 0 0 0
 have i1:da 0 0 0=true:=by decide
 rw[i1]at q1
 have Zp:(ints (fK ls.length)).length=ls.length:=by simp[ints,fK]
 have hz:=λi (h:i<ls.length)=>A5 (n:=ls.length) h
 have hs:=λi (h:i<ls.length)=>Ao (ls:=ls) h
 have BH:=gZ.1;refine dM hG func55 ntmps55 c55 ?_;refine ba (λS H=>S 1=vI (fK ls.length)/\S 2=.box 2 0/\H 2=some (aV ls)) (by simp[c55,aV]) ?_;rintro S H ⟨s1,s2,h2⟩;refine ba (λS H=>S 1=.slice .view (ints (fK ls.length))/\S 2=.box 2 0/\H 2=some (aV ls)) (by simp[c55,s1,s2,h2,aV,Zp]) ?_;clear s1 s2 h2 S H;rintro S H ⟨s1,s2,h2⟩;refine ba (λS H=>True) ?_ ?_
 .simp[c55,s1,s2,h2,Zp];refine dg 15 ls.length (λi S H=>S 13=.slice .view (ints (fK ls.length))/\S 14=.int .i64 ls.length/\S 15=.int .i64 (i:Nat)/\S 2=.box 2 0/\H 2=some (aV ls)) (λi S H h=>h.2.2.1) ⟨by simp,by simp,by simp,by simp[s2],by simp[h2]⟩ ?_;rintro i hi S H ⟨dW,fo,Bx,s2,h2⟩
  by_cases av:i<ls.length
  .have hw:IntKind.i64.wrap ((i:Int)+1)=i+1:=bf (by omega);have z:=hz i av;have t:=hs i av;simp[dW,fo,Bx,s2,h2,av,z,aV];refine oc q1 ?_;simp[dW,fo,Bx,s2,h2,av,hw,t,jJ,aV]
  .have dN:i=ls.length:=by omega
   subst dN;simp[dW,fo,Bx,s2,h2]
 intro S H _;simp[c55]
end Go.Proofs.Tryz
namespace Go.Proofs.Tryz
open Go Go.AL Go.RowKit Go.Proofs Go.Proofs.Tram
attribute [local simp] dI eb dP db dG cI cJ cb cd dE b_ bL fk fj ar ao ev aD.S aD.H a_ aq aH AL.start AV.cells AV.storable AV.bm aR aT ee aZ HR.okB post cn ct cw AV.out AV.bC bz bW fz fM AV.vw bR vI int bG aB cS cg fS gL dL cG aU AV.aA AV.bF
def ry(s:bO):List (List Int):=kA s s.eG.length []
structure Jz(s:bO):Prop where
 dY:s.dY.length<1000000
 work:s.work.length<1000000
 eG:s.eG.length<1000000
 few:oD s=true->(ry s).length<=1000000
def Q5{s:bO}(h:Ny s):nK prog GT 141 [.ref (cC s)] ((ry s).map vI):=
 Sz s (by have:=h.No;omega) h.ok h.work (by have:=h.len;omega) (by have:=h.Qb;omega)
def MO(s:bO)(none:Int):List AV:=
 if oD s=true then(if(ry s).isEmpty then[.slice .view [],.int .i64 none]else[.slice .view ((ry s).map vI),.int .i64 0])else[.slice .view [],.int .i64 2]
def Wc(s:bO)(hs:Jz s)(e:Int):AC prog GT 26 [mc s,.int .i64 e] (.ret (.eS (MO s e))):=by
 have hG:aw GT:=eN;have PE:=ZF eN s hs.dY hs.work hs.eG;unfold MO
 cases hc:oD s with
 |false=>
  rw[hc]at PE;simp only[Bool.false_eq_true,if_false];refine dM hG func26 ntmps26 c26 ?_;simp[c26,mc,cK,aW];refine oc PE ?_;simp
 |true=>
  rw[hc]at PE;have hg:=KQ hc;have h31:=XB eN s (by have:=hg.No;omega) hg.ok;have h69:=XI s (hs.few hc) (Q5 hg);simp only[if_true]
  refine AC.iL func26 rfl ntmps26 (by simp) λcc w=>?_
  refine dR eN c26.qa (λS H=>S 1=.int .i64 e/\S 2=.box 2 0/\H 2=some (cK s)) ?_ ?_
  .simp[c26,ae.qa,mc,cK,aW]
  rintro S1 H1 ⟨s1,s2,h2⟩;refine dR eN c26.qb.qa (λS H=>S 1=.int .i64 e/\S 2=.box 2 0/\H 2=some (cK s)) ?_ ?_
  .simp[c26,ae.qa,ae.qb,cK,aW,s1,s2,h2];refine oc PE ?_;simp[s1,s2,h2]
   try rfl
  rintro S2 H2 ⟨s1,s2,h2⟩;refine dR eN c26.qb.qb.qa (λS H=>S 1=.int .i64 e/\S 6=kF (ry s)) ?_ ?_
  .simp[c26,ae.qa,ae.qb,cK,aW,s1,s2,h2];refine oc h31 ?_;simp[fb,cC,cK,aW,s1,s2,h2];refine oc (Xt s) ?_;simp[cC,cK,aW,s1,s2,h2];refine⟨_,by kernel_rfl,h69,by simp[bR,mG],?_⟩
   cases ry s<;>simp[kF,s1,s2,h2]
  rintro S3 H3 ⟨s1,s6⟩;refine SW.pt eN cV (by kernel_rfl) (λ_ _ h=>h) (ac:=ae.qb c26.qb.qb) (by kernel_rfl) ?_
  cases hp:ry s with
  |nil=>
   rw[hp]at s6;simp[c26,ae.qb,fH.bD,pv,s1,s6,kF];exact⟨ea.plain rfl,rfl⟩
  |cons p l=>
   rw[hp]at s6;simp[c26,ae.qb,fH.bD,pv,s1,s6,kF];exact⟨ea.plain rfl,rfl⟩
def yJ(s:bO):List AV:=
 if oD s=true then(match ry s with|[]=>[.slice .view [],.int .i64 5]|p::_=>[vI p,.int .i64 0])else[.slice .view [],.int .i64 2]
def W_(s:bO)(hs:Jz s):AC prog GT 22 [mc s] (.ret (.eS (yJ s))):=by
 have hG:aw GT:=eN;have yy:=Wc s hs 5;unfold MO at yy;unfold yJ
 cases hc:oD s with
 |false=>
  rw[hc]at yy;simp only[Bool.false_eq_true,if_false]at yy⊢;refine dM hG func22 ntmps22 c22 ?_;simp[c22,mc,cK,aW];refine oc yy ?_;simp
 |true=>
  rw[hc]at yy;simp only[if_true]at yy⊢
  cases hp:ry s with
  |nil=>
   rw[hp]at yy;simp only[List.isEmpty_nil,if_true]at yy;refine dM hG func22 ntmps22 c22 ?_;simp[c22,mc,cK,aW];refine oc yy ?_;simp
  |cons p l=>
   rw[hp]at yy;simp only[List.isEmpty_cons,Bool.false_eq_true,if_false]at yy;refine dM hG func22 ntmps22 c22 ?_;simp[c22,mc,cK,aW];refine oc yy ?_;simp
end Go.Proofs.Tryz
namespace Go.AL
open Go.RowKit
section
variable{P:Program}{a:Act}{w:World}
def qW {o:Oper} {t:TypeId} {x:Operand} {b off:Nat} {i:TypeInfo} {d:TypeDesc} (ho:o.op = .load t x) (hx:a.eval x = .pointer (some ⟨b,off,none⟩)) (hi:P.info? t=some i) (hu:P.underlying t=some d) (hd:eB d=true)
  (vs:Nat->Value) (hc:∀k,k<i.size->w.cell? ⟨b,off+k,none⟩=some (vs k)):(execOp a.eval o).run P w=.ok (.value (.agg ((List.range i.size).map vs).toArray)) w:=by
 have jL:(isAgg t).run P w=.ok true w:=by
  unfold isAgg;rw[Sem.run_bind,run_underlying hu w]
  cases d<;>simp_all[eB]
 have AR:(loadCells ⟨b,off,none⟩ i.size).run P w=.ok ((List.range i.size).map vs).toArray w:=
  run_loadCells (P:=P) w _ _ vs λj hj=>by rw[Addr.add_lit];exact hc j hj
 unfold execOp;simp[ho,hx,Instr.loadAt,Instr.sureAddr,loadVar,Sem.run_bind,jL,sizeOf,typeInfo,hi,AR]
def yn {o:Oper} {s el:TypeId} {i:TypeInfo} {x1 x2:Operand} {b off m cap k:Nat} (ho:o.op = .indexAddr s x1 x2) (hs:P.underlying s=some (.slice el)) (hi:P.info? el=some i)
  (h1:a.eval x1=.slice (some ⟨b,off,none⟩) m cap) (h2:a.eval x2=.int .i64 k) (hk:k<m):(execOp a.eval o).run P w=.ok (.value (.pointer (some ⟨b,off+k*i.size,none⟩))) w:=by
 have Az:(0:Int)<=k:=by omega
 have nv:(k:Int)<m:=by omega
 simp[execOp,ho,h1,h2,Instr.indexAt,asIntOf,run_underlying hs,Az,nv,sizeOf,typeInfo,hi,Addr.add_lit,hk]
def Kt{t:Nat}(ht:t<a.tmps.size):a.put (some t) (a.tmps.getD t undef)=a:=by
 cases a with
 |mk tmps defers=>
  simp only[Act.put]
  congr 1
  apply Array.ext
  .simp
  .intro i h1 h2;rw[Array.getElem_setIfInBounds];split
   .rename_i e;subst e;simp[Array.getElem?_eq_getElem h2]
   .rfl
def Rel.HW{w0:World}{n:Nat}{g:Gh}{S:af}{H:ah}(R:Rel P w0 n bu g S H a w){t:Nat}(ht:t<n)(k:IntKind)(v:Int)(h:a.tmps.getD t undef=.int k v):Rel P w0 n bu g (aq S t (.int k v)) H a w:=by
 have R1:=R.put t (.int k v) (.int k v) ht (.data _ _ (.int _ _)) trivial;rw[<-h,Kt (by rw[R.size];exact ht)]at R1;exact R1
def RD.allow{Pr:Nat->Nat->Prop}{v:AV}{c:Value}{w':World}(h:RD Pr w v c)(hb:Below w.heap.size w w'):RD (λ_ _=>True) w' v c:=
 h.mono (aL.fI (λb fg=>hb.block b fg) λ_ _ _ _=>trivial)
def RD.Ks{Pr:Nat->Nat->Prop}{cs:List AV}{vs:Nat->Value}(h1:∀i (h:i<cs.length),(cs[i]).one=true)(h:∀i (h:i<cs.length),RD Pr w cs[i] (vs i)):RD Pr w (.agg cs) (.agg ((List.range cs.length).map vs).toArray):=
 .agg _ _ (by simp) h1 λi hi ck=>by simpa using h i hi
end
section
variable{n:Nat}
def AI.mask{ops:Array Oper}{a0 a:Act}{val:Nat->Value}{l:Array Bool}(h:AI ops n a0 val l a){W:Nat->Bool}(hk:ops.all (λo=>match o.dst with|some d=>W d|none=>true)=true):eF W a0 a:=by
 intro t ht
 refine h.old t λi o ho hd=>?_
 have:=Array.all_eq_true'.1 hk o (Array.mem_of_getElem? ho);simp only[hd]at this;rw[this]at ht;cases ht
end
end Go.AL
namespace Go.Proofs.Tryz
open Go Go.AL Go.RowKit Go.Proofs Go.Proofs.Tram
def pB(b k:Nat):Value:=.pointer (some ⟨b,k,none⟩)
def Ul(b3 DG bs os:Nat)(arr st:Nat->Value)(sv:Value)(n e:Nat)(v0 L:Int):Nat->Value
 |25=>.agg ((List.range 7).map arr).toArray
 |26|35=>.int .i64 (n:Nat)
 |27|29=>.int .i64 (e:Nat)
 |28=>.int .i64 v0
 |30=>pB DG e
 |31=>gY (131+e)
 |32=>pB b3 0
 |33=>pB b3 2
 |34=>sv
 |36=>pB bs (os+n*5)
 |37|38=>.agg ((List.range 5).map st).toArray
 |39=>.int .i64 L
 |40|11=>.int .i64 (v0+L)
 |_=>undef
noncomputable def EI:Code:=f57.body.getD .skip
def IS:Code->Code
 |.seq x _=>x
 |c=>c
def ky{α:Type}{x:Option α}{o o':α}(ho:x=some o)(h:x=some o':=by rfl):o=o':=Option.some.inj (ho.symm.trans h)
def wV(n:Int):(jJ n).cells=[.int .i64 0,.bool false,.int .i64 n,.int .i64 n,.slice .view []]:=rfl
def J0(ls:List Int):aF 5 (ls.map jJ)=true:=kl λa=>⟨rfl,rfl⟩
def Ug{GI:World->Prop}(hG:aw GI)(e:Nat)(he:e=0\/e=1)(x:Int):AC prog GI (131+e) [jJ x] (.ret (.int .i64 x)):=by
 rcases he with rfl|rfl
 .exact U2 hG x
 .exact TP hG x
def A1 {GI:World→Prop} {f:Nat} {args:List AV} {v:Int} (h:AC prog GI f args (.ret (.int .i64 v))) {w:World} (hw:GI w) {bp:Array Value} (hl:args.length=bp.size) (hr:∀ i (h:i < args.length) (h':i < bp.size),RD (fun _ _=>True) w args[i] bp[i]) {R:Ending→World→Prop}
  (hR:∀w',Below w.heap.size w w'->R (.returned (.int .i64 v)) w'):Calls prog f bp w R:=by
 refine(h w (λ_ _=>True) bp hw hl λi h1 h2=>.data _ _ (hr i h1 h2)).mono ?_;rintro en w' ⟨hb,hi,_,c,rfl,hc,_⟩;rw[hc.int_eq];exact hR w' hb
def LY{a:Act}{w:World}{o:Oper}{x y:Operand}{t ty:TypeId}{m n:Int}(ho:o.op=.binOp .add t x y ty)(hx:a.eval x=.int .i64 m)(hy:a.eval y=.int .i64 n):(execOp a.eval o).run prog w=.ok (.value (.int .i64 (IntKind.i64.wrap (m+n)))) w:=by
 unfold execOp;simp[ho,hx,hy,Go.binOp,Op.intArith,eqGuard]
def CV{P:Program}{a:Act}{o:Oper}{t:TypeId}{x:Operand}{i:Nat}{cells:Array Value}(w:World)(ho:o.op=.build t #[(i,x)])(hb:P.built t [(i,a.eval x)]=some cells):(execOp a.eval o).run P w=.ok (.value (.agg cells)) w:=by
 have h:=run_build (P:=P) w t #[(i,a.eval x)] cells hb;unfold execOp;simp only[ho,Sem.run_bind,List.map_toArray,List.map_cons,List.map_nil,h,Result.andThen_ok]
 rfl
def Xj {GI:World→Prop} (hG:aw GI) {w0:World} {g:Gh} {S:af} {H:ah} {a:Act} {w:World} {m:Nat} {Q:Exit→Act→World→Prop} (bP:GI w0) (R:Rel prog w0 58 bu g S H a w) (ls:List Int) (mV:Value) {n e:Nat} (hn:n < ls.length) (he:e=0∨e=1)
  (s1:S 1=.int .i64 (n:Nat)) (s2:S 2=.int .i64 (e:Nat)) (s3:S 3=.box 3 0) (h3:H 3=some (dH ls mV)) (fu:S 10=.box 10 0) (jK:H 10=some [.val (gY 131),.val (gY 132)]) {v0:Int} (hv:0<=v0/\v0<=1000) (hL:1<=ls[n]/\ls[n]<=6)
  (Pl:AC prog GI 133 [jW ls mV,.int .i64 (n:Nat),.int .i64 (e:Nat)] (.ret (.int .i64 v0)))
  (hk:∀a' w',Rel prog w0 58 bu g (aq (λt=>cond (decide (11<=t)) .bh (S t)) 11 (.int .i64 (v0+ls[n]))) H a' w'->Q .normal a' w'):(IS (oZ (oZ (oZ (oZ EI))))).wpIn (FR none) m prog Q a w:=by
 show(Code.region 6 _ true).wpIn (FR none) m prog Q a w;obtain⟨b3,al3,e3⟩:=jk R (by decide) s3;obtain⟨DG,VW,p7⟩:=jk R (by decide) fu;have e1:=eR R (by decide) s1;have e2:=eR R (by decide) s2;obtain⟨cs3,tE,ty3,k0,k1,k2,k3,k4,k5,k6,k7,k8⟩:=R.box 3 b3 al3;rw[h3]at k0;cases k0;obtain⟨aaB,OX,YY,q0,q1,q2,q3,q4,q5,q6,q7,q8⟩:=R.box 10 DG VW;rw[jK]at q0;cases q0
 have PS:tE.size=7:=by rw[<-k5]<;>rfl
 have aav:OX.size=2:=by rw[<-q5]<;>rfl
 have YS:OX[e]?=some (gY (131+e)):=by
  have c0:=q6 0 (by simp) (by omega);have c1:=q6 1 (by simp) (by omega);simp only[List.getElem_cons_zero,List.getElem_cons_succ]at c0 c1;rcases he with rfl|rfl
  .rw[Array.getElem?_eq_getElem (by omega),(RV.data (al:=bU) _ _ c0).gp]
  .rw[Array.getElem?_eq_getElem (by omega),(RV.data (al:=bU) _ _ c1).gp]
 have r3:∀k (h:k<(dH ls mV).length),RD g.Pr w (dH ls mV)[k] (tE.getD k undef):=λk h=>by
  have h':k<tE.size:=by rw[PS];exact h
  have:=k6 k h h';simpa[h']using this
 have hsv:RD g.Pr w (.slice .view (ls.map jJ)) (tE.getD 2 undef):=r3 2 (by simp[dH,aV])
 rcases hsv.ku 5 (J0 ls)with⟨p_,_⟩|⟨bs,os,cap,news,iI,hl,Q3,_,SN⟩
 .rw[List.map_eq_nil_iff]at p_;rw[p_]at hn;cases hn
 have wN:n<(ls.map jJ).length:=by simpa using hn
 obtain⟨st,eZ⟩:∃st:Nat->Value,∀k (h:k<5),w.cell? ⟨bs,os+n*5+k,none⟩=some (st k)/\RD g.Pr w ((jJ ls[n]).cells[k]'(by rw[wV];exact h)) (st k):=by
  refine⟨λk=>news.getD (n*5+k) undef,λk h=>?_⟩;obtain⟨u,mI,np⟩:=SN n wN k (by rw[List.getElem_map];exact h)
  have:news.getD (n*5+k) undef=u:=by rw[List.getD_eq_getElem?_getD,mI]<;>rfl
  simp only[this];refine⟨by rw[Nat.add_assoc];exact Q3 _ _ mI,?_⟩;simpa using np
 have lt3:b3<w.heap.size:=(Array.getElem?_eq_some_iff.1 k2).1;have WY:DG<w.heap.size:=(Array.getElem?_eq_some_iff.1 q2).1;have lts:bs<w.heap.size:=World.block_lt_of_cell? _ _ (eZ 0 (by decide)).1;obtain⟨i142,At,A3⟩:=iZ 142 7;obtain⟨f142,zD⟩:=uZ 142;obtain⟨i71,RJ,Rh⟩:=iZ 71 5;obtain⟨f71,V8⟩:=uZ 71;obtain⟨i222,UN,Sx⟩:=iZ 222 1;obtain⟨d222,VL,To⟩:=vZ 222;obtain⟨d67,V5,Zi⟩:=vZ 67
 have TI:prog.underlying 225=some (.array 2 222):=by kernel_rfl
 have Wj:prog.underlying 67=some (.slice 71):=by kernel_rfl
 have jI:GI w:=hG _ _ bP (by have:=R.below;rwa [R.base]at this);have Od:IntKind.i64.wrap (v0+ls[n])=v0+ls[n]:=bf (by omega);refine sR cV (p:=17) (n:=58) (val:=Ul b3 DG bs os (λk=>tE.getD k undef) st (tE.getD 2 undef) n e v0 ls[n]) (by kernel_rfl) (by kernel_rfl) (by kernel_rfl) R.size (λ_ wx=>Below w.heap.size w wx) (Below.refl _ w).drew ?_ ?_
 .intro k o l aX wx ho gZ BP hI hW hw;have x1:aX.tmps.getD 1 undef=.int .i64 (n:Nat):=(hI.keep (by kernel_rfl)).trans e1;have x2:aX.tmps.getD 2 undef=.int .i64 (e:Nat):=(hI.keep (by kernel_rfl)).trans e2;have x3:aX.eval (.tmp 3)=pB b3 0:=(hI.keep (by kernel_rfl)).trans e3;have x10:aX.eval (.tmp 10)=pB DG 0:=(hI.keep (by kernel_rfl)).trans p7;have QX:GI wx:=hG w wx jI hW
  have c3:∀k,k<7->wx.cell? ⟨b3,0+k,none⟩=some (tE.getD k undef):=λk hk=>by
   rw[hW.cell (p:=⟨b3,0+k,none⟩) lt3,Nat.zero_add];simp[World.cell?,k2,PS,hk]
  have cs:∀k,k<5->wx.cell? ⟨bs,os+n*5+k,none⟩=some (st k):=λk hk=>by
   rw[hW.cell (p:=⟨bs,os+n*5+k,none⟩) lts];exact(eZ k hk).1
  have YZ:wx.heap[DG]?=some (.cells OX YY (0,0)):=by rw[hW.block DG WY];exact q2
  match k,ho with
  |0,ho=>
   cases ky ho
   have hr:=λ(o:Oper)(ho:o.op=.load 142 (.tmp 3))=>qW (P:=prog) (w:=wx) (a:=aX) ho x3 At zD rfl (λk=>tE.getD k undef) (λk hk=>c3 k (by omega))
   simp only[A3]at hr;exact .inl ⟨25,rfl,wx,hr _ rfl,hW⟩
  |1,ho=>
   cases ky ho;exact .inl ⟨26,rfl,wx,(run_move wx rfl).trans (by rw[show aX.eval (.tmp 1)=_ from x1]<;>rfl),hW⟩
  |2,ho=>
   cases ky ho;exact .inl ⟨27,rfl,wx,(run_move wx rfl).trans (by rw[show aX.eval (.tmp 2)=_ from x2]<;>rfl),hW⟩
  |3,ho=>
   cases ky ho;have x25:aX.eval (.tmp 25)=_:=hI.at 0 25 ⟨_,rfl,rfl⟩ (hw ⟨0,.data⟩ (by simp) rfl);have x26:aX.eval (.tmp 26)=_:=hI.at 1 26 ⟨_,rfl,rfl⟩ (hw ⟨1,.data⟩ (by simp) rfl);have x27:aX.eval (.tmp 27)=_:=hI.at 2 27 ⟨_,rfl,rfl⟩ (hw ⟨2,.data⟩ (by simp) rfl);refine .inr (.inr ⟨28,rfl,133,_,wx,fV wx rfl rfl (by simp only[List.map_toArray,List.map_cons,List.map_nil,x25,x26,x27];rfl) (by kernel_rfl),A1 Pl QX rfl (λi hi ck=>?_) λw' hb=>⟨rfl,hW.trans (hb.mono hW.size)⟩⟩)
   match i,hi with
   |0,_=>exact RD.Ks (cs:=dH ls mV) (λi hi=>k8 i hi) λi hi=>(r3 i hi).allow hW
   |1,_=>exact .int _ _
   |2,_=>exact .int _ _
  |4,ho=>
   cases ky ho;exact .inl ⟨29,rfl,wx,(run_move wx rfl).trans (by rw[show aX.eval (.tmp 2)=_ from x2]<;>rfl),hW⟩
  |5,ho=>
   cases ky ho;have TM:aX.eval (.tmp 29)=.int .i64 (e:Nat):=hI.at 4 29 ⟨_,rfl,rfl⟩ (hw ⟨4,.data⟩ (by simp) rfl)
   have hr:=λ(o:Oper)(ho:o.op=.indexAddr 225 (.tmp 10) (.tmp 29))=>kZ (P:=prog) (w:=wx) (a:=aX) ho TI UN x10 TM (by omega)
   simp only[Sx,Nat.mul_one,Nat.zero_add]at hr;exact .inl ⟨30,rfl,wx,hr _ rfl,hW⟩
  |6,ho=>
   cases ky ho;have VD:aX.eval (.tmp 30)=pB DG e:=hI.at 5 30 ⟨_,rfl,rfl⟩ (hw ⟨5,.data⟩ (by simp) rfl);exact .inl ⟨31,rfl,wx,m_ rfl VD VL To YZ YS,hW⟩
  |7,ho=>
   cases ky ho;exact .inl ⟨32,rfl,wx,xN 0 rfl x3,hW⟩
  |8,ho=>
   cases ky ho;have SZ:aX.eval (.tmp 32)=pB b3 0:=hI.at 7 32 ⟨_,rfl,rfl⟩ (hw ⟨7,.data⟩ (by simp) rfl);exact .inl ⟨33,rfl,wx,xN 2 rfl SZ,hW⟩
  |9,ho=>
   cases ky ho;have UX:aX.eval (.tmp 33)=pB b3 2:=hI.at 8 33 ⟨_,rfl,rfl⟩ (hw ⟨8,.data⟩ (by simp) rfl);exact .inl ⟨34,rfl,wx,gV rfl UX V5 Zi (c3 2 (by decide)),hW⟩
  |10,ho=>
   cases ky ho;exact .inl ⟨35,rfl,wx,(run_move wx rfl).trans (by rw[show aX.eval (.tmp 1)=_ from x1]<;>rfl),hW⟩
  |11,ho=>
   cases ky ho;have Vp:aX.eval (.tmp 34)=_:=(hI.at 9 34 ⟨_,rfl,rfl⟩ (hw ⟨9,.data⟩ (by simp) rfl)).trans iI;have x35:aX.eval (.tmp 35)=.int .i64 (n:Nat):=hI.at 10 35 ⟨_,rfl,rfl⟩ (hw ⟨10,.data⟩ (by simp) rfl)
   have hr:=λ(o:Oper)(ho:o.op=.indexAddr 67 (.tmp 34) (.tmp 35))=>yn (P:=prog) (w:=wx) (a:=aX) ho Wj RJ Vp x35 wN
   simp only[Rh]at hr;exact .inl ⟨36,rfl,wx,hr _ rfl,hW⟩
  |12,ho=>
   cases ky ho;have x36:aX.eval (.tmp 36)=pB bs (os+n*5):=hI.at 11 36 ⟨_,rfl,rfl⟩ (hw ⟨11,.data⟩ (by simp) rfl)
   have hr:=λ(o:Oper)(ho:o.op=.load 71 (.tmp 36))=>qW (P:=prog) (w:=wx) (a:=aX) ho x36 RJ V8 rfl st (λk hk=>cs k (by omega))
   simp only[Rh]at hr;exact .inl ⟨37,rfl,wx,hr _ rfl,hW⟩
  |13,ho=>
   cases ky ho;have x37:aX.eval (.tmp 37)=.agg ((List.range 5).map st).toArray:=hI.at 12 37 ⟨_,rfl,rfl⟩ (hw ⟨12,.data⟩ (by simp) rfl);exact .inl ⟨38,rfl,wx,CV wx rfl (by rw[x37]<;>rfl),hW⟩
  |14,ho=>
   cases ky ho;have UC:aX.eval (.tmp 31)=gY (131+e):=hI.at 6 31 ⟨_,rfl,rfl⟩ (hw ⟨6,.data⟩ (by simp) rfl);have x38:aX.eval (.tmp 38)=.agg ((List.range 5).map st).toArray:=hI.at 13 38 ⟨_,rfl,rfl⟩ (hw ⟨13,.data⟩ (by simp) rfl);refine .inr (.inr ⟨39,rfl,131+e,_,wx,su wx rfl rfl UC (by rcases he with rfl|rfl<;>kernel_rfl),A1 (Ug hG e he ls[n]) QX (by simp) (λi hi ck=>?_) λw' hb=>⟨rfl,hW.trans (hb.mono hW.size)⟩⟩)
   match i,hi with
   |0,_=>
    simp only[List.map_toArray,List.map_cons,List.map_nil,x38]
    exact RD.Ks (cs:=(jJ ls[n]).cells) (λi hi=>by
     rw[wV]at hi
     match i,hi with
     |0,_|1,_|2,_|3,_|4,_=>rfl) λi hi=>((eZ i (by rw[wV]at hi;exact hi)).2).allow hW
  |15,ho=>
   cases ky ho;have x28:aX.eval (.tmp 28)=.int .i64 v0:=hI.at 3 28 ⟨_,rfl,rfl⟩ (hw ⟨3,.data⟩ (by simp) rfl);have x39:aX.eval (.tmp 39)=.int .i64 ls[n]:=hI.at 14 39 ⟨_,rfl,rfl⟩ (hw ⟨14,.data⟩ (by simp) rfl)
   have hr:=λ(o:Oper)(t ty:TypeId)(ho:o.op=.binOp .add t (.tmp 28) (.tmp 39) ty)=>LY (a:=aX) (w:=wx) ho x28 x39
   simp only[Od]at hr;exact .inl ⟨40,rfl,wx,hr _ _ _ rfl,hW⟩
  |16,ho=>
   cases ky ho;have x40:aX.eval (.tmp 40)=.int .i64 (v0+ls[n]):=hI.at 15 40 ⟨_,rfl,rfl⟩ (hw ⟨15,.data⟩ (by simp) rfl);exact .inl ⟨11,rfl,wx,(run_assign wx rfl).trans (by rw[x40]<;>rfl),hW⟩
  |k+17,ho=>exact absurd ho (by simp)
 .intro aX wx hI hW;show Q .normal aX wx;exact hk _ _ (((R.jump (hI.low (k:=11) (by kernel_rfl)) hI.size hI.defers).kP hW).HW (by decide) _ _ (hI.at 16 11 ⟨_,rfl,rfl⟩ rfl))
end Go.Proofs.Tryz
namespace Go.AL
def rU{P:Program}{GI:World->Prop}{i k:Nat}{x y:ae}{Q:dQ->af->ah->Prop}{S:af}{H:ah}(K:af->ah->Prop)(hx:bD P GI x (aB K) S H)(hy:∀S' H',K S' H'->xy P GI i k y Q S' H'):xy P GI i (k+1) (.seq x y) Q S H:=by
 refine LQ K (ic x (λe S H h=>?_) hx) (λh=>ic x h) hy
 cases e<;>first|exact⟨rfl,h⟩|exact h.elim
section
variable{P:Program}{GI:World->Prop}{n:Nat}{old:Old}{S:af}{H:ah}{w0:World}{g:Gh}{a:Act}{w:World}{m:Nat}{Q:Exit->Act->World->Prop}
def SW.wp {x:Code} {K:af→ah→Prop} (h:SW P GI n none x (fun en o S H=>en = .normal∧o=old∧K S H) old S H) (bP:GI w0) (ho:g.old=old) (R:Rel P w0 n bu g S H a w)
  (hk:∀g' S' H' a' w',g'.old=old->Rel P w0 n bu g' S' H' a' w'->K S' H'->Q .normal a' w'):x.wpIn (FR none) m P Q a w:=by
 refine wpIn_mono (h w0 g a w m bP ho R) ?_;intro e a' w' he
 cases e with
 |normal=>obtain⟨g',S',H',R',_,iJ,hK⟩:=he;exact hk g' S' H' a' w' iJ R' hK
 |ret=>obtain⟨_,_,_,_,h,_⟩:=he;cases h
 |exit id=>obtain⟨_,_,_,_,h,_⟩:=he;cases h
 |panic chain=>obtain⟨_,_,_,_,_,_,_,_,_,_,_,h,_⟩:=he;cases h
 |goto l=>exact he.elim
 |outgrown=>exact he.elim
end
def Rel.Ko{P:Program}{w0:World}{n:Nat}{g:Gh}{S:af}{H:ah}{a:Act}{w:World}(R:Rel P w0 n bu g S H a w)(b:Nat):Rel P w0 n bu { g with old:={ g.old with keep:=aq g.old.keep b none } } S H a w:={
 size:=R.size
 defers:=R.defers
 facts:=R.facts
 slot:=R.slot
 own t ht hu:=(R.own t ht hu).keep rfl λb hb=>⟨rfl,rfl,hb⟩
 box i c hi:=by
  obtain⟨cs,vs,ty,h1,h2,h3,h4,h5,h6,h7,h8,h9⟩:=R.box i c hi;exact⟨cs,vs,ty,h1,h2,h3,h4,h5,h6,h7,λj hj c_=>(h8 j hj c_).keep rfl λb hb=>⟨rfl,rfl,hb⟩,h9⟩
 iB:=R.iB
 ij:=R.ij
 inj:=R.inj
 base:=R.base
 below:=R.below
 fresh:=R.fresh
 still:=R.still
 grown:=R.grown
 kept c o h:=by
  have hc:c≠b:=by rintro rfl;simp[aq]at h
  exact R.kept c o (by simpa[aq,hc]using h) }
section
variable{P:Program}{a:Act}{w:World}{m:Nat}{Q:Exit->Act->World->Prop}
def E7 {ops:Array Oper} {i:Nat} {rest:List Nat} {o:Oper} (ho:ops[i]? = some o) (hw:Region.wanted o (yielded ops a.tmps)=true) (cT:cW o.op=true) {l f:Nat} {tmps:Array Value} {NJ bd:Code} {w':World}
  (hr:(execOp a.eval o).run P w=.ok (.round l f tmps NJ bd) w') {R:Ending->World->Prop} (hc:∀m,RoundIn (FR none) m P l f tmps NJ bd w' R) (hk:∀e fD,R e fD->∃v,e=.returned v/\wpOpsIn (FR none) m P ops Q rest (a.put o.dst v) fD):wpOpsIn (FR none) m P ops Q (i::rest) a w:=by
 simp only[wpOpsIn,ho];rw[if_pos hw];refine⟨λ_ _=>trivial,?_⟩;rw[Oper.semAt_eq _ _ _ (λc hc=>by rw[hc]at cT;cases cT),hr];refine⟨λh=>by simp[FR,Fence.wide]at h,(hc (m-1)).mono λe fD hh=>?_⟩;obtain⟨v,rfl,h⟩:=hk e fD hh;exact h
def L6{o:Oper}{t:TypeId}{x:Operand}{b:Bool}(ho:o.op=.unOp .not t x)(hx:a.eval x=.bool b):(execOp a.eval o).run P w=.ok (.value (.bool !b)) w:=by
 unfold execOp;simp[ho,hx,Op.unary]
end
end Go.AL
namespace Go.Proofs.Tryz
open Go Go.AL Go.RowKit Go.Proofs Go.Proofs.Tram
attribute [local simp] dI eb dP db dG cI cJ cb cd dE b_ bL fk fj ar ao ev aD.S aD.H a_ aq aH AL.start AV.cells AV.storable AV.bm aR aT ee aZ HR.okB post cn ct cw AV.out AV.bC bz bW fz fM AV.vw bR vI int bG aB cS cg fS gL dL cG aU AV.aA AV.bF
def pO(ls:List Int)(bM n e:Nat)(S:af)(H:ah):Prop:=
 S 1=.int .i64 (n:Nat)/\S 2=.int .i64 (e:Nat)/\S 3=.box 3 0/\H 3=some (dH ls (er bM))/\S 7=.box 7 0/\H 7=some [.int .i64 (n:Nat),.int .i64 (e:Nat)]
def U9 {ls:List Int} {bM n e:Nat} {l:List (List Int×Value)} (hx:∀ x∈l,x.1.length=2) (dZ:fq (fG n e) l 0=none) {cc:Nat→Nat→Prop} {w:World} {S:af} {H:ah} (hF:pO ls bM n e S H) :
  SW prog (GM bM l) 58 none (IS (oZ (oZ EI))) (λen o S H=>en=.normal/\o=Old.plain cc w/\pO ls bM n e S H) (Old.plain cc w) S H:=by
 have hG:=qj bM l;obtain⟨s1,s2,s3,h3,s7,h7⟩:=hF;show SW prog (GM bM l) 58 none (.seq _ (.seq _ (.cond _ _ _))) _ _ _ _
 refine SW.seq (SW.hand hG (p:=3) (lm:=[3]) (l2:=[4,5,6,7,8]) (jT:=[_,_,_]) (oh:=[_]) (jC:=[_,_,_,_,_]) rfl rfl rfl rfl (by kernel_rfl) (λ_ h=>h) (nN:=xw.take 3) (mF:=xw.drop 4) (by kernel_rfl) (by kernel_rfl) (by kernel_rfl) (by kernel_rfl)
  (K1:=λS H=>pO ls bM n e S H/\S 17=.val (er bM)/\S 18=.agg [.int .i64 (n:Nat),.int .i64 (e:Nat)])
  (K2:=λo S H=>o=Old.plain cc w/\pO ls bM n e S H/\S 19=.eS [.int .i64 0,.bool false])
  (K3:=λo S H=>o=Old.plain cc w/\pO ls bM n e S H/\S 9=.bool false) ?_ ?_ ?_ ?_)
 .simp[xw,c57,ae.qa,ae.qb,ae.dl,pO,s1,s2,s3,h3,s7,h7,dH,aV,eB]
 .rintro w0 g S1 H1 a w1 m bP ho R ⟨hF,OM,zZ⟩;have t17:=R.slot 17 (by decide) id;rw[OM]at t17;have t18:=R.slot 18 (by decide) id;rw[zZ]at t18;have hw:GM bM l w1:=hG _ _ bP (by have:=R.below;rwa [R.base]at this)
  have hr:=λ(o:Oper)(ho:o.op=.lookup 140 (.tmp 17) (.tmp 18) true)=>KK hw hx (n:=n) (e:=e) t17.gp (sc t18) ho
  simp only[dZ]at hr;refine aK rfl rfl (by rfl) (hr _ rfl) ?_
  have R2:=R.put 19 (.eS [.int .i64 0,.bool false]) (.tuple #[.int .i64 0,.bool false]) (by decide) (.data _ _ (.eS _ _ rfl (λi hi ck=>by
   match i,hi with
   |0,_=>exact .int _ _
   |1,_=>exact .bool _))) trivial
  obtain⟨f1,f2,f3,f4,f5,f6⟩:=hF;exact⟨_,_,_,R2,ho,⟨by simp[aq,f1],by simp[aq,f2],by simp[aq,f3],f4,by simp[aq,f5],f6⟩,aJ _ _ _⟩
 .rintro o S H ⟨rfl,⟨s1,s2,s3,h3,s7,h7⟩,K_⟩;refine⟨λ_ h=>h,?_⟩;simp[xw,c57,ae.qa,ae.qb,ae.dl,pO,s1,s2,s3,h3,s7,h7,K_]
 clear s1 s2 s3 h3 s7 h7 S H;rintro o S H ⟨rfl,⟨s1,s2,s3,h3,s7,h7⟩,s9⟩;refine dR hG c57.qb.qb.qa.qb.qa (λS H=>pO ls bM n e S H/\S 22=.bool false) ?_ ?_
 .simp[c57,ae.qa,ae.qb,pO,s1,s2,s3,h3,s7,h7,s9]
 clear s1 s2 s3 h3 s7 h7 s9 S H;rintro S H ⟨hF,DF⟩;exact SW.cond rfl false (by show S 22=_;rw[DF]) (SW.skip ⟨rfl,rfl,hF⟩)
def UF {GI:World→Prop} (hG:aw GI) {ls:List Int} {bM n e:Nat} {cc:Nat→Nat→Prop} {w:World} {S:af} {H:ah} (hF:pO ls bM n e S H) :
  SW prog GI 58 none (IS (oZ (oZ (oZ EI)))) (λen o S H=>en=.normal/\o=Old.plain cc w/\pO ls bM n e S H/\S 10=.box 10 0/\H 10=some [.val (gY 131),.val (gY 132)]) (Old.plain cc w) S H:=by
 obtain⟨s1,s2,s3,h3,s7,h7⟩:=hF;show SW prog GI 58 none (.region _ _ _) _ _ _ _
 refine SW.hand hG (p:=1) (lm:=[1,2]) (l2:=[]) (jT:=[_]) (oh:=[_,_]) (jC:=[]) rfl rfl rfl rfl (by kernel_rfl) (λ_ h=>h)
  (nN:=(c57.qb.qb.qb.qa.dl).take 1) (mF:=[]) (by kernel_rfl) rfl (by kernel_rfl) rfl
  (K1:=λS H=>pO ls bM n e S H/\S 24=.fN [.func (.func 131) [] [],.func (.func 132) [] []])
  (K2:=λo S H=>o=Old.plain cc w/\pO ls bM n e S H/\S 10=.box 10 0/\H 10=some [.val (gY 131),.val (gY 132)])
  (K3:=λo S H=>o=Old.plain cc w/\pO ls bM n e S H/\S 10=.box 10 0/\H 10=some [.val (gY 131),.val (gY 132)]) ?_ ?_ ?_ ?_
 .simp[c57,ae.qa,ae.qb,ae.dl,pO,s1,s2,s3,h3,s7,h7,tW]
 .rintro w0 g S2 H2 a w' m bP ho R ⟨⟨s1,s2,s3,h3,s7,h7⟩,pP⟩;have aI:=R.size
  have JN:a.tmps.getD 24 undef=.agg #[gY 131,gY 132]:=by
   have:=R.slot 24 (by decide) id;rw[pP]at this;exact vQ this
  have cz:∀(a:Act)(d t:Nat)(c:Value),t≠d->(a.put (some d) c).tmps.getD t undef=a.tmps.getD t undef:=λa d t c h=>by
   simp[Act.put,Array.getElem?_setIfInBounds_ne (Ne.symm h)]
  have eO:∀(a:Act)(d:Nat)(c:Value),a.tmps.size=58->d<58->(a.put (some d) c).tmps.getD d undef=c:=λa d c h hd=>by
   simp[Act.put,h,hd]
  obtain⟨it,hi,hz⟩:=Option.bind_eq_some_iff.1 (show(prog.info? 225).bind (·.zero)=some (.agg #[.nilFunc,.nilFunc]) by kernel_rfl)
  have yB:it.size=2:=by
   have:(prog.info? 225).map (·.size)=some 2:=by kernel_rfl
   rw[hi]at this;exact Option.some.inj this
  refine aK rfl rfl (by rfl) (mS (t:=225) rfl hi hz) ?_
  obtain⟨g4,q1,q2,q3,q4,q5,R4⟩:=R.D' 10 (by decide) (by rw[ho];exact λh=>h) [.val .nilFunc,.val .nilFunc] #[.nilFunc,.nilFunc] 225 ⟨rfl,λj h h'=>by
   match j,h with
   |0,_|1,_=>exact .val _ rfl,λj h=>by
   match j,h with
   |0,_|1,_=>rfl⟩ (λg' j h h'=>by
   match j,h with
   |0,_|1,_=>exact⟨trivial,trivial⟩)
  obtain⟨b,hb⟩:∃b,w'.heap.size=b:=⟨_,rfl⟩
  obtain⟨w4,ib⟩:∃w4,w'.alloc (.cells #[.nilFunc,.nilFunc] 225)=w4:=⟨_,rfl⟩
  have tN:w4.heap[b]?=some (.cells #[.nilFunc,.nilFunc] 225 (0,0)):=by rw[<-ib,<-hb];exact World.alloc_heap_new w' _
  rw[hb]at R4 q5
  obtain⟨a4,hZ⟩:∃a4,a.put (some 10) (.pointer (some ⟨b,0,none⟩))=a4:=⟨_,rfl⟩
  show wpOpsIn _ _ _ _ _ [2] (a.put (some 10) (.pointer (some ⟨w'.heap.size,0,none⟩))) (w'.alloc (.cells #[.nilFunc,.nilFunc] 225));rw[hb,ib,hZ];rw[ib,hZ]at R4
  have g24:a4.tmps.getD 24 undef=.agg #[gY 131,gY 132]:=by rw[<-hZ,cz _ _ _ _ (by decide)];exact JN
  have g10:a4.tmps.getD 10 undef=.pointer (some ⟨b,0,none⟩):=by rw[<-hZ];exact eO _ _ _ aI (by decide)
  refine dh rfl rfl (by rfl) (gC (t:=225) (x:=.tmp 10) (y:=.tmp 24) rfl g10 hi tN g24 (by rw[yB]<;>rfl) (by rw[yB]<;>rfl) (by intro u hu;simp[Value.cells]at hu;rcases hu with rfl|rfl<;>rfl)) ?_;show HQ prog w0 58 _ .normal a4 (w4.setRow b #[gY 131,gY 132])
  have R5:=R4.tg 10 b q5 _ #[gY 131,gY 132] 225 tN [.val (gY 131),.val (gY 132)] rfl (λj h h'=>by
   match j,h with
   |0,_|1,_=>exact .val _ rfl) (λj h h'=>by
   match j,h with
   |0,_|1,_=>trivial) (λj h=>by
   match j,h with
   |0,_|1,_=>rfl)
  exact⟨g4,_,_,R5,by rw[q2,ho],⟨by simp[aq,s1,aT],by simp[aq,s2,aT],by simp[aq,s3,aT],by simp[aq,h3],by simp[aq,s7,aT],by simp[aq,h7]⟩,by simp[aq],by simp[aq]⟩
 .rintro o S2 H2 h;exact⟨λd hd=>by rw[h.1]at hd;exact hd,h⟩
 rintro o S H ⟨rfl,h⟩;exact⟨rfl,rfl,h⟩
def qR(bM:Nat)(l:List (List Int×Value))(w w':World):Prop:=ft (λb=>b=bM) w w'/\∃es clock,w'.heap[bM]?=some (.map es clock)/\kU rQ es l
noncomputable def Lw(k:Nat):ae:=match k with
 |7=>ae.qa c57.qb.qb.qb.qb.qb
 |9=>ae.qa c57.qb.qb.qb.qb.qb.qb
 |_=>ae.qa c57.qb.qb.qb.qb.qb.qb.qb
def PC {ls:List Int} {bM:Nat} {l:List (List Int×Value)} {es:Array MapEntry} {clock:Nat} {n e:Nat} (hn:n < ls.length) (he:e=0∨e=1) {v0:Int} (hv:0≤v0∧v0≤1000) (hL:1≤ls[n]∧ls[n]≤6) (hx:∀ x∈l,x.1.length=2) (dZ:fq (fG n e) l 0=none)
  (Pl:AC prog (GM bM l) 133 [jW ls (er bM),.int .i64 (n:Nat),.int .i64 (e:Nat)] (.ret (.int .i64 v0))) {w:World} {Pr:Nat->Nat->Prop} {c0:Value} (hM:w.heap[bM]?=some (.map es clock)) (iM:kU rQ es l) (Js:∀j,¬Pr bM j) (vH:RD Pr w (jW ls (er bM)) c0):
  Calls prog 57 #[c0,.int .i64 (n:Nat),.int .i64 (e:Nat)] w λen w'=>en=.returned (.int .i64 (v0+ls[n]))/\qR bM (l++[(fG n e,.int .i64 (v0+ls[n]))]) w w':=by
 have hG:=qj bM l
 have bP:GM bM l w:=⟨es,clock,hM,iM⟩
 have av:bM<w.heap.size:=(Array.getElem?_eq_some_iff.1 hM).1;refine(eA (ro:=none) (m:=0)).1 (callsIn_of_wp func57 rfl trivial ?_)
 have R:Rel prog w 58 bu _ (AL.start [jW ls (er bM),.int .i64 (n:Nat),.int .i64 (e:Nat)]) (λ_=>none) { tmps:=#[c0,.int .i64 (n:Nat),.int .i64 (e:Nat)]++Array.replicate (f57.ntmps-3) undef,defers:=[] } w:=Rel.begin (old:=Pr) ntmps57 (by simp) rfl (λi h h'=>by
  match i,h with
  |0,_=>exact .data _ _ vH
  |1,_=>exact .data _ _ (.int _ _)
  |2,_=>exact .data _ _ (.int _ _))
 refine wpIn_seq ?_;refine dT R hG bP cV (ac:=ae.qa c57) (W:=λ_=>true) (by kernel_rfl) (by kernel_rfl) (fY _) (λ_ h=>h) (K:=λS H=>S 1=.int .i64 (n:Nat)/\S 2=.int .i64 (e:Nat)/\S 3=.box 3 0/\H 3=some (dH ls (er bM))) ?_ ?_
 .simp[c57,ae.qa,jW,dH,aV]
 rintro g1 S1 H1 a1 w1 lH R1 ⟨s1,s2,s3,h3⟩ _;show Code.wpIn _ _ _ _ _ a1 w1;refine wpIn_seq ?_;refine dT R1 hG bP cV (ac:=ae.qa c57.qb) (W:=λ_=>true) (by kernel_rfl) (by kernel_rfl) (fY _) (by rw[lH];exact λ_ h=>h) (K:=λS H=>pO ls bM n e S H) ?_ ?_
 .simp[c57,ae.qa,ae.qb,pO,s1,s2,s3,h3,cL]
 clear s1 s2 s3 h3;rintro g2 S2 H2 a2 w2 oV R2 hF _;rw[lH]at oV;show Code.wpIn _ _ _ _ _ a2 w2;refine wpIn_seq ?_;refine SW.wp (U9 hx dZ hF) bP oV R2 ?_;clear hF;rintro g3 S3 H3 a3 w3 pH R3 hF;show Code.wpIn _ _ _ _ _ a3 w3;refine wpIn_seq ?_;refine SW.wp (UF hG hF) bP pH R3 ?_;clear hF;rintro g4 S4 H4 a4 w4 Vt R4 ⟨⟨s1,s2,s3,h3,s7,h7⟩,fu,jK⟩;show Code.wpIn _ _ _ _ _ a4 w4;refine wpIn_seq ?_;refine Xj hG bP R4 ls (er bM) hn he s1 s2 s3 h3 fu jK hv hL Pl ?_;intro a5 w5 R5;show Code.wpIn _ _ _ _ _ a5 w5
 obtain⟨S5,UB⟩:∃S5:af,aq (λt=>cond (decide (11<=t)) AV.bh (S4 t)) 11 (.int .i64 (v0+ls[n]))=S5:=⟨_,rfl⟩
 rw[UB]at R5
 have hF5:pO ls bM n e S5 H4/\S5 11=.int .i64 (v0+ls[n]):=by
  rw[<-UB];exact⟨⟨by simp[aq,s1],by simp[aq,s2],by simp[aq,s3],h3,by simp[aq,s7],h7⟩,by simp[aq]⟩
 clear UB s1 s2 s3 h3 s7 h7 fu jK;obtain⟨⟨s1,s2,s3,h3,s7,h7⟩,dV⟩:=hF5;refine wpIn_seq ?_;refine SW.wp (K:=λS H=>pO ls bM n e S H/\S 11=.int .i64 (v0+ls[n])) (SW.last hG cV (by kernel_rfl) (ac:=Lw 7) (by kernel_rfl) (λ_ _ h=>h) (λS H=>pO ls bM n e S H/\S 11=.int .i64 (v0+ls[n])) ?_ (λ_ _ h=>⟨rfl,rfl,h⟩)) bP Vt R5 ?_
 .have hm:((n:Int)== -1)=false:=by rw[beq_eq_false_iff_ne];omega
  simp[Lw,c57,ae.qa,ae.qb,pO,s1,s2,s3,h3,s7,h7,dV,hm,dH,aV]
 clear s1 s2 s3 h3 s7 h7 dV;rintro g6 S6 H6 a6 w6 ZD R6 ⟨⟨s1,s2,s3,h3,s7,h7⟩,dV⟩;show Code.wpIn _ _ _ _ _ a6 w6
 have bI:∀d,¬g6.old.bx d:=by rw[ZD];exact λ_ h=>h
 refine wpIn_seq ?_
 refine lB R6 hG bP (p:=4) (l2:=[4]) rfl (by kernel_rfl) (by kernel_rfl) (l:=(ae.dl (Lw 9)).take 4) (by kernel_rfl) (by decide) (W:=λ_=>true) (fY _) bI
  (K:=λS H=>S 11=.int .i64 (v0+ls[n])/\S 54=.val (er bM)/\S 55=.agg [.int .i64 (n:Nat),.int .i64 (e:Nat)]/\S 56=.int .i64 (v0+ls[n])) ?_ ?_
 .simp[Lw,c57,ae.qa,ae.qb,ae.dl,s1,s2,s3,h3,s7,h7,dV,dH,aV]
 clear s1 s2 s3 h3 s7 h7 dV;rintro g9 S9 H9 a9 w9 vG R9 ⟨dV,Yi,s55,s56⟩ _;rw[ZD]at vG
 have yF:bM<g9.base:=by rw[R9.base];exact av
 have Lh:w9.heap[bM]?=some (.map es clock):=by rw[R9.below.block bM yF];exact hM
 have e54:a9.eval (.tmp 54)=er bM:=by
  have:=R9.slot 54 (by decide) id;rw[Yi]at this;exact this.gp
 have e55:a9.eval (.tmp 55)=.agg (dw (fG n e)):=by
  have:=R9.slot 55 (by decide) id;rw[s55]at this;exact sc this
 have e56:a9.eval (.tmp 56)=.int .i64 (v0+ls[n]):=eR R9 (by decide) s56
 have BO:prog.underlying 140=some (.map 221 3):=by kernel_rfl
 obtain⟨fs,iD⟩:=uZ 221
 have sy:iY prog 10000 221=some 2:=by kernel_rfl
 refine dh rfl rfl (by rfl) (vq (t:=140) (x1:=.tmp 54) (x2:=.tmp 55) (x3:=.tmp 56) (key:=fG n e) rfl BO iD sy e54 e55 rfl Lh iM hx dZ) ?_;rw[e56]
 obtain⟨ka,y9⟩:∃ka,w9.putObj bM (.map (es.push { key:=.agg (dw (fG n e)),val:=.int .i64 (v0+ls[n]),born:=clock }) (clock+1))=ka:=⟨_,rfl⟩
 show Code.wpIn _ _ _ _ _ a9 (w9.putObj bM (.map (es.push { key:=.agg (dw (fG n e)),val:=.int .i64 (v0+ls[n]),born:=clock }) (clock+1)));rw[y9];have O4:=(Array.getElem?_eq_some_iff.1 Lh).1
 have jK:ka.heap[bM]?=some (.map (es.push { key:=.agg (dw (fG n e)),val:=.int .i64 (v0+ls[n]),born:=clock }) (clock+1)):=by rw[<-y9];exact World.putObj_heap_same O4
 have nj:ft (λb=>b=bM) w9 ka:=by
  rw[<-y9];exact⟨rfl,rfl,rfl,by simp[World.putObj],λb _ hb=>World.putObj_heap_other hb⟩
 have Pg:=R9.Ij nj yF (by rw[vG];exact Js) jK;have ht:ft (λb=>b=bM) w (iK w ka bM (.map (es.push { key:=.agg (dw (fG n e)),val:=.int .i64 (v0+ls[n]),born:=clock }) (clock+1))):=t_ (ft.refl _ _) rfl R9.below nj;refine wpIn_seq ?_;refine dT Pg eN trivial cV (ac:=Lw 10) (W:=λ_=>true) (by kernel_rfl) (by kernel_rfl) (fY _) (by rw[vG];exact λ_ h=>h) (K:=λS _=>S 6=.int .i64 (v0+ls[n])) ?_ ?_
 .simp[Lw,c57,ae.qa,ae.qb,dV]
 rintro g11 S11 H11 KW IN Yx FI s6 _
 have Vx:(iK w ka bM (.map (es.push { key:=.agg (dw (fG n e)),val:=.int .i64 (v0+ls[n]),born:=clock }) (clock+1))).heap.size=w.heap.size:=by simp[iK]
 have WR:bM<g11.base:=by rw[FI.base,Vx];exact av
 show Code.wpIn _ _ _ _ _ KW IN;refine wpIn_ret ⟨by rw[FI.defers,Yx,vG]<;>rfl,_,results_tmp results57 (eR FI (by decide) s6),rfl,?_,_,clock+1,?_,iM.push (fG n e) (.int .i64 (v0+ls[n])) clock⟩
 .have hb:Below w.heap.size (iK w ka bM (.map (es.push { key:=.agg (dw (fG n e)),val:=.int .i64 (v0+ls[n]),born:=clock }) (clock+1))) IN:=by have:=FI.below;rwa [FI.base,Vx]at this
  exact⟨hb.os.trans ht.os,hb.tape.trans ht.tape,hb.output.trans ht.output,by rw[<-Vx];exact hb.size,λb fW bQ=>(hb.block b fW).trans (ht.block b fW bQ)⟩
 .rw[FI.below.block bM WR];simp[iK,av]
  try rfl
def wO(ls:List Int):AV:=.agg (aV ls)
def Pa {GI:World→Prop} (hG:aw GI) (ls:List Int):∀ (w:World) (old:Nat→Nat→Prop) (bp:Array Value),GI w→[wO ls,vI (fK ls.length)].length=bp.size→(∀ i (h:i < [wO ls,vI (fK ls.length)].length) (h':i < bp.size),RV old (fun _=>none) w [wO ls,vI (fK ls.length)][i] bp[i]) →
  Calls prog 56 bp w (CN old w λm=>.agg (aV ls++[.slice .view (ints (fK ls.length)),m,.int .i64 (-1),.int .i64 0])):=by
 refine BI (mk:=λm=>.agg (aV ls++[.slice .view (ints (fK ls.length)),m,.int .i64 (-1),.int .i64 0])) func56 rfl ntmps56 (by simp) λcc w=>?_
 refine dR hG c56.qa (λS H=>S 1=vI (fK ls.length)/\S 2=.box 2 0/\H 2=some (aV ls)/\S 4=.box 4 0/\∃z,H 4=some z/\z.length=7) ?_ ?_
 .simp[c56,ae.qa,wO,aV]
 rintro S1 H1 ⟨s1,s2,h2,s4,z,h4,hz⟩
 refine SW.seq (SW.hand hG (p:=2) (lm:=[2]) (l2:=[3,4]) (jT:=[_,_]) (oh:=[_]) (jC:=[_,_]) rfl rfl rfl rfl (by kernel_rfl) (λ_ h=>h)
  (nN:=(c56.qb.qa.dl).take 2) (mF:=(c56.qb.qa.dl).drop 3) (by kernel_rfl) (by kernel_rfl) (by kernel_rfl) (by kernel_rfl)
  (K1:=λS H=>S 4=.box 4 0/\H 4=some z/\S 5=.agg (aV ls)/\S 6=vI (fK ls.length))
  (K2:=λo S H=>∃b jh,KM cc o b #[] jh/\S 4=.box 4 0/\H 4=some z/\S 5=.agg (aV ls)/\S 6=vI (fK ls.length)/\S 7=.val (.map (some b)))
  (K3:=λo S H=>∃b jh,KM cc o b #[] jh/\S 4=.box 4 0/\H 4=some (dH ls (.map (some b)))) ?_ ?_ ?_ ?_)
 .simp[c56,ae.qa,ae.qb,ae.dl,s1,s2,h2,s4,h4,aV]
 .rintro w0 g S H a w1 m bP ho R ⟨s4,h4,s5,s6⟩;refine aK rfl rfl (by rfl) (run_makeMap (t:=140) rfl) ?_;have R2:=R.EE ((Below.refl w1.heap.size w1).alloc (Nat.le_refl _) (.map #[] 0)) (b:=w1.heap.size) (Nat.le_refl _) (World.alloc_heap_new w1 _);have R3:=R2.put 7 (.val (.map (some w1.heap.size))) _ (by decide) (.data _ _ (.val _ rfl)) trivial;exact⟨_,_,_,R3,w1.heap.size,0,⟨by rw[ho]<;>rfl,by rw[ho]<;>rfl,by rw[ho];exact λ_ h=>h,aJ _ _ _⟩,by simp[aq,s4],h4,by simp[aq,s5],by simp[aq,s6],by simp[aq]⟩
 .rintro o S H ⟨b,jh,hK,s4,h4,s5,s6,s7⟩;refine⟨hK.bx,?_⟩;simp[c56,ae.qa,ae.qb,ae.dl,s4,h4,s5,s6,s7,hz,cL,dH,aV,fK,ints]
  first|exact⟨b,jh,hK,rfl⟩|exact⟨jh,hK⟩|exact⟨b,⟨jh,hK⟩,rfl⟩
 rintro o S H ⟨b,jh,hK,s4,h4⟩;obtain⟨i142,At,A3⟩:=iZ 142 7;obtain⟨f142,zD⟩:=uZ 142;refine SW.ret ⟨rfl,hK.c,b,jh,hK,?_⟩;show cn prog 9 [.cell 4 142] S H=_;simp[cn,ct,cw,s4,h4,At,A3,zD,aZ,eB,AV.bC,AV.out,AV.vw,AV.bF,AV.aA,dH,aV]
end Go.Proofs.Tryz
