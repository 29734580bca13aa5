/-
  For all lists of letters and all ticks the call of TopReads returns true, and each argument reads behind the call as it read before. Conditions: none beyond those of the given row.
-/
import Derived.Test.YtifmgeicigngbaaGreatRd2
import Derived.Test.YtifmgeicigngbaaGreatRows
set_option maxRecDepth 100000
set_option maxHeartbeats 8000000
set_option linter.all false
namespace Go.Proofs.Tryz
open Go Go.AL Go.RowKit Go.Proofs Go.Proofs.Tram
def fO(ls:List Int)(k:Nat):Int:=(ls.take (k+1)).sum
def zO(ls:List Int)(l:List (List Int×Value)):Prop:=∀x∈l,∃k e:Nat,x=(fG k e,.int .i64 (fO ls k))
def yi(l:List (List Int×Value))(k e:Nat):Prop:=∃x∈l,x.1=fG k e
def Ck{k e k' e':Nat}(h:fG k e=fG k' e'):k=k'/\e=e':=by
 simp only[fG,List.cons.injEq,and_true]at h;exact⟨by omega,by omega⟩
def zO.len{ls:List Int}{l:List (List Int×Value)}(h:zO ls l):∀x∈l,x.1.length=2:=λx hx=>by
 obtain⟨k,e,rfl⟩:=h x hx;rfl
def zO.look{ls:List Int}{l:List (List Int×Value)}(h:zO ls l){k e:Nat}(kd:yi l k e):∃j,fq (fG k e) l 0=some (j,.int .i64 (fO ls k)):=by
 cases hl:fq (fG k e) l 0 with
 |none=>
  obtain⟨x,hx,hk⟩:=kd;exact absurd hk (wD hl x hx)
 |some q=>
  obtain⟨j,v⟩:=q;obtain⟨k',e',he⟩:=h _ (uC hl);simp only[Prod.mk.injEq]at he;obtain⟨rfl,_⟩:=Ck he.1;exact⟨j,by rw[he.2]⟩
def zO.push{ls:List Int}{l:List (List Int×Value)}(h:zO ls l)(k e:Nat):zO ls (l++[(fG k e,.int .i64 (fO ls k))]):=λx hx=>by
 rcases List.mem_append.1 hx with hx|hx
 .exact h x hx
 .rw[List.mem_singleton]at hx;exact⟨k,e,hx⟩
def yi.push{l:List (List Int×Value)}{k e:Nat}(h:yi l k e)(y:List Int×Value):yi (l++[y]) k e:=by
 obtain⟨x,hx,hk⟩:=h;exact⟨x,List.mem_append_left _ hx,hk⟩
def AE{l:List (List Int×Value)}{k e k' e':Nat}{v:Value}(h:∀x∈l,x.1≠fG k e)(bQ:¬(k'=k/\e'=e)):∀x∈l++[(fG k' e',v)],x.1≠fG k e:=λx hx=>by
 rcases List.mem_append.1 hx with hx|hx
 .exact h x hx
 .rw[List.mem_singleton]at hx;subst hx
  exact λhh=>bQ (Ck hh)
def Ae{ls:List Int}(h:∀x∈ls,1<=x/\x<=6):0<=ls.sum/\ls.sum<=6*ls.length:=by
 induction ls with
 |nil=>simp
 |cons x l ih=>
  have h1:=h x (by simp)
  have h2:=ih λy hy=>h y (by simp[hy])
  simp only[List.sum_cons,List.length_cons];omega
def Cp{ls:List Int}(gZ:iH ls)(n:Nat):0<=(ls.take n).sum/\(ls.take n).sum<=1000:=by
 have h:=Ae (ls:=ls.take n) λx hx=>gZ.2 x (List.mem_of_mem_take hx)
 have hl:(ls.take n).length<=4:=by rw[List.length_take];have:=gZ.1.2;omega
 omega
def IE{ls:List Int}{n:Nat}(hn:n<ls.length):(ls.take n).sum+ls[n]=fO ls n:=by
 unfold fO;rw[List.take_succ_eq_append_getElem hn,List.sum_append];simp
def PF{ls:List Int}(gZ:iH ls){bM n e:Nat}{l:List (List Int×Value)}(hn:n<ls.length)(hs:zO ls l)(hc:0<n->yi l (n-1) e):AC prog (GM bM l) 133 [jW ls (er bM),.int .i64 (n:Nat),.int .i64 (e:Nat)] (.ret (.int .i64 (ls.take n).sum)):=by
 have hG:=qj bM l;refine U7 hG ls (er bM) hn (Cp gZ n).1 ?_
 have h:=SM hG ls (er bM) (e:=e) hn gZ.1.2 (v:=fO ls (n-1)) λh0=>by
  obtain⟨j,hj⟩:=hs.look (hc h0);exact Vv hs.len ls hj
 have hv:(if n=0 then 0 else fO ls (n-1))=(ls.take n).sum:=by
  by_cases h0:n=0
  .subst h0;simp
  .rw[if_neg h0];unfold fO;rw[show n-1+1=n by omega]
 rw[hv]at h;exact h
def Kh {ls:List Int} (gZ:iH ls) {bM n e:Nat} {l:List (List Int×Value)} {es:Array MapEntry} {clock:Nat} (hn:n < ls.length) (he:e=0∨e=1) (hs:zO ls l) (hc:0 < n→yi l (n - 1) e) (dZ:∀ x∈l,x.1≠fG n e) {w:World} {Pr:Nat→Nat→Prop} {c0:Value}
  (hM:w.heap[bM]?=some (.map es clock)) (iM:kU rQ es l) (Js:∀j,¬Pr bM j) (vH:RD Pr w (jW ls (er bM)) c0):
  Calls prog 57 #[c0,.int .i64 (n:Nat),.int .i64 (e:Nat)] w λen w'=>en=.returned (.int .i64 (fO ls n))/\qR bM (l++[(fG n e,.int .i64 (fO ls n))]) w w':=by
 have:=PC (bM:=bM) hn he (Cp gZ n) (gZ.2 _ (List.getElem_mem hn)) hs.len (po dZ) (PF gZ hn hs hc) hM iM Js vH;rwa [IE hn]at this
def U0(arr:Nat->Value)(n:Nat)(x:Int):Nat->Value
 |29|32=>.agg ((List.range 7).map arr).toArray
 |30|33=>.int .i64 (n:Nat)
 |31|34|9|10=>.int .i64 x
 |_=>undef
def tP(ls:List Int)(n:Nat)(l0:List (List Int×Value))(l:Array Bool):List (List Int×Value):=
 if l.getD 5 false=true then l0++[(fG n 0,.int .i64 (fO ls n))]++[(fG n 1,.int .i64 (fO ls n))]else if l.getD 2 false=true then l0++[(fG n 0,.int .i64 (fO ls n))]else l0
def M0(ls:List Int)(bM n:Nat)(l0:List (List Int×Value))(w:World)(l:Array Bool)(wx:World):Prop:=(l.getD 5 false=true->l.getD 2 false=true)/\qR bM (tP ls n l0 l) w wx
def M0.set{ls:List Int}{bM n:Nat}{l0:List (List Int×Value)}{w wx:World}{l:Array Bool}(h:M0 ls bM n l0 w l wx){i:Nat}(h2:i≠2:=by decide)(h5:i≠5:=by decide):M0 ls bM n l0 w (l.setIfInBounds i true) wx:=by
 unfold M0 tP at*
 rw[bV h2,bV h5];exact h
def qR.trans{bM:Nat}{l l':List (List Int×Value)}{w wx wy:World}(h:qR bM l w wx)(h':qR bM l' wx wy):qR bM l' w wy:=
 ⟨⟨h'.1.os.trans h.1.os,h'.1.tape.trans h.1.tape,h'.1.output.trans h.1.output,Nat.le_trans h.1.size h'.1.size,λb hb bQ=>(h'.1.block b (Nat.lt_of_lt_of_le hb h.1.size) bQ).trans (h.1.block b hb bQ)⟩,h'.2⟩
noncomputable def PH:Code:=f18.body.getD .skip
def HY:Code->Code
 |.block _ c=>HY c
 |.loop c=>c
 |c=>c
def inB:Code->Code
 |.block _ c=>c
 |c=>c
noncomputable def Q2:Code:=HY (oZ (IS (oZ (oZ (oZ (oZ PH))))))
noncomputable def aaf:Code:=inB (IS (oZ (oZ Q2)))
def m18(t:Nat):Bool:=[9,10,29,30,31,32,33,34].contains t
def XX {GI:World→Prop} {ls:List Int} (gZ:iH ls) {cc:Nat→Nat→Prop} {o:Old} {bM n:Nat} {es:Array MapEntry} {jh:Nat} {l0:List (List Int×Value)} {S:af} {H:ah} (hn:n < ls.length) (hK:KM cc o bM es jh) (iM:kU rQ es l0) (hs:zO ls l0)
  (hc:∀e,e<=1->0<n->yi l0 (n-1) e) (dZ:∀e,e<=1->∀x∈l0,x.1≠fG n e) (s6:S 6=.box 6 0) (h6:H 6=some (dH ls (er bM))) (s8:S 8=.int .i64 (n:Nat)) {Q:fH}
  (hQ:∀o' es' vl,KM cc o' bM es' vl->kU rQ es' (l0++[(fG n 0,.int .i64 (fO ls n))]++[(fG n 1,.int .i64 (fO ls n))])->Q .normal o' (aq (aq (λt=>cond (m18 t) .bh (S t)) 9 (.int .i64 (fO ls n))) 10 (.int .i64 (fO ls n))) H):
  SW prog GI 43 none (IS (oZ aaf)) Q o S H:=by
 show SW prog GI 43 none (.region 8 _ true) Q o S H;intro w0 g a w m bP ho R;obtain⟨b6,BJ,e6⟩:=jk R (by decide) s6;have e8:=eR R (by decide) s8;obtain⟨cs6,nV,HO,k0,k1,k2,k3,k4,k5,k6,k7,k8⟩:=R.box 6 b6 BJ;rw[h6]at k0;cases k0
 have JF:nV.size=7:=by rw[<-k5]<;>rfl
 have Vf:b6<w.heap.size:=(Array.getElem?_eq_some_iff.1 k2).1;rw[<-ho]at hK;obtain⟨m1,m2,m3,m4,m5⟩:=R.kept bM _ hK.keep
 have Yp:b6≠bM:=λe=>m5 6 (by rw[BJ,e])
 have Js:∀j,¬g.Pr bM j:=λj hp=>by
  rcases hp with⟨h1,_⟩|⟨_,h2⟩
  .omega
  .rw[m3]at h2;omega
 have r6:∀k (h:k<(dH ls (er bM)).length),RD g.Pr w (dH ls (er bM))[k] (nV.getD k undef):=λk h=>by
  have h':k<nV.size:=by rw[JF];exact h
  have:=k6 k h h';simpa[h']using this
 obtain⟨i142,At,A3⟩:=iZ 142 7;obtain⟨f142,zD⟩:=uZ 142
 have BD:∀wx,ft (λb=>b=bM) w wx->RD g.Pr wx (jW ls (er bM)) (.agg ((List.range 7).map λk=>nV.getD k undef).toArray):=λwx ht=>
  RD.Ks (cs:=dH ls (er bM)) (λi hi=>k8 i hi) λi hi=>(r6 i hi).mono (aL.iO λb k av hp=>ht.block b av λhm=>by subst hm;exact Js k hp)
 refine sR cV (p:=8) (n:=43) (val:=U0 (λk=>nV.getD k undef) n (fO ls n)) (by kernel_rfl) (by kernel_rfl) (by kernel_rfl) R.size (M0 ls bM n l0 w) ⟨λh=>by simp at h,ft.lz (Below.refl _ w).drew,es,jh,m2,iM⟩ ?_ ?_
 .intro k o l aX wx ho B8 BP hI hW hw;have x6:aX.eval (.tmp 6)=pB b6 0:=(hI.keep (by kernel_rfl)).trans e6;have x8:aX.eval (.tmp 8)=.int .i64 (n:Nat):=(hI.keep (by kernel_rfl)).trans e8
  have c6:∀k,k<7->wx.cell? ⟨b6,0+k,none⟩=some (nV.getD k undef):=λk hk=>by
   rw[World.cell?_of_block (w:=w) (hW.2.1.block b6 Vf Yp),Nat.zero_add];simp[World.cell?,k2,JF,hk]
  have hr:=λ(o:Oper)(ho:o.op=.load 142 (.tmp 6))=>qW (P:=prog) (w:=wx) (a:=aX) ho x6 At zD rfl (λk=>nV.getD k undef) (λk hk=>c6 k (by omega))
  simp only[A3]at hr
  match k,ho with
  |0,ho=>
   cases ky ho;exact .inl ⟨29,rfl,wx,hr _ rfl,hW.set⟩
  |1,ho=>
   cases ky ho;exact .inl ⟨30,rfl,wx,(run_move wx rfl).trans (by rw[x8]<;>rfl),hW.set⟩
  |2,ho=>
   cases ky ho;have TM:aX.eval (.tmp 29)=_:=hI.at 0 29 ⟨_,rfl,rfl⟩ (hw ⟨0,.data⟩ (by simp) rfl);have VD:aX.eval (.tmp 30)=.int .i64 (n:Nat):=hI.at 1 30 ⟨_,rfl,rfl⟩ (hw ⟨1,.data⟩ (by simp) rfl)
   have l5:l.getD 5 false=false:=by
    cases h:l.getD 5 false
    .rfl
    .rw[hW.1 h]at BP;cases BP
   have wR:tP ls n l0 l=l0:=by unfold tP;rw[if_neg (by rw[l5];decide),if_neg (by rw[BP];decide)]
   obtain⟨ht,es',vl,hM,p8⟩:=hW.2;rw[wR]at p8;refine .inr (.inr ⟨31,rfl,57,#[_,.int .i64 (n:Nat),.int .i64 ((0:Nat):Int)],wx,fV wx rfl rfl (by simp only[List.map_toArray,List.map_cons,List.map_nil,TM,VD];rfl) (by kernel_rfl),(Kh gZ hn (.inl rfl) hs (hc 0 (by omega)) (dZ 0 (by omega)) hM p8 Js (BD wx ht)).mono ?_⟩);rintro en w' ⟨rfl,hg⟩;refine⟨rfl,λ_=>gF (by rw[B8];decide),?_⟩
   have:tP ls n l0 (l.setIfInBounds 2 true)=l0++[(fG n 0,.int .i64 (fO ls n))]:=by
    unfold tP;rw[bV (by decide),if_neg (by rw[l5];decide),if_pos (gF (by rw[B8];decide))]
   rw[this];exact hW.2.trans hg
  |3,ho=>
   cases ky ho;exact .inl ⟨32,rfl,wx,hr _ rfl,hW.set⟩
  |4,ho=>
   cases ky ho;exact .inl ⟨33,rfl,wx,(run_move wx rfl).trans (by rw[x8]<;>rfl),hW.set⟩
  |5,ho=>
   cases ky ho;have SZ:aX.eval (.tmp 32)=_:=hI.at 3 32 ⟨_,rfl,rfl⟩ (hw ⟨3,.data⟩ (by simp) rfl);have UX:aX.eval (.tmp 33)=.int .i64 (n:Nat):=hI.at 4 33 ⟨_,rfl,rfl⟩ (hw ⟨4,.data⟩ (by simp) rfl);have l2:l.getD 2 false=true:=hw ⟨2,.chain⟩ (by simp) rfl
   have wR:tP ls n l0 l=l0++[(fG n 0,.int .i64 (fO ls n))]:=by unfold tP;rw[if_neg (by rw[BP];decide),if_pos l2]
   obtain⟨ht,es',vl,hM,p8⟩:=hW.2;rw[wR]at p8;refine .inr (.inr ⟨34,rfl,57,#[_,.int .i64 (n:Nat),.int .i64 ((1:Nat):Int)],wx,fV wx rfl rfl (by simp only[List.map_toArray,List.map_cons,List.map_nil,SZ,UX];rfl) (by kernel_rfl),(Kh gZ hn (.inr rfl) (hs.push n 0) (λh0=>(hc 1 (by omega) h0).push _) (AE (dZ 1 (by omega)) (by omega)) hM p8 Js (BD wx ht)).mono ?_⟩);rintro en w' ⟨rfl,hg⟩;refine⟨rfl,λ_=>by rw[bV (by decide)];exact l2,?_⟩
   have:tP ls n l0 (l.setIfInBounds 5 true)=l0++[(fG n 0,.int .i64 (fO ls n))]++[(fG n 1,.int .i64 (fO ls n))]:=by
    unfold tP;rw[if_pos (gF (by rw[B8];decide))]
   rw[this];exact hW.2.trans hg
  |6,ho=>
   cases ky ho;have UC:aX.eval (.tmp 31)=.int .i64 (fO ls n):=hI.at 2 31 ⟨_,rfl,rfl⟩ (hw ⟨2,.data⟩ (by simp) rfl);exact .inl ⟨9,rfl,wx,(run_assign wx rfl).trans (by rw[UC]<;>rfl),hW.set⟩
  |7,ho=>
   cases ky ho;have Vp:aX.eval (.tmp 34)=.int .i64 (fO ls n):=hI.at 5 34 ⟨_,rfl,rfl⟩ (hw ⟨5,.data⟩ (by simp) rfl);exact .inl ⟨10,rfl,wx,(run_assign wx rfl).trans (by rw[Vp]<;>rfl),hW.set⟩
  |k+8,ho=>exact absurd ho (by simp)
 .intro aX wx hI hW;obtain⟨ht,es',vl,hM,p8⟩:=hW.2;have hJ:=R.jump (hI.mask (W:=m18) (by kernel_rfl)) hI.size hI.defers;obtain⟨g',R',D7⟩:=hK.eP hJ ht hM;have R2:=(R'.HW (t:=9) (by decide) _ _ (hI.at 6 9 ⟨_,rfl,rfl⟩ rfl)).HW (t:=10) (by decide) _ _ (hI.at 7 10 ⟨_,rfl,rfl⟩ rfl);exact⟨g',_,_,R2,hQ _ _ _ D7 p8⟩
end Go.Proofs.Tryz
namespace Go.Proofs.Tryz
open Go Go.AL Go.RowKit Go.Proofs Go.Proofs.Tram
attribute [local simp] dI eb tw qH dG cI cJ cb cd dE b_ bL fk fj ar ao ev aD.S aD.H a_ aq aH AL.start AV.cells AV.storable AV.bm aR aT ee aZ HR.okB post cn ct cw AV.out AV.bC bz bW fz fM AV.vw bR vI int bG aB cS cg fS gL dL cG aU AV.aA AV.bF
def fl(x:Int):AV:=.agg [.int .i64 x,.int .i64 x]
def fh(ls:List Int):List Int:=(List.range ls.length).map (fO ls)
def mq(ls:List Int):(fh ls).length=ls.length:=by simp[fh]
def x9{ls:List Int}{i:Nat}(h:i<ls.length):(fh ls).take (i+1)=(fh ls).take i++[fO ls i]:=by
 rw[List.take_succ_eq_append_getElem (by rw[mq];exact h)];simp[fh]
def Lp(l:List Int):aF 2 (l.map fl)=true:=kl λa=>⟨rfl,rfl⟩
structure Iz(ls:List Int)(cc:Nat->Nat->Prop)(bM i:Nat)(o:Old)(S:af)(H:ah):Prop where
 map:∃es jh l,KM cc o bM es jh/\kU rQ es l/\zO ls l/\(∀e,e<=1->0<i->yi l (i-1) e)/\∀e,e<=1->∀k,i<=k->∀x∈l,x.1≠fG k e
 s6:S 6=.box 6 0
 h6:H 6=some (dH ls (er bM))
 s7:S 7=grow 33 (((fh ls).take i).map fl)
 kQ:S 25=.int .i64 ls.length
 pU:S 26=.int .i64 (i:Nat)
def Iz.bx{ls:List Int}{cc:Nat->Nat->Prop}{bM i:Nat}{o:Old}{S:af}{H:ah}(h:Iz ls cc bM i o S H):(∀d,¬o.bx d)/\o.ds=[]/\o.c=cc:=by
 obtain⟨es,jh,l,hK,_⟩:=h.map;exact⟨hK.bx,hK.ds,hK.c⟩
noncomputable def CC:ae:=ae.qb c18.qb.qb.qb.qb.qa.qb.qb
noncomputable def B1:ae:=ae.qb CC.qb
def Yt{GI:World->Prop}(hG:aw GI){ls:List Int}(gZ:iH ls):AC prog GI 18 [.agg (aV ls),vI (fK ls.length)] (.ret (.eS [.slice .view ((fh ls).map fl),.int .i64 0])):=by
 have a54:=Y4 (GI:=GI) hG gZ;have a55:=Yj (GI:=GI) hG gZ;have BH:=gZ.1
 refine AC.iL func18 rfl ntmps18 (by simp) λcc w=>?_
 refine dR hG c18.qa (λS H=>S 1=vI (fK ls.length)/\S 2=.box 2 0/\H 2=some (aV ls)) ?_ ?_
 .simp[c18,ae.qa,aV,au,ai]
 rintro S H ⟨s1,s2,h2⟩;refine dR hG c18.qb.qa (λS H=>S 1=vI (fK ls.length)/\S 2=.box 2 0/\H 2=some (aV ls)) ?_ ?_
 .simp[c18,ae.qa,ae.qb,s1,s2,h2,aV,au,ai];refine oc (by simpa[aV]using a54) ?_;simp[s1,s2,h2,aV,au,ai];refine oc (by simpa[aV,vI]using a55) ?_;simp[s1,s2,h2,aV,au,ai]
 clear s1 s2 h2 S H;rintro S H ⟨s1,s2,h2⟩
 refine SW.seq (SW.hand hG (p:=2) (lm:=[2]) (l2:=[3,4]) (jT:=[_,_]) (oh:=[_]) (jC:=[_,_]) rfl rfl rfl rfl (by kernel_rfl) (λ_ h=>h)
  (nN:=(c18.qb.qb.qa.dl).take 2) (mF:=(c18.qb.qb.qa.dl).drop 3) (by kernel_rfl) (by kernel_rfl) (by kernel_rfl) (by kernel_rfl)
  (K1:=λS H=>S 2=.box 2 0/\H 2=some (aV ls)/\S 20=wO ls/\S 21=vI (fK ls.length))
  (K2:=λo S H=>∃b jh,KM cc o b #[] jh/\S 2=.box 2 0/\H 2=some (aV ls)/\S 22=.agg (dH ls (er b)))
  (K3:=λo S H=>∃b jh,KM cc o b #[] jh/\S 2=.box 2 0/\H 2=some (aV ls)/\S 6=.box 6 0/\H 6=some (dH ls (er b))) ?_ ?_ ?_ ?_)
 .simp[c18,ae.qa,ae.qb,ae.dl,s1,s2,h2,wO,aV,au,ai]
 .rintro w0 g S H a w' m bP ho R ⟨s2,h2,s20,Ql⟩;have Yw:=R.slot 20 (by decide) id;rw[s20]at Yw;have Zd:=R.slot 21 (by decide) id;rw[Ql]at Zd
  refine ik rfl rfl (by rfl) (fV (k:=56) (args:=#[a.tmps.getD 20 undef,a.tmps.getD 21 undef]) w' rfl rfl ?_ (by kernel_rfl)) (Pa hG ls w' (iu g false) #[a.tmps.getD 20 undef,a.tmps.getD 21 undef] (hG w0 w' bP (by have:=R.below;rwa [R.base]at this)) rfl (λi h h'=>by
   match i,h with
   |0,_=>exact(Yw.bU rfl).mono (aL.same λb k _ hp=>.inl hp) λ_ _ h=>h
   |1,_=>exact(Zd.bU rfl).mono (aL.same λb k _ hp=>.inl hp) λ_ _ h=>h)) ?_
  .simp only[List.map_toArray,List.map_cons,List.map_nil,Act.eval]
  rintro e w2 he;obtain⟨b,jh,c,g',rfl,R',hK⟩:=SE (cc:=cc) R (by rw[ho];exact⟨rfl,rfl,λ_ h=>h⟩) (t:=22) (by decide) (λ_ _ _ h=>by cases h) he;refine⟨_,rfl,?_⟩;exact⟨g',_,_,R',b,jh,hK,by simp[aq,s2],h2,by simp[aq]<;>rfl⟩
 .rintro o S H ⟨b,jh,hK,s2,h2,DF⟩;refine⟨hK.bx,?_⟩;simp[c18,ae.qa,ae.qb,ae.dl,s2,h2,DF,cL,dH,aV,au,ai]
  first|exact⟨b,⟨jh,hK⟩,rfl⟩|exact⟨b,jh,hK,rfl⟩
 clear s1 s2 h2 S H;rintro o S H ⟨bM,jh,hK,s2,h2,s6,h6⟩;refine L_ hG c18.qb.qb.qb.qa (λd _=>hK.bx d) (λS H=>S 2=.box 2 0/\H 2=some (aV ls)/\S 6=.box 6 0/\H 6=some (dH ls (er bM))/\S 7=.slice .nil []) ?_ ?_
 .simp[c18,ae.qa,ae.qb,s2,h2,s6,h6,au,ai]
 clear s2 h2 s6 h6 S H;rintro S H ⟨s2,h2,s6,h6,s7⟩;show SW prog GI 43 none (.seq (.seq _ (.block 0 (.loop _))) (.seq _ .ret)) _ _ _ _;refine SW.seq (L_ hG c18.qb.qb.qb.qb.qa.qa (λd _=>hK.bx d) (λS H=>Iz ls cc bM 0 o S H) ?_ ?_)
 .simp[c18,ae.qa,ae.qb,s2,h2,s6,h6,s7,aV,au,ai];exact⟨⟨#[],jh,[],hK,⟨rfl,λi h=>(by simp at h)⟩,(λx h=>(by cases h)),(λe _ h=>(by omega)),λe _ k _ x h=>(by cases h)⟩,by simp[s6,au,ai],by simp[h6,au,ai],by simp[s7,grow,au,ai],by simp[au,ai],by simp[au,ai]⟩
 clear s2 h2 s6 h6 s7 hK S H;intro S H hI;refine SW.block (SW.loop (λo' S' H'=>∃i,i<=ls.length/\Iz ls cc bM i o' S' H') (λS' _=>match S' 26 with|.int _ j=>ls.length-j.toNat|_=>0) ⟨0,Nat.zero_le _,hI⟩ ?_);clear hI S H o;rintro o S H ⟨i,hi,hI⟩;have m26:=hI.pU;obtain⟨bI,cD,Pu⟩:=hI.bx;show SW prog GI 43 none (.seq _ (.seq (.cond _ _ _) (.seq (.block 1 (.seq _ (.seq _ _))) _))) _ _ _ _;refine L_ hG CC.qa (λd _=>bI d) (λS' H'=>S' 27=.bool (decide (i<ls.length))/\Iz ls cc bM i o S' H') ?_ ?_
 .obtain⟨hm,s6,h6,s7,kQ,pU⟩:=hI;simp[c18,CC,ae.qa,ae.qb,kQ,pU,au,ai];exact⟨hm,by simp[s6,au,ai],by simp[h6,au,ai],by simp[s7,au,ai],by simp[kQ,au,ai],by simp[pU,au,ai]⟩
 clear hI;rintro S2 H2 ⟨n_,hI⟩
 by_cases av:i<ls.length
 case neg=>
  have dN:i=ls.length:=by omega
  subst dN;refine SW.seq (SW.cond rfl false (by show S2 27=_;rw[n_];simp[av]) (SW.exit ?_));show SW prog GI 43 none (.seq _ .ret) _ _ _ _;have e7:=hI.s7;rw[List.take_of_length_le (by rw[mq];exact Nat.le_refl _)]at e7;refine L_ hG c18.qb.qb.qb.qb.qb.qa (λd _=>bI d) (λS H=>S 4=.slice .view ((fh ls).map fl)/\S 5=.int .i64 0) ?_ ?_
  .have bQ:(fh ls).map fl≠[]:=fun h=>by
    have:=congrArg List.length h;rw[List.length_map,mq]at this;simp only[List.length_nil]at this;omega
   have e7':S2 7=.slice (.own 33) ((fh ls).map fl):=by rw[e7];simp only[grow,if_neg bQ]
   simp[c18,ae.qa,ae.qb,e7',au,ai]
  rintro S H ⟨s4,s5⟩;refine SW.ret ⟨ea.plain cD,Pu,.eS [.slice .view ((fh ls).map fl),.int .i64 0],?_,rfl⟩;show cn prog 43 [.tmp 4,.tmp 5] S H=_;simp[cn,ct,cw,s4,s5,AV.bC,AV.out,AV.aA,AV.vw,AV.bF]
 case pos=>
  refine SW.seq (SW.cond rfl true (by show S2 27=_;rw[n_];simp[av]) (SW.skip ?_));show SW prog GI 43 none (.seq (.block 1 (.seq _ (.seq _ _))) _) _ _ _ _;refine SW.seq (SW.block (L_ hG B1.qa.qb.qa (λd _=>bI d) (λS' H'=>S' 8=.int .i64 (i:Nat)/\Iz ls cc bM i o S' H') ?_ ?_))
  .obtain⟨hm,s6,h6,s7,kQ,pU⟩:=hI;simp[c18,CC,B1,ae.qa,ae.qb,pU,au,ai];exact⟨hm,by simp[s6,au,ai],by simp[h6,au,ai],by simp[s7,au,ai],by simp[kQ,au,ai],by simp[pU,au,ai]⟩
  clear n_ hI;rintro S3 H3 ⟨s8,⟨es,jh,l,hK,iM,hs,hc,dZ⟩,s6,h6,s7,kQ,pU⟩;refine SW.seq (XX gZ av hK iM hs hc (λe he=>dZ e he i (Nat.le_refl _)) s6 h6 s8 ?_);intro o' es' vl D7 p8;show SW prog GI 43 none _ _ _ _ _
  obtain⟨S4,Gc⟩:∃S4:af,aq (aq (λt=>cond (m18 t) AV.bh (S3 t)) 9 (.int .i64 (fO ls i))) 10 (.int .i64 (fO ls i))=S4:=⟨_,rfl⟩
  rw[Gc]
  have f9:S4 9=.int .i64 (fO ls i):=by rw[<-Gc];simp[aq]
  have f10:S4 10=.int .i64 (fO ls i):=by rw[<-Gc];simp[aq]
  have f6:S4 6=.box 6 0:=by rw[<-Gc];simp[aq,m18,s6]
  have f7:S4 7=grow 33 (((fh ls).take i).map fl):=by rw[<-Gc];simp[aq,m18,s7]
  have f25:S4 25=.int .i64 ls.length:=by rw[<-Gc];simp[aq,m18,kQ]
  have f26:S4 26=.int .i64 (i:Nat):=by rw[<-Gc];simp[aq,m18,pU]
  clear Gc s6 s7 s8 kQ pU
  have hI2:∀S' H',S' 6=.box 6 0->H' 6=some (dH ls (er bM))->S' 7=grow 33 (((fh ls).take (i+1)).map fl)->S' 25=.int .i64 ls.length->S' 26=.int .i64 ((i+1:Nat):Int)->Iz ls cc bM (i+1) o' S' H':=λS' H' q1 q2 q3 q4 q5=>by
   refine⟨⟨es',vl,_,D7,p8,(hs.push i 0).push i 1,λe he _=>?_,λe he k hk=>?_⟩,q1,q2,q3,q4,q5⟩
   .rw[Nat.add_sub_cancel]
    have:e=0\/e=1:=by omega
    rcases this with rfl|rfl
    .exact⟨(fG i 0,.int .i64 (fO ls i)),by simp,rfl⟩
    .exact⟨(fG i 1,.int .i64 (fO ls i)),by simp,rfl⟩
   .exact AE (AE (dZ e he k (by omega)) (by omega)) (by omega)
  refine SW.last hG cV (by kernel_rfl) (ac:=ae.qb B1.qa.qb.qb) (by kernel_rfl) (λd _=>D7.bx d) (λS' H'=>S' 6=.box 6 0/\H' 6=some (dH ls (er bM))/\S' 7=grow 33 (((fh ls).take (i+1)).map fl)/\S' 25=.int .i64 ls.length/\S' 26=.int .i64 (i:Nat)) ?_ ?_
  .rw[x9 av,List.map_append];have bB:aF 2 [AV.agg [.int .i64 (fO ls i),.int .i64 (fO ls i)]]=true:=rfl;simp[c18,CC,B1,ae.qa,ae.qb,f6,f9,f10,f25,f26,bB,cL];refine mo (((fh ls).take i).map fl) (fl (fO ls i)) (.own 33) (by simp[f7,grow]) (by simp[fl]) rfl (Lp _) (by rw[List.length_map,List.length_take];omega) ?_;intro S' sd eK;simp[sd,eK,h6,f6,f25,f26,grow]
  .rintro S' H' ⟨q1,q2,q3,q4,q5⟩;show SW prog GI 43 none _ _ _ _ _;have hw:IntKind.i64.wrap ((i:Int)+1)=i+1:=bf (by omega);refine SW.last hG cV (by kernel_rfl) (ac:=ae.qb B1) (by kernel_rfl) (λd _=>D7.bx d) (λS' H'=>S' 6=.box 6 0/\H' 6=some (dH ls (er bM))/\S' 7=grow 33 (((fh ls).take (i+1)).map fl)/\S' 25=.int .i64 ls.length/\S' 26=.int .i64 ((i+1:Nat):Int)) ?_ ?_
   .simp[c18,CC,B1,ae.qa,ae.qb,q1,q2,q3,q4,q5,hw,au,ai]
   .rintro X3 H'' ⟨r1,r2,r3,r4,r5⟩;refine⟨⟨i+1,by omega,hI2 X3 H'' r1 r2 r3 r4 r5⟩,?_⟩;show(match X3 26 with|.int _ j=>ls.length-j.toNat|_=>0)<(match S 26 with|.int _ j=>ls.length-j.toNat|_=>0);rw[r5,m26];simp;omega
end Go.Proofs.Tryz
namespace Go.Proofs.Tryz
open Go Go.AL Go.RowKit Go.Proofs Go.Proofs.Tram
variable{GI:World->Prop}
def Eo{s:aE}(hs:br s=true):∀i j (hi:i<s.dF.length)(hj:j<s.dF.length),i<j->¬(s.dF[i].l=s.dF[j].l/\s.dF[i].r=s.dF[j].r):=by
 unfold br at hs;simp only[Bool.and_eq_true]at hs;have h:=hs.1.2;rw[kB]at h
 have hp:om (s.dF.map λp=>(p.l,p.r)):=s_ λj hj=>by
  rw[List.getElem_map,List.getElem_map];exact h.2 j (by simpa using hj)
 intro i j hi hj nc he;have:=List.pairwise_iff_getElem.1 hp i j (by simpa using hi) (by simpa using hj) nc;rw[List.getElem_map,List.getElem_map,he.1,he.2,jM]at this;cases this
def HI(hG:aw GI)(s:aE)(hs:br s=true):AC prog GI 48 [ec s] (.ret (gq s)):=by
 have hF:=gN hs;exact YF hG (sA:=an s) (ps:=s.dF) rfl rfl (by simp[an,vI,int,AV.storable,isVal]) (by have:=hF.RQ;omega) (Eo hs)
def D3(s:aE)(out:List Int)(es:List End)(st:Int):(iz s out es st).length=es.length:=by unfold iz;simp
end Go.Proofs.Tryz
namespace Go.Proofs.Tryz
open Go Go.AL Go.RowKit Go.Proofs Go.Proofs.Tram
attribute [local simp] dI eb dP db dG cI cJ cb cd dE b_ bL fk fj ar ao ev aD.S aD.H a_ aq aH AL.start AV.cells AV.storable AV.bm aR aT ee aZ HR.okB post cn ct cw AV.out AV.bC bz bW fz fM AV.vw bR vI int bG aB cS cg fS gL dL cG aU AV.aA AV.bF
variable{GI:World->Prop}
def kT(s:aE)(out:List Int)(es:List End)(st:Int):Int:=jd (λn=>decide (s.wide<n)) (iz s out es st)
def KR{s:aE}{out:List Int}{es:List End}{st:Int}:((iz s out es st).all λn=>decide (n<=s.wide))=decide (kT s out es st<0):=by
 have h:=kf (p:=λn=>decide (s.wide<n)) (l:=iz s out es st)
 have e:((iz s out es st).all λn=>decide (n<=s.wide))=!((iz s out es st).any λn=>decide (s.wide<n)):=by
  rw[Bool.eq_iff_iff];simp
 rw[e,<-h];unfold kT
 by_cases hz:0<=jd (λn=>decide (s.wide<n)) (iz s out es st)
 .have:¬jd (λn=>decide (s.wide<n)) (iz s out es st)<0:=by omega
  simp[hz,this]
 .have:jd (λn=>decide (s.wide<n)) (iz s out es st)<0:=by omega
  simp[hz,this]
def yL(s:aE)(out:List Int)(es:List End)(st:Int):iS:=if kT s out es st<0 then .ret (.eS [])else .panic (.iface 257 (.agg [.int .i64 (kT s out es st)]))
def TR(hG:aw GI)(s:aE)(eH:br s=true)(out:List Int)(ho:out.length<1000000)(es:List End)(he:es.length<100000)(g:Good s out es){st:Int}(h0:0<=st)(h1:st<=10):AC prog GI 170 [.ref (aN s),.ref [vI out,.slice .view (es.map bq)],.ref [.int .i64 st]] (yL s out es st):=by
 have T_:=D3 s out es st;refine dM hG func170 ntmps170 c170 ?_;refine ba (λS H=>S 0=.ref (aN s)/\S 2=.ref [.int .i64 st]/\S 7=.slice .view (gB s out es es.length)/\S 8=.int .i64 es.length/\S 9=.int .i64 0) ?_ ?_
 .simp[aN,an,bH];refine oc (XA hG s eH out ho es he g) ?_;simp[xM]
 rintro S H ⟨s0,s2,s7,s8,s9⟩;simp[s0,s2,s7,s8,s9];refine dg 9 es.length (λi S H=>S 0=.ref (aN s)/\S 2=.ref [.int .i64 st]/\S 7=.slice .view (gB s out es es.length)/\S 8=.int .i64 es.length/\S 9=.int .i64 (i:Nat)/\∀j (hj:j<(iz s out es st).length),j<i->decide (s.wide<(iz s out es st)[j])=false) (λi S H h=>h.2.2.2.2.1) ⟨by simp[s0],by simp[s2],by simp[s7],by simp[s8],by simp[s9],λj _ hj=>absurd hj (Nat.not_lt_zero _)⟩ ?_;clear s0 s2 s7 s8 s9 S H;rintro i hi S H ⟨s0,s2,s7,s8,s9,hb⟩
 by_cases av:i<es.length
 case neg=>
  have hn:kT s out es st<0:=by
   unfold kT;rw[jE λj hj=>hb j hj (by omega)];decide
  unfold yL;rw[if_pos hn];simp[s0,s2,s7,s8,s9,av]
 have hw:IntKind.i64.wrap ((i:Int)+1)=i+1:=bf (by omega)
 have E4:(gB s out es es.length)[i]?=some (.agg [.slice .view ((nO s out es i).map gA),.bool (pj s es i)]):=by
  unfold gB;rw[List.getElem?_map,List.getElem?_range av];rfl
 have nC:(iz s out es st)[i]'(by omega)=EV s out es st i:=by unfold iz;simp
 refine ba (λS H=>S 0=.ref (aN s)/\S 2=.ref [.int .i64 st]/\S 7=.slice .view (gB s out es es.length)/\S 8=.int .i64 es.length/\S 9=.int .i64 (i:Nat)/\S 10=.bool true) (by simp[s0,s2,s7,s8,s9,av]) ?_;clear s0 s2 s7 s8 s9 S H;rintro S H ⟨s0,s2,s7,s8,s9,fu⟩;refine Kg (by simp[fu]) ?_;refine Kr ?_;refine ba (λS H=>S 0=.ref (aN s)/\S 2=.ref [.int .i64 st]/\S 7=.slice .view (gB s out es es.length)/\S 8=.int .i64 es.length/\S 9=.int .i64 (i:Nat)/\S 3=.int .i64 (i:Nat)/\S 4=.box 4 0/\H 4=some [.slice .view ((nO s out es i).map gA),.bool (pj s es i)]) (by simp[s0,s2,s7,s8,s9,av,E4]) ?_;clear s0 s2 s7 s8 s9 fu S H;rintro S H ⟨s0,s2,s7,s8,s9,s3,s4,e4⟩;have a84:=X0 hG s eH (Fh g av) (Cv eH g i) (λx hx=>Lq g hx) (pj s es i) h0 h1
 have QP:s.wide<EV s out es st i->kT s out es st=i:=λh=>by
  unfold kT;exact lg (i:=i) (by omega) (by rw[nC];simpa using h) hb
 simp[s0,s2,s7,s8,s9,s3,s4,e4,aN,an,bH];refine oc a84 ?_
 by_cases oQ:s.wide<EV s out es st i
 .have D1:s.wide<qO s st ((nO s out es i).map (cq s)) (pj s es i):=oQ;have hf:=QP oQ;unfold yL;rw[if_neg (by omega),hf];simp[s0,s2,s7,s8,s9,s3,s4,e4,aN,an,bH,D1,Jc,cL]
 .have D1:¬s.wide<qO s st ((nO s out es i).map (cq s)) (pj s es i):=oQ;simp[s0,s2,s7,s8,s9,s3,s4,e4,aN,an,bH,D1,hw,av];intro j hj eE
  by_cases e:j=i
  .subst e;rw[nC];omega
  .have:=hb j hj (by omega);simpa using this
def Pe(hG:aw GI)(s:aE)(eH:br s=true)(out:List Int)(ho:out.length<1000000)(es:List End)(he:es.length<100000)(g:Good s out es){st:Int}(h0:0<=st)(h1:st<=10):AC prog GI 138 [gq s,aQ out es,.int .i64 st] (.ret (.bool (nQ s out es st))):=by
 have a:=TR hG s eH out ho es he g h0 h1
 have e:nQ s out es st=(decide ((es.length:Int)<=s.rows)&&decide (kT s out es st<0)):=by unfold nQ;rw[KR]
 rw[e];refine dM hG func138 ntmps138 c138 ?_;refine ba (λS H=>S 3=.box 3 0/\S 4=.box 4 0/\S 5=.box 5 0/\H 3=some (aN s)/\H 4=some [vI out,.slice .view (es.map bq)]/\H 5=some [.int .i64 st]) (by simp[gq,aN,an,bH,aQ,aW]) ?_;rintro S H ⟨s3,s4,s5,e3,e4,e5⟩
 by_cases hr:(es.length:Int)<=s.rows
 case neg=>simp[s3,s4,s5,e3,e4,e5,aN,an,bH,hr]
 unfold yL at a
 by_cases hw:kT s out es st<0
 .rw[if_pos hw]at a;have b:=Pc hG (k:=170) (by kernel_rfl) a (.inl ⟨_,rfl,rfl⟩);simp[s3,s4,s5,e3,e4,e5,aN,an,bH,hr];refine⟨_,by kernel_rfl,b,λ_=>rfl,?_⟩;simp[hw]
 .rw[if_neg hw]at a;have b:=Pc hG (k:=170) (by kernel_rfl) a (.inr (.inl ⟨_,rfl,rfl⟩));simp[s3,s4,s5,e3,e4,e5,aN,an,bH,hr];refine⟨_,by kernel_rfl,b,λ_=>rfl,?_⟩;simp[hw]
def xk{p:Int->Bool}:∀{n i:Nat},i<=n->(∀k:Nat,i<=k->k<n->p k=false)->wj p n=wj p i
 |0,i,h,_=>by rw[show i=0 by omega]
 |n+1,i,h,hp=>by
  by_cases e:i=n+1
  .rw[e]
  .rw[wj,hp n (by omega) (by omega)]
   exact xk (by omega) λk h1 h2=>hp k h1 (by omega)
def MC(hG:aw GI)(s:aE)(eH:br s=true)(out:List Int)(ho:out.length<1000000)(es:List End)(he:es.length<100000)(g:Good s out es):AC prog GI 99 [gq s,aQ out es] (.ret (.int .i64 (wi s out es))):=by
 refine dM hG func99 ntmps99 c99 ?_;refine ba (λS H=>S 2=.box 2 0/\S 3=.box 3 0/\H 2=some (aN s)/\H 3=some [vI out,.slice .view (es.map bq)]) (by simp[gq,aN,an,bH,aQ,aW]) ?_;rintro S H ⟨s2,s3,e2,e3⟩;simp[s2,s3,e2,e3];refine IY 5 11 (λi S H=>i<=11/\S 2=.box 2 0/\S 3=.box 3 0/\H 2=some (aN s)/\H 3=some [vI out,.slice .view (es.map bq)]/\S 5=.int .i64 ((i:Nat)-1)/\∀k:Nat,i<=k->k<11->nQ s out es k=false) (λi S H h=>h.2.2.2.2.2.1) ⟨by omega,by simp[s2],by simp[s3],by simp[e2],by simp[e3],by simp,λk h1 h2=>by omega⟩ ?_;clear s2 s3 e2 e3 S H;rintro i hi S H ⟨_,s2,s3,e2,e3,s5,hb⟩;have hm:=xk (p:=nQ s out es) hi hb
 cases i with
 |zero=>
  have hm:wi s out es= -1:=hm;simp[s2,s3,e2,e3,s5,hm]
 |succ m=>
  have hm:wi s out es=if nQ s out es m then(m:Int)else wj (nQ s out es) m:=hm
  have nD:S 5=.int .i64 (m:Nat):=by rw[s5];congr 1;omega
  have Jp:IntKind.i64.wrap ((m:Int)-1)=m-1:=bf (by omega);simp[s2,s3,e2,e3,nD,aN,an,bH];refine oc (Pe hG s eH out ho es he g (by omega) (by omega)) ?_;cases hf:nQ s out es m
  .simp[s2,s3,e2,e3,nD,aN,an,bH,Jp];refine⟨by omega,λk h1 h2=>?_⟩
   by_cases e:k=m
   .subst e;exact hf
   .exact hb k (by omega) h2
  .rw[hf]at hm;simp at hm;simp[s2,s3,e2,e3,nD,aN,an,bH,hm]
end Go.Proofs.Tryz
namespace Go.Proofs.Tryz
open Go.AL
variable{s:aE}{x y:List End}
def gr(s:aE):List End->List End->Bool:=Fe List.length (wi s [])
end Go.Proofs.Tryz
namespace Go.Proofs.Tryz
open Go Go.AL Go.RowKit Go.Proofs Go.Proofs.Tram
attribute [local simp] dI eb dP db dG cI cJ cb cd dE b_ bL fk fj ar ao ev aD.S aD.H a_ aq aH AL.start AV.cells AV.storable AV.bm aR aT ee aZ HR.okB post cn ct cw AV.out AV.bC bz bW fz fM AV.vw bR vI int bG aB cS cg fS gL dL cG aU AV.aA AV.bF
variable{GI:World->Prop}
def uJ(s:aE):(aN s).map AV.bF=aN s:=by
 simp[aN,an,bH,vI,ints,AV.bF]
def sx(s:aE):(aN s).length=11:=rfl
def El(s:aE):AV.agg ((aN s).take 10|>.map AV.bF)=ec s:=by
 simp[aN,an,ec,vI,ints,AV.bF]
def G'{s:aE}(h:br s=true):tR s:=by
 have hF:=gN h;refine⟨by have:=hF.RY;omega,by have:=hF.RQ;omega,by have:=hF.words;omega,λw hw=>?_,λw hw=>?_⟩
 .have:=(lr h hw).si;omega
 .have f:=lr h hw;have:=vK f.d_ (by have:=f.GC;omega);have:=f.si;omega
def Kl(hG:aw GI)(s:aE)(eH:br s=true)(out:List Int)(ho:out.length<=1000):nK prog GI 121 [.ref (aN s),.ref [vI out]] ((xr s out s.rows.toNat).map (aQ out)):=by
 have hr:=(gN eH).rows;have he:=AB eH out;refine Tk hG (oE:=.view) (all:=kM s out) (rows:=s.rows.toNat) (by omega) (by omega) ho (sx s) ?_ ?_ ?_
 .intro x hx;simp[aN,an]at hx
  rcases hx with rfl|rfl|rfl|rfl|rfl|rfl|rfl|rfl|rfl|rfl<;>exact⟨rfl,rfl,rfl⟩
 .show some (AV.int .i64 s.rows)=some (.int .i64 (s.rows.toNat:Nat));rw[Int.toNat_of_nonneg (by omega)]
 .rw[El];exact Uu hG s (G' eH) out (by omega)
def zR{s:aE}(eH:br s=true){out:List Int}(ml:pY s out=true){es:List End}(h:es∈xr s out s.rows.toNat):sh s out es=true/\es.length<=3:=by
 have hr:=(gN eH).rows;obtain⟨h1,h2⟩:=(Cx eH ml).1 h;exact⟨h1,by omega⟩
def J9(hG:aw GI)(s:aE)(eH:br s=true)(out:List Int)(ho:out.length<=1000)(ml:pY s out=true){es:List End}(h:es∈xr s out s.rows.toNat):AC prog GI 138 [.agg ((aN s).map AV.bF),aQ out es,.int .i64 0] (.ret (.bool (nQ s out es 0))):=by
 obtain⟨h1,h2⟩:=zR eH ml h;rw[uJ];exact Pe hG s eH out (by omega) es (by omega) (vL eH h1) (by omega) (by omega)
def N4(hG:aw GI)(s:aE)(eH:br s=true)(out:List Int)(ho:out.length<=1000)(ml:pY s out=true):AC prog GI 96 [gq s,vI out] (.ret (.slice .view ((jy s out).map (aQ out)))):=by
 have hr:=(gN eH).rows;have hl:=CK eH out (m:=s.rows.toNat) (by omega);refine AC.rR (o:=if(jy s out).isEmpty then .nil else .view) ?_
 exact Xk hG (sx s) (by
  intro x hx;simp[aN,an]at hx
  rcases hx with rfl|rfl|rfl|rfl|rfl|rfl|rfl|rfl|rfl|rfl|rfl<;>rfl) (by omega) (λes h=>by have:=(zR eH ml h).2;omega) (by rw[uJ];exact Kl hG s eH out ho) (λes h=>J9 hG s eH out ho ml h)
def UQ(hG:aw GI)(s:aE)(eH:br s=true)(out:List Int)(ho:out.length<=1000)(ml:pY s out=true):AC prog GI 66 [gq s,vI out] (.ret (.bool (!(jy s out).isEmpty))):=by
 have e:(!(jy s out).isEmpty)=(xr s out s.rows.toNat).any λes=>nQ s out es 0:=by
  unfold jy;rw[Bool.eq_iff_iff];simp[List.filter_eq_nil_iff]
 rw[e];exact V_ hG (sx s) (by rw[uJ];exact Kl hG s eH out ho) (λes h=>J9 hG s eH out ho ml h)
def XK(hG:aw GI)(s:aE)(eH:br s=true){a b:List End}(ha:sh s [] a=true)(hb:sh s [] b=true)(gE:a.length<=10)(fW:b.length<=10):AC prog GI 98 [aQ [] a,aQ [] b,.ref (aN s)] (.ret (.bool (gr s a b))):=by
 have ga:=MC hG s eH [] (by simp) a (by omega) (vL eH ha);have gb:=MC hG s eH [] (by simp) b (by omega) (vL eH hb);refine dM hG func98 ntmps98 c98 ?_;refine ba (λS H=>S 2=.ref (aN s)/\S 3=.box 3 0/\S 4=.box 4 0/\H 3=some [vI [],.slice .view (a.map bq)]/\H 4=some [vI [],.slice .view (b.map bq)]) (by simp[aQ,aW]) ?_;rintro S H ⟨s2,s3,s4,e3,e4⟩;refine ba (λS H=>S 2=.ref (aN s)/\S 3=.box 3 0/\S 4=.box 4 0/\H 3=some [vI [],.slice .view (a.map bq)]/\H 4=some [vI [],.slice .view (b.map bq)]/\S 6=.int .i64 a.length/\S 7=.int .i64 b.length) (by simp[s2,s3,s4,e3,e4]) ?_;clear s2 s3 s4 e3 e4 S H;rintro S H ⟨s2,s3,s4,e3,e4,s6,s7⟩;unfold gr Fe
 by_cases av:a.length<b.length
 .have km:(a.length:Int)<b.length:=by omega
  simp[s2,s3,s4,e3,e4,s6,s7,av,km]
 by_cases he:a.length=b.length
 case neg=>
  have km:¬(a.length:Int)<b.length:=by omega
  have IJ:((a.length:Int)==b.length)=false:=by simp;omega
  have DV:(a.length==b.length)=false:=by simpa using he
  simp[s2,s3,s4,e3,e4,s6,s7,av,km,IJ,DV]
 simp[s2,s3,s4,e3,e4,s6,s7,he,aN,an,bH];refine oc ga ?_;simp[s2,s3,s4,e3,e4,s6,s7,he,aN,an,bH];refine oc gb ?_;simp[s2,s3,s4,e3,e4,s6,s7,he,aN,an,bH]
def M5(l:List (List End)):aF 2 (l.map (aQ []))=true:=kl λa=>⟨rfl,rfl⟩
def Hz{α:Type}(better:α->α->Bool)(x:α){l:List α}{i:Nat}(h:i<l.length):jx better x (l.take (i+1))=if better l[i] (jx better x (l.take i))then l[i]else jx better x (l.take i):=by
 unfold jx;rw[List.take_succ_eq_append_getElem h,List.foldl_append];rfl
def qM{α:Type}(better:α->α->Bool):∀(l:List α)(x:α),jx better x l∈x::l
 |[],x=>List.mem_cons_self
 |a::l,x=>by
  show jx better (if better a x then a else x) l∈_;have:=qM better l (if better a x then a else x);rcases List.mem_cons.1 this with e|h
  .rw[e];split<;>simp
  .exact List.mem_cons_of_mem _ (List.mem_cons_of_mem _ h)
def Za(hG:aw GI)(s:aE)(eH:br s=true)(x:List End)(l:List (List End))(hl:l.length<100000)(h:∀a∈x::l,sh s [] a=true/\a.length<=10):AC prog GI 97 [.slice .view ((x::l).map (aQ [])),.func (.func 98) [] [.ref (aN s)]] (.ret (aQ [] (jx (gr s) x l))):=by
 have bB:=M5 (x::l);obtain⟨it,my,aI⟩:=iZ 108 2;have hT:List.take l.length (l.map (aQ []))=l.map (aQ []):=List.take_of_length_le (by simp);have hm:(x::l).map (aQ [])=aQ [] x::l.map (aQ []):=rfl
 have Ht:∀d,iQ d (.ref (aN s))=false:=λd=>rfl
 have AX:∀a,aQ [] a=.agg [vI [],.slice .view (a.map bq)]:=λ_=>rfl
 refine dM hG func97 ntmps97 c97 ?_;refine ba (λS H=>S 4=.box 4 0/\S 0=.slice .view (aQ [] x::l.map (aQ []))/\S 1=.func (.func 98) [] [.ref (aN s)]/\H 4=some [.slice .nil [],.slice .nil []]) (by simp[Ht]) ?_;rintro S H ⟨s4,s0,s1,e4⟩;refine ba (λS H=>S 4=.box 4 0/\S 0=.slice .view (aQ [] x::l.map (aQ []))/\S 1=.func (.func 98) [] [.ref (aN s)]/\H 4=some [.slice .nil [],.slice .nil []]/\S 5=.box 5 0/\H 5=some [vI [],.slice .view (x.map bq)]) (by simp[s4,s0,s1,e4,AX,Ht]) ?_;clear s4 s0 s1 e4 S H;rintro S H ⟨s4,s0,s1,e4,s5,e5⟩;rw[hm]at bB;refine ba (λS H=>S 4=.box 4 0/\H 4=some [.slice .nil [],.slice .nil []]/\S 5=.box 5 0/\H 5=some [vI [],.slice .view ((jx (gr s) x l).map bq)]) ?_ ?_
 .have h1:(1:Int)<=l.length+1:=by omega
  simp[s4,s0,s1,e4,s5,e5,bound,bB,h1];refine dg 14 l.length (λi S H=>S 1=.func (.func 98) [] [.ref (aN s)]/\S 4=.box 4 0/\H 4=some [.slice .nil [],.slice .nil []]/\S 5=.box 5 0/\H 5=some [vI [],.slice .view ((jx (gr s) x (l.take i)).map bq)]/\S 12=.slice .view (l.map (aQ []))/\S 13=.int .i64 l.length/\S 14=.int .i64 (i:Nat)) (λi S H h=>h.2.2.2.2.2.2.2) ⟨by simp[s1],by simp[s4],by simp[e4],by simp[s5],by simp[e5,jx],by simp[hT],by simp,by simp⟩ ?_;clear s4 s0 s1 e4 s5 e5 S H;rintro i hi S H ⟨s1,s4,e4,s5,e5,bK,dW,fo⟩
  by_cases av:i<l.length
  case neg=>
   have dN:i=l.length:=by omega
   subst dN;rw[List.take_of_length_le (Nat.le_refl _)]at e5;simp[s1,s4,e4,s5,e5,bK,dW,fo]
  have hw:IntKind.i64.wrap ((i:Int)+1)=i+1:=bf (by omega);have KC:=qM (gr s) (l.take i) x
  have hb:=h (jx (gr s) x (l.take i)) (by
   rcases List.mem_cons.1 KC with e|e
   .rw[e];exact List.mem_cons_self
   .exact List.mem_cons_of_mem _ (List.mem_of_mem_take e))
  have ck:=h l[i] (List.mem_cons_of_mem _ (List.getElem_mem av));have Xg:=XK hG s eH ck.1 hb.1 ck.2 hb.2;rw[Hz _ _ av];generalize jx (gr s) x (l.take i)=o at e5 Xg⊢;simp[s1,s4,e4,s5,e5,bK,dW,fo,av,AX,Ht];refine oc Xg ?_;cases gr s l[i] o
  .simp[s1,s4,e4,s5,e5,bK,dW,fo,av,AX,Ht,hw]
  .simp[s1,s4,e4,s5,e5,bK,dW,fo,av,AX,Ht,hw]
 clear s4 s0 s1 e4 s5 e5 S H;rintro S H ⟨s4,e4,s5,e5⟩;simp[s4,e4,s5,e5,AX,my,aI,eB]
def vr(s:aE):List AV:=if br s then match jy s []with
 |[]=>[aQ [] [],.int .i64 0,.int .i64 5]
 |x::l=>[aQ [] (jx (gr s) x l),.int .i64 (wi s [] (jx (gr s) x l)),.int .i64 0]
 else[aQ [] [],.int .i64 0,.int .i64 2]
def GP{s:aE}(eH:br s=true){a:List End}(h:a∈jy s []):sh s [] a=true/\a.length<=3/\nQ s [] a 0=true:=by
 have hr:=(gN eH).rows;obtain⟨h1,h2⟩:=(Im eH (tf eH)).1 h;refine⟨h1,?_,h2⟩;unfold nQ at h2;simp only[Bool.and_eq_true,decide_eq_true_eq]at h2;omega
def Hs(hG:aw GI)(s:aE)(hs:tR s)(dZ:br s=false\/jy s []=[]):AC prog GI 40 [ec s] (.ret (.eS (vr s))):=by
 obtain⟨it,my,aI⟩:=iZ 108 2
 have AX:∀a,aQ [] a=.agg [vI [],.slice .view (a.map bq)]:=λ_=>rfl
 refine dM hG func40 ntmps40 c40 ?_;refine ba (λS H=>S 1=.box 1 0/\S 2=.box 2 0/\H 1=some (an s)/\H 2=some [.slice .nil [],.slice .nil []]) (by simp[ec,an]) ?_;rintro S H ⟨s1,s2,e1,e2⟩;unfold vr;cases eH:br s
 .simp[s1,s2,e1,e2,an];refine⟨_,by kernel_rfl,GV hG s hs,λ_=>rfl,?_⟩;rw[eH];simp[s1,s2,e1,e2,an,my,aI,eB,AX,cL,ints]
 have hg:jy s []=[]:=by
  rcases dZ with h|h
  .rw[h]at eH;cases eH
  .exact h
 simp[s1,s2,e1,e2,an];refine⟨_,by kernel_rfl,GV hG s hs,λ_=>rfl,?_⟩;rw[eH];simp[s1,s2,e1,e2,an];refine oc (HI hG s eH) ?_;simp[s1,s2,e1,e2,gq,aN,an,bH];refine oc (N4 hG s eH [] (by simp) (tf eH)) ?_;rw[hg];simp[s1,s2,e1,e2,my,aI,eB,AX,cL,ints]
def Sa(hG:aw GI)(s:aE)(hs:tR s):AC prog GI 40 [ec s] (.ret (.eS (vr s))):=by
 cases eH:br s with
 |false=>exact Hs hG s hs (.inl eH)
 |true=>
 cases hg:jy s []with
 |nil=>exact Hs hG s hs (.inr hg)
 |cons x l=>
 obtain⟨it,my,aI⟩:=iZ 108 2
 have AX:∀a,aQ [] a=.agg [vI [],.slice .view (a.map bq)]:=λ_=>rfl
 have hl:=JS eH [];rw[hg]at hl;simp at hl
 have eD:∀a∈x::l,sh s [] a=true/\a.length<=10:=λa ha=>by
  have:=GP eH (a:=a) (by rw[hg];exact ha);exact⟨this.1,by omega⟩
 have a98:=Za hG s eH x l (by omega) eD;have hb:=eD _ (qM (gr s) l x);have a87:=MC hG s eH [] (by simp) (jx (gr s) x l) (by omega) (vL eH hb.1)
 have p_:((l.length:Int)+1==0)=false:=by simp;omega
 have ho:vr s=[aQ [] (jx (gr s) x l),.int .i64 (wi s [] (jx (gr s) x l)),.int .i64 0]:=by
  unfold vr;rw[eH,if_pos rfl,hg]
 rw[ho];refine AC.L' hG cV 5 5 func40 rfl ntmps40 (by simp) (ac:=c40) (by kernel_rfl) ?_;refine rU (λS H=>S 1=.box 1 0/\S 2=.box 2 0/\H 1=some (an s)/\H 2=some [.slice .nil [],.slice .nil []]) (by simp[ec,an]) ?_;rintro S H ⟨s1,s2,e1,e2⟩;refine rU (λS H=>S 1=.box 1 0/\S 2=.box 2 0/\H 1=some (an s)/\H 2=some [.slice .nil [],.slice .nil []]) ?_ ?_
 .simp[s1,s2,e1,e2,an];refine⟨_,by kernel_rfl,GV hG s hs,λ_=>rfl,?_⟩;rw[eH];simp[s1,s2,e1,e2,an]
 clear s1 s2 e1 e2 S H;rintro S H ⟨s1,s2,e1,e2⟩;refine rU (λS H=>S 2=.box 2 0/\H 2=some [.slice .nil [],.slice .nil []]/\S 5=.box 5 0/\H 5=some (aN s)) ?_ ?_
 .simp[s1,s2,e1,e2,an];refine oc (HI hG s eH) ?_;simp[s1,s2,e1,e2,gq,aN,an,bH]
 clear s1 s2 e1 e2 S H;rintro S H ⟨s2,e2,s5,e5⟩;refine rU (λS H=>S 2=.box 2 0/\H 2=some [.slice .nil [],.slice .nil []]/\S 5=.box 5 0/\H 5=some (aN s)/\S 6=.slice .view ((x::l).map (aQ []))) ?_ ?_
 .have Wz:=N4 hG s eH [] (by simp) (tf eH);rw[hg]at Wz;simp[s2,e2,s5,e5,aN,an,bH];refine oc Wz ?_;simp[s2,e2,s5,e5,aN,an,bH]
 clear s2 e2 s5 e5 S H;rintro S H ⟨s2,e2,s5,e5,s6⟩;refine rU (λS H=>S 2=.box 2 0/\H 2=some [.slice .nil [],.slice .nil []]/\S 5=.box 5 0/\H 5=some (aN s)/\S 6=.slice .view ((x::l).map (aQ []))) (by simp[s2,e2,s5,e5,s6,p_]) ?_;clear s2 e2 s5 e5 s6 S H;rintro S H ⟨s2,e2,s5,e5,s6⟩;refine HF (aN s) (λS H=>S 2=.box 2 0/\H 2=some [.slice .nil [],.slice .nil []]/\S 5=.ref (aN s)/\S 6=.slice .view ((x::l).map (aQ []))) e5 ⟨by simp[s2,nu],by simp[aq,e2],by simp[s5,nu,aN,an,bH,AV.aA,vI],by simp[s6,nu,aT]⟩ ?_;clear s2 e2 s5 e5 s6 S H;rintro S H ⟨s2,e2,s5,s6⟩;refine ba (λS H=>S 2=.box 2 0/\H 2=some [.slice .nil [],.slice .nil []]/\S 5=.ref (aN s)/\S 7=.box 7 0/\H 7=some [vI [],.slice .view ((jx (gr s) x l).map bq)]) ?_ ?_
 .simp[s2,e2,s5,s6];refine⟨_,by kernel_rfl,a98,by simp[bR,mG],?_⟩;simp[s2,e2,s5,s6,AX]
 clear s2 e2 s5 s6 S H;rintro S H ⟨s2,e2,s5,s7,e7⟩;simp[s2,e2,s5,s7,e7,aN,an,bH];refine oc a87 ?_;simp[s2,e2,s5,s7,e7,my,aI,eB,AX]
def me(s:aE):Option (List End):=match jy s []with
 |[]=>none
 |x::l=>some (jx (gr s) x l)
def mX(es:List End)(i n:Nat):Nat:=es.countP λe=>decide (e.1=((i:Nat):Int))&&decide (e.2<((n:Nat):Int))
def uj(s:bo)(es:List End)(i:Nat):Int:=s.j3*fQ s.name i+s.eP*mX es i (fQ s.name i)
def cH(s:bo)(es:List End):List Int:=(List.range s.name.words.length).map (uj s es)
def bZ(s:bo)(az:List Int):List AV:=bj s++[vI az]
def gX(s:bo)(az:List Int):AV:=.agg (bZ s az)
def tB(n:Int):AV:=.iface 241 (.agg [.int .i64 n])
structure kN(s:bo):Prop where
 cells:1<=s.cells.length/\s.cells.length<=12
 N3:∀c∈s.cells,1<=c.lo/\c.lo<=c.hi/\c.hi<=20
 pos:1<=s.pos/\s.pos<=s.cells.length
 reach:1<=s.reach/\s.reach<=12
 j3:1<=s.j3/\s.j3<=9
 eP:0<=s.eP/\s.eP<=9
 name:br s.name=true
def tv{s:bo}(h:jH s=true):kN s:=by
 simp only[jH,Bool.and_eq_true,da,decide_eq_true_eq,Bool.not_eq_true',List.any_eq_false]at h;obtain⟨⟨⟨⟨⟨⟨⟨h1,h2⟩,h3⟩,h4,h5⟩,h6,h7⟩,h8,h9⟩,jK,yv⟩,Pw⟩:=h;refine⟨⟨by omega,by omega⟩,λc hc=>?_,⟨h4,h5⟩,⟨h6,h7⟩,⟨h8,h9⟩,⟨jK,yv⟩,Pw⟩;have:=h3 c hc;simp[od,da]at this;omega
def p9{s:aE}(eH:br s=true){es:List End}(h:me s=some es):es.length<=3:=by
 unfold me at h
 cases hg:jy s []with
 |nil=>rw[hg]at h;cases h
 |cons x l=>
  rw[hg]at h;cases h;exact(GP eH (by rw[hg];exact qM (gr s) l x)).2.1
def KH(es:List End)(i n:Nat):mX es i n<=es.length:=List.countP_le_length
def x_{s:bo}(h:kN s){es:List End}(he:es.length<=3){i:Nat}(hi:fQ s.name i<=6):0<=uj s es i/\uj s es i<=81:=by
 have h1:=KH es i (fQ s.name i);have hp:=h.j3;have ht:=h.eP;unfold uj;have a1:0<=s.j3*(fQ s.name i:Int):=Int.mul_nonneg (by omega) (by omega);have a2:s.j3*(fQ s.name i:Int)<=9*6:=Int.mul_le_mul (by omega) (by omega) (by omega) (by omega);have a3:0<=s.eP*(mX es i (fQ s.name i):Int):=Int.mul_nonneg (by omega) (by omega);have a4:s.eP*(mX es i (fQ s.name i):Int)<=9*3:=Int.mul_le_mul (by omega) (by omega) (by omega) (by omega);omega
def HH(s:bo)(es:List End)(i:Nat)(S:af)(H:ah):Prop:=
 S 1=.box 1 0/\H 1=some (bj s)/\S 2=.box 2 0/\(∃z,H 2=some z/\z.length=16)/\S 3=.box 3 0/\H 3=some [vI [],.slice .view (es.map bq)]/\S 6=.box 6 0/\H 6=some (bj s++[grow 3 (ints ((cH s es).take i))])/\
 S 31=.slice .view (s.name.words.map cU)/\S 32=.int .i64 s.name.words.length/\S 33=.int .i64 (i:Nat)
def M6(hG:aw GI)(s:bo)(hs:sQ s)(h:kN s)(dZ:me s.name=none):AC prog GI 89 [g_ s] (.panic (tB s.name.words.length)):=by
 have MF:=Sa hG s.name hs.name
 have ly:vr s.name=[aQ [] [],.int .i64 0,.int .i64 5]:=by
  unfold me at dZ;unfold vr;rw[if_pos h.name];split at dZ
  .rename_i hg;first|rw[hg]|rfl
  .cases dZ
 rw[ly]at MF;refine dM hG func89 ntmps89 c89 ?_;simp[c89,g_,bj,an];refine oc MF ?_;simp[aQ,aW,tB,cL,bg,aM]
def Xb(hG:aw GI)(s:bo)(hs:sQ s)(h:kN s){es:List End}(iM:me s.name=some es):AC prog GI 89 [g_ s] (.ret (gX s (cH s es))):=by
 have MF:=Sa hG s.name hs.name
 have ly:∃m:Int,vr s.name=[aQ [] es,.int .i64 m,.int .i64 0]:=by
  unfold me at iM;unfold vr;rw[if_pos h.name];split at iM
  .cases iM
  .rename_i x l hg;cases iM;(try rw[hg]);exact⟨_,rfl⟩
 obtain⟨m,ly⟩:=ly;rw[ly]at MF;have hle:=p9 h.name iM;have hF:=gN h.name
 have hlen:∀i,fQ s.name i<=6:=λi=>by
  unfold fQ;split
  .rename_i x hx;obtain⟨av,rfl⟩:=List.getElem?_eq_some_iff.1 hx;exact(lr h.name (List.getElem_mem av)).si
  .omega
 obtain⟨i100,ug,uh⟩:=iZ 100 16;obtain⟨fs,iD⟩:=uZ 100;refine dM hG func89 ntmps89 c89 ?_;refine ba (λS H=>S 1=.box 1 0/\H 1=some (bj s)/\S 2=.box 2 0/\∃z,H 2=some z/\z.length=16) (by simp[g_,bj,an]) ?_;rintro S H ⟨s1,h1,s2,z,h2,hz⟩;refine ba (λS H=>S 1=.box 1 0/\H 1=some (bj s)/\S 2=.box 2 0/\(∃z,H 2=some z/\z.length=16)/\S 3=.box 3 0/\H 3=some [vI [],.slice .view (es.map bq)]/\S 5=.int .i64 0) ?_ ?_
 .simp[bj,an,s1,h1,s2,h2,hz];refine oc MF ?_;simp[aQ,aW,cL,s1,h1,s2,h2,hz]
  try rfl
 clear s1 h1 s2 h2 hz z S H;rintro S H ⟨s1,h1,s2,⟨z,h2,hz⟩,s3,h3,s5⟩;refine ba (λS H=>S 1=.box 1 0/\H 1=some (bj s)/\S 2=.box 2 0/\(∃z,H 2=some z/\z.length=16)/\S 3=.box 3 0/\H 3=some [vI [],.slice .view (es.map bq)]) ?_ ?_
 .simp[bj,an,s1,h1,s2,h2,hz,s3,h3,s5]
  try rfl
 clear s1 h1 s2 h2 hz z s3 h3 s5 S H;rintro S H ⟨s1,h1,s2,⟨z,h2,hz⟩,s3,h3⟩;refine ba (λS H=>S 1=.box 1 0/\H 1=some (bj s)/\S 2=.box 2 0/\(∃z,H 2=some z/\z.length=16)/\S 3=.box 3 0/\H 3=some [vI [],.slice .view (es.map bq)]/\S 6=.box 6 0/\H 6=some (bj s++[.slice .nil []])) ?_ ?_
 .simp[bj,an,s1,h1,s2,h2,hz,s3,h3,cL]
  try rfl
 clear s1 h1 s2 h2 hz z s3 h3 S H;rintro S H ⟨s1,h1,s2,⟨z,h2,hz⟩,s3,h3,s6,h6⟩
 have wR:(cH s es).length=s.name.words.length:=by simp[cH]
 have yl:=hF.words;refine ba (HH s es s.name.words.length) ?_ ?_
 .refine ba (HH s es 0) ?_ ?_
  .have hg:grow 3 (ints ([]:List Int))=.slice .nil []:=rfl;simp[bj,an,s1,h1,s2,h2,hz,s3,h3,s6,h6,HH,hg]
   try rfl
  clear s1 h1 s2 h2 hz z s3 h3 s6 h6 S H;intro S H Yg;refine dg 33 s.name.words.length (HH s es) (λi S H h=>h.2.2.2.2.2.2.2.2.2.2) Yg ?_;clear Yg S H;rintro i hi S H ⟨s1,h1,s2,⟨z,h2,hz⟩,s3,h3,s6,h6,yC,ym,yu⟩
  by_cases av:i<s.name.words.length
  case neg=>
   have dN:i=s.name.words.length:=by omega
   subst dN;simp[s1,h1,s2,h2,hz,s3,h3,s6,h6,yC,ym,yu,HH]
  have hw:IntKind.i64.wrap ((i:Int)+1)=i+1:=bf (by omega);simp[s1,h1,s2,h2,hz,s3,h3,s6,h6,yC,ym,yu,av,bj,an,cU,cL];have E4:=hlen i
  have aar:s.name.words[i].bc.length<=6:=by rw[<-ko av];exact E4
  have hp:=h.j3;have ht:=h.eP;have Vq:0<=s.j3*(s.name.words[i].bc.length:Int):=Int.mul_nonneg (by omega) (by omega);have Uz:s.j3*(s.name.words[i].bc.length:Int)<=9*6:=Int.mul_le_mul (by omega) (by omega) (by omega) (by omega);have Jp:IntKind.i64.wrap (s.j3*(s.name.words[i].bc.length:Int))=s.j3*(s.name.words[i].bc.length:Int):=bf (by omega)
  refine dg 47 es.length (λj S H=>S 1=.box 1 0/\H 1=some (bj s)/\S 2=.box 2 0/\(∃z,H 2=some z/\z.length=16)/\S 3=.box 3 0/\H 3=some [vI [],.slice .view (es.map bq)]/\S 6=.box 6 0/\H 6=some (bj s++[grow 3 (ints ((cH s es).take i))])/\
   S 31=.slice .view (s.name.words.map cU)/\S 32=.int .i64 s.name.words.length/\S 33=.int .i64 (i:Nat)/\S 7=.int .i64 (i:Nat)/\S 8=.box 8 0/\H 8=some [vI s.name.words[i].bc,vI s.name.words[i].d_,.bool s.name.words[i].free]/\
   S 9=.int .i64 (s.j3*(s.name.words[i].bc.length:Int)+s.eP*(mX (es.take j) i s.name.words[i].bc.length:Int))/\S 45=.slice .view (es.map bq)/\S 46=.int .i64 es.length/\S 47=.int .i64 (j:Nat)) (λj S H h=>h.2.2.2.2.2.2.2.2.2.2.2.2.2.2.2.2.2) ?_ ?_
  .simp[s1,h1,s2,h2,hz,s3,h3,s6,h6,yC,ym,yu,bj,an,Jp,mX]
  clear s1 h1 s2 h2 hz z s3 h3 s6 h6 yC ym yu S H;rintro j hj S H ⟨s1,h1,s2,⟨z,h2,hz⟩,s3,h3,s6,h6,yC,ym,yu,s7,s8,h8,s9,F9,mD,nX⟩;have Mb:=KH (es.take j) i s.name.words[i].bc.length
  have hc4:(es.take j).length<=3:=by simp;omega
  have P_:0<=s.eP*(mX (es.take j) i s.name.words[i].bc.length:Int):=Int.mul_nonneg (by omega) (by omega);have NC:s.eP*(mX (es.take j) i s.name.words[i].bc.length:Int)<=9*3:=Int.mul_le_mul (by omega) (by omega) (by omega) (by omega)
  by_cases wU:j<es.length
  case pos=>
   have kc:IntKind.i64.wrap ((j:Int)+1)=j+1:=bf (by omega);have mW:IntKind.i64.wrap (s.j3*(s.name.words[i].bc.length:Int)+s.eP*(mX (es.take j) i s.name.words[i].bc.length:Int)+s.eP)=s.j3*(s.name.words[i].bc.length:Int)+s.eP*(mX (es.take j) i s.name.words[i].bc.length:Int)+s.eP:=bf (by omega)
   have f_:mX (es.take (j+1)) i s.name.words[i].bc.length=mX (es.take j) i s.name.words[i].bc.length+if es[j].1=((i:Nat):Int)/\es[j].2<((s.name.words[i].bc.length:Nat):Int)then 1 else 0:=by
    rw[List.take_succ,List.getElem?_eq_getElem wU];unfold mX;rw[Option.toList_some,List.countP_append,List.countP_singleton]
    by_cases q1:es[j].1=((i:Nat):Int)<;>by_cases q2:es[j].2<((s.name.words[i].bc.length:Nat):Int)<;>simp[q1,q2]
   by_cases c1:es[j].1=((i:Nat):Int)
   .by_cases c2:es[j].2<((s.name.words[i].bc.length:Nat):Int)
    .rw[if_pos ⟨c1,c2⟩]at f_;simp[s1,h1,s2,h2,hz,s3,h3,s6,h6,yC,ym,yu,s7,s8,h8,s9,F9,mD,nX,wU,bj,an,bq,cL,kc,mW,c1,c2,f_];rw[Int.mul_add,Int.mul_one,Int.add_assoc]
    .rw[if_neg (λh=>c2 h.2)]at f_;simp[s1,h1,s2,h2,hz,s3,h3,s6,h6,yC,ym,yu,s7,s8,h8,s9,F9,mD,nX,wU,bj,an,bq,cL,kc,mW,c1,c2,f_]
   .rw[if_neg (λh=>c1 h.1)]at f_
    have c1':(es[j].1==((i:Nat):Int))=false:=by simpa using c1
    simp[s1,h1,s2,h2,hz,s3,h3,s6,h6,yC,ym,yu,s7,s8,h8,s9,F9,mD,nX,wU,bj,an,bq,cL,kc,mW,c1,c1',f_]
  case neg=>
   have Zu:j=es.length:=by omega
   subst Zu;have hT:es.take es.length=es:=List.take_of_length_le (Nat.le_refl _);rw[hT]at s9
   have Y2:(cH s es).take (i+1)=(cH s es).take i++[s.j3*(s.name.words[i].bc.length:Int)+s.eP*(mX es i s.name.words[i].bc.length:Int)]:=by
    rw[List.take_succ,List.getElem?_eq_getElem (by rw[wR];exact av)];simp[cH,uj,ko av]
   have bB:aF 1 (ints ((cH s es).take i))=true:=qe _
   have j4:ints ((cH s es).take i)++[.int .i64 (s.j3*(s.name.words[i].bc.length:Int)+s.eP*(mX es i s.name.words[i].bc.length:Int))]=ints ((cH s es).take (i+1)):=by rw[Y2];simp[ints]
   have bQ:ints ((cH s es).take (i+1))≠[]:=by rw[<-j4];simp
   have Hj:grow 3 (ints ((cH s es).take (i+1)))=.slice (.own 3) (ints ((cH s es).take (i+1))):=by unfold grow;rw[if_neg bQ]
   have iA:aF 1 [.int .i64 (s.j3*(s.name.words[i].bc.length:Int)+s.eP*(mX es i s.name.words[i].bc.length:Int))]=true:=rfl
   have zi:min i (cH s es).length+1<1048576:=by omega
   by_cases h0:ints ((cH s es).take i)=[]
   .have ER:grow 3 (ints ((cH s es).take i))=.slice .nil []:=by unfold grow;rw[if_pos h0,h0]
    rw[ER]at h6;rw[h0,List.nil_append]at j4;simp[s1,h1,s2,h2,hz,s3,h3,s6,h6,yC,ym,yu,s7,s8,h8,s9,F9,mD,nX,bj,an,hw,iA,HH,Hj,<-j4];rw[j4];exact Hj.symm
   .have ER:grow 3 (ints ((cH s es).take i))=.slice (.own 3) (ints ((cH s es).take i)):=by unfold grow;rw[if_neg h0]
    rw[ER]at h6;simp[s1,h1,s2,h2,hz,s3,h3,s6,h6,yC,ym,yu,s7,s8,h8,s9,F9,mD,nX,bj,an,hw,iA,bB,zi,HH,Hj,<-j4];rw[j4];exact Hj.symm
 clear s1 h1 s2 h2 hz z s3 h3 s6 h6 S H;rintro S H ⟨s1,h1,s2,⟨z,h2,hz⟩,s3,h3,s6,h6,yC,ym,yu⟩;have hT:(cH s es).take s.name.words.length=cH s es:=List.take_of_length_le (by omega);rw[hT]at h6
 have jF:∃o,grow 3 (ints (cH s es))=.slice o (ints (cH s es)):=⟨_,rfl⟩
 obtain⟨o,jF⟩:=jF;rw[jF]at h6
 have jP:aR z 0 (bj s++[.slice .view (ints (cH s es))])=bj s++[.slice .view (ints (cH s es))]:=by simp[aR,hz,bj,an]
 simp[s1,h1,s2,h2,hz,s3,h3,s6,h6,yC,ym,yu,ug,uh,iD,bj,an,gX,bZ,eB]
 cases o<;>rfl
def rC(s:bo)(i:Nat):Bool:=match s.cells[i]? with|some c=>c.Td|none=>false
def kq(s:bo):Nat:=(s.pos-s.reach).toNat
def fE(s:bo)(i:Nat):Bool:=decide (kq s<=i)&&(decide (i<s.pos.toNat)&&!rC s i)
def mf(s:bo)(i:Nat):List (Int×Value):=(List.range' (kq s) (i-kq s)).map λj:Nat=>((j:Int),Value.bool (!rC s j))
def eC(s:bo):List End:=(fm (fE s) s.cells.length).map λv=>((v.1:Int),(v.2:Int))
def L8(s:bo){i:Nat}:fq (i:Int) (mf s i) 0=none:=po λx hx=>by
 obtain⟨j,hj,rfl⟩:=List.mem_map.1 hx;have:=List.mem_range'_1.1 hj;simp only;omega
def IX(s:bo){i:Nat}(h:kq s<=i):mf s (i+1)=mf s i++[((i:Int),Value.bool (!rC s i))]:=by
 unfold mf
 have e:kq s+1*(i-kq s)=i:=by omega
 rw[show i+1-kq s=(i-kq s)+1 by omega,List.range'_concat,List.map_append,e]
 rfl
def vp(f:Nat->Bool)(i:Nat):∀(n a k:Nat),((fq (i:Int) ((List.range' a n).map λj:Nat=>((j:Int),Value.bool (f j))) k).map (·.2)).getD (.bool false)=.bool (decide (a<=i)&&(decide (i<a+n)&&f i))
 |0,a,k=>by
  have:¬(a<=i/\i<a+0):=by omega
  simp[fq];intro h1 h2;omega
 |n+1,a,k=>by
  rw[List.range'_succ,List.map_cons];unfold fq
  by_cases h:i=a
  .subst h;simp
  .have hb:((i:Int)==(a:Int))=false:=by simp;omega
   rw[hb];simp only[Bool.false_eq_true,if_false];rw[vp f i n (a+1) (k+1)]
   congr 1
   rw[Bool.eq_iff_iff];simp
   constructor
   .rintro⟨h1,h2,h3⟩;exact⟨by omega,by omega,h3⟩
   .rintro⟨h1,h2,h3⟩;exact⟨by omega,by omega,h3⟩
def JI(s:bo)(hp:kq s<=s.pos.toNat)(i:Nat):((fq (i:Int) (mf s s.pos.toNat) 0).map (·.2)).getD (.bool false)=.bool (fE s i):=by
 unfold mf;rw[vp (λj=>!rC s j)]
 congr 1
 unfold fE;rw[show kq s+(s.pos.toNat-kq s)=s.pos.toNat by omega]
def Eb(b:Nat):Value:=.map (some b)
def CH{α β:Type}[BEq α][LawfulBEq α]{t:α}{v:β}:∀{l:List (α×β)},l.lookup t=some v->(t,v)∈l
 |[],h=>by cases h
 |(a,b)::l,h=>by
  rw[List.lookup_cons]at h
  by_cases ht:(t==a)=true
  .rw[ht]at h;have:=eq_of_beq ht;cases h;subst this;exact List.mem_cons_self
  .have A9:(t==a)=false:=by simpa using ht
   rw[A9]at h;exact List.mem_cons_of_mem _ (CH h)
def dp(s:bo)(i:Nat):Nat×List (Nat×Nat):=(List.range i).foldl (ez (fE s)) (0,[])
def nt(s:bo)(i:Nat):dp s (i+1)=ez (fE s) (dp s i) i:=by
 unfold dp;rw[List.range_succ,List.foldl_append]
 rfl
def Ai(s:bo):∀(d i:Nat),∃t,(dp s (i+d)).2=(dp s i).2++t
 |0,i=>⟨[],by simp⟩
 |d+1,i=>by
  obtain⟨t,ht⟩:=Ai s d i;rw[show i+(d+1)=i+d+1 by omega,nt];unfold ez;split
  .exact⟨t,ht⟩
  .simp only;split
   .exact⟨t++[((dp s (i+d)).1,i+d-1)],by rw[ht,List.append_assoc]⟩
   .exact⟨t,ht⟩
def Ch(s:bo):∀i,(dp s i).1<=i
 |0=>Nat.le_refl _
 |i+1=>by
  rw[nt];unfold ez;have:=Ch s i;split
  .omega
  .simp
variable{l:Nat}{xs:List AV}
def o9(l:Nat)(s:bo)(bM:Nat)(ex:List (Nat×AV)):af:=λt=>if t=0 then .val (.func (.yield l) #[] #[])else if t=1 then .ref (bj s)else if t=3 then .val (Eb bM)else match ex.lookup t with|some v=>v|none=>.bh
structure VS(C:Cons prog GI l xs)(s:bo)(cX:Value)(bM:Nat)(ex:List (Nat×AV))(l':List (Int×Value))(k:Nat)(a:Act)(w:World):Prop where
 size:a.tmps.size=54
 defers:a.defers=[]
 t0:a.tmps.getD 0 undef=.func (.yield l) #[] #[]
 t1:a.tmps.getD 1 undef=cX
 t3:a.tmps.getD 3 undef=Eb bM
 ex:∀p∈ex,4<=p.1/\iG p.2=true/\RD (λ_ _=>False) w p.2 (a.tmps.getD p.1 undef)
 st:∃M Pr,C.J k M Pr w/\(∀b,M b->b<w.heap.size)/\M bM/\(∃es clock,w.heap[bM]?=some (.map es clock)/\kU (.int .i64) es l')/\RD Pr w (.ref (bj s)) cX
variable{C:Cons prog GI l xs}{s:bo}{cX:Value}{bM:Nat}{ex vm:List (Nat×AV)}{l':List (Int×Value)}{k:Nat}{a:Act}{w:World}
def VS.iw(h:VS C s cX bM ex l' k a w):∀t,t<54->(o9 l s bM ex t).aA=o9 l s bM ex t/\RV (λb _=>b≠bM) bU w (o9 l s bM ex t) (a.tmps.getD t undef):=by
 intro t ht;obtain⟨M,Pr,hj,av,hM,_,hx⟩:=h.st;unfold o9
 by_cases t0:t=0
 .subst t0;simp only[if_true];rw[h.t0];exact⟨rfl,.data _ _ (.val _ rfl)⟩
 rw[if_neg t0]
 by_cases t1:t=1
 .subst t1;simp only[if_true];rw[h.t1];exact⟨rfl,.data _ _ (hx.mono (aL.same λb k _ hp=>by rintro rfl;exact C.apart hj _ k hM hp))⟩
 rw[if_neg t1]
 by_cases t3:t=3
 .subst t3;simp only[if_true];rw[h.t3];exact⟨rfl,.data _ _ (.val _ rfl)⟩
 rw[if_neg t3]
 cases hl:ex.lookup t with
 |none=>exact⟨rfl,.bh _⟩
 |some v=>
  have hm:(t,v)∈ex:=CH hl;obtain⟨_,h2,h3⟩:=h.ex _ hm;refine⟨?_,.data _ _ (h3.iG h2)⟩
  cases v<;>first|rfl|cases h2
def VS.grow (h:VS C s cX bM ex l' k a w) {a':Act} {w':World} (hb:Below w.heap.size w w') (aI:a'.tmps.size=54) (cD:a'.defers=[]) (h0:∀ t,t < 4→a'.tmps.getD t undef=a.tmps.getD t undef)
  (hex:∀p∈vm,4<=p.1/\iG p.2=true/\RD (λ_ _=>False) w' p.2 (a'.tmps.getD p.1 undef)):VS C s cX bM vm l' k a' w':=by
 obtain⟨M,Pr,hj,av,hM,⟨es,clock,hm,he⟩,hx⟩:=h.st
 refine⟨aI,cD,(h0 0 (by decide)).trans h.t0,(h0 1 (by decide)).trans h.t1,(h0 3 (by decide)).trans h.t3,hex,M,Pr,C.eP hj (ft.lz hb) λb fg=>⟨Nat.lt_of_lt_of_le (av b fg) hb.size,.inl fg⟩,λb fg=>Nat.lt_of_lt_of_le (av b fg) hb.size,hM,
  ⟨es,clock,(hb.block bM (av bM hM)).trans hm,he⟩,hx.mono (aL.fI (λb h=>hb.block b h) λ_ _ _ h=>h)⟩
def W4:Nat->Bool:=λt=>decide (4<=t)
def VS.region (hG:aw GI) {C:Cons prog GI l xs} (h:VS C s cX bM ex l' k a w) {id:Nat} {ops:Array Oper} {ac:ae} {Q:Exit→Act→World→Prop} {m:Nat} (hc:jV (.region id ops false)=true) (jN:de prog 54 (.region id ops false)=ac) (hW:fP ops W4=true)
  (vm:List (Nat×AV)) (hs:vm.all (λp=>decide (4<=p.1)&&(decide (p.1<54)&&iG p.2))=true) (tY:bD prog GI ac (aB λS' _=>∀p∈vm,S' p.1=p.2) (o9 l s bM ex) (λ_=>none)) (hk:∀a' w',VS C s cX bM vm l' k a' w'->Q .normal a' w'):(Code.region id ops false).wpIn (FR none) m prog Q a w:=by
 obtain⟨M,Pr,hj,av,hM,Ic,hx⟩:=h.st;refine dK hG cV hc jN hW (C.gi hj) (λb _=>b≠bM) (o9 l s bM ex) h.size h.defers h.iw tY ?_;intro g S' H' a' w' hg R1 hK aY;refine hk a' w' (h.grow (by have:=R1.below;rwa [R1.base]at this) R1.size (by rw[R1.defers,hg]<;>rfl) (λt ht=>aY t (by simp[W4];omega)) λp hp=>?_);have Gp:=List.all_eq_true.1 hs p hp;simp only[Bool.and_eq_true,decide_eq_true_eq]at Gp;refine⟨Gp.1,Gp.2.2,?_⟩;have r:=R1.slot p.1 Gp.2.1 (λh=>h);rw[hK p hp]at r;exact(r.dA (by have:=Gp.2.2;revert this;cases p.2<;>simp[Go.AL.iG,AV.bC])).iG Gp.2.2
def VS.bool(h:VS C s cX bM ex l' k a w){t:Nat}{b:Bool}(hm:(t,AV.bool b)∈ex):a.tmps.getD t undef=.bool b:=(RV.data (al:=bU) _ _ (h.ex _ hm).2.2).fB
def VS.int(h:VS C s cX bM ex l' k a w){t:Nat}{b:Int}(hm:(t,AV.int .i64 b)∈ex):a.tmps.getD t undef=.int .i64 b:=(RV.data (al:=bU) _ _ (h.ex _ hm).2.2).int_eq
def VS.keep (h:VS C s cX bM ex l' k a w) {a':Act} {w':World} (N:Nat) (hN:4≤N) (hb:Below w.heap.size w w') (aI:a'.tmps.size=54) (cD:a'.defers=[]) (h0:∀ t,t < N→a'.tmps.getD t undef=a.tmps.getD t undef)
  (hex:ex.all (λp=>decide (p.1<N))=true):VS C s cX bM ex l' k a' w':=
 h.grow hb aI cD (λt ht=>h0 t (by omega)) λp hp=>by
  obtain⟨q1,q2,q3⟩:=h.ex p hp;have:=List.all_eq_true.1 hex p hp;rw[h0 p.1 (by simpa using this)];exact⟨q1,q2,q3.iG q2⟩
def VS.sub(h:VS C s cX bM ex l' k a w)(ZK:∀p∈vm,p∈ex):VS C s cX bM vm l' k a w:=
 ⟨h.size,h.defers,h.t0,h.t1,h.t3,λp hp=>h.ex p (ZK p hp),h.st⟩
def VS.put(h:VS C s cX bM ex l' k a w)(t:Nat)(v:Value)(ht:4<=t)(hex:ex.all (λp=>p.1 !=t)=true):VS C s cX bM ex l' k (a.put (some t) v) w:=by
 have cz:∀k,k≠t->(a.put (some t) v).tmps.getD k undef=a.tmps.getD k undef:=λk hk=>by
  simp[Act.put,Array.getElem?_setIfInBounds_ne (Ne.symm hk)]
 refine⟨by simp[Act.put,h.size],h.defers,(cz 0 (by omega)).trans h.t0,(cz 1 (by omega)).trans h.t1,(cz 3 (by omega)).trans h.t3,λp hp=>?_,h.st⟩;have:=List.all_eq_true.1 hex p hp;rw[cz p.1 (by simpa using this)];exact h.ex p hp
noncomputable def KU:ae:=ae.qb c135.qb.qa.qb.qb
noncomputable def uU:ae:=ae.qb c135.qb.qb.qb.qb.qb
def NS(hG:aw GI)(s:bo)(h:kN s):nK prog GI 135 [.ref (bj s)] ((eC s).map bq):=by
 intro l C w Pr bp hJ hlen hr;obtain⟨cX,rfl⟩:∃cX,bp=#[cX]:=j6 (by simpa using hlen.symm);have Lv:=hr 0 (by simp) (by simp);simp only[List.getElem_cons_zero,List.getElem_toArray]at Lv;refine(eA (ro:=none) (m:=0)).1 (callsIn_of_wp func135 rfl trivial ?_);refine fc (λa=>a.tmps.size=54/\a.defers=[]/\a.tmps.getD 0 undef=.func (.yield l) #[] #[]/\a.tmps.getD 1 undef=cX) ⟨by simp[ntmps135],rfl,ef _ _ 0 (by simp),ef _ _ 1 (by simp)⟩ ?_;rintro a ⟨aI,cD,e0,e1⟩
 have cz:∀(a:Act)(d t:Nat)(c:Value),t≠d->(a.put (some d) c).tmps.getD t undef=a.tmps.getD t undef:=λa d t c h=>by
  simp[Act.put,Array.getElem?_setIfInBounds_ne (Ne.symm h)]
 have eO:∀(a:Act)(d:Nat)(c:Value),a.tmps.size=54->d<54->(a.put (some d) c).tmps.getD d undef=c:=λa d c h hd=>by
  simp[Act.put,h,hd]
 have fJ:∀(a:Act)(d:Option Nat)(c:Value),(a.put d c).tmps.size=a.tmps.size:=λa d c=>by cases d<;>simp[Act.put]
 refine wpIn_seq (wpIn_region ?_);show wpOpsIn _ _ _ _ _ [0,1] a w;refine aK rfl rfl (by rfl) (run_makeMap (t:=228) rfl) ?_
 obtain⟨bM,QE⟩:∃b,w.heap.size=b:=⟨_,rfl⟩
 obtain⟨w1,ig⟩:∃w1,w.alloc (.map #[] 0)=w1:=⟨_,rfl⟩
 have s1:w1.heap.size=bM+1:=by rw[<-ig];simp[QE]
 have n1:w1.heap[bM]?=some (.map #[] 0):=by rw[<-ig,<-QE];exact World.alloc_heap_new w _
 have b1:Below w.heap.size w w1:=by rw[<-ig];exact(Below.refl _ _).alloc (Nat.le_refl _) _
 show wpOpsIn _ _ _ _ _ [1] (a.put (some 7) (.map (some w.heap.size))) (w.alloc (.map #[] 0));rw[ig,QE];have h7:(a.put (some 7) (.map (some bM))).eval (.tmp 7)=.map (some bM):=eO _ _ _ aI (by decide);refine aK rfl rfl (by rfl) (run_assign (x:=.tmp 7) w1 rfl) ?_;rw[h7];show Code.wpIn _ _ _ _ _ ((a.put (some 7) (.map (some bM))).put (some 3) (.map (some bM))) w1
 have vs:VS C s cX bM [] [] 0 ((a.put (some 7) (.map (some bM))).put (some 3) (.map (some bM))) w1:=by
  refine⟨by rw[fJ,fJ];exact aI,cD,by rw[cz _ _ _ _ (by decide),cz _ _ _ _ (by decide)];exact e0,by rw[cz _ _ _ _ (by decide),cz _ _ _ _ (by decide)];exact e1,eO _ _ _ (by rw[fJ];exact aI) (by decide),λp hp=>(by cases hp),λb=>b=bM,Pr,C.eP hJ (ft.lz b1) λb hb=>?_,λb hb=>?_,rfl,⟨#[],0,n1,rfl,λi hi=>(by simp at hi)⟩,?_⟩
  .exact⟨by omega,.inr (by omega)⟩
  .omega
  .exact(Lv.dA rfl).mono (aL.fI (λb h=>b1.block b h) λ_ _ _ h=>h)
 generalize(a.put (some 7) (.map (some bM))).put (some 3) (.map (some bM))=a1 at vs⊢;clear h7 e0 e1 cD aI n1 s1 b1 ig QE hJ hr Lv hlen a
 obtain⟨p,hp⟩:∃p:Nat,s.pos=p:=⟨s.pos.toNat,by have:=h.pos;omega⟩
 have hpt:s.pos.toNat=p:=by omega
 have iy:=h.pos;have aaj:=h.reach;have vv:=h.cells
 have Q0:kq s<=p:=by unfold kq;omega
 have uS:IntKind.i64.wrap (s.pos-s.reach)=s.pos-s.reach:=bf (by omega)
 have FN:max 0 (s.pos-s.reach)=(kq s:Int):=by unfold kq;omega
 have aam:(if s.pos-s.reach<=0 then(0:Int)else s.pos-s.reach)=(kq s:Int):=by unfold kq;split<;>omega
 refine wpIn_seq (wpIn_seq ?_);refine vs.region hG (ac:=ae.qa c135.qb.qa) (by kernel_rfl) (by kernel_rfl) (by kernel_rfl) [(4,.int .i64 (kq s))] rfl ?_ ?_
 .simp[c135,ae.qa,ae.qb,o9,List.lookup,bj,uS];exact FN
 clear vs;intro a w vs
 have Oz:VS C s cX bM [(4,.int .i64 ((kq s:Nat):Int))] (mf s (kq s)) 0 a w:=by
  have:mf s (kq s)=[]:=by simp[mf]
  rw[this];exact vs
 clear vs;show Code.wpIn _ _ _ _ _ a w;refine wpIn_block (wpIn_loop (λa w=>∃i,kq s<=i/\i<=p/\VS C s cX bM [(4,.int .i64 (i:Nat))] (mf s i) 0 a w) (λa _=>match a.tmps.getD 4 undef with|.int _ i=>p-i.toNat|_=>0) ⟨kq s,Nat.le_refl _,Q0,Oz⟩ ?_);clear Oz a w;rintro a w ⟨i,Ni,nY,vs⟩;have h4:a.tmps.getD 4 undef=.int .i64 (i:Nat):=vs.int (by simp);refine wpIn_seq (wpIn_seq ?_);refine vs.region hG (ac:=ae.qa KU.qa) (by kernel_rfl) (by kernel_rfl) (by kernel_rfl) [(4,.int .i64 (i:Nat)),(17,.bool (decide (i<p)))] rfl ?_ ?_
 .simp[c135,KU,ae.qa,ae.qb,o9,List.lookup,bj,hp]
 clear vs;intro a2 w2 vs;show Code.wpIn _ _ _ _ _ a2 w2;refine wpIn_cond (t:=decide (i<p)) (vs.bool (by simp)) ?_
 by_cases av:i<p
 case neg=>
  simp only[av,decide_false,Bool.false_eq_true,if_false];refine wpIn_exit ?_
  have XV:i=p:=by omega
  subst XV;show Code.wpIn _ _ _ _ _ a2 w2;clear Ni nY h4 av a w
  have Uh:mf s i=mf s s.pos.toNat:=by rw[hpt]
  refine wpIn_seq ?_;refine vs.region hG (ac:=ae.qa c135.qb.qb) (by kernel_rfl) (by kernel_rfl) (by kernel_rfl) [(5,.int .i64 0)] rfl ?_ ?_
  .simp[c135,ae.qa,ae.qb,o9,List.lookup]
  clear vs;intro a w vs;show Code.wpIn _ _ _ _ _ a w;have Sj:IntKind.i64.wrap ((s.cells.length:Int)+1)=s.cells.length+1:=bf (by omega);refine wpIn_seq ?_;refine vs.region hG (ac:=ae.qa c135.qb.qb.qb) (by kernel_rfl) (by kernel_rfl) (by kernel_rfl) [(5,.int .i64 ((0:Nat):Int)),(32,.int .i64 (s.cells.length+1)),(33,.int .i64 ((0:Nat):Int))] rfl ?_ ?_
  .simp[c135,ae.qa,ae.qb,o9,List.lookup,bj,Sj]
  clear vs;intro a w vs;show Code.wpIn _ _ _ _ _ a w;refine wpIn_block (wpIn_loop (λa w=>∃j,j<=s.cells.length+1/\VS C s cX bM [(5,.int .i64 ((dp s j).1:Nat)),(32,.int .i64 (s.cells.length+1)),(33,.int .i64 (j:Nat))] (mf s i) (dp s j).2.length a w) (λa _=>match a.tmps.getD 33 undef with|.int _ j=>s.cells.length+1-j.toNat|_=>0) ⟨0,Nat.zero_le _,vs⟩ ?_);clear vs a w;rintro a w ⟨j,hj,vs⟩;have PI:a.tmps.getD 33 undef=.int .i64 (j:Nat):=vs.int (by simp);refine wpIn_seq ?_;refine vs.region hG (ac:=ae.qa uU) (by kernel_rfl) (by kernel_rfl) (by kernel_rfl) [(5,.int .i64 ((dp s j).1:Nat)),(32,.int .i64 (s.cells.length+1)),(33,.int .i64 (j:Nat)),(34,.bool (decide (j<s.cells.length+1)))] rfl ?_ ?_
  .simp[c135,uU,ae.qa,ae.qb,o9,List.lookup];omega
  clear vs;intro a3 w3 vs;show Code.wpIn _ _ _ _ _ a3 w3;refine wpIn_seq (wpIn_cond (t:=decide (j<s.cells.length+1)) (vs.bool (by simp)) ?_)
  by_cases wU:j<s.cells.length+1
  case neg=>
   simp only[wU,decide_false,Bool.false_eq_true,if_false];refine wpIn_exit ?_
   have Pv:j=s.cells.length+1:=by omega
   subst Pv
   change bodyPost prog f135 (λe w'=>∃v M dB,e=Ending.returned v/\(C.J (List.map bq (eC s)).length M dB w'\/C.X M dB w')) .normal a3 w3
   obtain⟨M,dB,c_,_⟩:=vs.st
   have hl:((eC s).map bq).length=(dp s (s.cells.length+1)).2.length:=by simp[eC,fm,dp]
   refine⟨vs.defers,.tuple #[],?_,.tuple #[],M,dB,rfl,.inl (by rw[hl];exact c_)⟩;simp[results,results135]
  simp only[wU,decide_true,if_true];refine wpIn_skip ?_;show Code.wpIn _ _ _ _ _ a3 w3;refine wpIn_seq (wpIn_mono (Q:=λe a w=>(e=.normal/\VS C s cX bM [(5,.int .i64 ((dp s (j+1)).1:Nat)),(32,.int .i64 (s.cells.length+1)),(33,.int .i64 (j:Nat))] (mf s i) (dp s (j+1)).2.length a w)\/(e=.ret/\a.defers=[]/\∃M Pr,C.X M Pr w)) ?_ ?_)
  .refine wpIn_block ?_;refine wpIn_seq ?_;refine vs.region hG (ac:=ae.qa uU.qb.qb.qa.qb) (by kernel_rfl) (by kernel_rfl) (by kernel_rfl) [(5,.int .i64 ((dp s j).1:Nat)),(32,.int .i64 (s.cells.length+1)),(33,.int .i64 (j:Nat)),(6,.int .i64 (j:Nat))] rfl ?_ ?_
   .simp[c135,uU,ae.qa,ae.qb,o9,List.lookup]
   clear vs;intro a4 w4 vs;show Code.wpIn _ _ _ _ _ a4 w4;refine wpIn_seq (wpIn_seq ?_);obtain⟨M,dB,c_,rk,hM,⟨es,clock,hm,he⟩,hx⟩:=vs.st
   refine mP hG (GI:=GI) (p:=2) (l2:=[2]) rfl (by kernel_rfl) (by kernel_rfl) (l:=(uU.qb.qb.qa.qb.qb.qa.qa.dl).take 2) (by kernel_rfl) (by decide) (W:=λt=>decide (36<=t)) (by kernel_rfl) (C.gi c_) (λb _=>b≠bM) (o9 l s bM [(5,.int .i64 ((dp s j).1:Nat)),(32,.int .i64 (s.cells.length+1)),(33,.int .i64 (j:Nat)),(6,.int .i64 (j:Nat))]) vs.size vs.defers vs.iw
    (K:=λS _=>S 36=.val (Eb bM)/\S 37=.int .i64 (j:Nat)) ?_ ?_
   .simp[c135,uU,ae.qa,ae.qb,ae.dl,o9,List.lookup]
   intro g S' H' a5 w5 hg R1 ⟨V9,Xz⟩ aY
   have Vh:Below w4.heap.size w4 w5:=by have:=R1.below;rwa [R1.base]at this
   have ZU:a5.eval (.tmp 36)=.map (some bM):=by
    have:=R1.slot 36 (by decide) (λh=>h);rw[V9]at this;exact this.gp
   have e37:a5.eval (.tmp 37)=.int .i64 (j:Nat):=eR R1 (by decide) Xz;have D9:=vs.keep 36 (by decide) Vh R1.size (by rw[R1.defers,hg]<;>rfl) (λt ht=>aY t (by simp;omega)) rfl;have Xv:w5.heap[bM]?=some (.map es clock):=(Vh.block bM (rk bM hM)).trans hm
   have BO:prog.underlying 228=some (.map 3 4):=by kernel_rfl
   have UR:prog.underlying 3=some (.int .i64):=by kernel_rfl
   obtain⟨i4,T6,Uv⟩:=Option.bind_eq_some_iff.1 (show(prog.info? 4).bind (·.zero)=some (.bool false) by kernel_rfl);refine aK rfl rfl (by rfl) (v:=.bool (fE s j)) (w':=w5) ((DP (t:=228) (x1:=.tmp 36) (x2:=.tmp 37) rfl BO UR T6 Uv ZU e37 Xv he).trans (congrArg (λv=>Result.ok (Next.value v) w5) (by rw[Uh];exact JI s (by omega) j))) ?_;show Code.wpIn _ _ _ _ _ (a5.put (some 38) (.bool (fE s j))) w5;have nV:=D9.put 38 (.bool (fE s j)) (by decide) rfl;have Jl:(a5.put (some 38) (.bool (fE s j))).tmps.getD 38 undef=.bool (fE s j):=eO _ _ _ D9.size (by decide);generalize a5.put (some 38) (.bool (fE s j))=a6 at nV Jl⊢;clear vs D9 c_ rk hM hm he hx M dB es clock Vh R1 aY hg V9 Xz ZU e37 Xv;refine wpIn_cond (t:=fE s j) Jl ?_
   cases Y8:fE s j with
   |true=>
    simp only[if_true]
    have hf:dp s (j+1)=dp s j:=by rw[nt];unfold ez;rw[if_pos Y8]
    refine wpIn_exit (.inl ⟨rfl,?_⟩);rw[hf]
    exact nV.sub λq hq=>by simp at hq⊢;rcases hq with rfl|rfl|rfl<;>simp
   |false=>
    simp only[Bool.false_eq_true,if_false];refine wpIn_skip ?_;show Code.wpIn _ _ _ _ _ a6 w5;have sy:=Ch s j
    have hf:dp s (j+1)=(j+1,if(dp s j).1<j then(dp s j).2++[((dp s j).1,j-1)]else(dp s j).2):=by
     rw[nt];unfold ez;rw[if_neg (by rw[Y8];simp)]
    refine wpIn_seq (wpIn_mono (Q:=λe a w=>(e=.normal/\VS C s cX bM [(5,.int .i64 ((dp s j).1:Nat)),(32,.int .i64 (s.cells.length+1)),(33,.int .i64 (j:Nat)),(6,.int .i64 (j:Nat))] (mf s i) (dp s (j+1)).2.length a w)\/(e=.ret/\a.defers=[]/\∃M Pr,C.X M Pr w)) ?_ ?_)
    .refine wpIn_seq ?_
     by_cases PT:(dp s j).1<j
     case neg=>
      have FQ:(dp s (j+1)).2=(dp s j).2:=by rw[hf];simp[PT]
      refine nV.region hG (ac:=ae.qa uU.qb.qb.qa.qb.qb.qb.qa) (by kernel_rfl) (by kernel_rfl) (by kernel_rfl) [(5,.int .i64 ((dp s j).1:Nat)),(32,.int .i64 (s.cells.length+1)),(33,.int .i64 (j:Nat)),(6,.int .i64 (j:Nat)),(50,.bool false)] rfl ?_ ?_
      .have:¬((dp s j).1:Int)<j:=by omega
       simp[c135,uU,ae.qa,ae.qb,o9,List.lookup,PT]
      intro a7 w7 yr;show Code.wpIn _ _ _ _ _ a7 w7;refine wpIn_cond (t:=false) (yr.bool (by simp)) ?_;simp only[Bool.false_eq_true,if_false];refine wpIn_skip (.inl ⟨rfl,?_⟩);rw[FQ]
      exact yr.sub λq hq=>by simp at hq⊢;rcases hq with rfl|rfl|rfl|rfl<;>simp
     case pos=>
      have FQ:(dp s (j+1)).2=(dp s j).2++[((dp s j).1,j-1)]:=by rw[hf];simp[PT]
      obtain⟨M,dB,c_,rk,hM,⟨es,clock,hm,he⟩,hx⟩:=nV.st
      have Vl:IntKind.i64.wrap ((j:Int)-1)=((j-1:Nat):Int):=by rw[bf (by omega)];omega
      have km:((dp s j).1:Int)<j:=by omega
      refine mP hG (GI:=GI) (p:=9) (l2:=[9,10,11]) rfl (by kernel_rfl) (by kernel_rfl) (l:=(uU.qb.qb.qa.qb.qb.qb.qa.qa.dl).take 9) (by kernel_rfl) (by decide) (W:=λt=>decide (39<=t)) (by kernel_rfl) (C.gi c_) (λb _=>b≠bM) (o9 l s bM [(5,.int .i64 ((dp s j).1:Nat)),(32,.int .i64 (s.cells.length+1)),(33,.int .i64 (j:Nat)),(6,.int .i64 (j:Nat))]) nV.size nV.defers nV.iw
       (K:=λS _=>S 42=.bool true/\S 43=.val (.func (.yield l) #[] #[])/\S 47=.agg [.int .i64 ((dp s j).1:Nat),.int .i64 ((j-1:Nat):Int)]) ?_ ?_
      .simp[c135,uU,ae.qa,ae.qb,ae.dl,o9,List.lookup,PT,Vl,cL]
      intro g S' H' a7 w7 hg R1 ⟨WO,WH,WL⟩ aY
      have VY:Below w5.heap.size w5 w7:=by have:=R1.below;rwa [R1.base]at this
      have Fo:a7.tmps.getD 42 undef=.bool true:=by
       have:=R1.slot 42 (by decide) (λh=>h);rw[WO]at this;exact this.fB
      have LC:a7.eval (.tmp 43)=.func (.yield l) #[] #[]:=by
       have:=R1.slot 43 (by decide) (λh=>h);rw[WH]at this;exact this.gp
      have e47:a7.eval (.tmp 47)=.agg #[.int .i64 ((dp s j).1:Nat),.int .i64 ((j-1:Nat):Int)]:=by
       have:=R1.slot 47 (by decide) (λh=>h);rw[WL]at this;exact sc this
      have yr:=nV.keep 39 (by decide) VY R1.size (by rw[R1.defers,hg]<;>rfl) (λt ht=>aY t (by simp;omega)) rfl;clear nV c_ rk hM hm he hx M dB es clock VY R1 aY hg WO WH WL Jl;obtain⟨M,dB,c_,rk,hM,⟨es,clock,hm,he⟩,hx⟩:=yr.st;have SQ:=yr.size
      have Kf:a7.tmps[42]?=some (.bool true):=by
       have h2:a7.tmps[42]?=some (a7.tmps.getD 42 undef):=by simp[SQ]
       rw[h2,Fo]
      obtain⟨tl,GN⟩:=Ai s (s.cells.length+1-(j+1)) (j+1);rw[show j+1+(s.cells.length+1-(j+1))=s.cells.length+1 by omega,FQ]at GN
      have iC:(eC s).map bq=((dp s (s.cells.length+1)).2.map λv=>bq ((v.1:Int),(v.2:Int))):=by simp[eC,fm,dp]
      have Ar:(dp s j).2.length<((eC s).map bq).length:=by
       rw[iC,GN];simp
      have ui:((eC s).map bq)[(dp s j).2.length]=bq (((dp s j).1:Int),((j-1:Nat):Int)):=by
       have:((eC s).map bq)[(dp s j).2.length]?=some (bq (((dp s j).1:Int),((j-1:Nat):Int))):=by
        rw[iC,GN];simp
       rw[List.getElem?_eq_getElem Ar]at this;exact Option.some.inj this
      have df:RD (λb j=>dB b j\/((λ_=>False) b/\j<(λ_=>0) b)) w7 ((eC s).map bq)[(dp s j).2.length] (a7.eval (.tmp 47)):=by
       rw[ui,e47];refine .agg _ _ rfl (λi hi=>?_) (λi hi ck=>?_)
       .match i,hi with
        |0,_|1,_=>rfl
       .match i,hi with
        |0,_|1,_=>exact .int _ _
      obtain⟨ff,tmps,NJ,bd,Ax,qn⟩:=C.round Ar (λ_=>False) (λ_=>0) _ c_ (λb hb=>hb.elim) df;refine E7 rfl (by simp[Region.wanted,yielded,rO,Kf]) (by rfl) ((mC (f:=.tmp 43) (x:=.tmp 47) w7 rfl rfl rfl LC).trans Ax) qn ?_;rintro e w8 ⟨hs8,Pr8,tZ,nr⟩
      have TN:(dp s (j+1)).2.length=(dp s j).2.length+1:=by rw[FQ];simp
      obtain⟨b,rfl,hT,hF⟩:∃b:Bool,e=.returned (.bool b)/\(b=true->VS C s cX bM [(5,.int .i64 ((dp s j).1:Nat)),(32,.int .i64 (s.cells.length+1)),(33,.int .i64 (j:Nat)),(6,.int .i64 (j:Nat))] (mf s i) (dp s (j+1)).2.length a7 w8)/\(b=false->∃M Pr,C.X M Pr w8):=by
       rcases nr with⟨rfl,hj8⟩|⟨rfl,hX8⟩
       .refine⟨true,rfl,λ_=>?_,λh=>(by cases h)⟩
        have J4:∀b,M b->w8.heap[b]?=w7.heap[b]?:=λb hb=>hs8 b hb (λh=>h)
        refine⟨yr.size,yr.defers,yr.t0,yr.t1,yr.t3,λq hq=>?_,λb=>M b/\¬(λ_=>False) b,Pr8,by rw[TN];exact hj8,λb hb=>?_,⟨hM,λh=>h⟩,⟨es,clock,(J4 bM hM).trans hm,he⟩,hx.mono tZ⟩
        .obtain⟨q1,q2,q3⟩:=yr.ex q hq;exact⟨q1,q2,q3.iG q2⟩
        .have h1:=J4 b hb.1;rw[Array.getElem?_eq_getElem (rk b hb.1)]at h1;exact(Array.getElem?_eq_some_iff.1 h1).1
       .exact⟨false,rfl,λh=>(by cases h),λ_=>⟨_,_,hX8⟩⟩
      refine⟨_,rfl,?_⟩;show wpOpsIn _ _ _ _ _ [10,11] (a7.put (some 48) (.bool b)) w8
      have z8:(a7.put (some 48) (.bool b)).tmps.size=54:=by rw[fJ];exact SQ
      have Um:(a7.put (some 48) (.bool b)).eval (.tmp 48)=.bool b:=eO _ _ _ SQ (by decide)
      have h42:(a7.put (some 48) (.bool b)).tmps[42]?=some (.bool true):=by
       have h2:(a7.put (some 48) (.bool b)).tmps[42]?=some ((a7.put (some 48) (.bool b)).tmps.getD 42 undef):=by simp[z8]
       rw[h2,cz _ _ _ _ (by decide),Fo]
      refine Af rfl (by simp[Region.wanted,yielded,rO,h42]) (by rfl) (L6 (x:=.tmp 48) rfl Um) ?_;show wpOpsIn _ _ _ _ _ [11] ((a7.put (some 48) (.bool b)).put (some 49) (.bool !b)) w8;have h49:((a7.put (some 48) (.bool b)).put (some 49) (.bool !b)).eval (.tmp 49)=.bool !b:=eO _ _ _ z8 (by decide)
      have Xw:((a7.put (some 48) (.bool b)).put (some 49) (.bool !b)).eval (.tmp 42)=.bool true:=by
       show Array.getD _ _ _=_;rw[cz _ _ _ _ (by decide),cz _ _ _ _ (by decide),Fo]
      have z9:((a7.put (some 48) (.bool b)).put (some 49) (.bool !b)).tmps.size=54:=by rw[fJ];exact z8
      have hpk:∀o:Oper,o.op=.pick (.tmp 42) (.tmp 49) (.const (.bool false))->(execOp ((a7.put (some 48) (.bool b)).put (some 49) (.bool !b)).eval o).run prog w8=.ok (.value (.bool !b)) w8:=by
       intro o ho;unfold execOp;simp[ho,Xw,h49,asBool]
      refine aK rfl rfl (by rfl) (hpk _ rfl) ?_;show Code.wpIn _ _ _ _ _ (((a7.put (some 48) (.bool b)).put (some 49) (.bool !b)).put (some 50) (.bool !b)) w8;refine wpIn_cond (t:=!b) (eO _ _ _ z9 (by decide)) ?_
      cases b with
      |true=>
       simp only[Bool.not_true,Bool.false_eq_true,if_false];exact wpIn_skip (.inl ⟨rfl,(((hT rfl).put 48 _ (by decide) rfl).put 49 _ (by decide) rfl).put 50 _ (by decide) rfl⟩)
      |false=>
       simp only[Bool.not_false,if_true];exact wpIn_ret (.inr ⟨rfl,yr.defers,hF rfl⟩)
    .rintro e a w (⟨rfl,vs⟩|⟨rfl,hd,M,dB,hX⟩)
     .show Code.wpIn _ _ _ _ _ a w
      refine vs.region hG (ac:=ae.qb uU.qb.qb.qa.qb.qb.qb) (by kernel_rfl) (by kernel_rfl) (by kernel_rfl) [(5,.int .i64 ((dp s (j+1)).1:Nat)),(32,.int .i64 (s.cells.length+1)),(33,.int .i64 (j:Nat))] rfl ?_ λa w vs=>.inl ⟨rfl,vs⟩
      have hw:IntKind.i64.wrap ((j:Int)+1)=j+1:=bf (by omega);simp[c135,uU,ae.qa,ae.qb,o9,List.lookup,hw,hf]
     .exact .inr ⟨rfl,hd,M,dB,hX⟩
  .rintro e a w (⟨rfl,vs⟩|⟨rfl,hd,M,dB,hX⟩)
   .show Code.wpIn _ _ _ _ _ a w;refine vs.region hG (ac:=ae.qb uU.qb.qb) (by kernel_rfl) (by kernel_rfl) (by kernel_rfl) [(5,.int .i64 ((dp s (j+1)).1:Nat)),(32,.int .i64 (s.cells.length+1)),(33,.int .i64 ((j+1:Nat):Int))] rfl ?_ ?_
    .have hw:IntKind.i64.wrap ((j:Int)+1)=j+1:=bf (by omega);simp[c135,uU,ae.qa,ae.qb,o9,List.lookup,hw]
    intro a5 w5 D9;have Z':a5.tmps.getD 33 undef=.int .i64 ((j+1:Nat):Int):=D9.int (by simp);refine⟨⟨j+1,by omega,D9⟩,?_⟩;simp only[Z',PI];simp;omega
   .change bodyPost prog f135 (λe w'=>∃v M dB,e=Ending.returned v/\(C.J (List.map bq (eC s)).length M dB w'\/C.X M dB w')) .ret a w
    refine⟨hd,.tuple #[],?_,.tuple #[],M,dB,rfl,.inr hX⟩;simp[results,results135]
 case pos=>
  simp only[av,decide_true,if_true];refine wpIn_skip ?_;show Code.wpIn _ _ _ _ _ a2 w2
  have hic:i<s.cells.length:=by omega
  have Yk:rC s i=s.cells[i].Td:=by unfold rC;rw[List.getElem?_eq_getElem hic]
  refine wpIn_seq (wpIn_block ?_);obtain⟨M,Pr,hj,rk,hM,⟨es,clock,hm,he⟩,hx⟩:=vs.st
  refine mP hG (GI:=GI) (p:=9) (l2:=[9]) rfl (by kernel_rfl) (by kernel_rfl) (l:=(KU.qb.qa.qb.dl).take 9) (by kernel_rfl) (by decide) (W:=W4) (by kernel_rfl) (C.gi hj) (λb _=>b≠bM) (o9 l s bM [(4,.int .i64 (i:Nat)),(17,.bool (decide (i<p)))]) vs.size vs.defers vs.iw
   (K:=λS _=>S 20=.val (Eb bM)/\S 21=.int .i64 (i:Nat)/\S 28=.bool (!rC s i)/\S 4=.int .i64 (i:Nat)) ?_ ?_
  .simp[c135,KU,ae.qa,ae.qb,ae.dl,o9,List.lookup,bj,hic,Yk,oW]
  intro g S' H' a3 w3 hg R1 ⟨q20,Z4,Wm,q4⟩ aY
  have oA:Below w2.heap.size w2 w3:=by have:=R1.below;rwa [R1.base]at this
  have Nb:a3.eval (.tmp 20)=.map (some bM):=by
   have:=R1.slot 20 (by decide) (λh=>h);rw[q20]at this;exact this.gp
  have Tc:a3.eval (.tmp 21)=.int .i64 (i:Nat):=eR R1 (by decide) Z4
  have NZ:a3.eval (.tmp 28)=.bool (!rC s i):=by
   have:=R1.slot 28 (by decide) (λh=>h);rw[Wm]at this;exact this.fB
  have e4:a3.tmps.getD 4 undef=.int .i64 (i:Nat):=eR R1 (by decide) q4
  have tE:VS C s cX bM [(4,.int .i64 (i:Nat))] (mf s i) 0 a3 w3:=vs.grow oA R1.size (by rw[R1.defers,hg]<;>rfl) (λt ht=>aY t (by simp[W4];omega)) λq hq=>by
   rw[List.mem_singleton]at hq;subst hq;exact⟨Nat.le_refl _,rfl,by rw[e4];exact .int _ _⟩
  clear vs hj rk hM hm he hx M Pr es clock oA R1 aY hg q20 Z4 Wm q4;obtain⟨M,Pr,hj,rk,hM,⟨es,clock,hm,he⟩,hx⟩:=tE.st
  have BO:prog.underlying 228=some (.map 3 4):=by kernel_rfl
  have UR:prog.underlying 3=some (.int .i64):=by kernel_rfl
  refine dh rfl rfl (by rfl) (DZ (t:=228) (x1:=.tmp 20) (x2:=.tmp 21) (x3:=.tmp 28) rfl BO UR Nb Tc hm he (L8 s)) ?_;rw[NZ]
  obtain⟨w4,ib⟩:∃w4,w3.putObj bM (.map (es.push { key:=.int .i64 (i:Nat),val:=.bool (!rC s i),born:=clock }) (clock+1))=w4:=⟨_,rfl⟩
  show Code.wpIn _ _ _ _ _ a3 (w3.putObj bM (.map (es.push { key:=.int .i64 (i:Nat),val:=.bool (!rC s i),born:=clock }) (clock+1)));rw[ib];have RS:=rk bM hM
  have jK:w4.heap[bM]?=some (.map (es.push { key:=.int .i64 (i:Nat),val:=.bool (!rC s i),born:=clock }) (clock+1)):=by rw[<-ib];exact World.putObj_heap_same RS
  have nj:ft M w3 w4:=by
   rw[<-ib];exact⟨rfl,rfl,rfl,by simp[World.putObj],λb _ hb=>World.putObj_heap_other (by rintro rfl;exact hb hM)⟩
  have FX:w4.heap.size=w3.heap.size:=by rw[<-ib];simp[World.putObj]
  have vs4:VS C s cX bM [(4,.int .i64 (i:Nat))] (mf s (i+1)) 0 a3 w4:=by
   refine⟨tE.size,tE.defers,tE.t0,tE.t1,tE.t3,λq hq=>?_,M,Pr,C.eP hj nj λb hb=>⟨by rw[FX];exact rk b hb,.inl hb⟩,λb hb=>by rw[FX];exact rk b hb,hM,⟨_,_,jK,?_⟩,hx.mono (aL.iO λb k _ hp=>nj.block b ?_ ?_)⟩
   .obtain⟨q1,q2,q3⟩:=tE.ex q hq;exact⟨q1,q2,q3.iG q2⟩
   .rw[IX s Ni];exact he.push (i:Int) (.bool (!rC s i)) clock
   .assumption
   .intro hmb;exact C.apart hj _ k hmb hp
  refine vs4.region hG (ac:=ae.qb KU.qb) (by kernel_rfl) (by kernel_rfl) (by kernel_rfl) [(4,.int .i64 ((i+1:Nat):Int))] rfl ?_ ?_
  .have hw:IntKind.i64.wrap ((i:Int)+1)=i+1:=bf (by omega);simp[c135,KU,ae.qa,ae.qb,o9,List.lookup,hw]
  intro a5 w5 D9;have Sr:a5.tmps.getD 4 undef=.int .i64 ((i+1:Nat):Int):=D9.int (by simp);refine⟨⟨i+1,by omega,by omega,D9⟩,?_⟩;simp only[Sr,h4];simp;omega
end Go.Proofs.Tryz
namespace Go.Proofs.Tryz
open Go Go.AL Go.RowKit Go.Proofs Go.Proofs.Tram
attribute [local simp] dI eb dP db dG cI cJ cb cd dE b_ bL fk fj ar ao ev aD.S aD.H a_ aq aH AL.start AV.cells AV.storable AV.bm aR aT ee aZ HR.okB post cn ct cw AV.out AV.bC bz bW fz fM AV.vw bR vI int bG aB cS cg fS gL dL cG aU AV.aA AV.bF
variable{GI:World->Prop}
def RW(hG:aw GI)(l:List Int)(hl:l.length<100000)(h:∀x∈l,0<=x/\x<=1000):AC prog GI 58 [vI l] (.ret (.int .i64 l.sum)):=by
 refine dM hG func58 ntmps58 c58 ?_;simp[c58,dI,eb,dP,db,dG,cI,cJ,cb,cd,dE,b_,bL,fk,fj,ar,ao,ev,aD.S,aD.H,a_,aq,aH,AL.start,AV.aA,AV.cells,AV.storable,AV.bm,aR,aT,ee,aZ,HR.okB,post,cn,ct,cw,AV.out,AV.bC,bz,bW,fz,fM,AV.vw,AV.bF,bR,vI,int,bG,aB,cS,cg,fS,gL,dL,cG,aU];refine dg 8 l.length (λi S H=>S 6=vI l/\S 7=.int .i64 l.length/\S 8=.int .i64 (i:Nat)/\S 3=.int .i64 (l.take i).sum) (λi S H h=>h.2.2.1) ⟨by simp[dI,eb,dP,db,dG,cI,cJ,cb,cd,dE,b_,bL,fk,fj,ar,ao,ev,aD.S,aD.H,a_,aq,aH,AL.start,AV.aA,AV.cells,AV.storable,AV.bm,aR,aT,ee,aZ,HR.okB,post,cn,ct,cw,AV.out,AV.bC,bz,bW,fz,fM,AV.vw,AV.bF,bR,vI,int,bG,aB,cS,cg,fS,gL,dL,cG,aU],by simp[dI,eb,dP,db,dG,cI,cJ,cb,cd,dE,b_,bL,fk,fj,ar,ao,ev,aD.S,aD.H,a_,aq,aH,AL.start,AV.aA,AV.cells,AV.storable,AV.bm,aR,aT,ee,aZ,HR.okB,post,cn,ct,cw,AV.out,AV.bC,bz,bW,fz,fM,AV.vw,AV.bF,bR,vI,int,bG,aB,cS,cg,fS,gL,dL,cG,aU],by simp[dI,eb,dP,db,dG,cI,cJ,cb,cd,dE,b_,bL,fk,fj,ar,ao,ev,aD.S,aD.H,a_,aq,aH,AL.start,AV.aA,AV.cells,AV.storable,AV.bm,aR,aT,ee,aZ,HR.okB,post,cn,ct,cw,AV.out,AV.bC,bz,bW,fz,fM,AV.vw,AV.bF,bR,vI,int,bG,aB,cS,cg,fS,gL,dL,cG,aU],by simp[dI,eb,dP,db,dG,cI,cJ,cb,cd,dE,b_,bL,fk,fj,ar,ao,ev,aD.S,aD.H,a_,aq,aH,AL.start,AV.aA,AV.cells,AV.storable,AV.bm,aR,aT,ee,aZ,HR.okB,post,cn,ct,cw,AV.out,AV.bC,bz,bW,fz,fM,AV.vw,AV.bF,bR,vI,int,bG,aB,cS,cg,fS,gL,dL,cG,aU]⟩ ?_;rintro i hi S H ⟨s6,s7,s8,s3⟩
 by_cases av:i<l.length
 .have hb:=sX (l:=l.take i) λx hx=>h x (List.mem_of_mem_take hx)
  have hx:=h l[i] (List.getElem_mem av);rw[List.length_take]at hb;have hw:IntKind.i64.wrap ((i:Int)+1)=i+1:=bf (by omega);have kc:IntKind.i64.wrap ((l.take i).sum+l[i])=(l.take i).sum+l[i]:=bf (by omega);rw[B0 av];generalize(l.take i).sum=y at s3 kc⊢;simp[dI,eb,dP,db,dG,cI,cJ,cb,cd,dE,b_,bL,fk,fj,ar,ao,ev,aD.S,aD.H,a_,aq,aH,AL.start,AV.aA,AV.cells,AV.storable,AV.bm,aR,aT,ee,aZ,HR.okB,post,cn,ct,cw,AV.out,AV.bC,bz,bW,fz,fM,AV.vw,AV.bF,bR,vI,int,bG,aB,cS,cg,fS,gL,dL,cG,aU,s6,s7,s8,s3,av,hw,kc]
 .have dN:i=l.length:=by omega
  subst dN;rw[List.take_length]at s3;simp[dI,eb,dP,db,dG,cI,cJ,cb,cd,dE,b_,bL,fk,fj,ar,ao,ev,aD.S,aD.H,a_,aq,aH,AL.start,AV.aA,AV.cells,AV.storable,AV.bm,aR,aT,ee,aZ,HR.okB,post,cn,ct,cw,AV.out,AV.bC,bz,bW,fz,fM,AV.vw,AV.bF,bR,vI,int,bG,aB,cS,cg,fS,gL,dL,cG,aU,s6,s7,s8,s3]
def gk(l:List Int)(i:Nat):Int:=l.getD i 0
def G1(l:List Int){a b:Nat}(H_:a<=b)(hb:b<=l.length):((l.take b).drop a).sum=jj (gk l) a b:=by
 unfold jj
 congr 1
 apply List.ext_getElem?;intro i;rw[List.getElem?_map]
 by_cases hi:i<b-a
 .rw[List.getElem?_drop,List.getElem?_take_of_lt (by omega),List.getElem?_eq_getElem (by omega),List.getElem?_eq_getElem (by simpa using hi)];simp[gk,List.getD_eq_getElem?_getD,show a+i<l.length by omega]
 .rw[List.getElem?_eq_none (by simp;omega),List.getElem?_eq_none (by simp;omega)]
  rfl
def Ri(hG:aw GI)(s:bo):AC prog GI 62 [g_ s] (.ret (.func (.func 135) [] [.ref (bj s)])):=by
 refine AC.wH hG cV func62 rfl ntmps62 (by simp) (ac:=c62) (by kernel_rfl) ?_;simp[c62,g_,bj,an,bD,bg,ar,aM,ao,cS,ev,aD.S,aD.H,aq,aH,AL.start,AV.aA,AV.cells,AV.storable,aT,iQ,a_,vI];refine⟨2,.func 135,[],[.box 1 0],rfl,by decide,by simp[aq],?_⟩;simp[aq,fz,fM,AV.bF]
def ME:ae:=.ops [⟨(some 6),none,.alloc 33 [(.int .i64 0),(.int .i64 0)]⟩,⟨none,none,.store .any 2 (.t 6) (.t 11)⟩]
def OS : ae := .block 1 <| .seq (.ops [⟨(some 12), none, .load .any false 1 (.t 3)⟩,
    ⟨(some 13),none,.fieldAddr 0 (.t 6)⟩,
    ⟨(some 14),none,.load .any false 1 (.t 13)⟩,
    ⟨(some 15),none,.fieldAddr 1 (.t 6)⟩,
    ⟨(some 16),none,.load .any false 1 (.t 15)⟩,
    ⟨(some 17),none,.bin .add (.t 16) (.c (.int .i64 1))⟩,
    ⟨(some 18),none,.lZ 1 (.t 12) (some (.t 14)) (some (.t 17))⟩,
    ⟨(some 19),none,.call 58 [(.t 18)]⟩,
    ⟨(some 7),none,.mv true (.t 19)⟩])<|
  .block 2<|.loop<|
   .seq (.seq (.ops [⟨(some 20),none,.load .any false 1 (.t 5)⟩,
     ⟨(some 21),none,.fieldAddr 15 (.t 2)⟩,
     ⟨(some 22),none,.load .any false 1 (.t 21)⟩,
     ⟨(some 23),none,.pn (.t 22)⟩,
     ⟨(some 24),none,.bin .lss (.t 20) (.t 23)⟩,
     ⟨(some 25),none,.mv false (.t 24)⟩,
     ⟨(some 26),(some (25,true)),.fieldAddr 15 (.t 2)⟩,
     ⟨(some 27),(some (25,true)),.load .any false 1 (.t 26)⟩,
     ⟨(some 28),(some (25,true)),.load .any false 1 (.t 5)⟩,
     ⟨(some 29),(some (25,true)),.indexAddr 1 (.t 27) (.t 28)⟩,
     ⟨(some 30),(some (25,true)),.load .any false 1 (.t 29)⟩,
     ⟨(some 31),(some (25,true)),.mv false (.t 7)⟩,
     ⟨(some 32),(some (25,true)),.bin .leq (.t 30) (.t 31)⟩,
     ⟨(some 33),none,.pick (.t 25) (.t 32) (.c (.bool false))⟩])<|
   .cond (.t 33)
    (.skip)
    (.exit 2))<|
   .block 3 <| .seq (.ops [⟨(some 34),none,.mv false (.t 7)⟩,
      ⟨(some 35),none,.fieldAddr 15 (.t 2)⟩,
      ⟨(some 36),none,.load .any false 1 (.t 35)⟩,
      ⟨(some 37),none,.load .any false 1 (.t 5)⟩,
      ⟨(some 38),none,.indexAddr 1 (.t 36) (.t 37)⟩,
      ⟨(some 39),none,.load .any false 1 (.t 38)⟩,
      ⟨(some 40),none,.bin .sub (.t 34) (.t 39)⟩,
      ⟨(some 7),none,.mv true (.t 40)⟩])<|
    .ops [⟨(some 41),none,.load .any false 1 (.t 5)⟩,
      ⟨(some 42),none,.bin .add (.t 41) (.c (.int .i64 1))⟩,
      ⟨none,none,.store .any 1 (.t 5) (.t 42)⟩]
def KJ:ae :=
   .seq (.seq (.ops [⟨(some 20),none,.load .any false 1 (.t 5)⟩,
     ⟨(some 21),none,.fieldAddr 15 (.t 2)⟩,
     ⟨(some 22),none,.load .any false 1 (.t 21)⟩,
     ⟨(some 23),none,.pn (.t 22)⟩,
     ⟨(some 24),none,.bin .lss (.t 20) (.t 23)⟩,
     ⟨(some 25),none,.mv false (.t 24)⟩,
     ⟨(some 26),(some (25,true)),.fieldAddr 15 (.t 2)⟩,
     ⟨(some 27),(some (25,true)),.load .any false 1 (.t 26)⟩,
     ⟨(some 28),(some (25,true)),.load .any false 1 (.t 5)⟩,
     ⟨(some 29),(some (25,true)),.indexAddr 1 (.t 27) (.t 28)⟩,
     ⟨(some 30),(some (25,true)),.load .any false 1 (.t 29)⟩,
     ⟨(some 31),(some (25,true)),.mv false (.t 7)⟩,
     ⟨(some 32),(some (25,true)),.bin .leq (.t 30) (.t 31)⟩,
     ⟨(some 33),none,.pick (.t 25) (.t 32) (.c (.bool false))⟩])<|
   .cond (.t 33)
    (.skip)
    (.exit 2))<|
   .block 3 <| .seq (.ops [⟨(some 34),none,.mv false (.t 7)⟩,
      ⟨(some 35),none,.fieldAddr 15 (.t 2)⟩,
      ⟨(some 36),none,.load .any false 1 (.t 35)⟩,
      ⟨(some 37),none,.load .any false 1 (.t 5)⟩,
      ⟨(some 38),none,.indexAddr 1 (.t 36) (.t 37)⟩,
      ⟨(some 39),none,.load .any false 1 (.t 38)⟩,
      ⟨(some 40),none,.bin .sub (.t 34) (.t 39)⟩,
      ⟨(some 7),none,.mv true (.t 40)⟩])<|
    .ops [⟨(some 41),none,.load .any false 1 (.t 5)⟩,
      ⟨(some 42),none,.bin .add (.t 41) (.c (.int .i64 1))⟩,
      ⟨none,none,.store .any 1 (.t 5) (.t 42)⟩]
def Q4 {s:bo} {az:List Int} {n mR:Nat} {T:Int} (hn:∀ x∈az,0≤x∧x≤1000) (wR:az.length≤1000) (Pm:n≤az.length) (hT:0≤T∧T≤100000) (CJ:(cQ (az.drop n) T).1=mR) {S:af} {H:ah} {x3:AV} {Q:dQ→af→ah→Prop}
  (s2:S 2=.box 2 0) (h2:H 2=some (bZ s az)) (h3:H 3=some [x3]) (s5:S 5=.box 5 0) (h5:H 5=some [.int .i64 (n:Nat)]) (s7:S 7=.int .i64 T)
  (hQ:∀S H,H 2=some (bZ s az)->H 3=some [x3]->H 5=some [.int .i64 ((n+mR:Nat):Int)]->Q (.exit 2) S H):bD prog GI (.loop KJ) Q S H:=by
 have GN:mR<=az.length-n:=by rw[<-CJ];have:=qB (az.drop n) T;simpa using this
 refine⟨λS H=>∃m:Nat,m<=mR/\S 2=.box 2 0/\H 2=some (bZ s az)/\H 3=some [x3]/\S 5=.box 5 0/\H 5=some [.int .i64 ((n+m:Nat):Int)]/\S 7=.int .i64 (T-((az.drop n).take m).sum)/\T-((az.drop n).take m).sum<=T/\0<=T-((az.drop n).take m).sum,
  λS H=>match H 5 with|some [.int _ j]=>(az.length-j).toNat|_=>0,⟨0,Nat.zero_le _,s2,h2,h3,s5,h5,by simpa using s7,by simp,by simpa using hT.1⟩,?_⟩
 clear h5 h3 h2 s2 s5 s7 S H;rintro S H ⟨m,hm,s2,h2,h3,s5,h5,s7,l_,iU⟩;have jP:=ua (az.drop n) T m (by omega);rw[List.drop_drop]at jP
 have JZ:mR=m+(cQ (az.drop (n+m)) (T-((az.drop n).take m).sum)).1:=by
  rw[<-CJ,jP]
 obtain⟨left,Vs⟩:∃left,T-((az.drop n).take m).sum=left:=⟨_,rfl⟩
 rw[Vs]at JZ s7 l_ iU
 have Tq:H 5=some [.int .i64 ((n:Int)+m)]:=by rw[h5];simp
 by_cases C0:n+m<az.length
 case neg=>
  have Vq:(cQ (az.drop (n+m)) left).1=0:=by
   have:=qB (az.drop (n+m)) left;simp at this;omega
  have Iw:¬((n:Int)+m<az.length):=by omega
  have T1:mR=m:=by omega
  subst T1;have hq:=hQ;simp[KJ,bZ,bj,an,s2,h2,h3,s5,h5,s7,C0,Iw];refine hq _ _ ?_ ?_ ?_
  .rw[h2]
  .rw[h3]
  .rw[h5]
 have hd:az.drop (n+m)=az[n+m]::az.drop (n+m+1):=List.drop_eq_getElem_cons C0;have hx:=hn az[n+m] (List.getElem_mem C0)
 have Iw:(n:Int)+m<az.length:=by omega
 have p_:(0:Int)<=(n:Int)+m:=by omega
 have BL:((n:Int)+m).toNat=n+m:=by omega
 by_cases hle:az[n+m]<=left
 case neg=>
  have Vq:(cQ (az.drop (n+m)) left).1=0:=by rw[hd,cQ,if_neg hle]
  have T1:mR=m:=by omega
  subst T1;simp[KJ,bZ,bj,an,s2,h2,h3,s5,h5,s7,C0,Iw,p_,BL,hle];refine hQ _ _ ?_ ?_ ?_
  .rw[h2]
  .rw[h3]
  .rw[h5]
 case pos=>
  have Uz:m+1<=mR:=by rw[hd,cQ,if_pos hle]at JZ;omega
  have ig:IntKind.i64.wrap (left-az[n+m])=left-az[n+m]:=bf (by omega);have kc:IntKind.i64.wrap ((n:Int)+m+1)=n+m+1:=bf (by omega)
  have UL:T-((az.drop n).take (m+1)).sum=left-az[n+m]:=by
   rw[List.take_succ_eq_append_getElem (by simp;omega),List.sum_append];simp;omega
  simp[KJ,bZ,bj,an,s2,h2,h3,s5,h5,s7,C0,Iw,p_,BL,hle,ig,kc];refine⟨⟨m+1,Uz,by omega,by rw[UL],by omega,by omega⟩,by omega⟩
def nT(s:bo)(az bJ:List Int)(k:Nat):Nat:=fp az (gk bJ) ((fm (fE s) s.cells.length).take k)
def Rb (hG:aw GI) (s:bo) (h:kN s) (az:List Int) (hn:∀ x∈az,0≤x∧x≤1000) (wR:az.length≤1000) (bJ:List Int) (hr:bJ.length=s.cells.length) (vM:∀ x∈bJ,0≤x∧x≤1000) :
  AC prog GI 38 [gX s az,vI bJ] (.ret (.int .i64 (fp az (gk bJ) (fm (fE s) s.cells.length)))):=by
 have vv:=h.cells
 refine AC.iL func38 rfl ntmps38 (by simp) λcc w=>?_
 refine dR hG c38.qa (λS' H'=>S' 2=.box 2 0/\H' 2=some (bZ s az)/\S' 3=.box 3 0/\H' 3=some [vI bJ]) ?_ ?_
 .simp[c38,ae.qa,gX,bZ,bj,an]
 rintro S1 H1 ⟨s2,h2,s3,h3⟩;refine dR hG c38.qb.qa (λS' H'=>S' 2=.box 2 0/\H' 2=some (bZ s az)/\S' 3=.box 3 0/\H' 3=some [vI bJ]/\S' 5=.box 5 0/\H' 5=some [.int .i64 0]) ?_ ?_
 .simp[c38,ae.qa,ae.qb,bZ,bj,an,s2,h2,s3,h3]
  try rfl
 clear s2 h2 s3 h3;rintro S2 H2 ⟨s2,h2,s3,h3,s5,h5⟩;refine SW.seq (dR hG c38.qb.qb.qa.qa (λS' H'=>S' 2=.box 2 0/\H' 2=some (bZ s az)/\S' 3=.box 3 0/\H' 3=some [vI bJ]/\S' 5=.box 5 0/\H' 5=some [.int .i64 0]/\S' 10=.func (.func 135) [] [.ref (bj s)]) ?_ ?_)
 .simp[c38,ae.qa,ae.qb,bZ,bj,an,s2,h2,s3,h3,s5,h5];refine oc (Ri hG s) ?_;simp[s2,h2,s3,h3,s5,h5,bZ,bj,an]
  try rfl
 clear s2 h2 s3 h3 s5 h5;rintro S3 H3 ⟨s2,h2,s3,h3,s5,h5,fu⟩
 have sH:lG (λd=>d==6) (S3 2)=.box 2 0:=by rw[s2]<;>rfl
 have Zz:lG (λd=>d==6) (S3 3)=.box 3 0:=by rw[s3]<;>rfl
 have nD:lG (λd=>d==6) (S3 5)=.box 5 0:=by rw[s5]<;>rfl
 refine SW.block (SW.range hG cV (E3:=.tmp 10) (y:=.t 10) (p:=11) (f:=135) (caps:=[.ref (bj s)]) (xs:=(eC s).map bq) rfl fu (by kernel_rfl) rfl (NS hG s h) (by decide) (λx hx=>by obtain⟨e,_,rfl⟩:=List.mem_map.1 hx;rfl)
  (λd=>d==6) (aa:=ME) (ab:=OS) (by kernel_rfl) (by kernel_rfl) (by simp[ME,ae.names,bl.fX,dS.fX]) (by simp[OS,ae.names,bl.fX,dS.fX]) (λ_ _ h=>h) (by kernel_rfl) (by kernel_rfl)
  (λk H'=>H' 2=some (bZ s az)/\H' 3=some [vI bJ]/\H' 5=some [.int .i64 (nT s az bJ k:Nat)]) (λ_ _=>False) ⟨h2,h3,by rw[h5]<;>rfl⟩ ?_ ?_ ?_)
 .rintro k hk H' ⟨h2,h3,h5⟩
  have eK:k<(fm (fE s) s.cells.length).length:=by simpa[eC]using hk
  obtain⟨f,t,SJ⟩:∃f t,(fm (fE s) s.cells.length)[k]=(f,t):=⟨_,_,rfl⟩
  have ui:((eC s).map bq)[k]=.agg [.int .i64 (f:Nat),.int .i64 (t:Nat)]:=by simp[eC,SJ,bq]
  have dZ:fE s s.cells.length=false:=by
   have:=h.pos;unfold fE
   have:¬s.cells.length<s.pos.toNat:=by omega
   simp[this]
  have bB:=(Cm dZ).1 (f,t) (by rw[<-SJ];exact List.getElem_mem eK);simp only at bB;obtain⟨aas,aaG⟩:=bB;have hw:IntKind.i64.wrap ((t:Int)+1)=t+1:=bf (by omega);have rM:=G1 bJ (a:=f) (b:=t+1) (by omega) (by omega);have jv:=RW hG ((bJ.take (t+1)).drop f) (by simp;omega) (λx hx=>vM x (List.mem_of_mem_take (List.mem_of_mem_drop hx)));have YT:=sX (l:=(bJ.take (t+1)).drop f) (λx hx=>vM x (List.mem_of_mem_take (List.mem_of_mem_drop hx)))
  have hTl:((bJ.take (t+1)).drop f).length<=12:=by simp;omega
  have f_:nT s az bJ (k+1)=nT s az bJ k+(cQ (az.drop (nT s az bJ k)) (jj (gk bJ) f (t+1))).1:=by
   unfold nT;rw[List.take_succ_eq_append_getElem eK,SJ,pM]
  rw[<-rM]at f_;have Pm:nT s az bJ k<=az.length:=wP _ _ _;rw[ui];generalize hTT:((bJ.take (t+1)).drop f).sum=T at jv YT f_;generalize nT s az bJ k=n at f_ Pm h5
  have i1:((t:Int)+1).toNat=t+1:=by omega
  have i2:t+1<=bJ.length:=by omega
  have i3:f<=t+1:=by omega
  have j1:(f:Int)<=(t:Int)+1:=by omega
  have j2:(t:Int)+1<=bJ.length:=by omega
  have T4:List.drop f (List.take (t+1) (ints bJ))=ints (List.drop f (List.take (t+1) bJ)):=by simp[ints,List.map_drop,List.map_take]
  have iA:aF 1 (ints bJ)=true:=qe _;simp[ME,OS,bZ,bj,an,sH,h2,Zz,h3,nD,h5,hw,i1,i2,i3,j1,j2,bound,T4,iA];refine oc jv ?_;simp[bZ,bj,an,sH,h2,Zz,h3,nD,h5]
  obtain⟨mR,CJ⟩:∃mR,(cQ (az.drop n) T).1=mR:=⟨_,rfl⟩
  rw[CJ]at f_
  have GN:mR<=az.length-n:=by rw[<-CJ];have:=qB (az.drop n) T;simpa using this
  refine Q4 (s:=s) (x3:=vI bJ) hn wR Pm ⟨YT.1,by omega⟩ CJ (by simp[sH]) (by simp[aq,h2]) (by simp[aq,h3]) (by simp[nD]) (by simp[aq,h5]) (by simp[aq]) ?_;intro S H q2 q3 q5;simp only[cg,if_true,lK];refine⟨?_,?_,?_⟩
  .rw[q2]<;>rfl
  .rw[q3]<;>rfl
  .rw[q5,f_]
 .rintro D H' hD ⟨h2,h3,h5⟩;show SW prog GI 44 none (.seq _ .ret) _ _ _ _
  have ng:nT s az bJ ((eC s).map bq).length=fp az (gk bJ) (fm (fE s) s.cells.length):=by
   unfold nT;rw[List.take_of_length_le (by simp[eC])]
  rw[ng]at h5;refine dR hG c38.qb.qb.qb.qa (λS' _=>S' 4=.int .i64 (fp az (gk bJ) (fm (fE s) s.cells.length))) ?_ ?_
  .simp[c38,ae.qa,ae.qb,nD,h5]
  intro S4 H4 s4;refine SW.ret ⟨(ea.plain rfl).mark hD,rfl,_,?_,rfl⟩;show cn prog 44 [.tmp 4] S4 H4=_;simp[cn,ct,cw,s4,AV.bC,AV.out]
  try rfl
 .exact λ_ _ _ _ _ h=>h.elim
def SS (hG:aw GI) (n lo hi:Int):AC prog GI 6 [.int .i64 n,.int .i64 lo,.int .i64 hi] (.ret (.bool (da n lo hi))):=by
  refine dM hG func6 ntmps6 c6 ?_
  by_cases h1:lo<=n<;>by_cases h2:n<=hi<;>simp[c6,da,h1,h2]
def I7:∃ it,prog.info? 3=some it∧it.size=1∧it.zero=some (.int .i64 0)∧it.bytes=8:=by
  have h:(prog.info? 3).map (λi=>(i.size,i.zero,i.bytes))=some (1,some (.int .i64 0),8):=by kernel_rfl
  cases hi:prog.info? 3 with
  |none=>rw[hi]at h;cases h
  |some it=>rw[hi]at h;simp at h;exact⟨it,rfl,h.1,h.2.1,h.2.2⟩
def run_make {a:Act} {w:World} {o:Oper} {x y:Operand} {k:Nat} (hk:1≤k∧k≤6) (ho:o.op = .makeSlice 28 x y) (hx:a.eval x = .int .i64 (k:Nat)) (hy:a.eval y = .int .i64 (k:Nat)) :
    (execOp a.eval o).run prog w=.ok (.value (.slice (some ⟨w.heap.size,0,none⟩) k k)) (w.alloc (.cells (Array.replicate k (.int .i64 0)) 3)):=by
  obtain⟨it,hi,hs,hz,hb⟩:=I7
  have eI:prog.underlying 28=some (.slice 3):=by kernel_rfl
  have hw:IntKind.i64.wrap (k:Int)=k:=bf (by omega)
  have jw:¬ (k * 8 > roomBytes):=by
    have:roomBytes=roomBytes:=rfl;unfold roomBytes;omega
  have iV:(Array.range k).map (fun x=>(#[Value.int .i64 0])[x % 1]!)=Array.replicate k (.int .i64 0):=by
    apply Array.ext
    . simp
    . intro i h1 h2
      simp[Nat.mod_one]
  have h0:¬(k:Int)<0:=by omega
  have h8:¬(281474976710656:Int)<8*(k:Int):=by omega
  have h1:¬(k:Int)<=0:=by omega
  have Az:k≠0:=by omega
  have Uw:(Array.range k).map (fun x=>([Value.int .i64 0][x % 1]?).getD default)=Array.replicate k (.int .i64 0):=by
    apply Array.ext
    . simp
    . intro i h1 h2
      simp[Nat.mod_one]
  unfold execOp;simp[ho,hx,hy,Instr.makeSlice,run_underlying eI,asInt,asIntOf,typeInfo,hi,hs,hz,hb,hw,h0,h8,h1,askRoom,jw,sizeOf,zeroValue,Az,newRow,Value.cells,Uw]
def PY {A B:Array Value} {v:Value} (hs:A.size=B.size) (h:∀ i (h:i < A.size),A[i]=v) (hB:∀ i (h:i < B.size),B[i]=v):A=B:=by
  apply Array.ext
  . exact hs
  . intro i h1 h2
    rw[h i h1,hB i h2]
def I_ {A:Array Value} {v:Value} (h:∀ i (h:i < A.size),A[i]=v) (j:Nat):∀ i (hi:i < (A.setIfInBounds j v).size),(A.setIfInBounds j v)[i]=v:=by
  intro i hi;rw[Array.getElem_setIfInBounds];split
  . rfl
  . exact h i (by simpa using hi)
def vR(k:Nat):Array (Nat×Operand):=(((List.replicate k (Operand.const (.int .i64 0))).zipIdx 0).map λx=>(x.2,x.1)).toArray
def Ir {a:Act} {w:World} {o:Oper} {k:Nat} (hk:1≤k∧k≤6) (ho:o.op = .buildSlice 28 k (vR k)) :
    (execOp a.eval o).run prog w=.ok (.value (.slice (some ⟨w.heap.size,0,none⟩) k k)) (w.alloc (.cells (Array.replicate k (.int .i64 0)) 3)):=by
  obtain⟨it,hi,hs,hz,hb⟩:=I7;cases it;simp only at hs hz hb;subst hs hz hb
  have eI:prog.underlying 28=some (.slice 3):=by kernel_rfl
  have hc:∀n:Int,a.eval (.const (.int .i64 n))=.int .i64 n:=λn=>rfl
  have h6:k=1\/k=2\/k=3\/k=4\/k=5\/k=6:=by omega
  unfold execOp
  rcases h6 with rfl | rfl | rfl | rfl | rfl | rfl <;>
    simp[ho,vR,List.replicate,List.zipIdx,hc,Instr.buildSlice,run_underlying eI,sizeOf,typeInfo,hi,zeroValue,newRow,Value.cells,Instr.fill,Array.range,Nat.mod_one]<;>
    (refine congrArg (λc=>w.alloc (Obj.cells c 3)) (PY (v:=.int .i64 0) (by simp) ?_ (by intro i hi;simp))
     repeat first|exact λi hi=>by simp|refine I_ ?_ _)
def yf:∀ k,mh 6 (List.replicate k (Operand.const (.int .i64 0)))=some (List.replicate k (.c (.int .i64 0)))
  |0=>rfl
  |k+1=>by simp[List.replicate_succ,mh,yf k,du,kR]
def X4 (hG:aw GI) {k:Nat} (hk:1≤k∧k≤6):AC prog GI 25 [.int .i64 (k:Nat)] (.ret (cU ⟨List.replicate k 0,[],false⟩)):=by
  refine AC.iL func25 rfl ntmps25 (by simp) λcc w=>?_
  refine dR hG c25.qa (λS' H'=>S' 0=.int .i64 (k:Nat)/\S' 2=.box 2 0/\H' 2=some [.slice .nil [],.slice .nil [],.bool false]) ?_ ?_
  . simp[c25,ae.qa]
  rintro S1 H1 ⟨s0,s2,h2⟩
  refine SW.seq (SW.hand hG (p:=1) (lm:=[1]) (l2:=[2,3]) (jT:=[_]) (oh:=[_]) (jC:=[_,_]) rfl rfl rfl rfl (by kernel_rfl) (fun _ h=>h)
    (nN:=(c25.qb.qa.dl).take 1) (mF:=(c25.qb.qa.dl).drop 2) (by kernel_rfl) (by kernel_rfl) (by kernel_rfl) (by kernel_rfl)
    (K1:=λS H=>S 3=.int .i64 (k:Nat)/\S 2=.box 2 0/\H 2=some [.slice .nil [],.slice .nil [],.bool false])
    (K2:=λo S H=>o=Old.plain cc w/\S 4=.slice (.own 3) (ints (List.replicate k 0))/\S 2=.box 2 0/\H 2=some [.slice .nil [],.slice .nil [],.bool false])
    (K3:=λo S H=>o=Old.plain cc w/\S 2=.box 2 0/\∃o',H 2=some [.slice o' (ints (List.replicate k 0)),.slice .nil [],.bool false]) ?_ ?_ ?_ ?_)
  . simp[c25,ae.qa,ae.qb,ae.dl,s0,s2,h2]
  . rintro w0 g S2 H2 a w' m bP ho R ⟨s3,s2,h2⟩
    have e3:a.eval (.tmp 3)=.int .i64 (k:Nat):=eR R (by decide) s3;obtain⟨it,hi,hs,hz,hb⟩:=I7
    have eI:prog.underlying 28=some (.slice 3):=by kernel_rfl
    have j4:ao S2 H2 (.buildSlice 28 3 it.size (List.replicate k (.c (.int .i64 0))))=some { v := .slice (.own 3) (ints (List.replicate k 0)) }:=by
      have hm:(List.replicate k (cm.c (.int .i64 0))).map (ev S2)=List.replicate k (.int .i64 0):=by simp[ev]
      have nv:k<=16777216:=by omega
      simp only[ao,hm,hs];simp[aF,AV.storable,AV.cells,AV.vw,AV.bF,ints,nv]
    obtain ⟨c,w2,g2,dJ,pS,iE,R2⟩:=p6 R (o:={ dst:=some 4,op := .buildSlice 28 k (vR k),type:=28,pos := "",after := #[],guard:=none }) (xs:=List.replicate k (.const (.int .i64 0))) (ys:=List.replicate k (.c (.int .i64 0))) rfl (λt ht=>by cases ht;exact ⟨by decide,id⟩) eI hi hz (by omega) (by simp [vR]) (by simp) (by omega) (yf k) (λy hy t ht=>id) j4
    . have hz':=Ir (a:=a) (w:=w') (o:={ dst:=some 4,op := .buildSlice 28 k (vR k),type:=28,pos := "",after := #[],guard:=none }) hk rfl
      rw[hz']at dJ
      obtain ⟨rfl,rfl⟩:Value.slice (some ⟨w'.heap.size,0,none⟩) k k=c∧w'.alloc (.cells (Array.replicate k (.int .i64 0)) 3)=w2:=by
        rcases dJ with h|⟨h,_⟩
        . cases h;exact⟨rfl,rfl⟩
        . cases h
      refine aK rfl rfl (by rfl) (run_make (x:=.tmp 3) (y:=.tmp 3) hk rfl e3 e3) ?_;exact⟨g2,_,_,R2,by rw[iE,ho],by simp[aD.S,AL.aH,aq],by simp[aD.S,AL.aH,aq,s2],by simpa[aD.H]using h2⟩
  . rintro o S2 H2 ⟨rfl,s4,s2,h2⟩
    refine⟨λ_ h=>h,?_⟩;simp[c25,ae.qa,ae.qb,ae.dl,s4,s2,h2,cL]
    try exact⟨_,rfl⟩
  . rintro o S2 H2 ⟨rfl,s2,o',h2⟩
    refine SW.ret ⟨ea.plain rfl,rfl,_,?_,rfl⟩;obtain⟨i58,Zm,ZO⟩:=iZ 58 3;obtain⟨fs,iD⟩:=uZ 58;show cn prog 6 [.cell 2 58] S2 H2=_;simp[cn,ct,cw,s2,h2,Zm,iD,ZO,aZ,eB,AV.out,cU,vI,ints,AV.aA,AV.bC]
    try cases o'<;>first|exact⟨rfl,rfl,rfl⟩|rfl
def E6(l:List End):AV:=.slice (if l.isEmpty then .nil else .own 33) (l.map bq)
def nU(l:List End):AV:=.slice (if l.isEmpty then .nil else .view) (l.map bq)
def Dc(s:bo):AV:=.func (.func 135) [] [.ref (bj s)]
noncomputable def CR:ae:=.ops [⟨some 5,none,.alloc 33 [(.int .i64 0),(.int .i64 0)]⟩,⟨none,none,.store .any 2 (.t 5) (.t 7)⟩]
noncomputable def Du:ae:=.block 1<|.ops [⟨some 8,none,.loadT .any (.t 2)⟩,⟨some 9,none,.load .any true 2 (.t 5)⟩,⟨some 10,none,.buildSlice 22 33 2 [.t 9]⟩,⟨some 11,none,.append 22 33 2 16 (.t 8) (.t 10)⟩,⟨none,none,.store .any 1 (.t 2) (.t 11)⟩]
def Ut (hG:aw GI) (s:bo) {ps:List End} (hlen:ps.length≤1000000) (my:nK prog GI 135 [.ref (bj s)] (ps.map bq)) :
  AC prog GI 134 [.slice .nil [],Dc s] (.ret (nU ps)):=by
 refine AC.iL func134 rfl ntmps134 (by simp) λcc w=>?_
 refine dR hG c134.qa (λS' H'=>S' 1=Dc s/\S' 2=.box 2 0/\H' 2=some [.slice .nil []]) ?_ ?_
 .simp[c134,Dc,ae.qa,bD,bg,ar,aM,ao,ev,aD.S,aD.H,aq,aH,AL.start,AV.aA,AV.cells,AV.storable,aT,iQ,a_,vI,bq,aB]
 rintro S1 H1 ⟨s1,s2,h2⟩;refine SW.seq (dR hG c134.qb.qa.qa (λS' H'=>S' 2=.box 2 0/\S' 6=Dc s/\H' 2=some [.slice .nil []]) ?_ ?_)
 .simp[c134,Dc,ae.qa,ae.qb,bD,bg,ar,aM,ao,ev,aD.S,aD.H,aq,aH,s2,h2,aB,AV.aA]
  rw[s1]<;>rfl
 rintro S3 H3 ⟨s2,s6,h2⟩
 refine SW.block (SW.range hG cV (E3:=.tmp 6) (y:=.t 6) (p:=7) (f:=135) (caps:=[.ref (bj s)]) (xs:=ps.map bq) rfl s6 (by kernel_rfl) rfl my (by decide) (λx hx=>by obtain⟨e,_,rfl⟩:=List.mem_map.1 hx;rfl)
  (λd=>d==5) (aa:=CR) (ab:=Du)
  (by kernel_rfl) (by kernel_rfl) (by simp[CR,ae.names,bl.fX,dS.fX]) (by simp[Du,ae.names,bl.fX,dS.fX]) (λ_ _ h=>h) (by kernel_rfl) (by kernel_rfl)
  (λk H'=>H' 2=some [E6 (ps.take k)]) (λ_ _=>False) h2 ?_ ?_ ?_)
 .rintro k hk H' h2
  have eK:k<ps.length:=by simpa using hk
  have ui:(ps.map bq)[k]=bq ps[k]:=by simp
  have ng:ps.take (k+1)=ps.take k++[ps[k]]:=by rw[List.take_succ_eq_append_getElem eK]
  have sH:lG (λd=>d==5) (S3 2)=.box 2 0:=by rw[s2]<;>rfl
  rw[ui,ng]
  have hL:(List.take k ps).length<=1000000:=by simp;omega
  generalize List.take k ps=L at hL h2⊢
  cases L with
  |nil=>simp[CR,Du,sH,h2,bq,lK,E6,aF,HR.okB,aR]
  |cons x L=>
   have uF:L.length+1+1<1048576:=by simp at hL;omega
   have bB:aF 2 (bq x::L.map bq)=true:=by simp[aF,vI,bq,AV.storable,AV.cells]
   simp[CR,Du,sH,h2,bq,lK,E6,aF,HR.okB,aR,uF]
 .rintro D H' hD h2;show SW prog GI 13 none (.seq _ .ret) _ _ _ _
  have sH:lG (λd=>d==5) (S3 2)=.box 2 0:=by rw[s2]<;>rfl
  have ng:List.take (ps.map bq).length ps=ps:=List.take_of_length_le (by simp);rw[ng]at h2;refine dR hG c134.qb.qb.qa (λS' _=>S' 4=nU ps) ?_ ?_
  .cases ps<;>simp[c134,ae.qa,ae.qb,bD,bg,ar,aM,ao,ev,aD.S,aD.H,aq,aH,aZ,sH,h2,HR.okB,aB,E6,nU,AV.aA,a_]
  intro S4 H4 s4;refine SW.ret ⟨(ea.plain rfl).mark hD,rfl,_,?_,rfl⟩;show cn prog 13 [.tmp 4] S4 H4=_;simp[cn,ct,cw,s4,nU,AV.bC,AV.out]
 .exact λ_ _ _ _ _ h=>h.elim
def Y'(hG:aw GI)(s:bo){ps:List End}(hlen:ps.length<=1000000)(my:nK prog GI 135 [.ref (bj s)] (ps.map bq)):AC prog GI 61 [Dc s] (.ret (nU ps)):=by
 refine AC.iL func61 rfl ntmps61 (by simp) λcc w=>?_
 refine dR hG c61.qa (λS' H'=>S' 0=Dc s) ?_ ?_
 .simp[c61,Dc,ae.qa,bD,bg,ar,aM,ao,ev,aD.S,aD.H,aq,aH,AL.start,AV.aA,aB,a_]
 intro S1 H1 s0
 refine SW.seq (SW.hand hG (p:=1) (lm:=[1]) (l2:=[2]) (jT:=[_]) (oh:=[_]) (jC:=[_]) rfl rfl rfl rfl (by kernel_rfl) (λ_ h=>h)
  (nN:=(c61.qb.qa.dl).take 1) (mF:=(c61.qb.qa.dl).drop 2) (by kernel_rfl) (by kernel_rfl) (by kernel_rfl) (by kernel_rfl)
  (K1:=λS _=>S 3=Dc s) (K2:=λo S _=>o=Old.plain cc w/\S 4=nU ps) (K3:=λo S _=>o=Old.plain cc w/\S 2=nU ps) ?_ ?_ ?_ ?_)
 .simp[c61,ae.qa,ae.qb,ae.dl,bg,ar,aM,ao,aD.S,aD.H,ev,aq,aH]
  rw[s0]<;>rfl
 .rintro w0 g S2 H2 a w' m bP ho R s3;have r3:=R.slot 3 (by decide) id;rw[s3]at r3
  refine ik rfl rfl (by rfl) (fV (k:=134) (args:=#[.slice none 0 0,a.tmps.getD 3 undef]) w' rfl rfl ?_ (by kernel_rfl)) (Ut hG s hlen my w' (iu g false) #[.slice none 0 0,a.tmps.getD 3 undef] (hG w0 w' bP (by have:=R.below;rwa [R.base]at this)) rfl (λi h h'=>by
   match i,h with
   |0,_=>exact .data _ _ (.gy _)
   |1,_=>exact(r3.bU rfl).mono (aL.same λb k _ hp=>.inl hp) λ_ _ h=>h)) ?_
  .simp only[List.map_toArray,List.map_cons,List.map_nil,Act.eval]
  rintro e w2 ⟨iU,hi,rP,c,rfl,Ns,cE⟩;refine⟨_,rfl,?_⟩;obtain⟨g',q1,q2,R'⟩:=R.call (some 4) (λt ht=>by cases ht;exact⟨by decide,id⟩) false iU rP Ns cE (λh=>by cases h);exact⟨g',_,_,R',q2.trans ho,aJ _ _ _⟩
 .rintro o S2 H2 ⟨rfl,s4⟩;refine⟨λ_ h=>h,?_⟩
  cases ps<;>simp[c61,ae.qa,ae.qb,ae.dl,bg,ar,aM,ao,aD.S,aD.H,ev,aq,aH,s4,nU,a_]
 .rintro o S2 H2 ⟨rfl,s2⟩;refine SW.ret ⟨ea.plain rfl,rfl,_,?_,rfl⟩;show cn prog 5 [.tmp 2] S2 H2=_;simp[cn,ct,cw,s2,nU,AV.bC,AV.out]
def Ah(s:bo):∀i,(dp s i).2.length<=i
 |0=>Nat.le_refl _
 |i+1=>by
  have ih:=Ah s i;rw[nt];unfold ez;split
  .omega
  .simp only;split
   .simp;omega
   .omega
def FY(s:bo):(eC s).length<=s.cells.length+1:=by
 have:=Ah s (s.cells.length+1);simpa[eC,fm,dp]using this
def W9(hG:aw GI)(a b:End):AC prog GI 64 [bq a,bq b] (.ret (.bool (decide (a.2<b.2)))):=by
 refine dM hG func64 ntmps64 c64 ?_;simp[c64,bq]
def kH(x:End)(l:List End):End:=l.foldl (λo y=>if y.2<o.2 then y else o) x
def Ec(x:End)(l:List End){i:Nat}(h:i<l.length):kH x (l.take (i+1))=if l[i].2<(kH x (l.take i)).2 then l[i]else kH x (l.take i):=by
 unfold kH;rw[List.take_succ,List.getElem?_eq_getElem h,List.foldl_append]
 rfl
def WZ(hG:aw GI)(x:End)(l:List End)(hl:l.length<1000000):AC prog GI 63 [.slice .view (aW (x::l)),.func (.func 64) [] []] (.ret (bq (kH x l))):=by
 obtain⟨iT,Sv,UD⟩:=iZ 149 2;obtain⟨fs,iD⟩:=uZ 149;have bB:aF 2 (aW (x::l))=true:=zW (x::l);refine dM hG func63 ntmps63 c63 ?_;refine ba (λS H=>S 0=.slice .view (aW (x::l))/\S 1=.func (.func 64) [] []/\S 4=.box 4 0/\H 4=some [.int .i64 0,.int .i64 0]) (by simp) ?_;rintro S H ⟨s0,s1,s4,h4⟩;refine ba (λS H=>S 0=.slice .view (aW (x::l))/\S 1=.func (.func 64) [] []/\S 4=.box 4 0/\H 4=some [.int .i64 0,.int .i64 0]/\S 5=.box 5 0/\H 5=some [.int .i64 x.1,.int .i64 x.2]) (by simp[s0,s1,s4,h4,aW,bq,cL]) ?_;clear s0 s1 s4 h4 S H;rintro S H ⟨s0,s1,s4,h4,s5,h5⟩
 have hd:(aW (x::l)).drop 1=aW l:=by simp[aW]
 have hlen:(aW (x::l)).length=l.length+1:=by simp[aW]
 have oG:(1:Int)<=(l.length:Int)+1:=by omega
 have ng:List.take (l.length+1) (aW (x::l))=aW (x::l):=List.take_of_length_le (by omega);generalize aW (x::l)=L at s0 hd hlen ng bB
 have hto:((l.length:Int)+1).toNat=l.length+1:=by omega
 simp[bound,s0,s1,s4,h4,s5,h5,hd,hlen,oG,ng,bB,hto];refine dg 14 l.length (λi S H=>S 1=.func (.func 64) [] []/\S 4=.box 4 0/\H 4=some [.int .i64 0,.int .i64 0]/\S 5=.box 5 0/\H 5=some [.int .i64 (kH x (l.take i)).1,.int .i64 (kH x (l.take i)).2]/\S 12=.slice .view (aW l)/\S 13=.int .i64 l.length/\S 14=.int .i64 (i:Nat)) (λi S H h=>h.2.2.2.2.2.2.2) ⟨by simp[s1],by simp[s4],by simp[h4],by simp[s5],by simp[h5,kH],by simp,by simp[aW],by simp⟩ ?_;clear s0 s1 s4 h4 s5 h5 S H;rintro i hi S H ⟨s1,s4,h4,s5,h5,bK,dW,fo⟩
 by_cases av:i<l.length
 .have hw:IntKind.i64.wrap ((i:Int)+1)=i+1:=bf (by omega)
  have hn:¬(i:Int)<0:=by omega
  have hs:=Ec x l av;have Rp:=W9 hG l[i] (kH x (l.take i))
  generalize kH x (l.take i)=o at*
  by_cases hc:l[i].2<o.2
  .rw[if_pos hc]at hs;rw[hs];simp[s1,s4,h4,s5,h5,bK,dW,fo,av,hn,aW,bq,cL];refine oc Rp ?_;simp[s1,s4,h4,s5,h5,bK,dW,fo,hc,hw,aW,bq]
  .rw[if_neg hc]at hs;rw[hs]
   have GQ:o.2<=l[i].2:=by omega
   simp[s1,s4,h4,s5,h5,bK,dW,fo,av,hn,aW,bq,cL];refine oc Rp ?_;simp[s1,s4,h4,s5,h5,bK,dW,fo,hc,GQ,hw,aW,bq]
 .have dN:i=l.length:=by omega
  subst dN;rw[List.take_length]at h5;simp[s1,s4,h4,s5,h5,bK,dW,fo,Sv,UD,iD,eB,bq]
def LW{a:Act}{w:World}{o:Oper}{x:Operand}{t ty:TypeId}{n:Nat}(ho:o.op=.binOp .shr t x (.const (.int .u64 1)) ty)(hx:a.eval x=.int .u64 (n:Nat)):(execOp a.eval o).run prog w=.ok (.value (.int .u64 ((n/2:Nat):Int))) w:=by
 unfold execOp;have hc:a.eval (.const (.int .u64 1))=.int .u64 1:=rfl
 have hf:((n:Int)).fdiv 2=((n/2:Nat):Int):=by
  rw[Int.fdiv_eq_ediv_of_nonneg _ (by decide)];omega
 simp[ho,hx,hc,Go.binOp,Op.shift,eqGuard,IntKind.bits,hf]
def O'{x:Int}(h:0<=x/\x<1000000000):IntKind.u64.wrap x=x:=by
 unfold IntKind.wrap;simp[IntKind.bits,IntKind.signed];omega
noncomputable def nJ:ae:=ae.qb c59.qb.qb.qa.qb
def Zk (hG:aw GI) {n:Nat} (hn:n < 100000) (k:Nat) (u v x:List AV) (hk:dz prog k=true) {p:Nat→Bool} (hm:∀ x y,x≤y→p x=true→p y=true) (h:∀ y:Nat,y < n→AC prog GI k [.int .i64 (y:Nat),.ref u,.ref v,.ref x] (.ret (.bool (p y)))) {m:Nat} (hl:mZ p n m) :
  AC prog GI 59 [.int .i64 (n:Nat),.func (.func k) [] [.ref u,.ref v,.ref x]] (.ret (.int .i64 (m:Nat))):=by
 refine AC.iL func59 rfl ntmps59 (by simp) λcc w=>?_
 refine dR hG c59.qa (λS H=>S 0=.int .i64 (n:Nat)/\S 1=.func (.func k) [] [.ref u,.ref v,.ref x]) ?_ ?_
 .simp[c59,ae.qa]
 rintro S1 H1 ⟨s0,s1⟩;refine dR hG c59.qb.qa (λS H=>S 1=.func (.func k) [] [.ref u,.ref v,.ref x]/\S 5=.int .i64 ((0:Nat):Int)/\S 6=.int .i64 (n:Nat)) ?_ ?_
 .simp[c59,ae.qa,ae.qb,s0,s1]
 clear s0 s1;rintro S2 H2 ⟨s1,s5,s6⟩;show SW prog GI 26 none (.seq (.block 0 (.loop _)) (.seq _ .ret)) _ _ _ _;refine SW.seq (SW.block (SW.loop (λo S H=>∃i j:Nat,o=Old.plain cc w/\i<=j/\j<=n/\(∀y,y<i->p y=false)/\(∀y,j<=y->y<n->p y=true)/\S 1=.func (.func k) [] [.ref u,.ref v,.ref x]/\S 5=.int .i64 (i:Nat)/\S 6=.int .i64 (j:Nat)) (λS _=>match S 5,S 6 with|.int _ i,.int _ j=>(j-i).toNat|_,_=>0) ⟨0,n,rfl,Nat.zero_le _,Nat.le_refl _,λy hy=>absurd hy (by omega),λy h1 h2=>absurd h1 (by omega),s1,s5,s6⟩ ?_));clear s1 s5 s6;rintro o S3 H3 ⟨i,j,rfl,nc,uL,oq,rI,s1,s5,s6⟩;have m5:=s5;have m6:=s6;show SW prog GI 26 none (.seq (.seq _ (.cond _ _ _)) (.block 1 (.seq _ (.seq _ (.cond _ _ _))))) _ _ _ _;refine SW.seq (dR hG nJ.qa.qa (λS H=>S 1=.func (.func k) [] [.ref u,.ref v,.ref x]/\S 5=.int .i64 (i:Nat)/\S 6=.int .i64 (j:Nat)/\S 11=.bool (decide (i<j))) ?_ ?_)
 .simp[c59,nJ,ae.qa,ae.qb,s1,s5,s6]
 clear s1 s5 s6;rintro S4 H4 ⟨s1,s5,s6,dV⟩
 by_cases av:i<j
 case neg=>
  refine SW.cond rfl false (by show S4 11=_;rw[dV];simp[av]) (SW.exit ?_)
  have eE:i=j:=by omega
  subst eE;have him:i=m:=mZ.unique (k:=n) (p:=p) ⟨uL,oq,λh=>rI i (Nat.le_refl _) h⟩ hl;subst him;show SW prog GI 26 none (.seq _ .ret) _ _ _ _;refine dR hG c59.qb.qb.qb.qa (λS H=>S 4=.int .i64 (i:Nat)) ?_ ?_
  .simp[c59,ae.qa,ae.qb,s5]
  intro S5 H5 s4;refine SW.ret ⟨ea.plain rfl,rfl,_,?_,rfl⟩;show cn prog 26 [.tmp 4] S5 H5=_;simp[cn,ct,cw,s4,AV.bC,AV.out]
 refine SW.cond rfl true (by show S4 11=_;rw[dV];simp[av]) (SW.skip ?_);show SW prog GI 26 none (.block 1 (.seq _ (.seq _ (.cond _ _ _)))) _ _ _ _;obtain⟨g1,g2,g3⟩:=QO hm av oq
 obtain⟨q,hq⟩:∃q,(i+j)/2=q:=⟨_,rfl⟩
 rw[hq]at g1 g2 g3
 have ig:IntKind.i64.wrap ((i:Int)+j)=((i+j:Nat):Int):=by rw[bf (by omega)];omega
 have kc:IntKind.u64.wrap ((i+j:Nat):Int)=((i+j:Nat):Int):=O' (by omega)
 have Wy:IntKind.u64.wrap ((i:Int)+j)=((i+j:Nat):Int):=by rw[O' (by omega)];omega
 have mW:IntKind.i64.wrap (q:Nat)=(q:Nat):=bf (by omega)
 refine SW.block (SW.seq (SW.hand hG (p:=4) (lm:=[4]) (l2:=[5,6]) (jT:=[_,_,_,_]) (oh:=[_]) (jC:=[_,_]) rfl rfl rfl rfl (by kernel_rfl) (λ_ h=>h)
  (nN:=(nJ.qb.qb.qa.dl).take 4) (mF:=(nJ.qb.qb.qa.dl).drop 5) (by kernel_rfl) (by kernel_rfl) (by kernel_rfl) (by kernel_rfl)
  (K1:=λS H=>S 1=.func (.func k) [] [.ref u,.ref v,.ref x]/\S 5=.int .i64 (i:Nat)/\S 6=.int .i64 (j:Nat)/\S 15=.int .u64 ((i+j:Nat):Int))
  (K2:=λo S H=>o=Old.plain cc w/\S 1=.func (.func k) [] [.ref u,.ref v,.ref x]/\S 5=.int .i64 (i:Nat)/\S 6=.int .i64 (j:Nat)/\S 16=.int .u64 (q:Nat))
  (K3:=λo S H=>o=Old.plain cc w/\S 1=.func (.func k) [] [.ref u,.ref v,.ref x]/\S 5=.int .i64 (i:Nat)/\S 6=.int .i64 (j:Nat)/\S 7=.int .i64 (q:Nat)) ?_ ?_ ?_ ?_))
 .simp[c59,nJ,ae.qa,ae.qb,ae.dl,s1,s5,s6,ig,kc,Wy]
 .rintro w0 g S5 H5 a w' m bP ho R ⟨s1,s5,s6,Bx⟩
  have TL:a.eval (.tmp 15)=.int .u64 ((i+j:Nat):Int):=by
   have t15:=R.slot 15 (by decide) (λh=>h);rw[Bx]at t15;exact t15.int_eq
  refine aK rfl rfl (by rfl) (LW rfl TL) ?_;rw[hq];exact⟨_,_,_,R.put 16 (.int .u64 (q:Nat)) _ (by decide) (.data _ _ (.int _ _)) trivial,ho,by simp[aq,s1],by simp[aq,s5],by simp[aq,s6],by simp[aq]⟩
 .rintro o S5 H5 ⟨rfl,s1,s5,s6,uv⟩;refine⟨λ_ h=>h,?_⟩;simp[c59,nJ,ae.qa,ae.qb,ae.dl,s1,s5,s6,uv,mW]
 clear s1 s5 s6 dV;rintro o S5 H5 ⟨rfl,s1,s5,s6,s7⟩;show SW prog GI 26 none (.seq _ (.cond _ _ _)) _ _ _ _;have hc:=h q (by omega);refine dR hG nJ.qb.qb.qb.qa (λS H=>S 1=.func (.func k) [] [.ref u,.ref v,.ref x]/\S 5=.int .i64 (i:Nat)/\S 6=.int .i64 (j:Nat)/\S 7=.int .i64 (q:Nat)/\S 21=.bool (!p q)) ?_ ?_
 .simp[c59,nJ,ae.qa,ae.qb,s1,s5,s6,s7];refine⟨_,hk,hc,by simp[bR,mG],?_⟩;simp[s1,s5,s6,s7]
 clear s1 s5 s6 s7;rintro S6 H6 ⟨s1,s5,s6,s7,Ql⟩
 cases hp:p q with
 |true=>
  refine SW.cond rfl false (by show S6 21=_;rw[Ql,hp]<;>rfl) ?_;refine SW.last hG cV (by kernel_rfl) (ac:=ae.qb nJ.qb.qb.qb.qb) (by kernel_rfl) (λ_ _ h=>h) (λS H=>S 1=.func (.func k) [] [.ref u,.ref v,.ref x]/\S 5=.int .i64 (i:Nat)/\S 6=.int .i64 (q:Nat)) ?_ ?_
  .simp[c59,nJ,ae.qa,ae.qb,s1,s5,s6,s7]
  rintro S7 H7 ⟨s1,s5,s6⟩;refine⟨⟨i,q,rfl,g1,by omega,oq,λy Ax WA=>hm q y Ax hp,s1,s5,s6⟩,?_⟩;show(match S7 5,S7 6 with|.int _ i,.int _ j=>(j-i).toNat|_,_=>0)<(match S3 5,S3 6 with|.int _ i,.int _ j=>(j-i).toNat|_,_=>0);rw[s5,s6,m5,m6];simp only;omega
 |false=>
  refine SW.cond rfl true (by show S6 21=_;rw[Ql,hp]<;>rfl) ?_
  have ib:IntKind.i64.wrap ((q:Int)+1)=((q+1:Nat):Int):=by rw[bf (by omega)];omega
  refine SW.last hG cV (by kernel_rfl) (ac:=ae.qa nJ.qb.qb.qb.qb) (by kernel_rfl) (λ_ _ h=>h) (λS H=>S 1=.func (.func k) [] [.ref u,.ref v,.ref x]/\S 5=.int .i64 ((q+1:Nat):Int)/\S 6=.int .i64 (j:Nat)) ?_ ?_
  .simp[c59,nJ,ae.qa,ae.qb,s1,s5,s6,s7,ib]
  rintro S7 H7 ⟨s1,s5,s6⟩;refine⟨⟨q+1,j,rfl,by omega,uL,g3 hp,rI,s1,s5,s6⟩,?_⟩;show(match S7 5,S7 6 with|.int _ i,.int _ j=>(j-i).toNat|_,_=>0)<(match S3 5,S3 6 with|.int _ i,.int _ j=>(j-i).toNat|_,_=>0);rw[s5,s6,m5,m6];simp only;omega
def SY(hG:aw GI)(s:aE)(hs:tR s){L:Nat}(hL:L<4611686018427387904):AC prog GI 65 [ec s,.int .i64 (L:Nat)] (.ret (ec (sP s L))):=by
 have h:=ZC hG (sA:=an s) (ws:=s.words) (L:=L) rfl rfl (by
  intro x hx;simp[an]at hx
  rcases hx with rfl|rfl|rfl|rfl|rfl|rfl|rfl|rfl|rfl|rfl<;>rfl) (by have:=hs.words;omega) (λw hw=>by have:=hs.bc w hw;have:=hs.d_ w hw;omega) hL
 have e:AV.agg (((an s).set 7 (.slice .view ((eQ s.words L).map cU))).map AV.bF)=ec (sP s L):=by
  simp[an,ec,sP,vI,ints,AV.bF]
 rw[e]at h;exact h
def Dh(s:aE):List AV:=if br s then[.int .i64 (wo s:Nat),.int .i64 0]else[.int .i64 0,.int .i64 2]
def V6(hG:aw GI)(s:aE)(hs:tR s):AC prog GI 20 [ec s] (.ret (.eS (Dh s))):=by
 unfold Dh;have Qh:=GV hG s hs
 cases eH:br s with
 |false=>
  rw[eH]at Qh;refine dM hG func20 ntmps20 c20 ?_;refine ba (λS H=>S 1=.box 1 0/\H 1=some (an s)) (by simp[ec,an]) ?_;rintro S H ⟨s1,e1⟩;simp[s1,e1,an];refine⟨_,by kernel_rfl,Qh,λ_=>rfl,?_⟩;simp
 |true=>
 rw[eH]at Qh;rw[if_pos rfl];have hN:=Ek eH
 obtain⟨N,SR⟩:∃N,gW s.words=N:=⟨_,rfl⟩
 have K7:=λn (h:n<N) hp hb=>OW (s:=s) (n:=n) (by omega) hp hb
 have zp:=K9 (s:=s);rw[SR]at zp hN;refine dM hG func20 ntmps20 c20 ?_;refine ba (λS H=>S 1=.box 1 0/\H 1=some (an s)) (by simp[ec,an]) ?_;rintro S H ⟨s1,e1⟩;refine ba (λS H=>S 1=.box 1 0/\H 1=some (an s)) ?_ ?_
 .simp[s1,e1,an];refine⟨_,by kernel_rfl,Qh,λ_=>rfl,?_⟩;simp[s1,e1,an]
 clear s1 e1 S H;rintro S H ⟨s1,e1⟩;refine ba (λS H=>S 1=.box 1 0/\H 1=some (an s)/\S 4=.int .i64 0) (by simp[s1,e1]) ?_;clear s1 e1 S H;rintro S H ⟨s1,e1,s4⟩;refine ba (λS H=>S 1=.box 1 0/\H 1=some (an s)/\S 4=.int .i64 (N:Nat)) ?_ ?_
 .simp[s1,e1,s4,an];refine dg 14 s.words.length (λi S H=>S 1=.box 1 0/\H 1=some (an s)/\S 12=.slice .view (s.words.map cU)/\S 13=.int .i64 s.words.length/\S 14=.int .i64 (i:Nat)/\S 4=.int .i64 (gW (s.words.take i):Nat)) (λi S H h=>h.2.2.2.2.1) ⟨by simp[s1],by simp[e1,an],by simp,by simp,by simp,by simp[s4,gW]⟩ ?_;clear s1 e1 s4 S H;rintro i hi S H ⟨s1,e1,bK,dW,fo,s4⟩
  by_cases av:i<s.words.length
  case neg=>
   have dN:i=s.words.length:=by omega
   subst dN;rw[List.take_of_length_le (Nat.le_refl _),SR]at s4;simp[s1,e1,bK,dW,fo,s4,an]
  have ib:=(gN eH).words;have hw:IntKind.i64.wrap ((i:Int)+1)=i+1:=bf (by omega)
  have Qs:gW (s.words.take i)<=24:=by
   have:=qT (l:=s.words.take i) (b:=6) λw hw=>(lr eH (List.mem_of_mem_take hw)).si
   rw[List.length_take]at this;omega
  have hsi:=(lr eH (List.getElem_mem av)).si;rw[Fg av]
  generalize gW (s.words.take i)=m at*
  have Jp:IntKind.i64.wrap ((m:Int)+(s.words[i].bc.length:Int))=(m:Int)+(s.words[i].bc.length:Int):=bf (by omega);simp[s1,e1,bK,dW,fo,s4,av,cU,hw,Jp,an]
 clear s1 e1 s4 S H;rintro S H ⟨s1,e1,s4⟩;simp[s1,e1,s4];refine dg 25 N (λn S H=>S 1=.box 1 0/\H 1=some (an s)/\S 4=.int .i64 (N:Nat)/\S 24=.int .i64 (N:Nat)/\S 25=.int .i64 (n:Nat)/\∀j,j<n->iX s j=false) (λi S H h=>h.2.2.2.2.1) ⟨by simp[s1],by simp[e1],by simp[s4],by simp,by simp,λj h=>absurd h (Nat.not_lt_zero _)⟩ ?_;clear s1 e1 s4 S H;rintro n hn S H ⟨s1,e1,s4,pP,kQ,hb⟩
 by_cases av:n<N
 case neg=>
  have wR:n=N:=by omega
  subst wR;rw[zp hb];simp[s1,e1,s4,pP,kQ]
 have hw:IntKind.i64.wrap ((n:Int)+1)=n+1:=bf (by omega)
 have Od:IntKind.i64.wrap ((N:Int)-(n:Int))=(N-n:Nat):=by rw[bf (by omega)];omega
 have Zl:=SY hG s hs (L:=N-n) (by omega);have iC:=Ed eH (k:=N-n) (by omega);have a80:=HI hG (sP s (N-n)) iC;have a107:=UQ hG (sP s (N-n)) iC [] (by simp) (tf iC)
 have hp:iX s n=!(jy (sP s (N-n)) []).isEmpty:=by unfold iX;rw[SR]
 rw[<-hp]at a107;simp[s1,e1,s4,pP,kQ,av,an,Od];refine oc Zl ?_;simp[s1,e1,s4,pP,kQ,av,ec,an];refine oc a80 ?_;simp[s1,e1,s4,pP,kQ,av,gq,aN,an,bH];refine oc a107 ?_;cases hf:iX s n
 .simp[s1,e1,s4,pP,kQ,av,hw];refine⟨rfl,?_⟩;intro j hj;rcases Nat.lt_or_ge j n with h|h
  .exact hb j h
  .rw[show j=n by omega];exact hf
 .rw[K7 n av hf hb];simp[s1,e1,s4,pP,kQ,av]
end Go.Proofs.Tryz
namespace Go.Proofs.Tryz
open Go Go.AL Go.RowKit Go.Proofs Go.Proofs.Tram
variable{GI:World->Prop}
def Am(a:Act)(d:Nat)(c c':Value):(a.put (some d) c).put (some d) c'=a.put (some d) c':=by
 simp[Act.put]
def Qt(s:bo):(AV.agg (bj s)).vw=.agg (bj s):=by simp[AV.vw,bj,an,AV.bF,vI]
def Oy{Pr:Nat->Nat->Prop}{w:World}{n:Int}{c:Value}(h:RD Pr w (tB n) c):c=.iface 241 (.agg #[.int .i64 n]):=by
 unfold tB at h
 cases h with
 |iface _ _ c h=>
  cases h with
  |agg _ vs hl h1 hr=>
   obtain⟨u,rfl⟩:=j6 (vs:=vs) (by rw[<-hl]<;>rfl);have:=hr 0 (by simp) (by simp);have:=(RV.data (al:=bU) _ _ this).int_eq;simp only[List.getElem_toArray,List.getElem_cons_zero]at this;rw[this]
section
variable{w0:World}{n:Nat}{g:Gh}{S:af}{H:ah}{a:Act}{w:World}{d i2 i6:Nat}{s:bo}{z:List AV}
def sW (hG:aw GI) (bP:GI w0) (R:Rel prog w0 n bu g S H a w) (hd:d < n) (Bu:i2 < n) (A7:i6 < n) (Bc:d≠i6)
  (qX:S i2=.box i2 0) (Dx:H i2=some (bj s)) (BW:S i6=.box i6 0) (Dv:H i6=some z) {R':Ending->World->Prop}
  (h:∀(c1:Value)(g1:Gh),g1.old=g.old->Rel prog w0 n bu g1 (aq S d (.agg (bj s))) H (a.put (some d) c1) w->GI w->RV (iu g1 false) (λ_=>none) w (g_ s) c1->∀(b6:Nat),a.tmps.getD i6 undef=.pointer (some ⟨b6,0,none⟩)->
   ∃RR:Ending->World->Prop,Calls prog 89 #[c1] w RR/\∀en w2,RR en w2->match en with
    |.returned v=>∀ (aC:Act) (o:Oper),aC.eval (.tmp 1) = .pointer (some ⟨b6,0,none⟩)→aC.eval (.tmp 3)=v→o.op = .store 100 (.tmp 1) (.tmp 3) →
      ∃w3,((execOp aC.eval o).run prog w2=.ok .skip w3\/∃u,(execOp aC.eval o).run prog w2=.ok (.value u) w3)/\R' (.returned (.tuple #[])) w3
    |.panicked ch=>R' (.panicked ch) w2
    |.outgrown=>False):
  Calls prog 88 #[a.tmps.getD i2 undef,a.tmps.getD i6 undef] w R':=by
 obtain⟨b2,mF,e2⟩:=jk R Bu qX;obtain⟨b6,BJ,e6⟩:=jk R A7 BW;have aI:=R.size;have oP:=R.below;rw[R.base]at oP;have jI:GI w:=hG w0 w bP oP;obtain⟨i40,WE,Xq⟩:=iZ 40 15;obtain⟨fs,iD⟩:=uZ 40
 have j4:ao S H (.load .any (eB (.struct fs)) i40.size (.t i2))=some { v:=.agg (bj s) }:=by
  simp[ao,ev,qX,Dx,HR.okB,Xq,eB,aZ,bj,an,AV.aA,vI]
 obtain ⟨c1,w1,g1,dJ,pS,iE,R1⟩:=zq R (o:={ dst:=some d,op := .load 40 (.tmp i2),type:=0,pos := "",after := #[],guard:=none }) (x := .tmp i2) (y := .t i2) rfl (λt ht=>by cases ht;exact ⟨hd,id⟩) WE iD (by simp [du,Bu]) (λ_ _=>id) j4
 have ig:w1=w:=by
  rcases dJ with dJ|⟨dJ,_⟩
  .exact(pw (P:=prog) (by rfl) dJ).1
  .obtain⟨_,v,hv⟩:=pw (P:=prog) (by rfl) dJ;cases hv
 subst ig
 have Tu:(execOp a.eval { dst:=some d,op := .load 40 (.tmp i2),type:=0,pos := "",after := #[],guard:=none }).run prog w1 = .ok (.value c1) w1:=by
  rcases dJ with dJ|⟨dJ,_⟩
  .exact dJ
  .obtain⟨_,v,hv⟩:=pw (P:=prog) (by rfl) dJ;cases hv
 have L1:Rel prog w0 n bu g1 (aq S d (.agg (bj s))) H (a.put (some d) c1) w1:=R1
 have XM:∀(a:Act)(d:Nat)(c:Value),d<a.tmps.size->(a.put (some d) c).tmps.getD d undef=c:=λa d c h=>by
  simp[Act.put,h]
 have jf:RV (iu g1 false) (λ_=>none) w1 (g_ s) c1:=by
  have h1:=L1.slot d hd id;rw[aJ,XM a d c1 (by omega)]at h1;have:=L1.fM h1 false (by simp[mG]);have e:Go.AL.fM H (.agg (bj s))=.agg (bj s):=Qt s;rw[e]at this;exact this
 obtain⟨RR,jv,hRR⟩:=h c1 g1 iE L1 jI jf b6 e6;rw[e2,e6];refine calls_of_wp func88 rfl ?_;refine(gz (m:=0)).1 ?_;refine fc (λa=>a.tmps.size=4/\a.defers=[]/\a.tmps.getD 0 undef=.pointer (some ⟨b2,0,none⟩)/\a.tmps.getD 1 undef=.pointer (some ⟨b6,0,none⟩)) ⟨by simp[ntmps88],rfl,ef _ _ 0 (by simp),ef _ _ 1 (by simp)⟩ ?_;rintro aC ⟨zC,dC,t0,t1⟩
 have eO:∀(a:Act)(d:Nat)(c:Value),a.tmps.size=4->d<4->(a.put (some d) c).tmps.getD d undef=c:=λa d c h hd=>by
  simp[Act.put,h,hd]
 have cz:∀(a:Act)(d t:Nat)(c:Value),t≠d->(a.put (some d) c).tmps.getD t undef=a.tmps.getD t undef:=λa d t c h=>by
  simp[Act.put,Array.getElem?_setIfInBounds_ne (Ne.symm h)]
 refine wpIn_region ?_;show wpOpsIn _ _ _ _ _ [0,1,2] aC w1
 have AR:∀o:Oper,o.op=.load 40 (.tmp 0)->(execOp aC.eval o).run prog w1=.ok (.value c1) w1:=by
  intro o ho;have h1:aC.eval (.tmp 0)=a.eval (.tmp i2):=t0.trans e2.symm;rw[<-Tu];unfold execOp;simp only[ho,h1]
 refine aK rfl rfl (by rfl) (AR _ rfl) ?_;show wpOpsIn _ _ _ _ _ [1,2] (aC.put (some 2) c1) w1;refine pk rfl rfl (by rfl) (fV (k:=89) (args:=#[c1]) w1 rfl rfl ?_ (by kernel_rfl)) jv ?_
 .simp only[List.map_toArray,List.map_cons,List.map_nil];show #[(aC.put (some 2) c1).tmps.getD 2 undef]=_;rw[eO _ _ _ zC (by decide)]
 rintro en w2 hen;have:=hRR en w2 hen
 cases en with
 |returned v=>
  show wpOpsIn _ _ _ _ _ [2] ((aC.put (some 2) c1).put (some 3) v) w2
  obtain ⟨w3,hr3,zl⟩:=this ((aC.put (some 2) c1).put (some 3) v) { dst:=none,op := .store 100 (.tmp 1) (.tmp 3),type:=0,pos := "",after := #[],guard:=none }
   (by show((aC.put (some 2) c1).put (some 3) v).tmps.getD 1 undef=_;rw[cz _ _ _ _ (by decide),cz _ _ _ _ (by decide)];exact t1)
   (by show((aC.put (some 2) c1).put (some 3) v).tmps.getD 3 undef=_;exact eO _ _ _ (by simpa[Act.put]using zC) (by decide)) rfl
  have fin:∀u:Value,((aC.put (some 2) c1).put (some 3) v).defers=[]/\∃v',(results f88 ((aC.put (some 2) c1).put (some 3) v).tmps).run prog w3=.ok v' w3/\R' (.returned v') w3:=λu=>⟨dC,.tuple #[],by simp[results,results88],zl⟩
  have eZ:∀ o:Oper,o.op = .store 100 (.tmp 1) (.tmp 3)->(execOp ((aC.put (some 2) c1).put (some 3) v).eval o).run prog w2=(execOp ((aC.put (some 2) c1).put (some 3) v).eval { dst:=none,op := .store 100 (.tmp 1) (.tmp 3),type:=0,pos := "",after := #[],guard:=none }).run prog w2:=by
   intro o ho;unfold execOp;simp only[ho]
  rcases hr3 with hr|⟨u,hr⟩
  .exact dh rfl rfl (by rfl) ((eZ _ rfl).trans hr) (fin undef)
  .exact aK rfl rfl (by rfl) ((eZ _ rfl).trans hr) (fin u)
 |panicked ch=>exact⟨dC,this⟩
 |outgrown=>exact this.elim
def MX (hG:aw GI) (bP:GI w0) (R:Rel prog w0 n bu g S H a w) (hd:d < n) (Bu:i2 < n) (A7:i6 < n) (Bc:d≠i6)
  (qX:S i2=.box i2 0) (Dx:H i2=some (bj s)) (BW:S i6=.box i6 0) (Dv:H i6=some z) (hz:z.length=16) {ns:List Int} (wL:AC prog GI 89 [g_ s] (.ret (gX s ns))):
  Calls prog 88 #[a.tmps.getD i2 undef,a.tmps.getD i6 undef] w λe w2=>e=.returned (.tuple #[])/\∃(c:Value)(g':Gh)(S':af)(H':ah),g'.old=g.old/\Rel prog w0 n bu g' S' H' (a.put (some d) c) w2/\(∀t,t≠d->S' t=S t)/\H'=aq H i6 (some (bZ s ns)):=by
 refine sW hG bP R hd Bu A7 Bc qX Dx BW Dv λc1 g1 wm R1 jI jf b6 e6=>?_
 refine⟨_,wL w (iu g1 false) #[c1] jI rfl (λi h h'=>by
  match i,h with
  |0,_=>exact jf),?_⟩
 rintro en w2 ⟨iU,hi,rP,c,rfl,Ns,cE⟩;intro aC o q1 q3 ho;obtain⟨g',pS,iE,R2⟩:=R1.call (some d) (λt ht=>by cases ht;exact⟨hd,id⟩) false iU rP Ns cE (λh=>by cases h);rw[Am]at R2
 have Zq:∀t,t≠d->aH (aq S d (.agg (bj s))) (some d) (gX s ns) t=S t:=λt ht=>by simp[AL.aH,aq,ht]
 obtain⟨i100,ug,uh⟩:=iZ 100 16
 have jP:aR z 0 ((bZ s ns).map AV.aA)=bZ s ns:=by
  have:(bZ s ns).map AV.aA=bZ s ns:=by simp[bZ,bj,an,vI,AV.aA]
  rw[this];simp[aR,hz,bZ,bj,an]
 have j4:ao (aH (aq S d (.agg (bj s))) (some d) (gX s ns)) H (.store .any i100.size (.t i6) (.t d))=some { v:=bG,dm:=some d,hw:=some (i6,bZ s ns) }:=by
  show ao (aH (aq S d (.agg (bj s))) (some d) (.agg (bZ s ns))) H (.store .any i100.size (.t i6) (.t d))=_;have e1:ev (aH (aq S d (.agg (bj s))) (some d) (.agg (bZ s ns))) (.t i6)=.box i6 0:=(Zq i6 (Ne.symm Bc)).trans BW
  have e2:ev (aH (aq S d (.agg (bj s))) (some d) (.agg (bZ s ns))) (.t d)=.agg (bZ s ns):=by simp[ev,AL.aH,aq]
  have hl:(bZ s ns).length=16:=by simp[bZ,bj,an]
  simp only[ao,e1,e2,Dv,HR.okB];simp[AV.cells,AV.storable,uh,hl,hz,a_,jP,AV.bm]
 obtain ⟨c2,w3,g3,dJ,aaJ,ZM,R3⟩:=xQ R2 (o:={ dst:=none,op := .store 100 (.tmp i6) (.tmp d),type:=0,pos := "",after := #[],guard:=none }) (x1 := .tmp i6) (x2 := .tmp d) (y1 := .t i6) (y2 := .t d) (hr := .any) rfl rfl ug (by simp [du,A7]) (by simp [du,hd]) (λ_ _=>id) (λ_ _=>id) j4;have aI:=R.size
 have f6:(a.put (some d) c).eval (.tmp i6)=.pointer (some ⟨b6,0,none⟩):=by
  show(a.put (some d) c).tmps.getD i6 undef=_;rw[<-e6];simp[Act.put,Array.getElem?_setIfInBounds_ne Bc]
 have fd:(a.put (some d) c).eval (.tmp d)=c:=by
  show(a.put (some d) c).tmps.getD d undef=_;simp[Act.put,aI,hd]
 have aY:(execOp aC.eval o).run prog w2=(execOp (a.put (some d) c).eval { dst:=none,op := .store 100 (.tmp i6) (.tmp d),type:=0,pos := "",after := #[],guard:=none }).run prog w2:=by
  unfold execOp;simp only[ho,q1,q3,f6,fd]
 refine⟨w3,?_,rfl,c,g3,_,_,by rw[ZM,iE,wm],R3,λt ht=>?_,rfl⟩
 .rcases dJ with dJ|⟨dJ,_⟩
  .exact .inr ⟨_,aY.trans dJ⟩
  .exact .inl (aY.trans dJ)
 .rw[<-Zq t ht];simp[aD.S,AL.aH,aq,ht]
def Lk (hG:aw GI) (bP:GI w0) (R:Rel prog w0 n bu g S H a w) (hd:d < n) (Bu:i2 < n) (A7:i6 < n) (Bc:d≠i6)
  (qX:S i2=.box i2 0) (Dx:H i2=some (bj s)) (BW:S i6=.box i6 0) (Dv:H i6=some z) {k:Int} (wL:AC prog GI 89 [g_ s] (.panic (tB k))):
  Calls prog 88 #[a.tmps.getD i2 undef,a.tmps.getD i6 undef] w λe w2=>e=.panicked [{ v:=.iface 241 (.agg #[.int .i64 k]),recovered:=false }]/\Below w.heap.size w w2:=by
 refine sW hG bP R hd Bu A7 Bc qX Dx BW Dv λc1 g1 wm R1 jI jf b6 e6=>?_
 refine⟨_,wL w (iu g1 false) #[c1] jI rfl (λi h h'=>by
  match i,h with
  |0,_=>exact jf),?_⟩
 rintro en w2 ⟨iU,hi,rP,c,rfl,df⟩;have hc:=Oy df;subst hc;exact⟨rfl,iU⟩
def AJ(R:Rel prog w0 n bu g S H a w):g.old.keep w.heap.size=none:=by
 cases h:g.old.keep w.heap.size with
 |none=>rfl
 |some o=>
  have:=(Array.getElem?_eq_some_iff.1 (R.kept _ o h).2.1).1;omega
def N9 (hG:aw GI) (bP:GI w0) (R:Rel prog w0 n bu g S H a w) (hd:d < n) (Bu:i2 < n) (A7:i6 < n) (Bc:d≠i6)
  (qX:S i2=.box i2 0) (Dx:H i2=some (bj s)) (BW:S i6=.box i6 0) (Dv:H i6=some z) (hz:z.length=16) {ns:List Int} (wL:AC prog GI 89 [g_ s] (.ret (gX s ns))):
  Calls prog 87 #[.func (.func 88) #[] #[a.tmps.getD i2 undef,a.tmps.getD i6 undef]] w λe w2=>e=.returned (.int .i64 0)/\∃(c:Value)(g':Gh)(S':af)(H':ah),g'.old=g.old/\Rel prog w0 n bu g' S' H' (a.put (some d) c) w2/\(∀t,t≠d->S' t=S t)/\H'=aq H i6 (some (bZ s ns)):=by
 have R1:=R.AQ (.cells #[.int .i64 0] 43);have Lz:=AJ R;refine rD (by kernel_rfl) (MX hG bP R1 hd Bu A7 Bc qX Dx BW Dv hz wL) ?_;rintro e w2 ⟨rfl,c,g',S',H',ho,R2,Hh,PJ⟩
 have hk:g'.old.keep w.heap.size=some (.cells #[.int .i64 0] 43):=by rw[ho];exact aJ _ _ _
 have lO:=(R2.kept _ _ hk).2.1;have av:=(Array.getElem?_eq_some_iff.1 lO).1;refine⟨av,⟨_,_,lO⟩,.inl ⟨_,rfl,rfl,c,_,S',H',?_,(R2.Ko w.heap.size).kP ?_,Hh,PJ⟩⟩
 .show({ g'.old with keep:=aq g'.old.keep w.heap.size none }:Old)=_;rw[ho]
  have:aq (aq g.old.keep w.heap.size (some (.cells #[.int .i64 0] 43))) w.heap.size none=g.old.keep:=by
   funext b
   by_cases hb:b=w.heap.size
   .subst hb;simp[aq,Lz]
   .simp[aq,hb]
  show({ g.old with keep:=aq (aq g.old.keep w.heap.size (some (.cells #[.int .i64 0] 43))) w.heap.size none }:Old)=_;rw[this]
 .refine⟨rfl,rfl,rfl,by simp,λk eK=>?_⟩
  by_cases hb:k=w.heap.size
  .subst hb;rw[setRow_heap w2 _ _ _ _ _ lO,lO]
  .exact setRow_other w2 _ k _ hb
def L9 (hG:aw GI) (bP:GI w0) (R:Rel prog w0 n bu g S H a w) (hd:d < n) (Bu:i2 < n) (A7:i6 < n) (Bc:d≠i6)
  (qX:S i2=.box i2 0) (Dx:H i2=some (bj s)) (BW:S i6=.box i6 0) (Dv:H i6=some z) {k:Int} (wL:AC prog GI 89 [g_ s] (.panic (tB k))):
  Calls prog 87 #[.func (.func 88) #[] #[a.tmps.getD i2 undef,a.tmps.getD i6 undef]] w λe w2=>e=.returned (.int .i64 7)/\∃g',g'.old=g.old/\Rel prog w0 n bu g' S H a w2:=by
 have R1:=R.AQ (.cells #[.int .i64 0] 43);have Lz:=AJ R;refine rD (by kernel_rfl) (Lk hG bP R1 hd Bu A7 Bc qX Dx BW Dv wL) ?_;rintro en w2 ⟨rfl,iU⟩;have R2:=R1.kP iU;have hk:aq g.old.keep w.heap.size (some (.cells #[.int .i64 0] 43)) w.heap.size=some (.cells #[.int .i64 0] 43):=aJ _ _ _;have lO:=(R2.kept _ _ hk).2.1;have av:=(Array.getElem?_eq_some_iff.1 lO).1;refine⟨av,⟨_,_,lO⟩,.inr (.inl ⟨k,rfl,λw3 oA=>⟨rfl,?_⟩⟩)⟩;have R3:=R2.kP oA;have I0:=(R3.kept _ _ hk).2.1;have R4:=R3.qh hk (.cells #[.int .i64 7] 43);rw[kj w3 I0];refine⟨_,?_,R4.Ko w.heap.size⟩
 have:aq (aq (aq g.old.keep w.heap.size (some (.cells #[.int .i64 0] 43))) w.heap.size (some (.cells #[.int .i64 7] 43))) w.heap.size none=g.old.keep:=by
  funext b
  by_cases hb:b=w.heap.size
  .subst hb;simp[aq,Lz]
  .simp[aq,hb]
 show({ g.old with keep:=aq (aq (aq g.old.keep w.heap.size (some (.cells #[.int .i64 0] 43))) w.heap.size (some (.cells #[.int .i64 7] 43))) w.heap.size none }:Old)=_;rw[this]
end
def EN(s:bo)(az bJ:List Int):Nat:=fp az (gk bJ) (fm (fE s) s.cells.length)
end Go.Proofs.Tryz
namespace Go.Proofs.Tryz
open Go Go.AL Go.RowKit Go.Proofs Go.Proofs.Tram
attribute [local simp] dI eb dP db dG cI cJ cb cd dE b_ bL fk fj ar ao ev aD.S aD.H a_ aq aH AL.start AV.cells AV.storable AV.bm aR aT ee aZ HR.okB post cn ct cw AV.out AV.bC bz bW fz fM AV.vw bR vI int bG aB cS cg fS gL dL cG aU AV.aA AV.bF
variable{GI:World->Prop}
def zT:bo:=⟨[],0,0,0,0,⟨[],[],0,0,0,0,0,[],0,0⟩⟩
def jg(s:bo)(b:Bool):List AV:=
 if b then(match me s.name with|some es=>[gX s (cH s es),.int .i64 0]|none=>[gX zT [],.int .i64 7])else[gX zT [],.int .i64 2]
def jY:List AV:=[.slice .nil [],.int .i64 0,.int .i64 0,.int .i64 0,.int .i64 0,.slice .nil [],.slice .nil [],.int .i64 0,.int .i64 0,.int .i64 0,.int .i64 0,.int .i64 0,.slice .nil [],.int .i64 0,.int .i64 0,.slice .nil []]
def O7(hG:aw GI)(s:bo):AC prog GI 35 [g_ s,.bool false] (.ret (.eS [gX zT [],.int .i64 2])):=by
 obtain⟨i100,ug,uh⟩:=iZ 100 16;obtain⟨fs,iD⟩:=uZ 100;refine dM hG func35 ntmps35 c35 ?_;simp[c35,g_,bj,an,cL,ug,uh,iD,eB,gX,bZ,zT]
 try rfl
def NV(hG:aw GI)(s:bo)(hs:sQ s):AC prog GI 35 [g_ s,.bool (jH s)] (.ret (.eS (jg s (jH s)))):=by
 cases hI:jH s with
 |false=>exact O7 hG s
 |true=>
 have MB:=tv hI
 refine AC.iL func35 rfl ntmps35 (by simp) λcc w=>?_
 refine dR hG c35.qa (λS' H'=>S' 1=.bool true/\S' 2=.box 2 0/\H' 2=some (bj s)/\S' 4=.box 4 0/\H' 4=some jY) ?_ ?_
 .simp[c35,ae.qa,g_,bj,an,jY]
 rintro S1 H1 ⟨s1,s2,h2,s4,h4⟩;refine SW.seq (dR hG c35.qb.qa.qa (λS' H'=>S' 9=.bool false/\S' 2=.box 2 0/\H' 2=some (bj s)/\S' 4=.box 4 0/\H' 4=some jY) ?_ ?_)
 .simp[c35,ae.qa,ae.qb,s1,s2,h2,s4,h4]
 clear s1 s2 h2 s4 h4;rintro S2 H2 ⟨s9,s2,h2,s4,h4⟩;refine SW.cond rfl false (by show S2 9=_;rw[s9]) (SW.skip ?_);show SW prog GI 15 none (.seq _ (.seq _ (.seq _ .ret))) _ _ _ _;refine dR hG c35.qb.qb.qa (λS' H'=>S' 2=.box 2 0/\H' 2=some (bj s)/\S' 4=.box 4 0/\H' 4=some jY/\S' 6=.box 6 0/\H' 6=some jY) ?_ ?_
 .simp[c35,ae.qa,ae.qb,s2,h2,s4,h4,jY]
 clear s9 s2 h2 s4 h4;rintro S3 H3 ⟨s2,h2,s4,h4,s6,h6⟩
 obtain ⟨l,e,hle,hO,qu⟩:∃ (l:List AV) (e:Int),l.length=16∧jg s true=[(AV.agg (l.map AV.aA)).vw,.int .i64 e] ∧
   ∀(w0:World)(g:Gh)(S:af)(H:ah)(a:Act)(w:World),GI w0->Rel prog w0 15 bu g S H a w->S 2=.box 2 0->H 2=some (bj s)->S 6=.box 6 0->H 6=some jY->
    Calls prog 87 #[.func (.func 88) #[] #[a.tmps.getD 2 undef,a.tmps.getD 6 undef]] w λen w2=>en=.returned (.int .i64 e)/\∃(c:Value)(g':Gh)(S':af)(H':ah),g'.old=g.old/\Rel prog w0 15 bu g' S' H' (a.put (some 12) c) w2/\(∀t,t≠12->S' t=S t)/\H'=aq H 6 (some l):=by
  cases ly:me s.name with
  |some es=>
   refine⟨bZ s (cH s es),0,by simp[bZ,bj,an],?_,λw0 g S H a w bP R q2 Tz q6 QW=>N9 hG bP R (by decide) (by decide) (by decide) (by decide) q2 Tz q6 QW rfl (Xb hG s hs MB ly)⟩;simp[jg,ly,gX,bZ,bj,an,vI,AV.aA,AV.vw,AV.bF]
  |none=>
   refine⟨jY,7,rfl,?_,λw0 g S H a w bP R q2 Tz q6 QW=>(L9 hG bP R (d:=12) (by decide) (by decide) (by decide) (by decide) q2 Tz q6 QW (M6 hG s hs MB ly)).mono ?_⟩
   .simp[jg,ly,gX,bZ,bj,an,zT,jY,vI,ints,AV.aA,AV.vw,AV.bF]
   .rintro en w2 ⟨rfl,g',E8,R'⟩;refine⟨rfl,undef,g',aq S 12 .bh,H,E8,R'.put 12 .bh undef (by decide) (.bh _) trivial,λt ht=>aG _ _ ht,?_⟩
    funext k
    by_cases hk:k=6
    .subst hk;rw[aJ];exact QW
    .rw[aG _ _ hk]
 rw[hO]
 refine SW.seq (SW.hand hG (p:=0) (lm:=[0,1]) (l2:=[2]) (jT:=[]) (oh:=[_,_]) (jC:=[_]) rfl rfl rfl rfl (by kernel_rfl) (λ_ h=>h) (nN:=[]) (mF:=(c35.qb.qb.qb.qa.dl).drop 2) rfl (by kernel_rfl) rfl (by kernel_rfl)
  (K1:=λS' H'=>S' 2=.box 2 0/\H' 2=some (bj s)/\S' 4=.box 4 0/\H' 4=some jY/\S' 6=.box 6 0/\H' 6=some jY)
  (K2:=λo S' H'=>o=Old.plain cc w/\S' 4=.box 4 0/\H' 4=some jY/\S' 6=.box 6 0/\H' 6=some l/\S' 12=.int .i64 e)
  (K3:=λo S' H'=>o=Old.plain cc w/\S' 4=.box 4 0/\H' 4=some jY/\S' 6=.box 6 0/\H' 6=some l/\S' 7=.int .i64 e) ⟨s2,h2,s4,h4,s6,h6⟩ ?_ ?_ ?_)
 .rintro w0 g S5 H5 a w5 m bP ho R ⟨s2,h2,s4,h4,s6,h6⟩;have aI:=R.size;refine aK rfl rfl (by rfl) (oB (fn:=.func 88) (c:=#[.tmp 2,.tmp 6]) rfl) ?_
  obtain⟨fv,rK⟩:∃fv:Value,fv=.func (.func 88) #[] (#[Operand.tmp 2,.tmp 6].map a.eval):=⟨_,rfl⟩
  show wpOpsIn _ _ _ _ _ [1] (a.put (some 11) (.func (.func 88) #[] (#[Operand.tmp 2,.tmp 6].map a.eval))) w5;rw[<-rK];have R1:=R.put 11 .bh fv (by decide) (.bh _) trivial
  obtain⟨a1,yE⟩:∃a1,a.put (some 11) fv=a1:=⟨_,rfl⟩
  rw[yE]at R1⊢
  have Y3:fv=.func (.func 88) #[] #[a1.tmps.getD 2 undef,a1.tmps.getD 6 undef]:=by
   have e1:=ke a 11 2 fv (by omega);have e4:=ke a 11 6 fv (by omega);rw[if_neg (by decide),yE]at e1 e4;have Qx:a1.tmps.getD 2 undef=a.eval (.tmp 2):=e1;have e4':a1.tmps.getD 6 undef=a.eval (.tmp 6):=e4;rw[Qx,e4',rK];simp only[List.map_toArray,List.map_cons,List.map_nil]
  have p7:a1.eval (.tmp 11)=fv:=by rw[<-yE,ke _ _ _ _ (by omega),if_pos rfl]
  refine ik rfl rfl (by rfl) (fV (k:=87) (args:=#[.func (.func 88) #[] #[a1.tmps.getD 2 undef,a1.tmps.getD 6 undef]]) w5 rfl rfl ?_ (by kernel_rfl)) (qu w0 g _ _ a1 w5 bP R1 (by simp[aq,s2]) h2 (by simp[aq,s6]) h6) ?_
  .simp only[List.map_toArray,List.map_cons,List.map_nil,p7,<-Y3]
  .rintro en w6 ⟨rfl,c,g',S',H',iJ,R2,Hh,PJ⟩;refine⟨_,rfl,?_⟩;have R3:=R2.put 12 (.int .i64 e) (.int .i64 e) (by decide) (.data _ _ (.int _ _)) trivial;rw[Am]at R3;refine⟨g',_,H',R3,iJ.trans ho,?_,?_,?_,?_,aJ _ _ _⟩
   .show aq S' 12 _ 4=_;rw[aG _ _ (by decide),Hh 4 (by decide)];simp[aq,s4]
   .rw[PJ,aG _ _ (by decide)];exact h4
   .show aq S' 12 _ 6=_;rw[aG _ _ (by decide),Hh 6 (by decide)];simp[aq,s6]
   .rw[PJ];exact aJ _ _ _
 .rintro o S5 H5 ⟨rfl,s4,h4,s6,h6,bK⟩;refine⟨λ_ h=>h,?_⟩;simp[c35,ae.qa,ae.qb,ae.dl,bg,ar,aM,ao,ev,aD.S,aD.H,aq,aH,s4,h4,s6,h6,bK,AV.aA,a_]
 .rintro o S5 H5 ⟨rfl,s4,h4,s6,h6,s7⟩;show SW prog GI 15 none (.seq _ .ret) _ _ _ _;have hT:List.take 16 (l.map AV.aA)=l.map AV.aA:=List.take_of_length_le (by simp;omega);refine dR hG c35.qb.qb.qb.qb.qa (λS' H'=>S' 4=.box 4 0/\H' 4=some (l.map AV.aA)/\S' 5=.int .i64 e) ?_ ?_
  .simp[c35,ae.qa,ae.qb,s4,h4,s6,h6,s7,hle,hT,jY,gI]
  rintro S6 H6 ⟨s4,h4,s5⟩;obtain⟨i100,ug,uh⟩:=iZ 100 16;obtain⟨fs,iD⟩:=uZ 100;refine SW.ret ⟨ea.plain rfl,rfl,_,?_,rfl⟩;show cn prog 15 [.cell 4 100,.tmp 5] S6 H6=_;simp[cn,ct,cw,s4,h4,s5,ug,iD,uh,aZ,eB,hle,hT,gI,AV.out,AV.bC]
  try rfl
def wZ(e:Nat)(s:bo)(az:List Int):Nat:=fp az (gk (bw e s)) (fm (fE s) s.cells.length)
def xc{s:bo}(h:kN s){es:List End}(he:es.length<=3):(∀x∈cH s es,0<=x/\x<=1000)/\(cH s es).length<=1000:=by
 refine⟨λx hx=>?_,?_⟩
 .obtain⟨i,hi,rfl⟩:=List.mem_map.1 hx
  have:=x_ h he (i:=i) (by
   unfold fQ;split
   .rename_i x hx;obtain⟨av,rfl⟩:=List.getElem?_eq_some_iff.1 hx;exact(lr h.name (List.getElem_mem av)).si
   .omega)
  omega
 .have:=(gN h.name).words;simp[cH];omega
def se{s:bo}(h:kN s)(e:Nat):(bw e s).length=s.cells.length/\∀x∈bw e s,0<=x/\x<=1000:=by
 refine⟨by simp[bw],λx hx=>?_⟩;obtain⟨c,hc,rfl⟩:=List.mem_map.1 hx;have:=h.N3 c hc;unfold qy
 split<;>omega
def O0(hG:aw GI)(s:bo)(h:kN s)(az:List Int)(hn:(∀x∈az,0<=x/\x<=1000)/\az.length<=1000)(e:Nat):AC prog GI 38 [gX s az,vI (bw e s)] (.ret (.int .i64 (wZ e s az))):=
 Rb hG s h az hn.1 hn.2 (bw e s) (se h e).1 (se h e).2
def oK(e:Nat)(s:bo):List AV:=
 if jH s then(match me s.name with|some es=>[.int .i64 (wZ e s (cH s es)),.int .i64 0]|none=>[.int .i64 0,.int .i64 7])else[.int .i64 0,.int .i64 2]
def pI (s:bo):(jH s=true∧∃ es,me s.name=some es∧jg s (jH s)=[gX s (cH s es),.int .i64 0]) ∨
  (∃e:Int,e≠0/\jg s (jH s)=[gX zT [],.int .i64 e]/\∀k,oK k s=[.int .i64 0,.int .i64 e]):=by
 cases hI:jH s with
 |false=>exact .inr ⟨2,by decide,by simp[jg],λk=>by simp[oK,hI]⟩
 |true=>
  cases hs:me s.name with
  |some es=>exact .inl ⟨rfl,es,rfl,by simp[jg,hs]⟩
  |none=>exact .inr ⟨7,by decide,by simp[jg,hs],λk=>by simp[oK,hI,hs]⟩
def WD(hG:aw GI)(s:bo)(hs:sQ s):AC prog GI 12 [g_ s] (.ret (.eS (oK 0 s))):=by
 have NM:=Nv hG s hs;have Dr:=NV hG s hs
 rcases pI s with⟨hI,es,ly,ho⟩|⟨e,he,ho,Hq⟩
 .rw[ho]at Dr;have hg:=tv hI;have SU:=RL hG s (by have:=hg.cells;omega) 0 (.inl rfl);have Jl:=O0 hG s hg _ (xc hg (p9 hg.name ly)) 0
  have Hq:oK 0 s=[.int .i64 (wZ 0 s (cH s es)),.int .i64 0]:=by simp[oK,hI,ly]
  rw[Hq];refine dM hG func12 ntmps12 c12 ?_;simp[c12,g_,bj,an];refine oc NM ?_;simp;refine oc Dr ?_;simp[gX,bZ,bj,an,cL];refine oc SU ?_;simp;refine oc Jl ?_;simp
 .rw[ho]at Dr;rw[Hq]
  have IJ:(e !=0)=true:=by simpa using he
  refine dM hG func12 ntmps12 c12 ?_;simp[c12,g_,bj,an];refine oc NM ?_;simp;refine oc Dr ?_;simp[gX,bZ,bj,an,zT,cL,he,IJ]
def aae(hG:aw GI)(s:bo)(hs:sQ s):AC prog GI 13 [g_ s] (.ret (.eS (oK 1 s))):=by
 have NM:=Nv hG s hs;have Dr:=NV hG s hs
 rcases pI s with⟨hI,es,ly,ho⟩|⟨e,he,ho,Hq⟩
 .rw[ho]at Dr;have hg:=tv hI;have SU:=RL hG s (by have:=hg.cells;omega) 1 (.inr rfl);have Jl:=O0 hG s hg _ (xc hg (p9 hg.name ly)) 1
  have Hq:oK 1 s=[.int .i64 (wZ 1 s (cH s es)),.int .i64 0]:=by simp[oK,hI,ly]
  rw[Hq];refine dM hG func13 ntmps13 c13 ?_;simp[c13,g_,bj,an];refine oc NM ?_;simp;refine oc Dr ?_;simp[gX,bZ,bj,an,cL];refine oc SU ?_;simp;refine oc Jl ?_;simp
 .rw[ho]at Dr;rw[Hq]
  have IJ:(e !=0)=true:=by simpa using he
  refine dM hG func13 ntmps13 c13 ?_;simp[c13,g_,bj,an];refine oc NM ?_;simp;refine oc Dr ?_;simp[gX,bZ,bj,an,zT,cL,he,IJ]
def Ub(hG:aw GI)(s:bo)(hs:s.cells.length<1000)(e:Nat)(he:e=0\/e=1)(bQ:bw e s≠[]):AC prog GI 39 [g_ s,.int .i64 (e:Nat)] (.ret (.slice (.own 3) (ints (bw e s)))):=by
 refine AC.iL func39 rfl ntmps39 (by simp) λcc w=>Q8 hG s hs e he cc w λS5 H5 s6=>?_
 have P2:ints (bw e s)≠[]:=by simpa[ints]using bQ
 have Nt:S5 6=.slice (.own 3) (ints (bw e s)):=by rw[s6];simp[grow,P2]
 clear s6;show SW prog GI 29 none (.seq (.region _ _ false) .ret) _ _ _ _
 refine SW.seq (SW.hand hG (p:=0) (lm:=[0,1]) (l2:=[]) (jT:=[]) (oh:=[_,_]) (jC:=[]) rfl rfl rfl rfl (by kernel_rfl) (λ_ h=>h) (nN:=[]) (mF:=[]) rfl rfl rfl rfl
  (K1:=λS H=>S 6=.slice (.own 3) (ints (bw e s))) (K2:=λo S H=>o=Old.plain cc w/\S 4=.slice (.own 3) (ints (bw e s))) (K3:=λo S H=>o=Old.plain cc w/\S 4=.slice (.own 3) (ints (bw e s))) ?_ ?_ ?_ ?_)
 .exact Nt
 .rintro w0 g S H a w' m bP ho R s6;have r6:=R.slot 6 (by decide) (λh=>h);rw[s6]at r6;have aI:=R.size
  obtain⟨c,hc⟩:∃c,a.tmps.getD 6 undef=c:=⟨_,rfl⟩
  rw[hc]at r6;have rv:RD g.Pr w' (.slice .view (ints (bw e s))) c:=(r6.dA rfl).aA;refine aK rfl rfl (by rfl) ((run_move (x:=.tmp 6) w' rfl).trans (congrArg (λv=>Result.ok (Next.value v) w') hc)) ?_;have R1:=R.put 28 (.slice .view (ints (bw e s))) c (by decide) (.data _ _ rv) trivial
  have NZ:(a.put (some 28) c).tmps.getD 28 undef=c:=by simp[Act.put,aI]
  refine aK rfl rfl (by rfl) ((run_assign (x:=.tmp 28) w' rfl).trans (congrArg (λv=>Result.ok (Next.value v) w') NZ)) ?_;have R2:=R1.put 4 (.slice .view (ints (bw e s))) c (by decide) (.data _ _ rv) trivial
  have e4:((a.put (some 28) c).put (some 4) c).tmps.getD 4 undef=c:=by simp[Act.put,aI]
  have e6:((a.put (some 28) c).put (some 4) c).tmps.getD 6 undef=a.tmps.getD 6 undef:=by simp[Act.put,Array.getElem?_setIfInBounds_ne]
  obtain⟨g',q1,R3⟩:=R2.Q6 (t:=6) (u:=4) (e:=3) (es:=ints (bw e s)) (by decide) (by decide) (by decide) (by simp[aq,s6]) (by rw[e4,e6,hc]);exact⟨g',_,_,R3,by rw[q1];exact ho,aJ _ _ _⟩
 .rintro o S H ⟨rfl,s4⟩;exact⟨λ_ h=>h,rfl,s4⟩
 .rintro o S H ⟨rfl,s4⟩;refine SW.ret ⟨ea.plain rfl,rfl,_,?_,rfl⟩;show cn prog 29 [.tmp 4] S H=_;simp[cn,ct,cw,s4,AV.bC,AV.out]
def LI{a:Act}{w:World}{o:Oper}{x y:Operand}{t ty:TypeId}{m n:Int}(ho:o.op=.binOp .add t x y ty)(hx:a.eval x=.int .i64 m)(hy:a.eval y=.int .i64 n):(execOp a.eval o).run prog w=.ok (.value (.int .i64 (IntKind.i64.wrap (m+n)))) w:=by
 unfold execOp;simp[ho,hx,hy,Go.binOp,Op.intArith,eqGuard]
def il(s:bo)(i n:Nat):List Int:=(bw 0 s).set i ((bw 0 s).getD i 0+n)
def mH(s:bo)(az:List Int)(i n:Nat):Bool:=decide (EN s az (il s i n)=az.length)
def Og(l:List Int):je 1 (ints l):=λx hx=>by
 obtain⟨k,_,rfl⟩:=List.mem_map.1 hx;exact⟨rfl,rfl,λc hc=>by simp[AV.cells]at hc;subst hc;rfl⟩
def ints_set(l:List Int)(i:Nat)(x:Int):(ints l).set i (.int .i64 x)=ints (l.set i x):=by simp[ints,List.map_set]
structure PO(cc:Nat->Nat->Prop)(o:Old):Prop where
 c:o.c=cc
 ds:o.ds=[]
 bx:∀d,¬o.bx d
def ZQ (hG:aw GI) (s:bo) (h:kN s) (az:List Int) (hn:(∀ x∈az,0≤x∧x≤1000)∧az.length≤1000) {i:Nat} (hi:i < s.cells.length) {n:Nat} (Iw:n≤900) :
  AC prog GI 60 [.int .i64 (n:Nat),.ref (bj s),.ref [.int .i64 (i:Nat)],.ref (bZ s az)] (.ret (.bool (mH s az i n))):=by
 have hc:=h.cells
 have MZ:(bw 0 s).length=s.cells.length:=by simp[bw]
 have bQ:bw 0 s≠[]:=λh0=>by rw[h0]at MZ;simp at MZ;omega
 have vM:=(se h 0).2
 have dN:i<(bw 0 s).length:=by omega
 have hxi:=vM _ (List.getElem_mem dN)
 have aay:(bw 0 s)[i]<=20:=by
  have:=h.N3 _ (List.getElem_mem hi);simp[bw,qy];omega
 have Av:(bw 0 s).getD i 0=(bw 0 s)[i]:=by simp[List.getD_eq_getElem?_getD,dN]
 have h98:=Ub hG s (by omega) 0 (.inl rfl) bQ
 have yl:(il s i n).length=s.cells.length:=by simp[il,MZ]
 have PN:=Rb hG s h az hn.1 hn.2 (il s i n) yl (λx hx=>by
  rcases List.mem_or_eq_of_mem_set hx with h1|h1
  .exact vM x h1
  .rw[h1,Av];omega)
 have u_:((fp az (gk (il s i n)) (fm (fE s) s.cells.length):Int)==(az.length:Int))=mH s az i n:=by
  show _=decide (fp az (gk (il s i n)) (fm (fE s) s.cells.length)=az.length);rw[Bool.eq_iff_iff,decide_eq_true_eq,beq_iff_eq];omega
 obtain⟨i3,wX,uf⟩:=iZ 3 1;obtain⟨d3,BB,YC⟩:=vZ 3
 refine AC.iL func60 rfl ntmps60 (by simp) λcc w=>?_
 refine dR hG c60.qa (λS H=>S 0=.int .i64 (n:Nat)/\S 1=.ref (bj s)/\S 2=.ref [.int .i64 (i:Nat)]/\S 3=.ref (bZ s az)) ?_ ?_
 .simp[c60,ae.qa,bZ,bj,an]
 rintro S1 H1 ⟨s0,s1,s2,s3⟩;show SW prog GI 23 none (.seq _ (.seq _ (.seq _ .ret))) _ _ _ _
 refine SW.seq (SW.hand hG (p:=1) (lm:=[1]) (l2:=[2]) (jT:=[_]) (oh:=[_]) (jC:=[_]) rfl rfl rfl rfl (by kernel_rfl) (λ_ h=>h)
  (nN:=(c60.qb.qa.dl).take 1) (mF:=(c60.qb.qa.dl).drop 2) (by kernel_rfl) (by kernel_rfl) (by kernel_rfl) (by kernel_rfl)
  (K1:=λS H=>S 0=.int .i64 (n:Nat)/\S 2=.ref [.int .i64 (i:Nat)]/\S 3=.ref (bZ s az)/\S 7=g_ s)
  (K2:=λo S H=>∃v,KO cc 3 1 (ints (bw 0 s)) o v/\S 0=.int .i64 (n:Nat)/\S 2=.ref [.int .i64 (i:Nat)]/\S 3=.ref (bZ s az)/\S 8=.val v)
  (K3:=λo S H=>∃v,KO cc 3 1 (ints (bw 0 s)) o v/\S 0=.int .i64 (n:Nat)/\S 2=.ref [.int .i64 (i:Nat)]/\S 3=.ref (bZ s az)/\S 6=.val v) ?_ ?_ ?_ ?_)
 .simp[c60,ae.qa,ae.qb,ae.dl,s0,s1,s2,s3,g_,bj,an]
 .rintro w0 g S H a w' m bP ho R ⟨s0,s2,s3,s7⟩;have r7:=R.slot 7 (by decide) (λh=>h);rw[s7]at r7
  refine ik rfl rfl (by rfl) (fV (k:=39) (args:=#[a.tmps.getD 7 undef,.int .i64 0]) w' rfl rfl ?_ (by kernel_rfl)) (h98 w' (iu g false) #[a.tmps.getD 7 undef,.int .i64 0] (hG w0 w' bP (by have:=R.below;rwa [R.base]at this)) rfl (λj hj c_=>by
   match j,hj with
   |0,_=>exact(r7.bU rfl).mono (aL.same λb k _ hp=>.inl hp) λ_ _ h=>h
   |1,_=>exact .data _ _ (.int _ _))) ?_
  .simp only[List.map_toArray,List.map_cons,List.map_nil,Act.eval]
  intro en w2 hE;obtain⟨v,g',rfl,R2,hK⟩:=Bg R (cc:=cc) (by rw[ho];exact⟨rfl,rfl,λ_ h=>h⟩) wX (by rw[uf];exact Og _) hE;rw[uf]at hK;refine⟨_,rfl,?_⟩
  have lC:v.oneCell'=true:=by
   rcases hK.row with⟨⟨_,rfl⟩,_⟩|⟨_,_,_,rfl,_⟩<;>rfl
  exact⟨g',_,_,R2.put 8 (.val v) v (by decide) (.data _ _ (.val _ lC)) trivial,v,hK,by simp[aq,s0],by simp[aq,s2],by simp[aq,s3],by simp[aq]⟩
 .rintro o S H ⟨v,hK,s0,s2,s3,s8⟩;refine⟨hK.bx,?_⟩;simp[c60,ae.qa,ae.qb,ae.dl,s0,s2,s3,s8];exact hK
 clear s0 s1 s2 s3 S1 H1;rintro o S1 H1 ⟨v,hK,s0,s2,s3,s6⟩;have W6:=hK.bx
 refine SW.seq (SW.hand hG (p:=2) (lm:=[2,3,4,5,6,7]) (l2:=[]) (jT:=[_,_]) (oh:=[_,_,_,_,_,_]) (jC:=[]) rfl rfl rfl rfl (by kernel_rfl) W6
  (nN:=(c60.qb.qb.qa.dl).take 2) (mF:=[]) (by kernel_rfl) rfl (by kernel_rfl) rfl
  (K1:=λS H=>S 0=.int .i64 (n:Nat)/\S 3=.ref (bZ s az)/\S 6=.val v/\S 9=.val v/\S 10=.int .i64 (i:Nat))
  (K2:=λo S H=>PO cc o/\S 3=.ref (bZ s az)/\S 6=vI (il s i n))
  (K3:=λo S H=>PO cc o/\S 3=.ref (bZ s az)/\S 6=vI (il s i n)) ?_ ?_ ?_ ?_)
 .simp[c60,ae.qa,ae.qb,ae.dl,s0,s2,s3,s6]
 .rintro w0 g S H a w' m bP ho R ⟨s0,s3,s6,s9,fu⟩;rw[<-ho]at hK
  have Km:i<(ints (bw 0 s)).length:=by simpa[ints]using dN
  obtain⟨b,cap,cur,hv,qp,EX,fT⟩:=hK.cell R Km
  have Be:(ints (bw 0 s))[i]=.int .i64 (bw 0 s)[i]:=by simp[ints]
  have r_:0<((ints (bw 0 s))[i]).cells.length:=by rw[Be];simp[AV.cells]
  have vH:=fT 0 r_
  have LP:Ea (((ints (bw 0 s))[i]).cells[0]'r_)=.int .i64 (bw 0 s)[i]:=by simp only[Be];rfl
  rw[LP,Nat.mul_one,Nat.add_zero]at vH;have t9:=R.slot 9 (by decide) (λh=>h);rw[s9]at t9;have e9:a.eval (.tmp 9)=.slice (some ⟨b,0,none⟩) (ints (bw 0 s)).length cap:=t9.gp.trans hv;have t10:=R.slot 10 (by decide) (λh=>h);rw[fu]at t10;have p7:a.eval (.tmp 10)=.int .i64 (i:Nat):=t10.int_eq;have t0:=R.slot 0 (by decide) (λh=>h);rw[s0]at t0;have e0:a.eval (.tmp 0)=.int .i64 (n:Nat):=t0.int_eq;have aI:=R.size;have ig:IntKind.i64.wrap ((bw 0 s)[i]+n)=(bw 0 s)[i]+n:=bf (by omega);refine aK rfl rfl (by rfl) (q' (k:=i) rfl (by kernel_rfl) wX e9 p7 Km) ?_;rw[uf,Nat.mul_one];have R1:=R.put 11 (.val (.pointer (some ⟨b,i,none⟩))) (.pointer (some ⟨b,i,none⟩)) (by decide) (.data _ _ (.val _ rfl)) trivial
  have p:=λt c=>ke a 11 t c (by omega)
  have f11:=(p 11 (.pointer (some ⟨b,i,none⟩))).trans (if_pos rfl);have f9:=((p 9 (.pointer (some ⟨b,i,none⟩))).trans (if_neg (by decide))).trans e9;have f10:=((p 10 (.pointer (some ⟨b,i,none⟩))).trans (if_neg (by decide))).trans p7;have f0:=((p 0 (.pointer (some ⟨b,i,none⟩))).trans (if_neg (by decide))).trans e0;have MS:=R1.size;show wpOpsIn _ _ _ _ _ [3,4,5,6,7] (a.put (some 11) (.pointer (some ⟨b,i,none⟩))) w'
  generalize a.put (some 11) (.pointer (some ⟨b,i,none⟩))=a1 at*
  clear p e9 p7 e0 t9 t10 t0;refine aK rfl rfl (by rfl) (m_ rfl f11 BB YC EX vH.2) ?_;have R2:=R1.put 12 (.int .i64 (bw 0 s)[i]) (.int .i64 (bw 0 s)[i]) (by decide) (.data _ _ (.int _ _)) trivial
  have p:=λt c=>ke a1 12 t c (by omega)
  have g12:=(p 12 (.int .i64 (bw 0 s)[i])).trans (if_pos rfl);have g9:=((p 9 (.int .i64 (bw 0 s)[i])).trans (if_neg (by decide))).trans f9;have g10:=((p 10 (.int .i64 (bw 0 s)[i])).trans (if_neg (by decide))).trans f10;have g0:=((p 0 (.int .i64 (bw 0 s)[i])).trans (if_neg (by decide))).trans f0;have AU:=R2.size;show wpOpsIn _ _ _ _ _ [4,5,6,7] (a1.put (some 12) (.int .i64 (bw 0 s)[i])) w'
  generalize a1.put (some 12) (.int .i64 (bw 0 s)[i])=a2 at*
  clear p f11 f9 f10 f0;refine aK rfl rfl (by rfl) ((run_move (x:=.tmp 0) w' rfl).trans (congrArg (λv=>Result.ok (Next.value v) w') g0)) ?_;have R3:=R2.put 13 (.int .i64 (n:Nat)) (.int .i64 (n:Nat)) (by decide) (.data _ _ (.int _ _)) trivial
  have p:=λt c=>ke a2 13 t c (by omega)
  have V1:=(p 13 (.int .i64 (n:Nat))).trans (if_pos rfl);have k12:=((p 12 (.int .i64 (n:Nat))).trans (if_neg (by decide))).trans g12;have k9:=((p 9 (.int .i64 (n:Nat))).trans (if_neg (by decide))).trans g9;have WW:=((p 10 (.int .i64 (n:Nat))).trans (if_neg (by decide))).trans g10;have aaq:=R3.size;show wpOpsIn _ _ _ _ _ [5,6,7] (a2.put (some 13) (.int .i64 (n:Nat))) w'
  generalize a2.put (some 13) (.int .i64 (n:Nat))=a3 at*
  clear p g12 g9 g10 g0;refine aK rfl rfl (by rfl) (LI rfl k12 V1) ?_;rw[ig];have R4:=R3.put 14 (.int .i64 ((bw 0 s)[i]+n)) (.int .i64 ((bw 0 s)[i]+n)) (by decide) (.data _ _ (.int _ _)) trivial
  have p:=λt c=>ke a3 14 t c (by omega)
  have Xs:=(p 14 (.int .i64 ((bw 0 s)[i]+n))).trans (if_pos rfl);have l9:=((p 9 (.int .i64 ((bw 0 s)[i]+n))).trans (if_neg (by decide))).trans k9;have P5:=((p 10 (.int .i64 ((bw 0 s)[i]+n))).trans (if_neg (by decide))).trans WW;have FX:=R4.size;show wpOpsIn _ _ _ _ _ [6,7] (a3.put (some 14) (.int .i64 ((bw 0 s)[i]+n))) w'
  generalize a3.put (some 14) (.int .i64 ((bw 0 s)[i]+n))=a4 at*
  clear p k12 V1 k9 WW;refine aK rfl rfl (by rfl) (q' (k:=i) rfl (by kernel_rfl) wX l9 P5 Km) ?_;rw[uf,Nat.mul_one];have R5:=R4.put 15 (.val (.pointer (some ⟨b,i,none⟩))) (.pointer (some ⟨b,i,none⟩)) (by decide) (.data _ _ (.val _ rfl)) trivial
  have p:=λt c=>ke a4 15 t c (by omega)
  have m15:=(p 15 (.pointer (some ⟨b,i,none⟩))).trans (if_pos rfl);have m14:=((p 14 (.pointer (some ⟨b,i,none⟩))).trans (if_neg (by decide))).trans Xs;show wpOpsIn _ _ _ _ _ [7] (a4.put (some 15) (.pointer (some ⟨b,i,none⟩))) w'
  generalize a4.put (some 15) (.pointer (some ⟨b,i,none⟩))=a5 at*
  clear p Xs l9 P5;obtain ⟨zJ,dJ,OQ,hat⟩:=F2 (o:={ dst:=none,op := .store 3 (.tmp 15) (.tmp 14),type:=0,pos := "",after := #[],guard:=none }) (v := .int .i64 ((bw 0 s)[i]+n)) rfl m15 wX uf EX vH.1 m14 rfl;refine dh rfl rfl (by rfl) dJ ?_;have R6:=R5.qh qp (.cells zJ 3 (0,0));have TJ:=hK.set (j:=i) (k:=0) Km (by rw [Be];simp [AV.cells]) (x := .int .i64 ((bw 0 s)[i]+n)) (u := .int .i64 ((bw 0 s)[i]+n)) (λx hx=>by simp at hx;subst hx;exact ⟨rfl,rfl,λc hc=>by simp [AV.cells] at hc;subst hc;rfl⟩) (by rw [Be]<;>rfl) hv qp OQ (λm=>by rw [hat m,Nat.mul_one,Nat.add_zero]<;>rfl);rw [ints_set] at TJ
  have uS:(bw 0 s).set i ((bw 0 s)[i]+n)=il s i n:=by rw[il,Av]
  rw[uS]at TJ;obtain⟨g',R7,q1,q2,q3⟩:=KO.done TJ R6 (t:=6) (by decide) (by simp[aq,s6]);exact⟨g',_,_,R7,⟨q1,q2,q3⟩,by simp[aq,s3],by simp[aq]<;>rfl⟩
 .rintro o S H ⟨hp,s3,s6⟩;exact⟨hp.bx,hp,s3,s6⟩
 clear s0 s2 s3 s6 S1 H1 hK W6;rintro o S1 H1 ⟨hp,s3,s6⟩;refine L_ hG c60.qb.qb.qb.qa (λd _=>hp.bx d) (λS H=>S 5=.bool (mH s az i n)) ?_ ?_
 .simp[c60,ae.qa,ae.qb,s3,s6,bZ,bj,an];refine oc PN ?_;simp[s3,s6,bZ,bj,an];exact u_
 .intro S H s5;refine SW.ret ⟨ea.plain hp.ds,hp.c,_,?_,rfl⟩;show cn prog 23 [.tmp 5] S H=_;simp[cn,ct,cw,s5,AV.bC,AV.out]
end Go.Proofs.Tryz
namespace Go.Proofs.YtifmgeicigngbaaGreat
open Go Go.AL Go.ChangeShapes Go.WideShapes Go.ChangeAt Go.RowKit
def own:ownKnob Tryz.prog.godebug=none:=by kernel_rfl
def Cs:laidOutB Tryz.prog=true:=by kernel_rfl
abbrev GI:World->Prop:=λ_=>True
abbrev q_:List (String×DataW Unit):=Rows.topWaitsRow.laid
variable{H:Type}{enc:TypeId×Value->H}
def rh{w:World}{base:Nat}{spare:Nat->Bool}{held:Bool}:∀{ts:List TypeId}{vs:List Value}{ds:List (DataW H)}{ps:List MemPlace},DataW.TrodAll enc Tryz.prog w base spare held ts vs ds ps->ds.length=ts.length
 |[],[],[],_,_=>rfl
 |_::_,_::_,_::_,_,⟨_,_,_,h,_⟩=>congrArg (·+1) (rh h)
def sG {W W':World} (hb:Below W.heap.size W W'):∀ {ts:List TypeId} {vs:List Value} {ds:List (DataW H)} {ps:List MemPlace},(∀ t∈ts,Tryz.prog.readableRec t=true∧t < Tryz.prog.types.size) →
  DataW.TrodAll enc Tryz.prog W 0 (λ_=>true) true ts vs ds ps->(∀x∈ps,x.block<W.heap.size)->DataW.TrodAll enc Tryz.prog W' 0 (λb=>decide (b<W.heap.size)) true ts vs ds ps
 |[],[],[],_,_,h,_=>h
 |t::_,_::_,_::_,_,hr,⟨p,q,h1,h2,e⟩,av=>by
  subst e;exact⟨p,q,Below.trod Cs (hr t List.mem_cons_self).1 (hr t List.mem_cons_self).2 h1 hb (λx hx=>av x (List.mem_append_left _ hx)),sG hb (λu hu=>hr u (List.mem_cons_of_mem _ hu)) h2 (λx hx=>av x (List.mem_append_right _ hx)),rfl⟩
def JK (f:FuncId) (fn:Func) (YV:Tryz.checked.prog.funcs[f]? = some fn) (P3:Tryz.checked.prog.inits.idxOf? f=none) (MM:fn.resultTypes = #[4]) (spec:ChangeSpec) (O_:spec.vars=[])
  (Io:∀(ds:List (DataW H)),ds.length=fn.params.size->spec.fn H ds={ results:=[.lit (.bool true)],args:=ds })
  (df:∀t∈fn.params.toList,Tryz.prog.readableRec t=true/\t<Tryz.prog.types.size)
  (os:Os) (started:os.Started) (qq:Array Value) (fuel:Nat)
  (eH:((World.laidAll Tryz.prog os q_).forCall (λ_ _=>0) ⟨#[],qq,[]⟩).Shaped Tryz.checked.prog)
  (bB:Input.okWideB Tryz.checked.prog ((World.laidAll Tryz.prog os q_).forCall (λ_ _=>0) ⟨#[],qq,[]⟩) f ⟨#[],qq,[]⟩=true)
  (Kb:spec.preB enc Tryz.checked.prog fn [] false ((World.laidAll Tryz.prog os q_).forCall (λ_ _=>0) ⟨#[],qq,[]⟩).memory qq fuel=true)
  (aI:spec.sizedB enc Tryz.checked.prog fn false ((World.laidAll Tryz.prog os q_).forCall (λ_ _=>0) ⟨#[],qq,[]⟩).memory qq fuel=true)
  (hx:laidMetH Tryz.prog q_ ((World.laidAll Tryz.prog os q_).forCall (λ_ _=>0) ⟨#[],qq,[]⟩).memory)
  (jv:∀(W:World)(base:Nat)(args:Array Value)(ds:List (DataW H))(p:List MemPlace),GI W->
   (∀(j:Nat) t v,fn.params[j]?=some t->args[j]?=some v->Value.okWide Tryz.prog W .any base t v)->
   DataW.TrodAll enc Tryz.prog W 0 (λ_=>true) true fn.params.toList args.toList ds p->
   Calls Tryz.prog f args W λe W'=>e=.returned (.bool true)/\Below W.heap.size W W'):
  ReturnsInHanded {} Tryz.checked os f .any (λw args=>(spec.pre enc Tryz.checked.prog fn [] false w args/\laidMetH Tryz.checked.prog q_ w)/\sizedMet enc Tryz.checked.prog fn (OpenSpec.ofChange spec) false w args)
   (spec.post enc Tryz.checked.prog fn false true false false):=by
 refine returnsInHanded_of_calls (C:=Tryz.checked) own started P3
  (ChangeSpec.witness_shaped (enc:=enc) (C:=Tryz.checked) (os:=os) (X:=λw _=>laidMetH Tryz.prog q_ w) false (World.laidAll Tryz.prog os q_) qq fuel (World.laidAll_os _ _ _) eH bB Kb aI hx) ?_
 intro w tape i _ aao _ yX hp _;obtain⟨_,_,_,OR,aab,_,_,_,_,vu⟩:=yX;have e:OR=fn:=Option.some.inj (aab.symm.trans YV);subst e;obtain⟨⟨⟨ds,gs,before,hw,hc⟩,_⟩,hz⟩:=hp;have GG:=DataW.Whole.of_heap (w':=w.forCall tape i) (by rfl) hw;have hW:=GG;obtain⟨p,q,hA,hV,rfl,_,_⟩:=GG
 have eO:gs=[]/\q=[]:=by
  rw[O_]at hV;obtain⟨rfl,rfl⟩:=trodVars_none hV;exact⟨rfl,rfl⟩
 obtain⟨rfl,rfl⟩:=eO;have Uj:DataW.TrodAll enc Tryz.prog (w.forCall tape i) 0 (λ_=>true) true OR.params.toList i.args.toList ds p:=hA
 have av:∀x∈p,x.block<(w.forCall tape i).heap.size:=λx hx=>by simpa using hW.lt x (List.mem_append_left _ hx)
 refine(jv (w.forCall tape i) w.heap.size i.args ds p trivial vu Uj).mono λe W' ⟨he,hb⟩=>?_
 subst he;show spec.post enc Tryz.checked.prog OR false true false false (w.forCall tape i).blind i.args (.bool true) W'.blind;refine ChangeSpec.post_blind (?_:spec.post enc Tryz.checked.prog OR false true false false (w.forCall tape i) i.args (.bool true) W')
 have Pp:ds.length=OR.params.size:=by
  rw[rh Uj];simp
 refine⟨ds,[],p++[],[],p,[],hW,?_,?_,?_,hb.frame _,λh=>by cases h⟩
 .rw[List.append_nil,Io ds Pp,MM];exact trodAll_mk1 (shut_bool (by kernel_rfl) _)
 .rw[List.append_nil,Io ds Pp];exact sG hb df Uj av
 .rw[List.append_nil,Io ds Pp,O_]
  rfl
end Go.Proofs.YtifmgeicigngbaaGreat
namespace Go.Proofs.YtifmgeicigngbaaGreat
open Go Go.AL Go.ChangeShapes Go.WideShapes Go.ChangeAt Go.RowKit
def ch(l:List Nat):List Char:=l.map Char.ofNat
def w1:List Nat:=[104,97,114,110,101,115,115]
def w2:List Nat:=[101,55,49,99,48,53,51,99,101,51,57,99,99,49,52,57,97,49,51,102,55,57,50,98,57,100,56,100,52,97,97,54,57,55,51,54,54,102,55,51,102,50,97,55,98,55,57,52,53,55,57,102,56,98,48,48,48,56,55,57,48,50,50,51]
def w3:List Nat:=[99,117,116]
def w4:List Nat:=[97,116,32,109,97,104,108,115,116,105,99,107,47,109,97,104,108,115,116,105,99,107,116,111,112,46,84,111,112,87,97,105,116,115,32,109,97,104,108,115,116,105,99,107,47,109,97,104,108,115,116,105,99,107,116,111,112,46,84,111,112,76,101,97,102,32,109,97,104,108,115,116,105,99,107,47,109,97,104,108,115,116,105,99,107,116,111,112,46,84,111,112,82,101,97,100,115]
def o_:∀{a b:List Char},(a.all λc=>c !=Char.ofNat 32)=true->wordsSigns (a++Char.ofNat 32::b)=a::wordsSigns b
 |[],b,_=>rfl
 |c::a,b,h=>by
  simp only[List.all_cons,Bool.and_eq_true,bne_iff_ne]at h;have ih:=o_ (b:=b) h.2;show wordsSigns (c::(a++Char.ofNat 32::b))=_
  conv=>lhs;unfold wordsSigns
  split
  .rename_i e;cases e
  .rename_i e;cases e;exact absurd rfl h.1
  .rename_i e;cases e;rw[ih]
def head_eq:Tryz.prog.initOrder=String.ofList (ch w1++Char.ofNat 32::(ch w2++Char.ofNat 32::(ch w3++Char.ofNat 32::ch w4))):=by kernel_rfl
def F0:wordsSigns Tryz.prog.initOrder.toList=ch w1::ch w2::ch w3::wordsSigns (ch w4):=by
 rw[head_eq,String.toList_ofList,o_ (by kernel_rfl),o_ (by kernel_rfl),o_ (by kernel_rfl)]
def tl(s:String)(l:List Nat)(h:s=String.ofList (ch l)):s.toList=ch l:=by rw[h,String.toList_ofList]
def Fa : "harness".toList=ch [104,97,114,110,101,115,115]:=tl _ _ (by kernel_rfl)
def Hv : "ownmain".toList=ch [111,119,110,109,97,105,110]:=tl _ _ (by kernel_rfl)
def Jn : "gc".toList=ch [103,99]:=tl _ _ (by kernel_rfl)
def GR : "spec".toList=ch [115,112,101,99]:=tl _ _ (by kernel_rfl)
def Oc : "stop".toList=ch [115,116,111,112]:=tl _ _ (by kernel_rfl)
def sE : "carried".toList=ch [99,97,114,114,105,101,100]:=tl _ _ (by kernel_rfl)
def yS : "cut".toList=ch [99,117,116]:=tl _ _ (by kernel_rfl)
def zy : "finals".toList=ch [102,105,110,97,108,115]:=tl _ _ (by kernel_rfl)
def yG : "reflectrows".toList=ch [114,101,102,108,101,99,116,114,111,119,115]:=tl _ _ (by kernel_rfl)
def C9 : "leanrows".toList=ch [108,101,97,110,114,111,119,115]:=tl _ _ (by kernel_rfl)
def EM : "onebuild".toList=ch [111,110,101,98,117,105,108,100]:=tl _ _ (by kernel_rfl)
def Ac : "publicsums".toList=ch [112,117,98,108,105,99,115,117,109,115]:=tl _ _ (by kernel_rfl)
def Gq : "eqguard".toList=ch [101,113,103,117,97,114,100]:=tl _ _ (by kernel_rfl)
def Ba : "ownunsafe".toList=ch [111,119,110,117,110,115,97,102,101]:=tl _ _ (by kernel_rfl)
def Bm : "libbeside".toList=ch [108,105,98,98,101,115,105,100,101]:=tl _ _ (by kernel_rfl)
def Bp : "ownbeside".toList=ch [111,119,110,98,101,115,105,100,101]:=tl _ _ (by kernel_rfl)
def yZ : "reflbeside".toList=ch [114,101,102,108,98,101,115,105,100,101]:=tl _ _ (by kernel_rfl)
def Fv : "aliases".toList=ch [97,108,105,97,115,101,115]:=tl _ _ (by kernel_rfl)
def Bw : "afterinit".toList=ch [97,102,116,101,114,105,110,105,116]:=tl _ _ (by kernel_rfl)
def ES : "crcplain".toList=ch [99,114,99,112,108,97,105,110]:=tl _ _ (by kernel_rfl)
def zQ : "roadunsafe".toList=ch [114,111,97,100,117,110,115,97,102,101]:=tl _ _ (by kernel_rfl)
def Bs : "fmthandon".toList=ch [102,109,116,104,97,110,100,111,110]:=tl _ _ (by kernel_rfl)
def Pk:isSumSigns (ch w2)=true:=by kernel_rfl
def Ja(R:List (List Char)):behindMainWord (ch w1::ch w2::R)=R:=by
 simp only[behindMainWord,Pk,Fa,Hv]
 rfl
def tr:behindMainWord (wordsSigns Tryz.prog.initOrder.toList)=ch w3::wordsSigns (ch w4):=(congrArg behindMainWord F0).trans (Ja _)
def Hr(R:List (List Char)):stripLifts liftWords (ch w3::R)=([],ch w3::R):=by
 unfold liftWords;simp only[stripLifts,zy,yG,C9,EM,Ac,Gq,Ba,Bm,Bp,yZ,Fv,Bw,ES,zQ,Bs]
 rfl
def yT (ws:List (List Char)):List String:=if (stripLifts liftWords ws).2.head? == some "cut".toList then (stripLifts liftWords ws).1 else []
def BR(P:Program):P.headLifts=yT (behindMainWord (wordsSigns P.initOrder.toList)):=rfl
def II(R:List (List Char)):yT (ch w3::R)=[]:=by
 simp only[yT,Hr,yS]
 rfl
def vx:Tryz.prog.headLifts=[]:=(BR _).trans ((congrArg yT tr).trans (II _))
def Ih{P:Program}{R:List (List Char)}(h:behindMainWord (wordsSigns P.initOrder.toList)=ch w3::R)(hl:P.headLifts=[]):P.make=some .cut:=by
 unfold Program.make;rw[h];simp only[yS,Jn,GR,zy,sE,hl]
 rfl
def QB:Tryz.prog.make=some .cut:=Ih tr vx
def An{P:Program}{R:List (List Char)}(h:behindMainWord (wordsSigns P.initOrder.toList)=ch w3::R)(hl:P.headLifts=[]):P.liftsFinal=false:=by
 unfold Program.liftsFinal;simp only[h,yS,Jn,sE,hl]
 rfl
def BK:Tryz.prog.liftsFinal=false:=An tr vx
def C4:Tryz.prog.laysLater=false:=by kernel_rfl
def yD:Tryz.prog.bearsReflect=false:=by kernel_rfl
def Gj:Tryz.prog.doorFits []=true:=by kernel_rfl
def EC{P:Program}{R:List (List Char)}(h:behindMainWord (wordsSigns P.initOrder.toList)=ch w3::R)(h1:P.laysLater=false)(h2:P.bearsReflect=false)(h3:P.doorFits []=true):P.mayEnter=true:=by
 unfold Program.mayEnter;rw[h];simp only[Hr,yS,Jn,sE,GR,Oc,h1,h2,h3]
 rfl
def FM:Tryz.prog.mayEnter=true:=EC tr C4 yD Gj
end Go.Proofs.YtifmgeicigngbaaGreat
namespace Go.Proofs.Tryz
open Go Go.AL Go.RowKit Go.Proofs Go.Proofs.Tram
section
variable{H:Type}{enc:TypeId×Value->H}{w:World}{held:Bool}
def T0:Nat->Nat->Prop:=λ_ _=>True
def oO(w:World)(l:List AV)(cs:List Value):Prop:=l.length=cs.length/\∀i (h:i<l.length)(h':i<cs.length),(l[i]).one=true/\RD T0 w l[i] cs[i]
def Aw(enc:TypeId×Value->H)(w:World)(held:Bool)(t:TypeId){α:Type}(f:α->List AV)(FB:α->Prop):Prop:=
 ∀(fuel:Nat)(cs:List Value)(x:DataW H×List MemPlace),DataW.trod enc prog w 0 (λ_=>true) held fuel t cs=some x->∃a,FB a/\oO w (f a) cs
def NN(n:Int):Prop:= -9223372036854775808<=n/\n<9223372036854775808
def HN{t:TypeId}(ht:prog.underlying t=some (.int .i64)):Aw enc w held t (λn:Int=>[.int .i64 n]) NN:=by
 intro fuel cs x h;obtain⟨n,rfl,_,hw⟩:=DataW.trod_int ht h;refine⟨n,?_,rfl,λi hi ck=>?_⟩
 .simp only[Lit.wf,Bool.and_eq_true,decide_eq_true_eq]at hw
  have h1:IntKind.i64.min= -9223372036854775808:=by kernel_rfl
  have h2:IntKind.i64.max=9223372036854775807:=by kernel_rfl
  rw[h1,h2]at hw;exact⟨hw.1,by omega⟩
 .match i,hi with
  |0,_=>exact⟨rfl,.int _ _⟩
def vz{α:Type}{p:Nat->α->Prop}:∀(n:Nat),(∀i,i<n->∃a,p i a)->∃l:List α,l.length=n/\∀i (h:i<l.length),p i l[i]
 |0,_=>⟨[],rfl,λi h=>by simp at h⟩
 |n+1,h=>by
  obtain⟨l,hl,hp⟩:=vz n λi hi=>h i (by omega)
  obtain⟨a,ha⟩:=h n (by omega);refine⟨l++[a],by simp[hl],λi hi=>?_⟩
  by_cases kd:i<l.length
  .rw[List.getElem_append_left kd];exact hp i kd
  .have:i=n:=by simp at hi;omega
   subst this;rw[List.getElem_append_right (by omega)];simpa[hl]using ha
def HS{w:World}{a:Addr}{v:Value}(h:w.cell? a=some v):a=⟨a.block,a.off,none⟩:=by
 obtain⟨b,o,s⟩:=a;unfold World.cell? at h
 cases s with
 |none=>rfl
 |some s=>
  simp at h
  split at h<;>simp at h
def Eg {t e:TypeId} {α:Type} {f:α→List AV} {FB:α→Prop} (mk:α→AV) (Un:∀ a,(mk a).cells=f a) (ht:prog.underlying t=some (.slice e)) (iy:0 < prog.cellsOf e) (he:Aw enc w held e f FB) :
  Aw enc w held t (λl:List α=>[.slice .view (l.map mk)]) (λl=>∀a∈l,FB a):=by
 intro fuel cs x h
 rcases DataW.trod_slice ht h with⟨rfl,_⟩|⟨a,len,cap,elems,rest,n,_,rfl,_,_,Z1,vA,hlen,sj,jP,_⟩
 .refine⟨[],by simp,rfl,λi hi ck=>?_⟩
  match i,hi with
  |0,_=>exact⟨rfl,.gy _⟩
 .obtain⟨size,j7⟩:∃size,prog.cellsOf e=size:=⟨_,rfl⟩
  rw[j7]at iy sj jP;obtain⟨MZ,wC⟩:=jP rfl
  by_cases dX:cap=0
  .subst dX
   have r_:len=0:=by omega
   subst r_;refine⟨[],by simp,rfl,λi hi ck=>?_⟩
   match i,hi with
   |0,_=>exact⟨rfl,.iF _ _⟩
  have vv:∃i cs',w.cells? 0 (a.add (i*size)) size=some cs'/\i=0:=by
   by_cases r_:len=0
   .subst r_;have h0:=wC 0 (by omega);rw[List.getElem?_eq_getElem (by omega),Option.bind_eq_some_iff]at h0;obtain⟨cs',h1,_⟩:=h0;exact⟨0,cs',by simpa using h1,rfl⟩
   .have h0:=sj 0 (by omega);rw[List.getElem?_eq_getElem (by omega),Option.bind_eq_some_iff]at h0;obtain⟨cs',h1,_⟩:=h0;exact⟨0,cs',h1,rfl⟩
  obtain⟨_,WM,Kq,rfl⟩:=vv;rw[Nat.zero_mul,show a.add 0=a by simp[Addr.add]]at Kq;have vH:=(World.cells?_some Kq).2.2 0 (by omega);rw[show a.add 0=a by simp[Addr.add]]at vH;have r_:=(World.cells?_some Kq).2.1;rw[List.getElem?_eq_getElem (by omega)]at vH
  obtain⟨b,off,rfl⟩:∃b off,a=⟨b,off,none⟩:=⟨_,_,HS vH⟩
  clear vH Kq r_ WM wC jP
  obtain⟨l,hl,hp⟩:=vz (p:=λi (v:α)=>FB v/\∃cs',w.cells? 0 ((⟨b,off,none⟩:Addr).add (i*size)) size=some cs'/\oO w (f v) cs') len λi hi=>by
   have h0:=sj i hi;rw[List.getElem?_eq_getElem (by omega),Option.bind_eq_some_iff]at h0;obtain⟨cs',h1,h2⟩:=h0;obtain⟨v,hv,hc⟩:=he _ _ _ h2;exact⟨v,hv,cs',h1,hc⟩
  refine⟨l,λv hv=>?_,rfl,λi hi ck=>?_⟩
  .obtain⟨i,hi,rfl⟩:=List.getElem_of_mem hv;exact(hp i hi).1
  .have vW:i=0:=by simpa using hi
   subst vW;refine⟨rfl,?_⟩;show RD T0 w (.slice .view (l.map mk)) (.slice (some ⟨b,off,none⟩) len cap)
   have uw:len=(l.map mk).length:=by simp[hl]
   have Fw:∀i (h:i<(l.map mk).length),((l.map mk)[i]).cells=f (l[i]'(by simpa using h)):=λi h=>by rw[List.getElem_map];exact Un _
   have key:∀m,m=(l.map mk).length->RD T0 w (.slice .view (l.map mk)) (.slice (some ⟨b,off,none⟩) m cap):=?_
   .exact key _ uw
   rintro m rfl
   have fT:∀i (h:i<l.length) j,j<size->∃cs',oO w (f l[i]) cs'/\cs'.length=size/\w.cell? ⟨b,off+(i*size+j),none⟩=cs'[j]?:=by
    intro i h j hj;obtain⟨_,cs',h1,h2⟩:=hp i h;obtain⟨_,h3,h4⟩:=World.cells?_some h1;have h5:=h4 j hj;rw[Addr.add_lit,Addr.add_lit,Nat.add_assoc]at h5;exact⟨cs',h2,h3,h5⟩
   have Np:∀i (h:i<l.length),(f l[i]).length=size:=by
    intro i h;obtain⟨cs',h1,h2,_⟩:=fT i h 0 iy;rw[h1.1,h2]
   refine .slice .view (l.map mk) b off cap size (λk=>(w.cell? ⟨b,off+k,none⟩).getD undef) (by rw[<-uw];exact Z1) (λh=>by cases h) (λi h=>by rw[Fw];exact Np _ _) (λi h j hj=>?_) (λk hk=>⟨trivial,?_⟩) (λi h j hj=>?_)
   .have dN:i<l.length:=by simpa using h
    have c_:j<(f l[i]).length:=by rw[Fw]at hj;exact hj
    have Sm:j<size:=by rw[Np]at c_;exact c_
    obtain⟨cs',h1,h2,_⟩:=fT i dN j Sm
    have e:((l.map mk)[i]).cells[j]=(f l[i])[j]:=by simp only[Fw]
    rw[e];exact(h1.2 j c_ (by omega)).1
   .have eK:k<l.length*size:=by simpa using hk
    have hi:k/size<l.length:=Nat.div_lt_of_lt_mul (by rw[Nat.mul_comm];exact eK);have hj:k % size<size:=Nat.mod_lt _ iy;obtain⟨cs',h1,h2,h3⟩:=fT (k/size) hi (k % size) hj
    have e:k/size*size+k % size=k:=by rw[Nat.mul_comm];exact Nat.div_add_mod k size
    rw[e,List.getElem?_eq_getElem (by omega)]at h3;rw[h3];rfl
   .have dN:i<l.length:=by simpa using h
    have c_:j<(f l[i]).length:=by rw[Fw]at hj;exact hj
    have Sm:j<size:=by rw[Np]at c_;exact c_
    obtain⟨cs',h1,h2,h3⟩:=fT i dN j Sm;rw[List.getElem?_eq_getElem (by omega)]at h3
    have e:((l.map mk)[i]).cells[j]=(f l[i])[j]:=by simp only[Fw]
    rw[e,h3];exact(h1.2 j c_ (by omega)).2
def oO.append{l1 l2:List AV}{c1 c2:List Value}(h1:oO w l1 c1)(h2:oO w l2 c2):oO w (l1++l2) (c1++c2):=by
 refine⟨by simp[h1.1,h2.1],λi h h'=>?_⟩
 by_cases hi:i<l1.length
 .rw[List.getElem_append_left hi,List.getElem_append_left (by rw[<-h1.1];exact hi)];exact h1.2 i hi _
 .rw[List.getElem_append_right (by omega),List.getElem_append_right (by rw[<-h1.1];omega)];have:=h1.1;simp only[this];exact h2.2 _ _ _
def co3:prog.cellsOf 3=1:=by kernel_rfl
def u3:prog.underlying 3=some (.int .i64):=by kernel_rfl
def Wo:prog.underlying 28=some (.slice 3):=by kernel_rfl
def Kw:Aw enc w held 3 (λn:Int=>[.int .i64 n]) NN:=HN u3
def Ou:Aw enc w held 28 (λl:List Int=>[vI l]) (λl=>∀n∈l,NN n):=
 Eg (e:=3) (λn:Int=>.int .i64 n) (λ_=>rfl) Wo (by rw[co3];omega) Kw
def open_int{d:DataW H}{ps:List MemPlace}{v:Value}{r:Reach}{base:Nat}(vu:Value.okWide prog w r base 3 v)(h:DataW.Trod enc prog w 0 (λ_=>true) held 3 v d ps):∃n:Int,NN n/\RD T0 w (.int .i64 n) v:=by
 obtain⟨fuel,hf⟩:=h;obtain⟨n,gn,hc⟩:=Kw _ _ _ hf;obtain⟨m,rfl⟩:=WideShapes.okWide_int u3 vu;refine⟨n,gn,?_⟩;have:=(hc.2 0 (by simp) (by simp[Value.cells])).2;simpa[Value.cells]using this
def open_ints{d:DataW H}{ps:List MemPlace}{v:Value}{r:Reach}{base:Nat}(vu:Value.okWide prog w r base 28 v)(h:DataW.Trod enc prog w 0 (λ_=>true) held 28 v d ps):∃l:List Int,(∀n∈l,NN n)/\RD T0 w (vI l) v:=by
 obtain⟨fuel,hf⟩:=h;obtain⟨l,gl,hc⟩:=Ou _ _ _ hf;obtain⟨a,n,m,rfl⟩:=WideShapes.okWide_slice Wo vu;refine⟨l,gl,?_⟩;have:=(hc.2 0 (by simp) (by simp[Value.cells])).2;simpa[Value.cells]using this
end
end Go.Proofs.Tryz
namespace Go.Proofs.Tryz
open Go Go.AL Go.RowKit Go.Proofs Go.Proofs.Tram
variable{GI:World->Prop}
def Fc(s:bo)(e:Int)(he:e≠0)(ho:jg s (jH s)=[gX zT [],.int .i64 e]):(jH s=false/\e=2)\/(jH s=true/\me s.name=none/\e=7):=by
 cases hI:jH s with
 |false=>left;simp[jg,hI]at ho;exact⟨rfl,ho.symm⟩
 |true=>
  cases hs:me s.name with
  |none=>right;simp[jg,hI,hs]at ho;exact⟨rfl,rfl,ho.symm⟩
  |some es=>simp[jg,hI,hs]at ho;exact absurd ho.2.symm he
def wQ{s:bo}(h:kN s):fE s s.cells.length=false:=by
 have:=h.pos;unfold fE
 have:¬s.cells.length<s.pos.toNat:=by omega
 simp[this]
def HT{s:bo}(h:kN s)(es:List End):∀x∈cH s es,0<x:=by
 intro x hx;obtain⟨i,hi,rfl⟩:=List.mem_map.1 hx;have hi:=List.mem_range.1 hi;have hw:=(lr h.name (List.getElem_mem hi)).GC;have hp:=h.j3;have ht:=h.eP;unfold uj;rw[ko hi];have a1:1*1<=s.j3*(s.name.words[i].bc.length:Int):=Int.mul_le_mul (by omega) (by omega) (by omega) (by omega);have a3:0<=s.eP*(mX es i s.name.words[i].bc.length:Int):=Int.mul_nonneg (by omega) (by omega);omega
def Jt{az:List Int}(hp:∀x∈az,0<x){bJ:Nat->Int}{vs:List (Nat×Nat)}{v:Nat×Nat}(hv:v∈vs)(h:az.sum<=jj bJ v.1 (v.2+1)):fp az bJ vs=az.length:=by
 obtain⟨a,b,rfl⟩:=List.append_of_mem hv
 have key:∀(b:List (Nat×Nat))(n:Nat),n=az.length->b.foldl (λn v=>n+(cQ (az.drop n) (jj bJ v.1 (v.2+1))).1) n=az.length:=by
  intro b
  induction b with
  |nil=>intro n hn;exact hn
  |cons y b ih=>
   intro n hn;rw[List.foldl_cons];refine ih _ ?_;rw[hn,List.drop_length];simp[cQ]
 have e:fp az bJ (a++v::b)=b.foldl (λn v=>n+(cQ (az.drop n) (jj bJ v.1 (v.2+1))).1) (fp az bJ a+(cQ (az.drop (fp az bJ a)) (jj bJ v.1 (v.2+1))).1):=by
  unfold fp;rw[List.foldl_append,List.foldl_cons]
 rw[e];refine key b _ ?_;have hle:=wP az bJ a
 obtain⟨n,hn⟩:∃n,fp az bJ a=n:=⟨_,rfl⟩
 rw[hn]at hle⊢
 have vU:∀x∈az.drop n,0<x:=λx hx=>hp x (List.mem_of_mem_drop hx)
 have hs:(az.take n).sum+(az.drop n).sum=az.sum:=by rw[<-List.sum_append,List.take_append_drop]
 have h0:=iW (l:=az.take n) λx hx=>hp x (List.mem_of_mem_take hx)
 have h1:=iW (l:=az.drop n) vU;have:=(Ag vU (t:=jj bJ v.1 (v.2+1)) (by omega)).2 (by omega);rw[this,List.length_drop];omega
def vY{s:bo}(h:kN s)(i n:Nat):∀j,0<=gk (il s i n) j:=λj=>by
 unfold gk il;rw[List.getD_eq_getElem?_getD,List.getElem?_set];have hb:=(se h 0).2
 have hg:∀k,0<=(bw 0 s).getD k 0:=λk=>by
  rw[List.getD_eq_getElem?_getD]
  cases hk:(bw 0 s)[k]? with
  |none=>exact Int.le_refl 0
  |some x=>exact(hb x (List.mem_of_getElem? hk)).1
 split
 .split
  .have:=hg i;simp only[Option.getD_some];omega
  .exact Int.le_refl 0
 .have:=hg j;rwa [List.getD_eq_getElem?_getD]at this
def B9(l:List Int)(i j:Nat)(x:Int):(l.set i x).getD j 0=if i=j then(if i<l.length then x else 0)else l.getD j 0:=by
 rw[List.getD_eq_getElem?_getD,List.getElem?_set];split
 .split<;>rfl
 .rw[List.getD_eq_getElem?_getD]
def Hy(s:bo)(i:Nat){m n:Nat}(hmn:m<=n)(j:Nat):gk (il s i m) j<=gk (il s i n) j:=by
 unfold gk il;rw[B9,B9];split
 .split
  .omega
  .exact Int.le_refl _
 .exact Int.le_refl _
def JE{s:bo}(h:kN s){az:List Int}(hp:∀x∈az,0<x)(i:Nat):∀x y,x<=y->mH s az i x=true->mH s az i y=true:=by
 intro x y hxy hx;unfold mH at hx⊢;rw[decide_eq_true_eq]at hx⊢;have h1:=JR (na:=az) (nb:=az) rfl (λ_ _ _=>Int.le_refl _) hp (vY h i x) (vY h i y) (wQ h) (wQ h) (λj _ hs=>⟨hs,Hy s i hxy j⟩);have h2:=wP az (gk (il s i y)) (fm (fE s) s.cells.length);unfold EN at hx⊢;omega
def Ii{s:bo}(h:kN s){f t m:Nat}(hf:f<=t)(ht:t<s.cells.length):(m:Int)<=jj (gk (il s f m)) f (t+1):=by
 have hl:(bw 0 s).length=s.cells.length:=by simp[bw]
 have h0:(m:Int)<=gk (il s f m) f:=by
  unfold gk il;rw[List.getD_eq_getElem?_getD,List.getElem?_set,if_pos rfl,if_pos (by omega),Option.getD_some];have:=(se h 0).2 _ (List.getElem_mem (show f<(bw 0 s).length by omega));rw[List.getD_eq_getElem?_getD,List.getElem?_eq_getElem (by omega),Option.getD_some];omega
 have key:∀d,(m:Int)<=jj (gk (il s f m)) f (f+d+1):=by
  intro d
  induction d with
  |zero=>
   rw[Nat.add_zero,tX _ (Nat.le_refl f),zE];omega
  |succ d ih=>
   rw[show f+(d+1)+1=(f+d+1)+1 by omega,tX _ (by omega)];have:=vY h f m (f+d+1);omega
 have:=key (t-f);rwa [show f+(t-f)+1=t+1 by omega]at this
def Jy{s:bo}(h:kN s){az:List Int}(hp:∀x∈az,0<x)(hv:(eC s).isEmpty=false):∃c,c<s.cells.length/\mH s az c az.sum.toNat=true:=by
 cases uo:fm (fE s) s.cells.length with
 |nil=>simp[eC,uo]at hv
 |cons v l=>
  have bB:=(Cm (wQ h)).1 v (by rw[uo];simp);refine⟨v.1,by omega,?_⟩;unfold mH EN;rw[decide_eq_true_eq];have h0:=iW hp;exact Jt (v:=v) hp (by rw[uo];simp) (by have:=Ii h (m:=az.sum.toNat) bB.1 bB.2;omega)
def Dp(p:Nat->Bool)(k:Nat):Nat:=((List.range k).find? p).getD k
def uI(p:Nat->Bool)(k:Nat):mZ p k (Dp p k):=by
 unfold Dp
 cases hf:(List.range k).find? p with
 |none=>
  refine⟨Nat.le_refl _,λx hx=>?_,λh=>absurd h (by simp)⟩;have:=List.find?_eq_none.1 hf x (List.mem_range.2 (by simpa using hx));simpa using this
 |some r=>
  obtain⟨h1,pa,pb,h2,h3⟩:=List.find?_eq_some_iff_append.1 hf;have hr:r<k:=List.mem_range.1 (List.mem_of_find?_eq_some hf);refine⟨by simp;omega,λx hx=>?_,λ_=>h1⟩;simp only[Option.getD_some]at hx
  have kE:x∈pa++r::pb:=by rw[<-h2];exact List.mem_range.2 (by omega)
  rcases List.mem_append.1 kE with h|h
  .have:=h3 x h;simpa using this
  .exfalso
   have Tb:(pa++r::pb).Pairwise (·<·):=by rw[<-h2];exact List.pairwise_lt_range
   have Tb:=(List.pairwise_append.1 Tb).2.1;rcases List.mem_cons.1 h with h|h
   .omega
   .have:=(List.pairwise_cons.1 Tb).1 x h;omega
def gm(s:bo)(az:List Int)(i:Nat):Nat:=Dp (mH s az i) (az.sum.toNat+1)
def xb(s:bo)(az:List Int):Option (Nat×Nat):=match fF (gm s az) az.sum.toNat s.cells.length with
 |x::l=>some (ox x l)
 |[]=>none
def rV(s:bo):List AV:=
 if jH s then(match me s.name with
  |some es=>if(eC s).isEmpty then[.int .i64 0,.int .i64 0,.int .i64 5]else(match xb s (cH s es)with|some q=>[.int .i64 (q.1:Nat),.int .i64 (q.2:Nat),.int .i64 0]|none=>[])
  |none=>[.int .i64 0,.int .i64 0,.int .i64 7])else[.int .i64 0,.int .i64 0,.int .i64 2]
def vi:∀(l:List (Nat×Nat))(x:Nat×Nat),kH (gD x) (l.map gD)=gD (ox x l)
 |[],_=>rfl
 |y::l,x=>by
  have e1:kH (gD x) ((y::l).map gD)=kH (if(gD y).2<(gD x).2 then gD y else gD x) (l.map gD):=rfl;have e2:ox x (y::l)=ox (if y.2<x.2 then y else x) l:=rfl;rw[e1,e2,<-vi l]
  congr 1
  by_cases h:y.2<x.2
  .rw[if_pos h,if_pos (by show(y.2:Int)<(x.2:Int);omega)]
  .rw[if_neg h,if_neg (by show¬(y.2:Int)<(x.2:Int);omega)]
def B2:∀{l:List Int}{b:Int},(∀x∈l,x<=b)->0<=b->l.sum<=l.length*b
 |[],_,_,_=>by simp
 |x::l,b,h,hb=>by
  have h1:=h x (by simp);have h2:=B2 (l:=l) (λy hy=>h y (by simp[hy])) hb;simp only[List.sum_cons,List.length_cons]
  have:((l.length+1:Nat):Int)*b=l.length*b+b:=by rw[Int.natCast_add,Int.add_mul];simp
  omega
end Go.Proofs.Tryz
namespace Go.Proofs.Tryz
open Go Go.AL Go.RowKit Go.Proofs Go.Proofs.Tram
attribute [local simp] dI eb dP db dG cI cJ cb cd dE b_ bL fk fj ar ao ev aD.S aD.H a_ aq aH AL.start AV.cells AV.storable AV.bm aR aT ee aZ HR.okB post cn ct cw AV.out AV.bC bz bW fz fM AV.vw bR vI int bG aB cS cg fS gL dL cG aU AV.aA AV.bF
variable{GI:World->Prop}
def Zn(hG:aw GI)(s:bo)(hs:sQ s):AC prog GI 19 [g_ s] (.ret (.eS (rV s))):=by
 have Zx:=Nv hG s hs;have Mv:=NV hG s hs
 rcases pI s with⟨hI,es,ly,ho⟩|⟨e,he,ho,Hq⟩
 .rw[ho]at Mv;have hg:=tv hI;have hc:=hg.cells
  have hfo:rV s=if(eC s).isEmpty then[.int .i64 0,.int .i64 0,.int .i64 5]else(match xb s (cH s es)with|some q=>[.int .i64 (q.1:Nat),.int .i64 (q.2:Nat),.int .i64 0]|none=>[]):=by unfold rV;rw[if_pos hI,ly]<;>rfl
  rw[hfo];have hn:=xc hg (p9 hg.name ly);have hp:=HT hg es
  have hle:(cH s es).sum<=400:=by
   have hb:∀x∈cH s es,x<=81:=λx hx=>by
    obtain⟨i,hi,rfl⟩:=List.mem_map.1 hx
    exact(x_ hg (p9 hg.name ly) (by
     rw[ko (List.mem_range.1 hi)]
     exact(lr hg.name (List.getElem_mem _)).si)).2
   have h1:=B2 hb (by decide)
   have h2:(cH s es).length<=4:=by
    have:=(gN hg.name).words;simp[cH];omega
   omega
  generalize cH s es=az at Mv hn hp hle⊢;have h0:=iW hp;have xB:=RW hG az (by omega) hn.1
  obtain⟨most,DL⟩:∃most,az.sum.toNat=most:=⟨_,rfl⟩
  have rM:az.sum=(most:Nat):=by omega
  rw[rM]at xB
  have O6:most<=400:=by omega
  have hvw:(bj s).map AV.bF=bj s:=by simp[bj,an,AV.bF,vI]
  have Xd:(bZ s az).map AV.bF=bZ s az:=by simp[bZ,bj,an,AV.bF,vI]
  have Xu:∀i:Nat,i<s.cells.length->AC prog GI 59 [.int .i64 ((most+1:Nat):Int),.func (.func 60) [] [.ref (bj s),.ref [.int .i64 (i:Nat)],.ref (bZ s az)]] (.ret (.int .i64 (gm s az i:Nat))):=λi hi=>by
   have:=Zk hG (n:=most+1) (by omega) 60 (bj s) [.int .i64 (i:Nat)] (bZ s az) (by kernel_rfl) (JE hg hp i) (λy hy=>ZQ hG s hg az hn hi (n:=y) (by omega)) (uI (mH s az i) (most+1));unfold gm;rw[DL];exact this
  have LO:=Ri hG s;have wL:=Y' hG s (ps:=eC s) (by have:=FY s;omega) (NS hG s hg);have wL:=AC.rR (o:=if(eC s).isEmpty then .nil else .view) wL;unfold xb;rw[DL];refine dM hG func19 ntmps19 c19 ?_;refine ba (λS H=>S 1=.box 1 0/\H 1=some (bj s)) (by simp[g_,bj,an]) ?_;rintro S H ⟨s1,h1⟩;refine ba (λS H=>S 1=.box 1 0/\H 1=some (bj s)/\S 5=.box 5 0/\H 5=some (bZ s az)/\S 6=.int .i64 0) ?_ ?_
  .simp[s1,h1,bj,an];refine oc Zx ?_;simp;refine oc Mv ?_;simp[s1,h1,gX,bZ,bj,an,cL]
  clear s1 h1 S H;rintro S H ⟨s1,h1,s5,h5,s6⟩;refine ba (λS H=>S 1=.box 1 0/\H 1=some (bj s)/\S 5=.box 5 0/\H 5=some (bZ s az)) (by simp[s1,h1,s5,h5,s6]) ?_;clear s1 h1 s5 h5 s6 S H;rintro S H ⟨s1,h1,s5,h5⟩;refine ba (λS H=>S 1=.box 1 0/\H 1=some (bj s)/\S 5=.box 5 0/\H 5=some (bZ s az)/\S 7=.int .i64 (most:Nat)) ?_ ?_
  .simp[s1,h1,s5,h5,bZ,bj,an];refine oc xB ?_;simp[s1,h1,s5,h5,bZ,bj,an]
  clear s1 h1 s5 h5 S H;rintro S H ⟨s1,h1,s5,h5,s7⟩;refine ba (λS H=>S 1=.box 1 0/\H 1=some (bj s)/\S 5=.box 5 0/\H 5=some (bZ s az)/\S 7=.int .i64 (most:Nat)/\S 8=.slice .nil []) (by simp[s1,h1,s5,h5,s7]) ?_;clear s1 h1 s5 h5 s7 S H;rintro S H ⟨s1,h1,s5,h5,s7,s8⟩;refine ba (λS H=>S 1=.box 1 0/\H 1=some (bj s)/\S 8=grow 149 (aW ((fF (gm s az) most s.cells.length).map gD))) ?_ ?_
  .refine ba (λS H=>S 1=.box 1 0/\H 1=some (bj s)/\S 5=.box 5 0/\H 5=some (bZ s az)/\S 7=.int .i64 (most:Nat)/\S 8=.slice .nil []/\S 27=.int .i64 s.cells.length/\S 28=.int .i64 ((0:Nat):Int)) (by simp[s1,h1,s5,h5,s7,s8,bj,an]) ?_;clear s1 h1 s5 h5 s7 s8 S H;rintro S H ⟨s1,h1,s5,h5,s7,s8,n_,sq⟩;refine dg 28 s.cells.length (λi S H=>S 1=.box 1 0/\H 1=some (bj s)/\S 5=.box 5 0/\H 5=some (bZ s az)/\S 7=.int .i64 (most:Nat)/\S 8=grow 149 (aW ((fF (gm s az) most i).map gD))/\S 27=.int .i64 s.cells.length/\S 28=.int .i64 (i:Nat)) (λi S H h=>h.2.2.2.2.2.2.2) ⟨s1,h1,s5,h5,s7,by rw[s8]<;>rfl,n_,sq⟩ ?_;clear s1 h1 s5 h5 s7 s8 n_ sq S H;rintro i hi S H ⟨s1,h1,s5,h5,s7,s8,n_,sq⟩
   by_cases av:i<s.cells.length
   case neg=>
    have dN:i=s.cells.length:=by omega
    subst dN;simp[s1,h1,s5,h5,s7,s8,n_,sq]
   have hw:IntKind.i64.wrap ((i:Int)+1)=i+1:=bf (by omega)
   have kc:IntKind.i64.wrap ((most:Int)+1)=((most+1:Nat):Int):=by rw[bf (by omega)];omega
   have EZ:=DJ (gm s az) most i
   have hlen:(aW ((fF (gm s az) most i).map gD)).length<=i:=by
    simp only[aW,List.length_map];have:=List.length_filterMap_le (λk=>if gm s az k<=most then some (k,gm s az k)else none) (List.range i);simpa[fF]using this
   have bB:=zW ((fF (gm s az) most i).map gD);have hh:=Xu i av
   have Vb:((most+1:Nat):Int)=(most:Int)+1:=by omega
   rw[Vb]at hh kc;simp[s1,h1,s5,h5,s7,s8,n_,sq,av,kc,hvw,Xd];refine⟨_,by kernel_rfl,hh,λ_=>rfl,?_⟩
   by_cases vA:gm s az i<=most
   .rw[if_pos vA]at EZ
    have hE:aW ((fF (gm s az) most (i+1)).map gD)=aW ((fF (gm s az) most i).map gD)++[.agg [.int .i64 (i:Nat),.int .i64 (gm s az i:Nat)]]:=by
     rw[EZ,List.map_append];unfold aW
     rw[List.map_append]<;>rfl
    rw[hE];have k3:aF 2 [AV.agg [.int .i64 (i:Nat),.int .i64 (gm s az i:Nat)]]=true:=rfl;generalize aW ((fF (gm s az) most i).map gD)=L at s8 hlen bB⊢
    cases L with
    |nil=>
     have Hj:grow 149 []=.slice .nil []:=rfl;simp[s1,h1,s5,h5,s7,s8,n_,sq,vA,Hj,hw,cL,k3]
     try rfl
    |cons y L=>
     have Hj:grow 149 (y::L)=.slice (.own 149) (y::L):=rfl
     have Yn:∀z,grow 149 (y::(L++[z]))=.slice (.own 149) (y::(L++[z])):=λ_=>rfl
     have uF:L.length+1+1<1048576:=by simp at hlen;omega
     simp[s1,h1,s5,h5,s7,s8,n_,sq,vA,Hj,Yn,hw,cL,k3,bB,uF]
   .rw[if_neg vA,List.append_nil]at EZ;rw[EZ]
    have qI:∀L,grow 149 L=.slice (if L=[]then .nil else .own 149) L:=λ_=>rfl
    simp[s1,h1,s5,h5,s7,s8,n_,sq,vA,hw,qI]
  .clear s1 h1 s5 h5 s7 s8 S H;rintro S H ⟨s1,h1,s8⟩
   cases hv:(eC s).isEmpty with
   |true=>
    have nL:eC s=[]:=by simpa using hv
    rw[nL]at wL;simp[s1,h1,bj,an];refine oc LO ?_;simp;refine⟨_,by kernel_rfl,wL,by simp[bR,mG],?_⟩;simp
   |false=>
    have nL:eC s≠[]:=by intro h;rw[h]at hv;cases hv
    have oP:(((eC s).length:Int)==0)=false:=by
     have:(eC s).length≠0:=λh=>nL (List.eq_nil_of_length_eq_zero h)
     rw[beq_eq_false_iff_ne];omega
    obtain⟨c,q1,q2⟩:=Jy hg hp hv;rw[DL]at q2;obtain⟨x,l,Jo⟩:=JT (p:=mH s az) (f:=gm s az) (most:=most) (m:=s.cells.length) (λj _=>by unfold gm;rw[DL];exact uI _ _) q1 (Nat.le_refl _) q2
    have AZ:=WZ hG (gD x) (l.map gD) (by
     have h1:=congrArg List.length Jo;have:=List.length_filterMap_le (λk=>if gm s az k<=most then some (k,gm s az k)else none) (List.range s.cells.length);simp[fF]at h1 this
     simp;omega)
    rw[vi]at AZ
    have eD:gD x::l.map gD=(fF (gm s az) most s.cells.length).map gD:=by rw[Jo]<;>rfl
    have jF:grow 149 (aW ((fF (gm s az) most s.cells.length).map gD))=.slice (.own 149) (aW ((fF (gm s az) most s.cells.length).map gD)):=by rw[Jo]<;>rfl
    rw[jF]at s8;rw[eD]at AZ;rw[Jo];generalize aW ((fF (gm s az) most s.cells.length).map gD)=L at s8 AZ
    obtain⟨q,hq⟩:∃q,ox x l=q:=⟨_,rfl⟩
    rw[hq]at AZ;simp[s1,h1,s8,bj,an];refine oc LO ?_;simp[s8];refine⟨_,by kernel_rfl,wL,by simp[bR,mG],?_⟩;simp[s8,nL,oP,aW];refine oc AZ ?_;simp[bq,gD,cL,hq]
 .rw[ho]at Mv
  have Mm:rV s=[.int .i64 0,.int .i64 0,.int .i64 e]:=by
   rcases Fc s e he ho with⟨h1,rfl⟩|⟨h1,h2,rfl⟩
   .simp[rV,h1]
   .simp[rV,h1,h2]
  rw[Mm]
  have IJ:(e !=0)=true:=by simpa using he
  refine dM hG func19 ntmps19 c19 ?_;simp[c19,g_,bj,an];refine oc Zx ?_;simp;refine oc Mv ?_;simp[gX,bZ,bj,an,zT,cL,he,IJ]
end Go.Proofs.Tryz
namespace Go.Proofs.Tryz
open Go Go.AL Go.RowKit Go.Proofs Go.Proofs.Tram
attribute [local simp] dI eb tw qH dG cI cJ cb cd dE b_ bL fk fj ar ao ev aD.S aD.H a_ aq aH AL.start AV.cells AV.storable AV.bm aR aT ee aZ HR.okB post cn ct cw AV.out AV.bC bz bW fz fM AV.vw bR vI int bG aB cS cg fS gL dL cG aU
variable{GI:World->Prop}
def qA:(∀k n,(AV.int k n).aA=.int k n)/\(∀b,(AV.bool b).aA=.bool b)/\(∀l,(AV.str l).aA=.str l)/\(∀l,(AV.slice .view l).aA=.slice .view l)/\(∀l,(AV.slice .nil l).aA=.slice .nil l)/\(∀e l,(AV.slice (.own e) l).aA=.slice .view l)/\(∀cs,(AV.agg cs).aA=.agg cs)/\(∀cs,(AV.eS cs).aA=.eS cs)/\(∀cs,(AV.ref cs).aA=.ref cs)/\(∀i o,(AV.box i o).aA=.box i o)/\(∀t v,(AV.iface t v).aA=.iface t v)/\∀v:AV,v.aA.aA=v.aA:=
 ⟨λ_ _=>rfl,λ_=>rfl,λ_=>rfl,λ_=>rfl,λ_=>rfl,λ_ _=>rfl,λ_=>rfl,λ_=>rfl,λ_=>rfl,λ_ _=>rfl,λ_ _=>rfl,AV.idem⟩
def qY:(∀k n,(AV.int k n).bF=.int k n)/\(∀b,(AV.bool b).bF=.bool b)/\(∀l,(AV.str l).bF=.str l)/\(∀o l,(AV.slice o l).bF=.slice .view l)/\(∀cs,(AV.agg cs).bF=.agg cs)/\(∀cs,(AV.eS cs).bF=.eS cs)/\(∀cs,(AV.ref cs).bF=.ref cs)/\∀t v,(AV.iface t v).bF=.iface t v:=
 ⟨λ_ _=>rfl,λ_=>rfl,λ_=>rfl,λ_ _=>rfl,λ_=>rfl,λ_=>rfl,λ_=>rfl,λ_ _=>rfl⟩
def K4(e:Nat)(l:List AV):(grow e l).aA=.slice (if l=[]then .nil else .view) l:=by
 unfold grow
 by_cases h:l=[]<;>simp[h,AV.aA]
def jD(e:Nat)(l:List AV):(grow e l).aA.bF=.slice .view l:=by
 rw[K4]<;>rfl
def Px{id:Nat}{c:ae}{Q:dQ->af->ah->Prop}{S:af}{H:ah}(h:bD prog GI c (cg id Q) S H):bD prog GI (.block id c) Q S H:=h
def rJ(x:Int):Word:=⟨List.replicate x.toNat 0,[],false⟩
def lU(ls:List Int):aE:=⟨[1],[],0,0,0,0,1,ls.map rJ,400,1⟩
def IM(l:List Int):aF 3 (l.map λx=>cU (rJ x))=true:=kl λa=>⟨rfl,rfl⟩
def SC(hG:aw GI){x:Int}(hx:1<=x/\x<=6):AC prog GI 25 [.int .i64 x] (.ret (cU (rJ x))):=by
 obtain⟨k,rfl⟩:∃k:Nat,x=k:=⟨x.toNat,by omega⟩
 exact X4 hG (by omega)
def Zw(hG:aw GI){ls:List Int}(gZ:iH ls):AC prog GI 8 [vI ls] (.ret (ec (lU ls))):=by
 obtain⟨i36,mT,nk⟩:=iZ 36 10;obtain⟨fs,iD⟩:=uZ 36
 have dN:(ints ls).length=ls.length:=by simp[ints]
 have BH:=gZ.1;refine dM hG func8 ntmps8 c8 ?_;refine ba (λS H=>S 0=.slice .view (ints ls)/\S 2=.box 2 0/\(∃z,H 2=some z/\z.length=10)) (by simp[vI,au,ai,AV.aA,AV.bF]) ?_;rintro S H ⟨s0,s2,z,h2,hz⟩;refine ba (λS H=>S 0=.slice .view (ints ls)/\S 2=.box 2 0/\(∃z,H 2=some z/\z.length=10)/\S 3=.box 3 0/\∃o,H 3=some [.slice o (ints [1]),.slice .nil [],.int .i64 0,.int .i64 0,.int .i64 0,.int .i64 0,.int .i64 1,.slice .nil [],.int .i64 400,.int .i64 1]) ?_ ?_
 .simp[s0,s2,h2,hz,cL,ints,aF,au,ai,AV.aA,AV.bF]
  try exact⟨_,rfl⟩
 clear s0 s2 h2 hz z S H;rintro S H ⟨s0,s2,⟨z,h2,hz⟩,s3,o,h3⟩;refine ba (λS H=>(∃z,H 2=some z/\z.length=10)/\S 2=.box 2 0/\S 3=.box 3 0/\∃o,H 3=some [.slice o (ints [1]),.slice .nil [],.int .i64 0,.int .i64 0,.int .i64 0,.int .i64 0,.int .i64 1,grow 58 (ls.map λx=>cU (rJ x)),.int .i64 400,.int .i64 1]) ?_ ?_
 .simp[s0,s2,h2,hz,s3,h3,au,ai,AV.aA,AV.bF];refine dg 4 ls.length (λi S H=>S 0=.slice .view (ints ls)/\S 2=.box 2 0/\(∃z,H 2=some z/\z.length=10)/\S 3=.box 3 0/\(∃o,H 3=some [.slice o (ints [1]),.slice .nil [],.int .i64 0,.int .i64 0,.int .i64 0,.int .i64 0,.int .i64 1,grow 58 ((ls.take i).map λx=>cU (rJ x)),.int .i64 400,.int .i64 1])/\S 4=.int .i64 (i:Nat)) (λi S H h=>h.2.2.2.2.2) ⟨by simp[s0,au,ai,AV.aA,AV.bF],by simp[s2,au,ai,AV.aA,AV.bF],⟨z,by simp[h2,au,ai,AV.aA,AV.bF],hz⟩,by simp[s3,au,ai,AV.aA,AV.bF],⟨o,by simp[h3,grow,au,ai,AV.aA,AV.bF]⟩,by simp[au,ai,AV.aA,AV.bF]⟩ ?_;clear s0 s2 h2 hz z s3 h3 o S H;rintro i hi S H ⟨s0,s2,⟨z,h2,hz⟩,s3,⟨o,h3⟩,s4⟩
  by_cases av:i<ls.length
  .have hw:IntKind.i64.wrap ((i:Int)+1)=i+1:=bf (by omega);have hx:=gZ.2 _ (List.getElem_mem av);have h25:=SC (GI:=GI) hG hx
   have hg:(ints ls)[i]?=some (.int .i64 ls[i]):=by simp[ints,av]
   have ht:(ls.take (i+1)).map (λx=>cU (rJ x))=(ls.take i).map (λx=>cU (rJ x))++[cU (rJ ls[i])]:=by
    rw[List.take_succ_eq_append_getElem av,List.map_append]<;>rfl
   have bB:=IM (ls.take i)
   have E4:((ls.take i).map λx=>cU (rJ x)).length<=4:=by rw[List.length_map,List.length_take];omega
   have iA:aF 3 [cU (rJ ls[i])]=true:=rfl;rw[ht]
   generalize(ls.take i).map (λx=>cU (rJ x))=L at*
   have hwA:∃a b c,cU (rJ ls[i])=.agg [a,b,c]/\a.bF=a/\b.bF=b/\c.bF=c:=⟨_,_,_,rfl,rfl,rfl,rfl⟩
   generalize cU (rJ ls[i])=wd at*
   obtain⟨wa,wb,wc,rfl,y1,y2,y3⟩:=hwA;refine ba (λS H=>S 0=.slice .view (ints ls)/\S 2=.box 2 0/\(∃z,H 2=some z/\z.length=10)/\S 3=.box 3 0/\(∃o,H 3=some [.slice o (ints [1]),.slice .nil [],.int .i64 0,.int .i64 0,.int .i64 0,.int .i64 0,.int .i64 1,grow 58 L,.int .i64 400,.int .i64 1])/\S 4=.int .i64 (i:Nat)) ?_ ?_
   .simp[s0,s2,h2,hz,s3,h3,s4,dN,av,au,ai,AV.aA,AV.bF]
    try exact⟨o,rfl⟩
   clear s0 s2 h2 hz z s3 h3 s4 o S H;rintro S H ⟨s0,s2,⟨z,h2,hz⟩,s3,⟨o,h3⟩,s4⟩;refine ba (λS H=>S 0=.slice .view (ints ls)/\S 2=.box 2 0/\(∃z,H 2=some z/\z.length=10)/\S 3=.box 3 0/\(∃o,H 3=some [.slice o (ints [1]),.slice .nil [],.int .i64 0,.int .i64 0,.int .i64 0,.int .i64 0,.int .i64 1,grow 58 (L++[.agg [wa,wb,wc]]),.int .i64 400,.int .i64 1])/\S 4=.int .i64 (i:Nat)) ?_ ?_
   .refine Px ?_;simp[s0,s2,h2,s3,h3,s4,dN,av,hg,qA,qY,jD];refine oc h25 ?_;simp[s0,s2,h2,s3,h3,s4,dN,av,hg,iA,qA,qY,jD];refine pT L (.agg [wa,wb,wc]) (.own 58) (by simp[qA,qY,jD]) (by simp[y1,y2,y3,qA,qY,jD]) iA bB (by omega) ?_;intro S' sd eK;simp[sd,eK,s0,s2,h2,hz,s3,s4,grow,qA,qY,jD]
    try exact⟨o,rfl⟩
   clear s0 s2 h2 hz z s3 h3 s4 o S H;rintro S H ⟨s0,s2,⟨z,h2,hz⟩,s3,⟨o,h3⟩,s4⟩;simp[s0,s2,h2,hz,s3,h3,s4,hw,av,au,ai,AV.aA,AV.bF]
   try exact⟨o,rfl⟩
  .have va:i=ls.length:=by omega
   subst va;rw[List.take_of_length_le (Nat.le_refl _)]at h3;simp[s0,s2,h2,hz,s3,h3,s4,dN,au,ai,AV.aA,AV.bF]
   try exact⟨o,rfl⟩
 clear s0 s2 h2 hz z s3 h3 o S H;rintro S H ⟨⟨z,h2,hz⟩,s2,s3,o,h3⟩
 have bQ:(ls.map λx=>cU (rJ x))≠[]:=λh=>by
  have:=congrArg List.length h;rw[List.length_map]at this;simp only[List.length_nil]at this;omega
 have jF:grow 58 (ls.map λx=>cU (rJ x))=.slice (.own 58) (ls.map λx=>cU (rJ x)):=by simp only[grow,if_neg bQ]
 rw[jF]at h3;simp[h2,hz,s2,s3,h3,mT,nk,iD,eB,ec,an,lU,au,ai,AV.aA,AV.bF]
 cases o<;>rfl
end Go.Proofs.Tryz
namespace Go.Proofs.Tryz
open Go Go.AL Go.RowKit Go.Proofs Go.Proofs.Tram
def pg:Nat->List (List Int)
 |0=>[[]]
 |n+1=>(pg n).flatMap λl=>[1,2,3,4,5,6].map (·::l)
def yb:∀{l:List Int},(∀x∈l,1<=x/\x<=6)->l∈pg l.length
 |[],_=>by simp[pg]
 |x::l,h=>by
  have h1:=h x (by simp)
  have h2:=yb (l:=l) λy hy=>h y (by simp[hy])
  show _∈(pg l.length).flatMap _;rw[List.mem_flatMap];refine⟨l,h2,?_⟩;rw[List.mem_map]
  have:x=1\/x=2\/x=3\/x=4\/x=5\/x=6:=by omega
  exact⟨x,by rcases this with rfl|rfl|rfl|rfl|rfl|rfl<;>simp,rfl⟩
def okB(l:List Int):Bool:=br (lU l)&&!(jy (lU l) []).isEmpty
def XQ:(pg 1).all okB=true:=by kernel_rfl
def aai:(pg 2).all okB=true:=by kernel_rfl
def ZR:(pg 3).all okB=true:=by kernel_rfl
def XT:(pg 4).all okB=true:=by kernel_rfl
def we{ls:List Int}(h:iH ls):br (lU ls)=true/\∃es,me (lU ls)=some es:=by
 have hm:=yb h.2
 have hk:okB ls=true:=by
  have hl:ls.length=1\/ls.length=2\/ls.length=3\/ls.length=4:=by have:=h.1;omega
  rcases hl with e|e|e|e<;>rw[e]at hm
  .exact List.all_eq_true.1 XQ _ hm
  .exact List.all_eq_true.1 aai _ hm
  .exact List.all_eq_true.1 ZR _ hm
  .exact List.all_eq_true.1 XT _ hm
 unfold okB at hk;rw[Bool.and_eq_true,Bool.not_eq_true']at hk;refine⟨hk.1,?_⟩;unfold me
 cases hg:jy (lU ls) []with
 |nil=>rw[hg]at hk;simp at hk
 |cons x l=>exact⟨_,rfl⟩
def gP(ls:List Int)(t:Int):bo:=⟨[⟨t,t,false⟩],1,1,1,0,lU ls⟩
def wE{ls:List Int}(h:iH ls)(t:Int):sQ (gP ls t):=by
 refine⟨by show(1:Nat)<1000000;decide,by show(1:Nat)<1000;decide,by show(0:Nat)<1000;decide,?_,λw hw=>?_,λw hw=>?_⟩
 .have:=h.1;show(ls.map rJ).length<1000;rw[List.length_map];omega
 .obtain⟨x,hx,rfl⟩:=List.mem_map.1 hw;have:=h.2 x hx;show(List.replicate x.toNat 0).length<1000;rw[List.length_replicate];omega
 .obtain⟨x,hx,rfl⟩:=List.mem_map.1 hw;show(0:Nat)<1000;decide
def Aa{ls:List Int}(h:iH ls){t:Int}(ht:1<=t/\t<=20):jH (gP ls t)=true:=by
 have hn:=(we h).1
 have hw:[(⟨t,t,false⟩:lq)].any od=false:=by
  simp[od,da];omega
 unfold jH gP;simp only[hn,hw];show(da 1 1 12&&!false&&da 1 1 1&&true&&da 1 1 4&&da 0 0 4&&true)=true
 decide
def AW{ls:List Int}(h:iH ls)(t:Int)(es:List End):cH (gP ls t) es=ls:=by
 apply List.ext_getElem
 .simp[cH,gP,lU]
 .intro i h1 h2;have hx:=h.2 _ (List.getElem_mem h2)
  have hl:fQ (lU ls) i=ls[i].toNat:=by
   unfold fQ lU;simp[h2,rJ]
  simp only[cH,List.getElem_map,List.getElem_range,uj];show(1:Int)*fQ (lU ls) i+0*_=_;rw[hl];omega
def AF(ls:List Int)(t:Int):fm (fE (gP ls t)) 1=[(0,0)]:=rfl
def Mj{ls:List Int}(t:Int)(e:Nat):wZ e (gP ls t) ls=(cQ ls t).1:=by
 have hr:jj (gk (bw e (gP ls t))) 0 1=t:=by
  have:bw e (gP ls t)=[t]:=by simp[bw,gP,qy]
  rw[this];simp[jj,gk]
 show fp ls _ (fm (fE (gP ls t)) 1)=_;rw[AF];show 0+(cQ (ls.drop 0) (jj (gk (bw e (gP ls t))) 0 1)).1=_;rw[hr,List.drop_zero,Nat.zero_add]
def L3{ls:List Int}(h:iH ls){t:Int}(ht:1<=t/\t<=20)(e:Nat):oK e (gP ls t)=[.int .i64 ((cQ ls t).1:Nat),.int .i64 0]:=by
 obtain⟨es,iM⟩:=(we h).2;have p8:me (gP ls t).name=some es:=iM;unfold oK;rw[if_pos (Aa h ht),p8];show[AV.int .i64 (wZ e (gP ls t) (cH (gP ls t) es)),_]=_;rw[AW h,Mj]
def DI{ls:List Int}(h:iH ls):∀x∈ls,0<x:=λx hx=>by have:=h.2 x hx;omega
def La{ls:List Int}(h:iH ls){t:Int}(ht:1<=t/\t<=20):gm (gP ls t) ls 0=(max 0 (ls.sum-t)).toNat:=by
 have hp:=DI h;have hs:=iW hp
 have hb:∀n,mH (gP ls t) ls 0 n=true↔max 0 (ls.sum-t)<=(n:Nat):=λn=>by
  have hr:EN (gP ls t) ls (il (gP ls t) 0 n)=(cQ ls (t+n)).1:=by
   have:il (gP ls t) 0 n=[t+n]:=by simp[il,bw,gP,qy]
   rw[this];show fp ls (gk [t+n]) (fm (fE (gP ls t)) 1)=_;rw[AF];show 0+(cQ (ls.drop 0) (jj (gk [t+(n:Int)]) 0 1)).1=_
   have:jj (gk [t+(n:Int)]) 0 1=t+n:=by simp[jj,gk]
   rw[this,List.drop_zero,Nat.zero_add]
  unfold mH;rw[hr,decide_eq_true_eq];exact DO hp (by omega) n
 unfold gm;refine mZ.unique (uI _ _) ⟨by omega,λx hx=>?_,λ_=>?_⟩
 .rw[<-Bool.not_eq_true];intro hh;have:=(hb x).1 hh;omega
 .exact(hb _).2 (by omega)
def Ld{ls:List Int}(h:iH ls){t:Int}(ht:1<=t/\t<=20):rV (gP ls t)=[.int .i64 0,.int .i64 (max 0 (ls.sum-t)),.int .i64 0]:=by
 obtain⟨es,iM⟩:=(we h).2;have p8:me (gP ls t).name=some es:=iM;have hp:=DI h;have hs:=iW hp;have hv:eC (gP ls t)=[(0,0)]:=rfl
 have eZ:xb (gP ls t) ls=some (0,(max 0 (ls.sum-t)).toNat):=by
  have hw:=La h ht
  have:fF (gm (gP ls t) ls) ls.sum.toNat 1=[(0,(max 0 (ls.sum-t)).toNat)]:=by
   unfold fF;have hr:List.range 1=[0]:=rfl;rw[hr];simp only[List.filterMap_cons,List.filterMap_nil,hw];rw[if_pos (by omega)]
  unfold xb;show(match fF (gm (gP ls t) ls) ls.sum.toNat 1 with|x::l=>some (ox x l)|[]=>none)=_;rw[this]
  rfl
 unfold rV;rw[if_pos (Aa h ht),p8,hv];show(match xb (gP ls t) (cH (gP ls t) es)with|some q=>[AV.int .i64 (q.1:Nat),AV.int .i64 (q.2:Nat),.int .i64 0]|none=>[])=_;rw[AW h,eZ];show[AV.int .i64 ((0:Nat):Int),AV.int .i64 (((max 0 (ls.sum-t)).toNat:Nat):Int),AV.int .i64 0]=_;rw[Int.toNat_of_nonneg (by omega)]
 rfl
def I2{ls:List Int}(h:iH ls)(t:Int):(fh ls).countP (λx=>decide (x<=t))=(cQ ls t).1:=by
 rw[<-IT (DI h)];unfold fh;rw[List.countP_map]
 rfl
end Go.Proofs.Tryz
namespace Go.Proofs.Tryz
open Go Go.AL Go.RowKit Go.Proofs Go.Proofs.Tram
attribute [local simp] dI eb dP db dG cI cJ cb cd dE b_ bL fk fj ar ao ev aD.S aD.H a_ aq aH AL.start AV.cells AV.storable AV.bm aR aT ee aZ HR.okB post cn ct cw AV.out AV.bC bz bW fz fM AV.vw bR vI int bG aB cS cg fS gL dL cG aU AV.aA AV.bF
def bS:aE:=⟨[6,4,8],[⟨0,1,1,3⟩,⟨2,0,0,2⟩],2,4,5,8,3,[⟨[2,0,1],[],false⟩,⟨[0,2],[1],true⟩],18,2⟩
def aS:bO:=⟨[(6,8),(4,6),(8,10),(2,4),(6,6),(5,9),(8,12),(4,4)],[0,2,3,5,6],[(9,20),(10,20),(8,30)]⟩
def Qm:wo bS=3:=by kernel_rfl
def PW:br bS=true:=by kernel_rfl
def QL:oD aS=true:=by kernel_rfl
def NT:ry aS=[0,2,5]::(ry aS).tail:=by kernel_rfl
def UT:(ry aS).length=1:=by kernel_rfl
def PZ:tR bS:=⟨by decide,by decide,by decide,λw hw=>by
 simp[bS]at hw;rcases hw with rfl|rfl<;>decide,λw hw=>by
 simp[bS]at hw;rcases hw with rfl|rfl<;>decide⟩
def PK:Jz aS:=⟨by decide,by decide,by decide,λ_=>by rw[UT];decide⟩
variable{GI:World->Prop}
def CQ(hG:aw GI)(a b:Int):AC prog GI 139 [.int .i64 a,.int .i64 b] (.ret (bq (a,b))):=by
 obtain⟨i33,xA,vF⟩:=iZ 33 2;obtain⟨fs,iD⟩:=uZ 33;refine dM hG func139 ntmps139 c139 ?_;simp[c139,xA,vF,iD,eB,bq,cL]
def xW(hG:aw GI)(a b:Int):AC prog GI 68 [.int .i64 a,.int .i64 b] (.ret (bq (a,b))):=by
 obtain⟨i33,xA,vF⟩:=iZ 33 2;obtain⟨fs,iD⟩:=uZ 33;refine dM hG func68 ntmps68 c68 ?_;simp[c68,xA,vF,iD,eB,bq,cL]
def Yo(hG:aw GI):AC prog GI 67 [] (.ret (ec { bS with wide:=21 })):=by
 obtain⟨i36,mT,nk⟩:=iZ 36 10;obtain⟨fs,iD⟩:=uZ 36;refine dM hG func67 ntmps67 c67 ?_;simp[c67,aF];refine oc (CQ hG 1 3) ?_;simp[bq,cL,aF];refine oc (CQ hG 0 2) ?_;simp[bq,cL,aF];refine oc (CQ hG 2 4) ?_;simp[bq,cL,aF];refine oc (CQ hG 5 8) ?_;simp[bq,cL,aF,mT,nk,iD,eB,ec,an,bS,cU,ir,ints]
def Wv(hG:aw GI):AC prog GI 21 [] (.ret (ec bS)):=by
 obtain⟨i36,mT,nk⟩:=iZ 36 10;obtain⟨fs,iD⟩:=uZ 36;refine dM hG func21 ntmps21 c21 ?_;simp[c21];refine oc (Yo hG) ?_;simp[ec,an,bS,mT,nk,iD,eB,cU,ir,ints]
def Wp(hG:aw GI):AC prog GI 23 [] (.ret (mc aS)):=by
 obtain⟨i30,XD,ZI⟩:=iZ 30 3;obtain⟨fs,iD⟩:=uZ 30;refine dM hG func23 ntmps23 c23 ?_;simp[c23];refine oc (xW hG 6 8) ?_;simp[bq];refine oc (xW hG 4 6) ?_;simp[bq];refine oc (xW hG 8 10) ?_;simp[bq];refine oc (xW hG 2 4) ?_;simp[bq];refine oc (xW hG 6 6) ?_;simp[bq];refine oc (xW hG 5 9) ?_;simp[bq];refine oc (xW hG 8 12) ?_;simp[bq];refine oc (xW hG 4 4) ?_;simp[bq,cL,aF,XD,ZI,iD,eB,mc,cK,aS,aW,ints]
def Xr(hG:aw GI)(l:List Int)(hl:l.length<1000):AC prog GI 24 [vI l,vI l] (.ret (.bool true)):=by
 refine dM hG func24 ntmps24 c24 ?_;simp[c24];refine dg 5 l.length (λi S H=>S 0=vI l/\S 1=vI l/\S 5=.int .i64 (i:Nat)) (λi S H h=>h.2.2) ⟨by simp,by simp,by simp⟩ ?_;rintro i hi S H ⟨s0,s1,s5⟩
 by_cases av:i<l.length
 .have hw:IntKind.i64.wrap ((i:Int)+1)=i+1:=bf (by omega)
  have hn:¬(i:Int)<0:=by omega
  simp[s0,s1,s5,av,hw,hn,dc,fL,aM]
 .have dN:i=l.length:=by omega
  subst dN;simp[s0,s1,s5]
def YW:AC prog GT 7 [] (.ret (.bool true)):=by
 have hG:aw GT:=eN;have Qf:=V6 hG bS PZ;have Qv:=W_ aS PK
 have Nb:Dh bS=[.int .i64 3,.int .i64 0]:=by unfold Dh;rw[if_pos PW,Qm]<;>rfl
 have Sp:yJ aS=[vI [0,2,5],.int .i64 0]:=by unfold yJ;rw[if_pos QL,NT]
 rw[Nb]at Qf;rw[Sp]at Qv;refine dM hG func7 ntmps7 c7 ?_;simp[c7];refine oc (Wv hG) ?_;simp[ec,an];refine oc Qf ?_;simp;refine oc (Wp hG) ?_;simp[mc,cK];refine oc Qv ?_;simp[aF];refine oc (Xr hG [0,2,5] (by decide)) ?_;simp
end Go.Proofs.Tryz
namespace Go.Proofs.YtifmgeicigngbaaGreat
open Go Go.AL Go.ChangeShapes Go.WideShapes Go.ChangeAt Go.RowKit Go.Proofs.Tryz
def ED:mapsRowed Tryz.prog=true:=by kernel_rfl
def NP:(Tryz.prog.stops==[])=true:=by kernel_rfl
def ET:(Tryz.prog.stopKnobs==[])=true:=by kernel_rfl
def EK:Tryz.prog.plainKeys=false:=by kernel_rfl
def A':Tryz.prog.stopsHeard=true:=by kernel_rfl
def HP {f:FuncId} {fn:Func} {s:ChangeSpec} {c:OpenClaim}
  (h0:c.stops=[]/\c.knobs=[]/\c.plainKeys=false/\c.shortTexts=none/\c.lifted=false/\c.make=.cut)
  (h1:c.wf (OpenSpec.ofChange s)=true) (h2:fn.params.all (Tryz.prog.readableRec ·)=true) (h3:namedTie Tryz.prog c.named s.vars=true)
  (h4:(c.inPlace==Tryz.prog.inPlace f)=true) (h5:(c.unfollowed==Tryz.prog.unfollowed f)=true) (h6:(c.recurses==Tryz.prog.recurses f)=true) (h7:(c.named==Tryz.prog.varsNamed f)=true)
  (h8:((c.maps==(fn.params.toList++s.plain.varTypes Tryz.prog).any (Tryz.prog.mapsRec ·))&&(c.ifaces==(fn.params.toList++s.plain.varTypes Tryz.prog).any (Tryz.prog.ifacesRec ·))&&(c.mapsOut==Tryz.prog.mapsAmong fn.resultTypes.toList)&&
   (c.loops==(fn.params.toList++s.plain.varTypes Tryz.prog).any (Tryz.prog.loopsFrom ·))&&(c.wideKeys==(fn.params.toList++s.plain.varTypes Tryz.prog++fn.resultTypes.toList).any (Tryz.prog.wideKeysFrom ·))&&
   s.vars.all (Tryz.prog.varReadable ·)&&fn.resultTypes.all (λt=>Tryz.prog.readableRec t&&decide (t<Tryz.prog.types.size))&&(c.ifacesOut==fn.resultTypes.toList.any (Tryz.prog.ifacesRec ·))&&(c.loopsOut==fn.resultTypes.toList.any (Tryz.prog.loopsFrom ·)))=true)
  (h9:(c.kinds==(if c.domain.isEmpty then[]else fn.params.toList.map λt=>match Tryz.prog.underlying t with|some (.int k)=>some k|_=>none))=true) (jK:(c.pinned==c.pinnedBy)=true)
  (yv:((c.veiled==(fn.params.toList++s.plain.varTypes Tryz.prog++fn.resultTypes.toList).any (Tryz.prog.veiledRec ·))&&c.veiledFits Tryz.prog fn.params.toList (fn.params.toList++s.plain.varTypes Tryz.prog++fn.resultTypes.toList))=true):
  joinedFacts Tryz.prog f fn s c=true:=by
 obtain⟨a1,a2,a3,a4,a5,a6⟩:=h0;unfold joinedFacts;simp only[Bool.and_eq_true]at h8 yv⊢;obtain⟨⟨⟨⟨⟨⟨⟨⟨b1,b2⟩,b3⟩,b4⟩,b5⟩,b6⟩,b7⟩,b8⟩,b9⟩:=h8;refine⟨⟨⟨⟨⟨⟨⟨⟨⟨⟨⟨⟨⟨⟨⟨⟨⟨⟨⟨⟨⟨⟨⟨⟨⟨⟨⟨⟨⟨⟨⟨h1,Cs⟩,ED⟩,h2⟩,h3⟩,?_⟩,NP⟩,?_⟩,ET⟩,h4⟩,h5⟩,h6⟩,h7⟩,b1⟩,b2⟩,b3⟩,b4⟩,b5⟩,b6⟩,b7⟩,b8⟩,b9⟩,?_⟩,?_⟩,A'⟩,FM⟩,?_⟩,?_⟩,h9⟩,jK⟩,yv.1⟩,yv.2⟩
 .rw[a1];rfl
 .rw[a2];rfl
 .rw[a3,EK];rfl
 .rw[a4];rfl
 .rw[a5,BK];rfl
 .rw[QB,a6];rfl
def Mo {G:World→Prop} {f:Nat} {P1:List AV} {W:World} {args:Array Value} (h:AC Tryz.prog G f P1 (.ret (.bool true))) (hG:G W) (hl:P1.length=args.size) (hr:∀ i (h:i < P1.length) (h':i < args.size),RV T0 (fun _=>none) W P1[i] args[i]) :
  Calls Tryz.prog f args W λe W'=>e=.returned (.bool true)/\Below W.heap.size W W':=by
 refine(h W T0 args hG hl hr).mono ?_;rintro e W' ⟨hb,hi,_,c,rfl,hv,_⟩
 cases hv with
 |data _ _ h=>cases h with
  |bool b=>exact⟨rfl,hb⟩
end Go.Proofs.YtifmgeicigngbaaGreat
namespace Go.AL
open Go.RowKit
section
variable{P:Program}{a:Act}{w w0:World}{n:Nat}{g:Gh}{S:af}{H:ah}
def Rel.Ku(R:Rel P w0 n bu g S H a w){t:Nat}(ht:t<n)(v:AV)(hv:RV g.Pr g.al w v (a.tmps.getD t undef))(ho:dD P w g (.slot t) v (a.tmps.getD t undef)):Rel P w0 n bu g (aq S t v) H a w:=by
 have R1:=R.put t v _ ht hv ho;rwa [Kt (by rw[R.size];exact ht)]at R1
end
end Go.AL
namespace Go.Proofs.Tryz
open Go Go.AL Go.RowKit Go.Proofs Go.Proofs.Tram
noncomputable def q5:Nat->ae
 |0=>c5
 |k+1=>ae.qb (q5 k)
noncomputable def T':Code:=f5.body.getD .skip
noncomputable def r5:Nat->Code
 |0=>T'
 |k+1=>oZ (r5 k)
def m14(t:Nat):Bool:=[10,11,75,76,77,78,79,80,81].contains t
def UI(b:Nat)(vs:Nat->Value)(k:Nat)(y:Value×Value):Nat->Value
 |76=>.agg ((List.range 3).map vs).toArray
 |77=>.int .i64 (k:Nat)
 |78=>.slice (some ⟨b,0,none⟩) k k
 |79|75=>.tuple #[y.1,y.2]
 |80|10=>y.1
 |81|11=>y.2
 |_=>undef
def DC(w:World)(k:Nat)(l:Array Bool):World:=if l.getD 2 false then w.drew.alloc (.cells (Array.replicate k (.int .i64 0)) 3)else w.drew
def tF(w:World)(k:Nat)(Pr:Nat->Nat->Prop)(v1 v2:AV)(y:Value×Value)(l:Array Bool)(wx:World):Prop:=
 if l.getD 3 false then l.getD 2 false=true/\∃w1,w1=w.drew.alloc (.cells (Array.replicate k (.int .i64 0)) 3)/\Below w1.heap.size w1 wx/\∃hi:Nat->Nat,(∀b,wx.heap.size<=b->hi b=0)/\RD (ji w1.heap.size Pr hi) wx v1 y.1/\RD (ji w1.heap.size Pr hi) wx v2 y.2
 else wx=DC w k l/\∀j,3<=j->l.getD j false=false
def tF.below{w wx:World}{k:Nat}{Pr:Nat->Nat->Prop}{v1 v2:AV}{y:Value×Value}{l:Array Bool}(h:tF w k Pr v1 v2 y l wx):Below w.heap.size w wx:=by
 unfold tF at h;split at h
 .obtain⟨_,w1,rfl,hb,_⟩:=h;exact((Below.refl _ w).drew.alloc (Nat.le_refl _) _).trans (hb.mono (by show _<=(w.heap.push _).size;simp))
 .rw[h.1];unfold DC;split
  .exact(Below.refl _ w).drew.alloc (Nat.le_refl _) _
  .exact(Below.refl _ w).drew
def tF.set{w wx:World}{k i:Nat}{Pr:Nat->Nat->Prop}{v1 v2:AV}{y:Value×Value}{l:Array Bool}(h:tF w k Pr v1 v2 y l wx)(h2:i≠2)(h3:i≠3)(hi:i<3\/∃j,3<=j/\l.getD j false=true):tF w k Pr v1 v2 y (l.setIfInBounds i true) wx:=by
 have e2:(l.setIfInBounds i true).getD 2 false=l.getD 2 false:=bV h2;have e3:(l.setIfInBounds i true).getD 3 false=l.getD 3 false:=bV h3
 unfold tF DC at*
 rw[e2,e3]
 cases PI:l.getD 3 false with
 |true=>rw[if_pos PI]at h;exact h
 |false=>
  rw[if_neg (by rw[PI];decide)]at h;refine⟨h.1,λj hj=>?_⟩
  rcases hi with hi|⟨j',c_,hl⟩
  .rw[bV (by omega)];exact h.2 j hj
  .rw[h.2 j' c_]at hl;cases hl
def YH{Pr:Nat->Nat->Prop}{al:Nat->Option Nat}{w:World}{a b:AV}{c:Value}(h:RV Pr al w (.eS [a,b]) c):∃u v,c=.tuple #[u,v]/\RD Pr w a u/\RD Pr w b v:=by
 cases h with
 |data _ _ h=>
  cases h with
  |eS _ vs hl hr=>
   refine⟨vs[0]'(by rw[<-hl];simp),vs[1]'(by rw[<-hl];simp),?_,hr 0 (by simp) (by rw[<-hl];simp),hr 1 (by simp) (by rw[<-hl];simp)⟩
   congr 1
   apply Array.ext
   .exact hl.symm
   .intro i h1 h2;have:i<2:=h2
    match i,this with
    |0,_=>rfl
    |1,_=>rfl
def FD{a:Act}{o:Oper}{t i:Nat}{vs:Array Value}{v:Value}(w:World)(ho:o.op=.extract (.tmp t) i)(hx:a.eval (.tmp t)=.tuple vs)(hv:vs[i]?=some v):(execOp a.eval o).run prog w=.ok (.value v) w:=by
 unfold execOp;simp[ho,hx,hv,Instr.extract]
def Mn(n j:Nat):(Array.replicate n false).getD j false=false:=by
 simp only[Array.getD_eq_getD_getElem?,Array.getElem?_replicate]
 split<;>rfl
def Iy(ls:List Int):∀i (h:i<(aV ls).length),((aV ls)[i]).one=true:=λi hi=>by
 match i,hi with
 |0,_|1,_|2,_=>rfl
def Lu{Pr:Nat->Nat->Prop}{w:World}{b n:Nat}(hb:w.heap[b]?=some (.cells (Array.replicate n (.int .i64 0)) 3 (0,0)))(hp:∀k,k<n->Pr b k):RD Pr w (vI (fK n)) (.slice (some ⟨b,0,none⟩) n n):=by
 have hl:(ints (fK n)).length=n:=by simp[ints,fK]
 have hz:∀i (h:i<(ints (fK n)).length),(ints (fK n))[i]=.int .i64 0:=λi h=>by simp[ints,fK]
 have:=RD.slice (Pr:=Pr) (w:=w) .view (ints (fK n)) b 0 n 1 (λ_=>.int .i64 0) (by omega) (by simp) (λi h=>by rw[hz i h]<;>rfl) (λi h j hj=>by
  have e:=hz i h;simp only[e]at hj⊢
  match j,hj with
  |0,_=>rfl) (λk hk=>by
  have eK:k<n:=by omega
  rw[Nat.zero_add]
  exact⟨hp k eK,by simp[World.cell?,hb,eK]⟩) (λi h j hj=>by
  have e:=hz i h;simp only[e]at hj⊢
  match j,hj with
  |0,_=>exact .int _ _)
 rw[hl]at this;exact this
def XW {GI:World→Prop} (hG:aw GI) {Q:fH} {old:Old} {S:af} {H:ah} {ls:List Int} (gZ:iH ls) {o1 o2:Ow} (s5:S 5 = .int .i64 (ls.length:Nat)) (s6:S 6 = .box 6 0)
  (h6:H 6=some [.int .i64 0,.slice o1 [.int .i64 0],.slice o2 (ls.map jJ)])
  (hQ:Q .normal old (aq (aq (λt=>cond (m14 t) .bh (S t)) 10 (.slice .view ((fh ls).map fl))) 11 (.int .i64 0)) H):SW prog GI 166 none (IS (r5 7)) Q old S H:=by
 show SW prog GI 166 none (.region _ _ true) Q old S H;intro w0 g a w m bP ho R;obtain⟨b6,BJ,e6⟩:=jk R (by decide) s6;have e5:=eR R (by decide) s5;obtain⟨cs6,nV,HO,k0,k1,k2,k3,k4,k5,k6,k7,k8⟩:=R.box 6 b6 BJ;rw[h6]at k0;cases k0
 have JF:nV.size=3:=by rw[<-k5]<;>rfl
 have Vf:b6<w.heap.size:=(Array.getElem?_eq_some_iff.1 k2).1
 have hk6:1<=ls.length/\ls.length<=6:=by have:=gZ.1;omega
 obtain⟨i69,ZH,X6⟩:=iZ 69 3;obtain⟨f69,Y5⟩:=uZ 69
 have Pd:g.base<=w.heap.size:=by rw[R.base];exact R.below.size
 obtain⟨w1,ig⟩:∃w1,w1=w.drew.alloc (.cells (Array.replicate ls.length (.int .i64 0)) 3):=⟨_,rfl⟩
 have l_:Below w.heap.size w w1:=by rw[ig];exact(Below.refl _ w).drew.alloc (Nat.le_refl _) _
 have pV:w1.heap[w.heap.size]?=some (.cells (Array.replicate ls.length (.int .i64 0)) 3 (0,0)):=by rw[ig];exact World.alloc_heap_new w.drew _
 have MS:w1.heap.size=w.heap.size+1:=by rw[ig];show(w.heap.push _).size=_;simp
 have Ox:GI w1:=hG _ _ bP ((by have:=R.below;rwa [R.base]at this:Below w0.heap.size w0 w).trans (l_.mono (by rw[<-R.base];exact Pd)))
 obtain⟨qd,OI⟩:∃qd:Nat->Nat,qd=λb=>if b=w.heap.size then ls.length else g.hi b:=⟨_,rfl⟩
 obtain⟨g1,wm⟩:∃g1:Gh,g1={ g with hi:=qd }:=⟨_,rfl⟩
 have tZ:aL g.Pr g1.Pr w w1:=aL.fI (λb hb=>l_.block b hb) λb k hb hp=>by
  rw[wm,OI]
  rcases hp with hp|⟨h1,h2⟩
  .exact .inl hp
  .exact .inr ⟨h1,by show k<if b=_ then _ else _;rw[if_neg (by omega)];exact h2⟩
 have v78:RD g1.Pr w1 (vI (fK ls.length)) (.slice (some ⟨w.heap.size,0,none⟩) ls.length ls.length):=Lu pV λk hk=>by
  rw[wm,OI];exact .inr ⟨Pd,by show k<if _ then _ else _;rw[if_pos rfl];exact hk⟩
 have v76:RD g1.Pr w1 (.agg (aV ls)) (.agg ((List.range 3).map λk=>nV.getD k undef).toArray):=by
  have q0:=(k6 0 (by simp) (by omega)).mono tZ;have q1:=(k6 1 (by simp) (by omega)).bF.mono tZ;have q2:=(k6 2 (by simp) (by omega)).bF.mono tZ;refine RD.Ks (cs:=aV ls) (Iy ls) (λi hi=>?_)
  match i,hi with
  |0,_=>simpa[JF,aV]using q0
  |1,_=>simpa[JF,aV,AV.bF]using q1
  |2,_=>simpa[JF,aV,AV.bF]using q2
 have UH:=Yt hG gZ w1 g1.Pr #[.agg ((List.range 3).map λk=>nV.getD k undef).toArray,.slice (some ⟨w.heap.size,0,none⟩) ls.length ls.length] Ox rfl λi h h'=>by
  match i,h with
  |0,_=>exact .data _ _ v76
  |1,_=>exact .data _ _ v78
 refine BT cV (n:=166) (val:=UI w.heap.size (λk=>nV.getD k undef) ls.length) (by kernel_rfl) R.size (λy l wx=>tF w ls.length g1.Pr (.slice .view ((fh ls).map fl)) (.int .i64 0) y l wx) (undef,undef) (by
  unfold tF
  exact⟨rfl,λj _=>Mn _ j⟩) ?_ ?_
 .intro y k o l aX wx ho B8 BP hI hW hw;have x5:aX.tmps.getD 5 undef=.int .i64 (ls.length:Nat):=(hI.keep (by kernel_rfl)).trans e5;have x6:aX.eval (.tmp 6)=pB b6 0:=(hI.keep (by kernel_rfl)).trans e6;have bI:Below w.heap.size w wx:=tF.below hW
  match k,ho with
  |0,ho=>
   cases ky ho
   have c6:∀k,k<3->wx.cell? ⟨b6,0+k,none⟩=some (nV.getD k undef):=λk hk=>by
    rw[World.cell?_of_block (w:=w) (bI.block _ Vf),Nat.zero_add];simp[World.cell?,k2,JF,hk]
   have hr:=λ(o:Oper)(ho:o.op=.load 69 (.tmp 6))=>qW (P:=prog) (w:=wx) (a:=aX) ho x6 ZH Y5 rfl (λk=>nV.getD k undef) (λk hk=>c6 k (by omega))
   simp only[X6]at hr;exact .inl ⟨76,rfl,wx,hr _ rfl,hW.set (by decide) (by decide) (.inl (by decide))⟩
  |1,ho=>
   cases ky ho;exact .inl ⟨77,rfl,wx,(run_move wx rfl).trans (by rw[show aX.eval (.tmp 5)=_ from x5]<;>rfl),hW.set (by decide) (by decide) (.inl (by decide))⟩
  |2,ho=>
   cases ky ho
   have l3:l.getD 3 false=false:=by
    cases h:l.getD 3 false
    .rfl
    .unfold tF at hW;rw[if_pos h]at hW;rw[hW.1]at BP;cases BP
   have SI:wx=w.drew:=by
    unfold tF at hW;rw[if_neg (by rw[l3];decide)]at hW
    rw[hW.1];unfold DC;rw[BP]<;>rfl
   have x77:aX.eval (.tmp 77)=.int .i64 (ls.length:Nat):=hI.at 1 77 ⟨_,rfl,rfl⟩ (hw ⟨1,.data⟩ (by simp) rfl)
   have hd:DC w ls.length (l.setIfInBounds 2 true)=w.drew.alloc (.cells (Array.replicate ls.length (.int .i64 0)) 3):=by unfold DC;rw[gF (by rw[B8];decide)];rfl
   refine .inl ⟨78,rfl,_,by rw[SI];exact run_make (x:=.tmp 77) (y:=.tmp 77) hk6 rfl x77 x77,?_⟩;unfold tF;rw[if_neg (by rw[bV (by decide),l3];decide)];refine⟨hd.symm,λj hj=>?_⟩;rw[bV (by omega)];unfold tF at hW;rw[if_neg (by rw[l3];decide)]at hW;exact hW.2 j hj
  |3,ho=>
   cases ky ho;have l2:l.getD 2 false=true:=hw ⟨2,.data⟩ (by simp) rfl;unfold tF at hW;rw[if_neg (by rw[BP];decide)]at hW
   have SI:wx=w1:=by
    rw[hW.1,ig];unfold DC;rw[if_pos l2]
   subst SI;have x76:aX.eval (.tmp 76)=_:=hI.at 0 76 ⟨_,rfl,rfl⟩ (hw ⟨0,.data⟩ (by simp) rfl);have x78:aX.eval (.tmp 78)=_:=hI.at 2 78 ⟨_,rfl,rfl⟩ l2;refine .inr ⟨79,rfl,18,_,wx,fV wx rfl rfl (by simp only[List.map_toArray,List.map_cons,List.map_nil,x76,x78];rfl) (by kernel_rfl),UH.mono ?_⟩;rintro en w' ⟨hb,hi,rP,c,rfl,hc,_⟩;obtain⟨u,v,rfl,hu,hv⟩:∃u v,c=.tuple #[u,v]/\RD (ji wx.heap.size g1.Pr hi) w' (.slice .view ((fh ls).map fl)) u/\RD (ji wx.heap.size g1.Pr hi) w' (.int .i64 0) v:=YH hc;refine⟨(u,v),λj o' s hj hs hl=>?_,rfl,?_⟩
   .by_cases h3:3<=j
    .rw[hW.2 j h3]at hl;cases hl
    .match j,h3 with
     |0,_=>cases hj;cases hs;rfl
     |1,_=>cases hj;cases hs;rfl
     |2,_=>cases hj;cases hs;rfl
     |j+3,h3=>exact absurd (by omega) h3
   .unfold tF;rw[if_pos (gF (by rw[B8];decide))];exact⟨by rw[bV (by decide)];exact l2,_,ig,hb,hi,rP,hu,hv⟩
  |4,ho=>
   cases ky ho;have x:aX.eval (.tmp 79)=_:=hI.at 3 79 ⟨_,rfl,rfl⟩ (hw ⟨3,.data⟩ (by simp) rfl);exact .inl ⟨75,rfl,wx,(run_move wx rfl).trans (by rw[x]<;>rfl),hW.set (by decide) (by decide) (.inr ⟨3,by decide,hw ⟨3,.data⟩ (by simp) rfl⟩)⟩
  |5,ho=>
   cases ky ho;have x:aX.eval (.tmp 75)=.tuple #[y.1,y.2]:=hI.at 4 75 ⟨_,rfl,rfl⟩ (hw ⟨4,.data⟩ (by simp) rfl);exact .inl ⟨80,rfl,wx,FD wx rfl x rfl,hW.set (by decide) (by decide) (.inr ⟨4,by decide,hw ⟨4,.data⟩ (by simp) rfl⟩)⟩
  |6,ho=>
   cases ky ho;have x:aX.eval (.tmp 75)=.tuple #[y.1,y.2]:=hI.at 4 75 ⟨_,rfl,rfl⟩ (hw ⟨4,.data⟩ (by simp) rfl);exact .inl ⟨81,rfl,wx,FD wx rfl x rfl,hW.set (by decide) (by decide) (.inr ⟨4,by decide,hw ⟨4,.data⟩ (by simp) rfl⟩)⟩
  |7,ho=>
   cases ky ho;have x:aX.eval (.tmp 80)=y.1:=hI.at 5 80 ⟨_,rfl,rfl⟩ (hw ⟨5,.data⟩ (by simp) rfl);exact .inl ⟨10,rfl,wx,(run_assign wx rfl).trans (by rw[x]<;>rfl),hW.set (by decide) (by decide) (.inr ⟨5,by decide,hw ⟨5,.data⟩ (by simp) rfl⟩)⟩
  |8,ho=>
   cases ky ho;have x:aX.eval (.tmp 81)=y.2:=hI.at 6 81 ⟨_,rfl,rfl⟩ (hw ⟨6,.data⟩ (by simp) rfl);exact .inl ⟨11,rfl,wx,(run_assign wx rfl).trans (by rw[x]<;>rfl),hW.set (by decide) (by decide) (.inr ⟨6,by decide,hw ⟨6,.data⟩ (by simp) rfl⟩)⟩
  |k+9,ho=>exact absurd ho (by simp)
 .intro y aX wx hI hW;obtain⟨_,IH,Q9,iU,nB,FQ,r1,r2⟩:(Array.replicate 9 true).getD 2 false=true/\∃w1,w1=w.drew.alloc (.cells (Array.replicate ls.length (.int .i64 0)) 3)/\Below w1.heap.size w1 wx/\∃hi:Nat->Nat,(∀b,wx.heap.size<=b->hi b=0)/\RD (ji w1.heap.size g1.Pr hi) wx _ y.1/\RD (ji w1.heap.size g1.Pr hi) wx _ y.2:=hW;rw[<-ig]at Q9;subst Q9;have hJ:=R.jump (hI.mask (W:=m14) (by kernel_rfl)) hI.size hI.defers
  have R1:Rel prog w0 166 bu { g with hi:=λb=>if b<IH.heap.size then qd b else nB b } (λt=>cond (m14 t) .bh (S t)) H aX wx:=by
   refine hJ.grow (l_.trans (iU.mono (by omega))) rfl rfl rfl (λb hb=>⟨?_,rfl⟩) λb hb=>⟨?_,(R.fresh b (by have:=iU.size;omega)).2⟩
   .show(if b<IH.heap.size then qd b else nB b)=_;rw[if_pos (by omega),OI];exact if_neg (by omega)
   .show(if b<IH.heap.size then qd b else nB b)=_;rw[if_neg (by have:=iU.size;omega)];exact FQ b hb
  have lO:∀b k,ji IH.heap.size g1.Pr nB b k->Gh.Pr { g with hi:=λb=>if b<IH.heap.size then qd b else nB b } b k:=λb k hp=>by
   rcases hp with⟨h1,h2⟩|⟨h1,h2⟩
   .rw[wm]at h2;rcases h2 with h2|h2
    .exact .inl h2
    .exact .inr ⟨h2.1,by show k<if b<IH.heap.size then qd b else nB b;rw[if_pos h1];exact h2.2⟩
   .exact .inr ⟨by show g.base<=b;omega,by show k<if b<IH.heap.size then qd b else nB b;rw[if_neg (by omega)];exact h2⟩
  have t10:aX.tmps.getD 10 undef=y.1:=hI.at 7 10 ⟨_,rfl,rfl⟩ rfl;have t11:aX.tmps.getD 11 undef=y.2:=hI.at 8 11 ⟨_,rfl,rfl⟩ rfl;have R2:=(R1.Ku (t:=10) (by decide) (.slice .view ((fh ls).map fl)) (.data _ _ (by rw[t10];exact r1.mono (aL.same λb k _ h=>lO b k h))) trivial).Ku (t:=11) (by decide) (.int .i64 0) (.data _ _ (by rw[t11];exact r2.mono (aL.same λb k _ h=>lO b k h))) trivial;refine⟨_,_,_,R2,?_⟩;show Q .normal g.old _ _;rw[ho];exact hQ
end Go.Proofs.Tryz
namespace Go.Proofs.Tryz
open Go Go.AL Go.RowKit Go.Proofs Go.Proofs.Tram
attribute [local simp] dI eb dP db dG cI cJ cb cd dE b_ bL fk fj ar ao ev aD.S aD.H a_ aq aH AL.start AV.cells AV.storable AV.bm aR aT ee aZ HR.okB post cn ct cw AV.out AV.bC bz bW fz fM AV.vw bR vI int bG aB cS cg fS gL dL cG aU AV.aA AV.bF
def Ov{cc:Nat->Nat->Prop}{w:World}{Q:fH}{S:af}{H:ah}(h:S 4=.bool true)(hQ:pv prog 166 [.tmp 4] (.ret (.bool true)) cc .ret (Old.plain cc w) S H->Q .ret (Old.plain cc w) S H):SW prog GT 166 none .ret Q (Old.plain cc w) S H:=
 SW.ret (hQ ⟨ea.plain rfl,rfl,_,by simp[cn,ct,cw,h,AV.out,AV.bC,AV.aA],rfl⟩)
def rq(ls:List Int)(m:Int)(i:Nat):Nat:=((fh ls).take i).countP λx=>decide (x<=m)
def Pb(ls:List Int)(m:Int)(i:Nat):rq ls m i<=i:=by
 unfold rq;exact Nat.le_trans List.countP_le_length (by rw[List.length_take];omega)
def HU{ls:List Int}(m:Int){i:Nat}(h:i<ls.length):rq ls m (i+1)=rq ls m i+if fO ls i<=m then 1 else 0:=by
 unfold rq;rw[x9 h,List.countP_append];simp[List.countP_cons]
def KV{ls:List Int}(h:iH ls)(m:Int):rq ls m ls.length=(cQ ls m).1:=by
 unfold rq;rw[List.take_of_length_le (by rw[mq];exact Nat.le_refl _)];exact I2 h m
def G5(ls:List Int)(m:Int)(i:Nat)(S:af):Prop:=
 S 1=.int .i64 m/\S 5=.int .i64 (ls.length:Nat)/\S 10=.slice .view ((fh ls).map fl)/\S 12=.int .i64 ((cQ ls m).1:Nat)/\S 19=.int .i64 (rq ls m i:Nat)/\S 20=.int .i64 (i:Nat)
def K6(ls:List Int)(m:Int)(o1:Ow)(S:af)(H:ah):Prop:=
 S 1=.int .i64 m/\S 5=.int .i64 (ls.length:Nat)/\S 6=.box 6 0/\H 6=some [.int .i64 0,.slice o1 [.int .i64 0],.slice (.own 71) (ls.map jJ)]/\S 7=.int .i64 ls.sum/\S 9=.box 9 0/\
  H 9=some ([.slice .view ([(⟨m,m,false⟩:lq)].map oW),.int .i64 1,.int .i64 1,.int .i64 1,.int .i64 0]++an (lU ls))
noncomputable def E_:ae:=ae.qb (ae.qb (ae.qb (ae.qa (q5 13))))
noncomputable def Po:ae:=ae.qb E_.qb.qa
def Tr {ls:List Int} (gZ:iH ls) {m:Int} (hm:1≤m∧m≤20) {cc:Nat→Nat→Prop} {w:World} {S:af} {H:ah} {o1:Ow} (s0:S 0 = .slice .view (ints ls)) (s1:S 1 = .int .i64 m) (s5:S 5 = .int .i64 (ls.length:Nat)) (s6:S 6 = .box 6 0)
  (h6:H 6=some [.int .i64 0,.slice o1 [.int .i64 0],grow 71 (ls.map jJ)]) (s7:S 7=.int .i64 ls.sum):SW prog GT 166 none (r5 6) (pv prog 166 [.tmp 4] (.ret (.bool true)) cc) (Old.plain cc w) S H:=by
 have hG:aw GT:=eN;have h7:=YW;have h8:=Zw hG gZ;have BH:=gZ.1
 have bQ:ls.map jJ≠[]:=λh=>by
  have:=congrArg List.length h;rw[List.length_map]at this;simp only[List.length_nil]at this;omega
 have jF:grow 71 (ls.map jJ)=.slice (.own 71) (ls.map jJ):=by simp only[grow,if_neg bQ]
 rw[jF]at h6;have q1:=WD hG (gP ls m) (wE gZ m);have q2:=aae hG (gP ls m) (wE gZ m);have q3:=Zn hG (gP ls m) (wE gZ m);rw[L3 gZ hm]at q1 q2;rw[Ld gZ hm]at q3;have rM:=Ae gZ.2
 have hmx:0<=max 0 (ls.sum-m)/\max 0 (ls.sum-m)<=1000:=by omega
 show SW prog GT 166 none (.seq _ (.seq _ (.seq _ (.seq _ (.seq _ (.seq (.seq _ (.cond _ _ _)) (.seq _ (.seq (.seq _ (.block 2 (.loop _))) (.seq _ .ret))))))))) _ _ _ _;refine dR eN (ae.qa (q5 6)) (K6 ls m o1) ?_ ?_
 .unfold K6;generalize ls.map jJ=LS at h6⊢
  obtain⟨K,hK⟩:∃K:af->ah->Prop,(λ(S:af)(H:ah)=>S 1=.int .i64 m/\S 5=.int .i64 (ls.length:Nat)/\S 6=.box 6 0/\H 6=some [.int .i64 0,.slice o1 [.int .i64 0],.slice (.own 71) LS]/\S 7=.int .i64 ls.sum/\S 9=.box 9 0/\H 9=some ([.slice .view ([(⟨m,m,false⟩:lq)].map oW),.int .i64 1,.int .i64 1,.int .i64 1,.int .i64 0]++an (lU ls)))=K:=⟨_,rfl⟩
  rw[hK];simp[c5,q5,ae.qa,ae.qb,s0,s1,s5,s6,s7,h6,oW,aF,cL];refine oc h8 ?_;simp[<-hK,ec,an,oW,s0,s1,s5,s6,s7,h6,aF,cL]
  try (cases o1<;>rfl)
 clear s0 s1 s5 s6 h6 s7 S H;rintro S H ⟨s1,s5,s6,h6,s7,s9,h9⟩;refine SW.seq (XW hG gZ s5 s6 h6 ?_);show SW prog GT 166 none _ _ _ _ _
 obtain⟨S2,qX⟩:∃S2:af,aq (aq (λt=>cond (m14 t) .bh (S t)) 10 (.slice .view ((fh ls).map fl))) 11 (.int .i64 0)=S2:=⟨_,rfl⟩
 rw[qX]
 have f1:S2 1=.int .i64 m:=by rw[<-qX];simp[aq,m14,s1]
 have f5:S2 5=.int .i64 (ls.length:Nat):=by rw[<-qX];simp[aq,m14,s5]
 have f7:S2 7=.int .i64 ls.sum:=by rw[<-qX];simp[aq,m14,s7]
 have f9:S2 9=.box 9 0:=by rw[<-qX];simp[aq,m14,s9]
 have f10:S2 10=.slice .view ((fh ls).map fl):=by rw[<-qX];simp[aq]
 have f11:S2 11=.int .i64 0:=by rw[<-qX];simp[aq]
 clear qX s1 s5 s6 h6 s7 s9
 obtain⟨E,hE⟩:∃E,(fh ls).map fl=E:=⟨_,rfl⟩
 have hEl:E.length=ls.length:=by rw[<-hE,List.length_map,mq]
 rw[hE]at f10;refine dR eN (ae.qa (q5 8)) (λS' H'=>S' 1=.int .i64 m/\S' 5=.int .i64 (ls.length:Nat)/\S' 7=.int .i64 ls.sum/\S' 9=.box 9 0/\H' 9=H 9/\S' 10=.slice .view E/\S' 11=.int .i64 0/\S' 12=.int .i64 ((cQ ls m).1:Nat)/\S' 13=.int .i64 0) ?_ ?_
 .simp[c5,q5,ae.qa,ae.qb,f1,f5,f7,f9,h9,f10,f11,an];refine oc q1 ?_;simp[f1,f5,f7,f9,h9,f10,f11,an]
 clear f1 f5 f7 f9 f10 f11 S2;rintro S2 H2 ⟨f1,f5,f7,f9,Ol,f10,f11,f12,f13⟩;rw[h9]at Ol;clear h9 H S;refine dR eN (ae.qa (q5 9)) (λS' H'=>S' 1=.int .i64 m/\S' 5=.int .i64 (ls.length:Nat)/\S' 7=.int .i64 ls.sum/\S' 9=.box 9 0/\H' 9=H2 9/\S' 10=.slice .view E/\S' 11=.int .i64 0/\S' 12=.int .i64 ((cQ ls m).1:Nat)/\S' 13=.int .i64 0/\S' 14=.int .i64 ((cQ ls m).1:Nat)/\S' 15=.int .i64 0) ?_ ?_
 .simp[c5,q5,ae.qa,ae.qb,f1,f5,f7,f9,Ol,f10,f11,f12,f13,an];refine oc q2 ?_;simp[f1,f5,f7,f9,Ol,f10,f11,f12,f13,an]
 clear f1 f5 f7 f9 f10 f11 f12 f13 S2;rintro S2 H3 ⟨f1,f5,f7,f9,h9,f10,f11,f12,f13,f14,f15⟩;rw[Ol]at h9;clear Ol H2;refine dR eN (ae.qa (q5 10)) (λS' H'=>S' 1=.int .i64 m/\S' 5=.int .i64 (ls.length:Nat)/\S' 7=.int .i64 ls.sum/\S' 10=.slice .view E/\S' 11=.int .i64 0/\S' 12=.int .i64 ((cQ ls m).1:Nat)/\S' 13=.int .i64 0/\S' 14=.int .i64 ((cQ ls m).1:Nat)/\S' 15=.int .i64 0/\S' 16=.int .i64 0/\S' 17=.int .i64 (max 0 (ls.sum-m))/\S' 18=.int .i64 0) ?_ ?_
 .generalize max 0 (ls.sum-m)=mx at*
  simp[c5,q5,ae.qa,ae.qb,f1,f5,f7,f9,h9,f10,f11,f12,f13,f14,f15,an];refine oc q3 ?_;simp[f1,f5,f7,f9,h9,f10,f11,f12,f13,f14,f15,an]
 clear f1 f5 f7 f9 h9 f10 f11 f12 f13 f14 f15 S2 H3;rintro S H ⟨f1,f5,f7,f10,f11,f12,f13,f14,f15,f16,f17,f18⟩;have Od:IntKind.i64.wrap (ls.sum-m)=ls.sum-m:=bf (by omega);refine SW.seq (dR eN (ae.qa (ae.qa (q5 11))) (λS H=>S 1=.int .i64 m/\S 5=.int .i64 (ls.length:Nat)/\S 10=.slice .view E/\S 12=.int .i64 ((cQ ls m).1:Nat)/\S 134=.bool false) ?_ ?_)
 .simp[c5,q5,ae.qa,ae.qb,f1,f5,f7,f10,f11,f12,f13,f14,f15,f16,f17,f18,Od,hEl]
 clear f1 f5 f7 f10 f11 f12 f13 f14 f15 f16 f17 f18 S H;rintro S H ⟨f1,f5,f10,f12,f134⟩;refine SW.cond rfl false (by show S 134=_;rw[f134]) (SW.skip ?_);show SW prog GT 166 none (.seq _ (.seq (.seq _ (.block 2 (.loop _))) (.seq _ .ret))) _ _ _ _;refine dR eN (ae.qa (q5 12)) (λS H=>S 1=.int .i64 m/\S 5=.int .i64 (ls.length:Nat)/\S 10=.slice .view E/\S 12=.int .i64 ((cQ ls m).1:Nat)/\S 19=.int .i64 0) ?_ ?_
 .simp[c5,q5,ae.qa,ae.qb,f1,f5,f10,f12]
 clear f1 f5 f10 f12 f134 S H;rintro S H ⟨f1,f5,f10,f12,f19⟩;refine SW.seq (dR eN (ae.qa (ae.qa (q5 13))) (λS H=>G5 ls m 0 S) ?_ ?_)
 .simp[c5,q5,ae.qa,ae.qb,f1,f5,f10,f12,f19,G5,rq,hE]
 clear f1 f5 f10 f12 f19 S H;intro S H hF;refine SW.block (SW.loop (λo' S' H'=>∃i,o'=Old.plain cc w/\i<=ls.length/\G5 ls m i S') (λS' _=>match S' 20 with|.int _ j=>ls.length-j.toNat|_=>0) ⟨0,rfl,Nat.zero_le _,hF⟩ ?_);clear hF S H;rintro o' S1 H1 ⟨i,rfl,hi,hF⟩;have m20:S1 20=.int .i64 (i:Nat):=hF.2.2.2.2.2;show SW prog GT 166 none (.seq (.seq _ (.cond _ _ _)) (.seq (.block 3 (.seq (.seq _ (.cond _ _ _)) (.seq _ _))) _)) _ _ _ _;refine SW.seq (dR eN E_.qa.qa (λS' H'=>S' 137=.bool (decide (i<ls.length))/\G5 ls m i S') ?_ ?_)
 .obtain⟨f1,f5,f10,f12,f19,f20⟩:=hF;simp[c5,q5,E_,ae.qa,ae.qb,f1,f5,f10,f12,f19,f20,G5]
 clear hF;rintro S2 H2 ⟨M8,hF⟩
 by_cases av:i<ls.length
 case neg=>
  refine SW.cond rfl false (by show S2 137=_;rw[M8];simp[av]) (SW.exit ?_)
  have dN:i=ls.length:=by omega
  subst dN;obtain⟨f1,f5,f10,f12,f19,f20⟩:=hF;rw[KV gZ]at f19;show SW prog GT 166 none (.seq _ .ret) _ _ _ _;refine dR eN (ae.qa (q5 14)) (λS H=>S 4=.bool true) ?_ ?_
  .simp[c5,q5,ae.qa,ae.qb,f12,f19];refine oc h7 ?_;simp
  .intro S3 H3 s4;exact Ov s4 id
 refine SW.cond rfl true (by show S2 137=_;rw[M8];simp[av]) (SW.skip ?_);show SW prog GT 166 none (.seq (.block 3 (.seq (.seq _ (.cond _ _ _)) (.seq _ _))) _) _ _ _ _
 have oG:((fh ls).map fl)[i]?=some (fl (fO ls i)):=by simp[fh,av]
 have sj:((fh ls).map fl).length=ls.length:=by rw[List.length_map,mq]
 refine SW.seq (SW.block (SW.seq (dR eN Po.qa.qa (λS' H'=>S' 150=.bool false/\G5 ls m i S') ?_ ?_)))
 .obtain⟨f1,f5,f10,f12,f19,f20⟩:=hF;unfold G5;generalize(fh ls).map fl=R at f10 oG sj⊢
  have hR:i<R.length:=by omega
  have J2:R[i]=fl (fO ls i):=by rw[List.getElem?_eq_getElem hR]at oG;exact Option.some.inj oG
  simp[c5,q5,E_,Po,ae.qa,ae.qb,f1,f5,f10,f12,f19,f20,hR,sj,av,oG,J2,fl]
 clear hF M8;rintro S3 H3 ⟨RT,hF⟩;refine SW.cond rfl false (by show S3 150=_;rw[RT]) (SW.skip ?_);show SW prog GT 166 none (.seq _ _) _ _ _ _;refine SW.last eN cV (by kernel_rfl) (ac:=ae.qb Po) (by kernel_rfl) (λ_ _ h=>h) (λS' H'=>S' 1=.int .i64 m/\S' 5=.int .i64 (ls.length:Nat)/\S' 10=.slice .view ((fh ls).map fl)/\S' 12=.int .i64 ((cQ ls m).1:Nat)/\S' 19=.int .i64 (rq ls m (i+1):Nat)/\S' 20=.int .i64 (i:Nat)) ?_ ?_
 .obtain⟨f1,f5,f10,f12,f19,f20⟩:=hF;have hc:=Pb ls m i;have ig:IntKind.i64.wrap ((rq ls m i:Int)+1)=rq ls m i+1:=bf (by omega);rw[HU m av];generalize(fh ls).map fl=R at f10 oG sj⊢
  have hR:i<R.length:=by omega
  have J2:R[i]=fl (fO ls i):=by rw[List.getElem?_eq_getElem hR]at oG;exact Option.some.inj oG
  by_cases hle:fO ls i<=m
  .simp[c5,q5,E_,Po,ae.qa,ae.qb,f1,f5,f10,f12,f19,f20,hR,sj,av,oG,J2,hle,ig,fl]
  .simp[c5,q5,E_,Po,ae.qa,ae.qb,f1,f5,f10,f12,f19,f20,hR,sj,av,oG,J2,hle,fl]
 clear hF RT;rintro S4 H4 ⟨f1,f5,f10,f12,f19,f20⟩;show SW prog GT 166 none _ _ _ _ _;have ig:IntKind.i64.wrap ((i:Int)+1)=i+1:=bf (by omega);refine SW.last eN cV (by kernel_rfl) (ac:=ae.qb E_.qb) (by kernel_rfl) (λ_ _ h=>h) (λS' H'=>G5 ls m (i+1) S') ?_ ?_
 .simp[c5,q5,E_,ae.qa,ae.qb,f1,f5,f10,f12,f19,f20,ig,G5]
 .intro S5 H5 hF;refine⟨⟨i+1,rfl,by omega,hF⟩,?_⟩;have h5:S5 20=.int .i64 ((i+1:Nat):Int):=hF.2.2.2.2.2;show(match S5 20 with|.int _ j=>ls.length-j.toNat|_=>0)<(match S1 20 with|.int _ j=>ls.length-j.toNat|_=>0);rw[h5,m20];simp;omega
end Go.Proofs.Tryz
namespace Go.Proofs.Tryz
open Go Go.AL Go.RowKit Go.Proofs Go.Proofs.Tram
attribute [local simp] dI eb tw qH dG cI cJ cb cd dE b_ bL fk fj ar ao ev aD.S aD.H a_ aq aH AL.start AV.cells AV.storable AV.bm aR aT ee aZ HR.okB post cn ct cw AV.out AV.bC bz bW fz fM AV.vw bR vI int bG aB cS cg fS gL dL cG aU
def Fp{n lo hi:Int}:da n lo hi=true↔lo<=n/\n<=hi:=by simp[da]
def F5(ls:List Int)(m:Int)(i:Nat)(S:af)(H:ah):Prop:=
 S 0=.slice .view (ints ls)/\S 1=.int .i64 m/\S 5=.int .i64 (ls.length:Nat)/\S 6=.box 6 0/\(∃o,H 6=some [.int .i64 0,.slice o [.int .i64 0],grow 71 ((ls.take i).map jJ)])/\S 7=.int .i64 (ls.take i).sum/\S 8=.int .i64 (i:Nat)
noncomputable def Em:ae:=ae.qb (ae.qb (ae.qb (ae.qa (q5 5))))
noncomputable def F6:ae:=ae.qb Em.qb.qa
def ac5(ls:List Int)(m:Int):AC prog GT 5 [.slice .view (ints ls),.int .i64 m] (.ret (.bool true)):=by
 have hG:aw GT:=eN;have h7:=YW
 have dN:(ints ls).length=ls.length:=by simp[ints]
 refine AC.iL func5 rfl ntmps5 (by simp) λcc w=>?_
 refine dR eN c5.qa (λS H=>S 0=.slice .view (ints ls)/\S 1=.int .i64 m) ?_ ?_
 .simp[c5,ae.qa,au,ai,AV.aA,AV.bF]
 rintro S1 H1 ⟨s0,s1⟩;refine dR eN (ae.qa (q5 1)) (λS H=>S 0=.slice .view (ints ls)/\S 1=.int .i64 m/\S 5=.int .i64 (ls.length:Nat)) ?_ ?_
 .simp[c5,q5,ae.qa,ae.qb,s0,s1,dN,au,ai,AV.aA,AV.bF]
 clear s0 s1 S1 H1;rintro S1 H1 ⟨s0,s1,s5⟩;refine SW.seq (dR eN (ae.qa (ae.qa (q5 2))) (λS H=>S 0=.slice .view (ints ls)/\S 1=.int .i64 m/\S 5=.int .i64 (ls.length:Nat)/\S 30=.bool (!(da ls.length 1 4&&da m 1 20))) ?_ ?_)
 .simp[c5,q5,ae.qa,ae.qb,s0,s1,s5,au,ai,AV.aA,AV.bF];refine oc (SS hG _ _ _) ?_;cases e1:da ls.length 1 4
  .simp[s0,s1,s5,au,ai,AV.aA,AV.bF]
  simp[s0,s1,s5,au,ai,AV.aA,AV.bF];refine oc (SS hG _ _ _) ?_
  cases e2:da m 1 20<;>simp[s0,s1,s5,au,ai,AV.aA,AV.bF]
 clear s0 s1 s5 S1 H1;rintro S1 H1 ⟨s0,s1,s5,UJ⟩
 cases kd:(da ls.length 1 4&&da m 1 20)with
 |false=>
  refine SW.cond rfl true (by show S1 30=_;rw[UJ,kd]<;>rfl) ?_;refine dR eN (ae.qa (ae.qa (ae.qb (ae.qa (q5 2))))) (λS H=>S 4=.bool true) ?_ ?_
  .simp[c5,q5,ae.qa,ae.qb,au,ai,AV.aA,AV.bF];refine oc h7 ?_;simp[au,ai,AV.aA,AV.bF]
  .intro S2 H2 s4;exact Ov s4 id
 |true=>
  refine SW.cond rfl false (by show S1 30=_;rw[UJ,kd]<;>rfl) (SW.skip ?_);simp only[Bool.and_eq_true,Fp]at kd;obtain⟨hn,hm⟩:=kd
  have wN:1<=ls.length/\ls.length<=4:=by omega
  show SW prog GT 166 none (.seq _ (.seq _ (.seq (.seq _ (.block 0 (.loop _))) _))) _ _ _ _;refine dR eN (ae.qa (q5 3)) (λS H=>S 0=.slice .view (ints ls)/\S 1=.int .i64 m/\S 5=.int .i64 (ls.length:Nat)/\S 6=.box 6 0/\∃o,H 6=some [.int .i64 0,.slice o [.int .i64 0],.slice .nil []]) ?_ ?_
  .simp[c5,q5,ae.qa,ae.qb,s0,s1,s5,aF,cL,au,ai,AV.aA,AV.bF]
   try exact⟨_,rfl⟩
  clear s0 s1 s5 UJ S1 H1;rintro S1 H1 ⟨s0,s1,s5,s6,o,h6⟩;refine dR eN (ae.qa (q5 4)) (λS H=>S 0=.slice .view (ints ls)/\S 1=.int .i64 m/\S 5=.int .i64 (ls.length:Nat)/\S 6=.box 6 0/\(∃o,H 6=some [.int .i64 0,.slice o [.int .i64 0],.slice .nil []])/\S 7=.int .i64 0) ?_ ?_
  .simp[c5,q5,ae.qa,ae.qb,s0,s1,s5,s6,h6,au,ai,AV.aA,AV.bF]
  clear s0 s1 s5 s6 h6 o S1 H1;rintro S1 H1 ⟨s0,s1,s5,s6,⟨o,h6⟩,s7⟩;refine SW.seq (dR eN (ae.qa (ae.qa (q5 5))) (F5 ls m 0) ?_ ?_)
  .have e1:grow 71 []=.slice .nil []:=by simp[grow]
   simp[c5,q5,ae.qa,ae.qb,F5,s0,s1,s5,s6,h6,s7,e1,au,ai,AV.aA,AV.bF]
  clear s0 s1 s5 s6 h6 o s7 S1 H1;intro S1 H1 hF;refine SW.block (SW.loop (λo' S' H'=>∃i,o'=Old.plain cc w/\i<=ls.length/\(∀j (hj:j<ls.length),j<i->1<=ls[j]/\ls[j]<=6)/\F5 ls m i S' H') (λS' _=>match S' 8 with|.int _ j=>ls.length-j.toNat|_=>0) ⟨0,rfl,Nat.zero_le _,λj _ h=>absurd h (by omega),hF⟩ ?_);clear hF S1 H1;rintro o' S1 H1 ⟨i,rfl,hi,eD,hF⟩;have m8:S1 8=.int .i64 (i:Nat):=hF.2.2.2.2.2.2;show SW prog GT 166 none (.seq (.seq _ (.cond _ _ _)) (.seq (.block 1 (.seq (.seq _ (.cond _ _ _)) (.seq _ _))) _)) _ _ _ _;refine SW.seq (dR eN Em.qa.qa (λS' H'=>S' 36=.bool (decide (i<ls.length))/\F5 ls m i S' H') ?_ ?_)
  .obtain⟨s0,s1,s5,s6,⟨o,h6⟩,s7,s8⟩:=hF;simp[c5,q5,Em,ae.qa,ae.qb,F5,s0,s1,s5,s6,h6,s7,s8,au,ai,AV.aA,AV.bF]
  clear hF;rintro S2 H2 ⟨O1,hF⟩
  by_cases av:i<ls.length
  case neg=>
   refine SW.cond rfl false (by show S2 36=_;rw[O1];simp[av]) (SW.exit ?_)
   have dN:i=ls.length:=by omega
   subst dN
   have gZ:iH ls:=⟨wN,λx hx=>by
    obtain⟨j,hj,rfl⟩:=List.getElem_of_mem hx
    exact eD j hj hj⟩
   obtain⟨s0,s1,s5,s6,⟨o,h6⟩,s7,-⟩:=hF;rw[List.take_length]at h6 s7;exact Tr gZ hm s0 s1 s5 s6 h6 s7
  refine SW.cond rfl true (by show S2 36=_;rw[O1];simp[av]) (SW.skip ?_)
  have km:i<(ints ls).length:=by omega
  have j0:(ints ls)[i]=.int .i64 ls[i]:=by simp[ints]
  have oG:(ints ls)[i]?=some (.int .i64 ls[i]):=by simp[ints,av]
  show SW prog GT 166 none (.seq (.block 1 (.seq (.seq _ (.cond _ _ _)) (.seq _ _))) _) _ _ _ _;refine SW.seq (SW.block (SW.seq (dR eN F6.qa.qa (λS' H'=>S' 44=.bool (!da ls[i] 1 6)/\F5 ls m i S' H') ?_ ?_)))
  .obtain⟨s0,s1,s5,s6,⟨o,h6⟩,s7,s8⟩:=hF;unfold F5;generalize(ls.take i).map jJ=L at h6⊢;simp[c5,q5,Em,F6,ae.qa,ae.qb,s0,s1,s5,s6,h6,s7,s8,av,dN,au,ai,AV.aA,AV.bF];refine oc (SS hG _ _ _) ?_;simp[s0,s1,s5,s6,h6,s7,s8,au,ai,AV.aA,AV.bF]
  clear hF O1;rintro S3 H3 ⟨Ob,hF⟩
  cases hx:da ls[i] 1 6 with
  |false=>
   refine SW.cond rfl true (by show S3 44=_;rw[Ob,hx]<;>rfl) ?_;refine dR eN F6.qa.qb.qa.qa (λS H=>S 4=.bool true) ?_ ?_
   .simp[c5,q5,Em,F6,ae.qa,ae.qb,au,ai,AV.aA,AV.bF];refine oc h7 ?_;simp[au,ai,AV.aA,AV.bF]
   .intro S4 H4 s4;exact Ov s4 id
  |true=>
   refine SW.cond rfl false (by show S3 44=_;rw[Ob,hx]<;>rfl) (SW.skip ?_);rw[Fp]at hx;show SW prog GT 166 none (.seq _ _) _ _ _ _;obtain⟨s0,s1,s5,s6,⟨o,h6⟩,s7,s8⟩:=hF
   have ht:(ls.take (i+1)).map jJ=(ls.take i).map jJ++[jJ ls[i]]:=by
    rw[List.take_succ_eq_append_getElem av,List.map_append]<;>rfl
   have rM:(ls.take (i+1)).sum=(ls.take i).sum+ls[i]:=by
    rw[List.take_succ_eq_append_getElem av,List.sum_append];simp
   have hb:0<=(ls.take i).sum/\(ls.take i).sum<=24:=by
    have h:=Ae (ls:=ls.take i) λx hx=>by
     obtain⟨j,hj,rfl⟩:=List.getElem_of_mem hx;rw[List.length_take]at hj;rw[List.getElem_take];exact eD j (by omega) (by omega)
    have hl:(ls.take i).length<=4:=by rw[List.length_take];omega
    omega
   have ig:IntKind.i64.wrap ((ls.take i).sum+ls[i])=(ls.take i).sum+ls[i]:=bf (by omega);have bB:=J0 (ls.take i)
   have E4:((ls.take i).map jJ).length<=4:=by rw[List.length_map,List.length_take];omega
   have iA:aF 5 [jJ ls[i]]=true:=rfl;have Ay:aF 5 [AV.agg [.int .i64 0,.bool false,.int .i64 ls[i],.int .i64 ls[i],.slice .nil []]]=true:=rfl;refine dR eN F6.qb.qa (λS H=>S 0=.slice .view (ints ls)/\S 1=.int .i64 m/\S 5=.int .i64 (ls.length:Nat)/\S 6=.box 6 0/\(∃o,H 6=some [.int .i64 0,.slice o [.int .i64 0],grow 71 ((ls.take (i+1)).map jJ)])/\S 7=.int .i64 (ls.take i).sum/\S 8=.int .i64 (i:Nat)) ?_ ?_
   .rw[ht];generalize(ls.take i).map jJ=L at h6 bB E4⊢;simp[c5,q5,Em,F6,ae.qa,ae.qb,s0,s1,s5,s6,h6,s7,s8,av,dN,oG,Ay,cL,qA,qY,jD];refine pT L (jJ ls[i]) (.own 71) (by simp[qA,qY,jD]) (by simp[jJ,qA,qY,jD]) iA bB (by omega) ?_;intro S' sd eK;simp[sd,eK,s0,s1,s5,s6,h6,s7,s8,grow,qA,qY,jD]
    try exact⟨o,rfl⟩
   clear s0 s1 s5 s6 h6 o s7 s8;rintro S4 H4 ⟨s0,s1,s5,s6,⟨o,h6⟩,s7,s8⟩;refine SW.last eN cV (by kernel_rfl) (ac:=ae.qb F6.qb) (by kernel_rfl) (λ_ _ h=>h) (λS H=>S 0=.slice .view (ints ls)/\S 1=.int .i64 m/\S 5=.int .i64 (ls.length:Nat)/\S 6=.box 6 0/\(∃o,H 6=some [.int .i64 0,.slice o [.int .i64 0],grow 71 ((ls.take (i+1)).map jJ)])/\S 7=.int .i64 (ls.take (i+1)).sum/\S 8=.int .i64 (i:Nat)) ?_ ?_
   .rw[rM];generalize(ls.take (i+1)).map jJ=L at h6⊢;simp[c5,q5,Em,F6,ae.qa,ae.qb,s0,s1,s5,s6,h6,s7,s8,av,dN,ig,au,ai,AV.aA,AV.bF]
   clear s0 s1 s5 s6 h6 o s7 s8;rintro S5 H5 ⟨s0,s1,s5,s6,⟨o,h6⟩,s7,s8⟩;show SW prog GT 166 none _ _ _ _ _;have kc:IntKind.i64.wrap ((i:Int)+1)=i+1:=bf (by omega);refine SW.last eN cV (by kernel_rfl) (ac:=ae.qb Em.qb) (by kernel_rfl) (λ_ _ h=>h) (F5 ls m (i+1)) ?_ ?_
   .unfold F5;generalize(ls.take (i+1)).map jJ=L at h6⊢;simp[c5,q5,Em,ae.qa,ae.qb,s0,s1,s5,s6,h6,s7,s8,kc,au,ai,AV.aA,AV.bF]
   .intro S6 H6 hF;refine⟨⟨i+1,rfl,by omega,λj hj eE=>?_,hF⟩,?_⟩
    .by_cases QR:j=i
     .subst QR;exact hx
     .exact eD j hj (by omega)
    .have h5:S6 8=.int .i64 ((i+1:Nat):Int):=hF.2.2.2.2.2.2;show(match S6 8 with|.int _ j=>ls.length-j.toNat|_=>0)<(match S1 8 with|.int _ j=>ls.length-j.toNat|_=>0);rw[h5,m8];simp;omega
end Go.Proofs.Tryz
namespace Go.Proofs.YtifmgeicigngbaaGreat
open Go Go.AL Go.ChangeShapes Go.WideShapes Go.ChangeAt Go.RowKit Go.Proofs.Tryz
namespace Reads
abbrev row:OpenClaim:=Rows.topReadsRow
abbrev spec:ChangeSpec:=Rows.topReadsSpec
def call (W:World) (base:Nat) (args:Array Value) {H:Type} {enc:TypeId×Value→H} (ds:List (DataW H)) (p:List MemPlace) (hG:GI W) (vu:∀ (j:Nat) t v,Tryz.f5.params[j]? = some t→args[j]? = some v→Value.okWide Tryz.prog W .any base t v)
  (hA:DataW.TrodAll enc Tryz.prog W 0 (λ_=>true) true Tryz.f5.params.toList args.toList ds p):Calls Tryz.prog 5 args W λe W'=>e=.returned (.bool true)/\Below W.heap.size W W':=by
 rw[Tryz.params5]at hA vu;obtain⟨v0,Oz,d0,ds0,p0,q0,e0,rfl,rfl,h0,ZN⟩:=trodAll_cons hA;obtain⟨v1,vs1,d1,ds1,p1,q1,e1,rfl,rfl,h1,Xe⟩:=trodAll_cons ZN;obtain⟨rfl,rfl,rfl⟩:=trodAll_nil Xe
 obtain rfl:args=#[v0,v1]:=by
  apply Array.toList_inj.1;rw[e0,e1]
 obtain⟨x0,g0,a0⟩:=open_ints (vu 0 28 v0 rfl rfl) h0;obtain⟨x1,g1,a1⟩:=open_int (vu 1 3 v1 rfl rfl) h1
 refine Mo (ac5 x0 x1) trivial rfl λi h h'=>?_
 match i,h with
 |0,_=>exact .data _ _ a0
 |1,_=>exact .data _ _ a1
def w1(os:Os):((World.laidAll Tryz.prog os row.laid).forCall (λ_ _=>0) ⟨#[],#[.slice none 0 0,.int .i64 0],[]⟩).Shaped Tryz.checked.prog:=
 World.shaped_of_ZipB (by kernel_rfl) (by kernel_rfl)
def lifted (os:Os) (started:os.Started) (H:Type) (enc:TypeId×Value→H) :
  ReturnsInHanded {} Tryz.checked os 5 .any (λw args=>(spec.pre enc Tryz.prog Tryz.f5 row.domain false w args/\laidMetH Tryz.prog row.laid w)/\sizedMet enc Tryz.prog Tryz.f5 (OpenSpec.ofChange spec) false w args)
   (spec.post enc Tryz.prog Tryz.f5 false true false false):=by
 refine JK 5 Tryz.f5 Tryz.func5 (by kernel_rfl) (by kernel_rfl) spec rfl ?_ ?_ os started _ 12 (w1 os) (by kernel_rfl) (by kernel_rfl) (by kernel_rfl) ?_ (λW base args ds p=>call W base args ds p)
 .intro ds hl;rw[show Tryz.f5.params.size=2 by kernel_rfl]at hl
  match ds,hl with
  |[d0,d1],_=>rfl
 .rw[Tryz.params5];intro t ht
  have:t=28\/t=3:=by simpa using ht
  rcases this with rfl|rfl
  all_goals exact⟨by kernel_rfl,of_decide_eq_true (by kernel_rfl)⟩
 .rw[MakeChecks.laidMetH_plain _ _ _ (by kernel_rfl)];exact laidMet_laidAll _ (by kernel_rfl) (by kernel_rfl)
def Ly(w:World):laidMetH Tryz.prog [] w:=⟨[],rfl,List.nodup_nil,λ_ _ h=>by cases h⟩
def N1 (os:Os) (started:os.Started) (H:Type) (enc:TypeId×Value→H) :
  ReturnsInHanded {} Tryz.checked os 5 .any (λw args=>spec.pre enc Tryz.prog Tryz.f5 row.domain false w args/\sizedMet enc Tryz.prog Tryz.f5 (OpenSpec.ofChange spec) false w args)
   (spec.post enc Tryz.prog Tryz.f5 false true false false):=by
 have e:(fun w args=>spec.pre enc Tryz.prog Tryz.f5 row.domain false w args∧sizedMet enc Tryz.prog Tryz.f5 (OpenSpec.ofChange spec) false w args) =
   (λw args=>(spec.pre enc Tryz.prog Tryz.f5 row.domain false w args/\laidMetH Tryz.prog row.laid w)/\sizedMet enc Tryz.prog Tryz.f5 (OpenSpec.ofChange spec) false w args):=by
  funext w args
  exact propext ⟨λh=>⟨⟨h.1,Ly w⟩,h.2⟩,λh=>⟨h.1.1,h.2⟩⟩
 rw[e];exact lifted os started H enc
def Ok:Tryz.prog.funcNamed "mahlstick/mahlsticktop.TopReads" = some 5:=by kernel_rfl
def IK:(row.inPlace==Tryz.prog.inPlace 5)=true:=by kernel_rfl
def Bd:(row.unfollowed==Tryz.prog.unfollowed 5)=true:=by kernel_rfl
def Gx:(row.recurses==Tryz.prog.recurses 5)=true:=by kernel_rfl
def Qw:(row.named==Tryz.prog.varsNamed 5)=true:=by kernel_rfl
def PM:joinedFacts Tryz.prog 5 Tryz.f5 spec row=true:=
 HP ⟨rfl,rfl,rfl,rfl,rfl,rfl⟩ (by kernel_rfl) (by kernel_rfl) (by kernel_rfl) IK Bd Gx Qw (by kernel_rfl) (by kernel_rfl) (by kernel_rfl) (by kernel_rfl)
def Gs:Tryz.f5.isInstance Tryz.prog row.origin row.targs:=of_decide_eq_true (by kernel_rfl)
def HZ:Tryz.f5.isWrapper Tryz.prog row.wrapper row.mainSum:=by
 unfold Func.isWrapper;rw[if_neg (by decide+kernel)];exact⟨rfl,rfl⟩
theorem holds:Rows.TopReadsSaid:=
 OpenClaim.holds_of_wide 5 Tryz.f5 rfl rfl rfl rfl rfl rfl rfl ⟨rfl,rfl,rfl,rfl,rfl⟩ rfl rfl rfl rfl rfl Ok Tryz.func5 PM Gs HZ (λos started H enc _=>N1 os started H enc)
end Reads
#print axioms Reads.holds
end Go.Proofs.YtifmgeicigngbaaGreat
