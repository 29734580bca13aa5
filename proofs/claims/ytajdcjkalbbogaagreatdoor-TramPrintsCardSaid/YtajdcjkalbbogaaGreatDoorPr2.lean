/- A part of the proof. -/
import Derived.Test.YtajdcjkalbbogaaGreatDoorPr1
set_option maxRecDepth 100000
set_option maxHeartbeats 8000000
set_option linter.all false
namespace Go.Proofs.Tryz
open Go Go.AL Go.RowKit Go.Proofs Go.Proofs.Tram
attribute [local simp] eD fG qe ou eQ d_ ec dE dJ eP dF df ik ig aF aD ev aP.S aP.H bw au aX AL.start AV.cells AV.storable AV.cy bB cd dS cb HR.okB post cM dc de AV.out AV.cg cZ dZ fz gZ AV.vw cW vI int cz aN dk dP iS jN eM dV bG AV.aJ AV.cI
variable{GI:World->Prop}
def rN(l:List End):AV:=grow 180 (l.map b_)
def Q6{s:aI}{out:List Int}{n:Nat}(h:n<s.words.length)(hc:out.contains (n:Int)=false):j5 s out n=(s.words[n].bU.map λk=>((n:Int),k))++[((n:Int),(s.words[n].aU.length:Int))]:=by
 unfold j5;rw[hc,adh h]
 rfl
def N9{s:aI}{out:List Int}{n:Nat}(hc:out.contains (n:Int)=true):j5 s out n=[]:=by
 unfold j5;rw[hc]
 rfl
def td(s:aI)(out:List Int)(i:Nat):List End:=(List.range i).flatMap (j5 s out)
def JC(s:aI)(out:List Int)(i:Nat):td s out (i+1)=td s out i++j5 s out i:=by unfold td;rw[aeA,aeX,afD]
def Zf(hG:ar GI)(s:aI)(hs:qE s)(out:List Int)(ho:out.length<1000000):AC prog GI 166 [cC s,vI out] (.ret (.slice .view (aY (me s out)))):=by
 have q3:=hs.words;refine AC.nz (o:=if me s out=[]then .nil else .view) ?_;refine cw hG func166 ntmps166 c166 ?_;simp[c166,af,ae,cC,ai];refine bu 12 s.words.length (λi S H=>S 1=vI out/\S 2=.box 2 0/\H 2=some (ai s)/\S 11=.int .i64 s.words.length/\S 12=.int .i64 (i:Nat)/\S 5=rN (td s out i)/\(td s out i).length<=1001*i) (λi S H h=>h.2.2.2.2.1) ⟨by simp[af,ae],by simp[af,ae],by simp[af,ae,ai],by simp[af,ae],by simp[af,ae],by simp[af,ae,rN,td,grow],by simp[td]⟩ ?_;rintro i hi S H ⟨s1,s2,e2,bC,cK,s5,hl⟩
 by_cases aq:i<s.words.length
 case neg=>
  have di:i=s.words.length:=zo
  subst di;have s5:S 5=rN (me s out):=s5
  by_cases h0:me s out=[]
  .rw[h0]at s5
   have p7:S 5=.slice .nil []:=by rw[s5];simp[rN,grow]
   simp[af,ae,s1,s2,e2,bC,cK,p7,h0,aY]
  .have p7:S 5=.slice (.own 180) ((me s out).map b_):=by rw[s5];simp[rN,grow,h0]
   simp[af,ae,s1,s2,e2,bC,cK,p7,h0,aY]
 have hw:IntKind.i64.wrap ((i:Int)+1)=i+1:=aT zo;have Fp:=hs.bU _ (adi aq);have hr:=JC s out i;generalize hL:td s out i=L at s5 hl hr;simp[af,ae,s1,s2,e2,bC,cK,aq];refine⟨_,zk,Mm hG out ho i,λ_=>rfl,?_⟩;cases hc:out.contains (i:Int)
 case true=>
  have js:td s out (i+1)=L:=by rw[hr,N9 hc,ael]
  rw[js];simp[af,ae,s1,s2,e2,bC,cK,s5,hw,aq];omega
 have hew:=Q6 aq hc;simp[af,ae,s1,s2,e2,bC,cK,aq,ai,cD];refine bu 25 s.words[i].bU.length (λj S H=>S 1=vI out/\S 2=.box 2 0/\H 2=some (ai s)/\S 11=.int .i64 s.words.length/\S 12=.int .i64 (i:Nat)/\S 6=.int .i64 (i:Nat)/\S 23=vI s.words[i].bU/\S 24=.int .i64 s.words[i].bU.length/\S 25=.int .i64 (j:Nat)/\S 5=rN (L++(s.words[i].bU.take j).map λk=>((i:Int),k))) (λi S H h=>h.2.2.2.2.2.2.2.2.1) ⟨by simp[af,ae,s1],by simp[af,ae,s2],by simp[af,ae,e2,ai],by simp[af,ae,bC],by simp[af,ae,cK],by simp[af,ae],by simp[af,ae],by simp[af,ae],by simp[af,ae],by simp[af,ae,s5]⟩ ?_;clear s1 s2 e2 bC cK s5 S H;rintro j hj S H ⟨s1,s2,e2,bC,cK,s6,jt,rG,ft,s5⟩
 by_cases YK:j<s.words[i].bU.length
 .have Ye:IntKind.i64.wrap ((j:Int)+1)=j+1:=aT zo;have qn:s.words[i].bU.take (j+1)=s.words[i].bU.take j++[s.words[i].bU[j]]:=adp YK
  have hlen:(L++(s.words[i].bU.take j).map λk=>((i:Int),k)).length<1040000:=by
   simp only[adC,adn,adA];omega
  rw[qn,adL,<-ad2];generalize(L++(s.words[i].bU.take j).map λk=>((i:Int),k))=M at s5 hlen⊢;have cL:aG 2 [AV.agg [AV.int .i64 (i:Nat),AV.int .i64 s.words[i].bU[j]]]=true:=rfl;simp[s1,s2,e2,bC,cK,s6,jt,rG,ft,YK,cL];refine iA (M.map b_) (b_ ((i:Int),s.words[i].bU[j])) (.own 180) (by simp[s5,rN]) (by simp[b_]) rfl (Fz _) (by rw[adn];omega) ?_;intro S' sd hk;simp[sd,hk,s1,s2,e2,bC,cK,s6,jt,rG,ft,Ye,YK,rN]
 .have qC:j=s.words[i].bU.length:=zo
  subst qC;rw[aeB]at s5
  have hlen:(L++s.words[i].bU.map λk=>((i:Int),k)).length<=1001*i+1000:=by
   simp only[adC,adn];omega
  rw[hr,hew,<-ad2];generalize(L++s.words[i].bU.map λk=>((i:Int),k))=M at s5 hlen⊢;have cL:aG 2 [AV.agg [AV.int .i64 (i:Nat),AV.int .i64 s.words[i].aU.length]]=true:=rfl;simp[s1,s2,e2,bC,cK,s6,jt,rG,ft,aq,cL,ai,cD];refine iA (M.map b_) (b_ ((i:Int),(s.words[i].aU.length:Int))) (.own 180) (by simp[s5,rN]) (by simp[b_]) rfl (Fz _) (by rw[adn];omega) ?_;intro S' sd hk;simp[sd,hk,s1,s2,e2,bC,cK,hw,aq,rN,ai];omega
def vM{s:aI}(hs:bl s=true){g:Nat×Nat}(h:M9 s g):MZ s (bQ s g):=TC hs h
def Xg(hG:ar GI)(s:aI)(hs:bl s=true){l:List (Nat×Nat)}(hl:l.length<10000)(mj:∀g∈l,M9 s g)(cut:Bool)(x:Int):AC prog GI 184 [iz s,Mr l cut,.int .i64 x] (.ret (.int .i64 (ka s (l.map (bQ s)) l.length+(if cut then s.bT else 0)))):=by
 have hF:=gE hs;have u_:=hF.JX
 have hb:∀x∈(l.map λg=>mV s (bQ s g)),0<=x/\x<=1000:=by
  intro x hx;obtain⟨g,hg,rfl⟩:=adF.1 hx;have:=BI hF (vM hs (mj g hg));omega
 have yM:ka s (l.map (bQ s)) l.length=(l.map λg=>mV s (bQ s g)).sum:=by
  have:=BC s (l.map (bQ s)) l.length ahi;rw[this,ado ahi,aeu];rfl
 have Ok:(l.map λg=>mV s (bQ s g)).length<10000:=by rw[adn];exact hl
 rw[yM];refine cw hG func184 ntmps184 c184 ?_;refine aK (λS H=>S 3=.box 3 0/\S 4=.box 4 0/\H 3=some (a_ s)/\H 4=some [.slice .view (l.map gA),.bool cut]) (by simp[af,ae,iz,a_,Mr,Hp,ai,cn]) ?_;rintro S H ⟨s3,s4,e3,e4⟩;refine aK (λS H=>S 3=.box 3 0/\S 4=.box 4 0/\H 3=some (a_ s)/\H 4=some [.slice .view (l.map gA),.bool cut]/\S 7=jA []) (by simp[af,ae,s3,s4,e3,e4,jA,grow]) ?_;clear s3 s4 e3 e4 S H;rintro S H ⟨s3,s4,e3,e4,s7⟩;refine aK (λS H=>S 3=.box 3 0/\S 4=.box 4 0/\H 3=some (a_ s)/\H 4=some [.slice .view (l.map gA),.bool cut]/\S 7=jA (l.map λg=>mV s (bQ s g))) ?_ ?_
 .simp[af,ae,s3,s4,e3,e4];refine bu 13 l.length (λi S H=>S 3=.box 3 0/\S 4=.box 4 0/\H 3=some (a_ s)/\H 4=some [.slice .view (l.map gA),.bool cut]/\S 11=.slice .view (l.map gA)/\S 12=.int .i64 l.length/\S 13=.int .i64 (i:Nat)/\S 7=jA ((l.take i).map λg=>mV s (bQ s g))) (λi S H h=>h.2.2.2.2.2.2.1) ⟨by simp[af,ae,s3],by simp[af,ae,s4],by simp[af,ae,e3],by simp[af,ae,e4],by simp[af,ae],by simp[af,ae],by simp[af,ae],by simp[af,ae,s7]⟩ ?_;clear s3 s4 e3 e4 s7 S H;rintro i hi S H ⟨s3,s4,e3,e4,bC,cK,dH,s7⟩
  by_cases aq:i<l.length
  case neg=>
   have di:i=l.length:=zo
   subst di;rw[aeB]at s7;simp[af,ae,s3,s4,e3,e4,bC,cK,dH,s7]
  have hw:IntKind.i64.wrap ((i:Int)+1)=i+1:=aT zo
  obtain⟨k,hk⟩:∃k:Nat,(bQ s l[i]).2=k:=⟨(bQ s l[i]).2.toNat,by have:=(vM hs (mj _ (adi aq))).1;omega⟩
  have jv:k<s.aM.length:=by have:=(vM hs (mj _ (adi aq))).2;omega
  have uS:mV s (bQ s l[i])=s.aM[k]:=by
   unfold mV;rw[hk,if_neg zo,Int.toNat_natCast,adh jv];rfl
  rw[adp aq,adL,List.map_singleton,uS]
  have hlen:((l.take i).map λg=>mV s (bQ s g)).length<1000000:=by
   rw[adn,adA];omega
  generalize((l.take i).map λg=>mV s (bQ s g))=L at s7 hlen⊢;simp[s3,s4,e3,e4,bC,cK,dH,s7,aq,gA,a_,ai,cn];refine oc (Nq hG s (mj _ (adi aq))) ?_;have cL:aG 1 [AV.int .i64 s.aM[k]]=true:=rfl;simp[s3,s4,e3,e4,bC,cK,dH,s7,aq,a_,ai,cn,hk,jv,cL];refine kR (L.map (AV.int .i64)) (AV.int .i64 s.aM[k]) (.own 3) (by simp[s7,jA,grow]) ahi rfl (vG _) (by rw[adn];omega) ?_;intro S' sd cE;simp[sd,cE,s3,s4,e3,e4,bC,cK,dH,aq,hw,jA,a_,ai,cn]
 clear s3 s4 e3 e4 s7 S H;rintro S H ⟨s3,s4,e3,e4,s7⟩;refine aK (λS H=>S 7=jA ((l.map λg=>mV s (bQ s g))++if cut then[s.bT]else[])) ?_ ?_
 .cases cut with
  |false=>simp[af,ae,s3,s4,e3,e4,s7]
  |true=>
   have cL:aG 1 [AV.int .i64 s.bT]=true:=rfl;generalize(l.map λg=>mV s (bQ s g))=L at s7 Ok⊢;simp[s3,s4,e3,e4,s7,a_,ai,cn,cL];refine iA (L.map (AV.int .i64)) (AV.int .i64 s.bT) (.own 3) (by simp[jA]) ahi rfl (vG _) (by rw[adn];omega) ?_;intro S' sd cE;simp[sd,cE,jA]
 clear s3 s4 e3 e4 s7 S H;rintro S H s7;have hh:=hF.bT
 have iY:∀x∈((l.map λg=>mV s (bQ s g))++if cut then[s.bT]else[]),0<=x/\x<=1000:=by
  intro x hx;rcases adm.1 hx with hx|hx
  .exact hb x hx
  .cases cut with
   |false=>simp at hx
   |true=>simp at hx;omega
 have Nd:((l.map λg=>mV s (bQ s g))++if cut then[s.bT]else[]).sum=(l.map λg=>mV s (bQ s g)).sum+if cut then s.bT else 0:=by
  rw[aeR]
  cases cut<;>simp
 have ux:((l.map λg=>mV s (bQ s g))++if cut then[s.bT]else[]).length<100000:=by
  rw[adC]
  cases cut<;>simp<;>omega
 rw[<-Nd];generalize((l.map λg=>mV s (bQ s g))++if cut then[s.bT]else[])=L at s7 iY ux⊢;rcases Bt L with⟨hg,rfl⟩|hg
 .rw[hg]at s7;simp[af,ae,s7];refine oc (IM hG [] ux iY) ?_;simp[af,ae]
 .rw[hg]at s7;simp[af,ae,s7];refine oc (IM hG L ux iY) ?_;simp[af,ae]
def ZC(hG:ar GI)(s:aI)(hs:bl s=true){l:List (Nat×Nat)}(cP:l≠[])(hl:l.length<10000)(mj:∀g∈l,M9 s g)(cut:Bool){st:Int}(h0:0<=st)(h1:st<=10):AC prog GI 185 [iz s,Mr l cut,.int .i64 st] (.ret (.int .i64 (j4 s st (l.map (bQ s)) (l.length-1)+(if cut then mW s.fI s.fH st else 0)))):=by
 have hF:=gE hs;have iK:=aew.2 cP
 have yM:j4 s st (l.map (bQ s)) (l.length-1)=(ke s st (l.map (bQ s)) l.length).sum:=by
  have:=FF (s:=s) (st:=st) (l:=l.map (bQ s)) (l.length-1) (by rw[adn];omega);rw[show l.length-1+1=l.length by omega]at this;exact this.symm
 rw[yM];refine cw hG func185 ntmps185 c185 ?_;refine aK (λS H=>S 2=.int .i64 st/\S 3=.box 3 0/\S 4=.box 4 0/\H 3=some (a_ s)/\H 4=some [.slice .view (l.map gA),.bool cut]) (by simp[af,ae,iz,a_,Mr,Hp,ai,cn]) ?_;rintro S H ⟨s2,s3,s4,e3,e4⟩;refine aK (λS H=>S 2=.int .i64 st/\S 3=.box 3 0/\S 4=.box 4 0/\H 3=some (a_ s)/\H 4=some [.slice .view (l.map gA),.bool cut]/\S 7=jA []) (by simp[af,ae,s2,s3,s4,e3,e4,jA,grow]) ?_;clear s2 s3 s4 e3 e4 S H;rintro S H ⟨s2,s3,s4,e3,e4,s7⟩;refine aK (λS H=>S 2=.int .i64 st/\S 3=.box 3 0/\S 4=.box 4 0/\H 3=some (a_ s)/\H 4=some [.slice .view (l.map gA),.bool cut]/\S 7=jA (ke s st (l.map (bQ s)) l.length)) ?_ ?_
 .simp[af,ae,s2,s3,s4,e3,e4];refine bu 13 l.length (λi S H=>S 2=.int .i64 st/\S 3=.box 3 0/\S 4=.box 4 0/\H 3=some (a_ s)/\H 4=some [.slice .view (l.map gA),.bool cut]/\S 11=.slice .view (l.map gA)/\S 12=.int .i64 l.length/\S 13=.int .i64 (i:Nat)/\S 7=jA (ke s st (l.map (bQ s)) i)) (λi S H h=>h.2.2.2.2.2.2.2.1) ⟨by simp[af,ae,s2],by simp[af,ae,s3],by simp[af,ae,s4],by simp[af,ae,e3],by simp[af,ae,e4],by simp[af,ae],by simp[af,ae],by simp[af,ae],by simp[af,ae,s7,ke]⟩ ?_;clear s2 s3 s4 e3 e4 s7 S H;rintro i hi S H ⟨s2,s3,s4,e3,e4,bC,cK,dH,s7⟩
  by_cases aq:i<l.length
  case neg=>
   have di:i=l.length:=zo
   subst di;simp[af,ae,s2,s3,s4,e3,e4,bC,cK,dH,s7]
  have hw:IntKind.i64.wrap ((i:Int)+1)=i+1:=aT zo
  cases i with
  |zero=>
   have s7':S 7=.slice .nil []:=by rw[s7];rfl
   simp[af,ae,s2,s3,s4,e3,e4,bC,cK,dH,s7',aq,gA];exact⟨aT zo,by simp[ke,jA,grow]⟩
  |succ m=>
   have Rh:m<l.length:=zo
   have ZY:ke s st (l.map (bQ s)) (m+1+1)=ke s st (l.map (bQ s)) (m+1)++[pw s st (bQ s l[m]) (bQ s l[m+1])]:=by
    rw[Ef (by simpa using aq)];simp
   have hlen:(ke s st (l.map (bQ s)) (m+1)).length<1000000:=by have:=zZ (s:=s) (st:=st) (l:=l.map (bQ s)) (m+1);omega
   rw[ZY];have Sj:IntKind.i64.wrap (m:Int)=m:=aT zo;have ln:IntKind.i64.wrap ((m:Int)+1+1)=m+1+1:=aT zo
   have SP:(0:Int)<(m:Int)+1:=zo
   have acE:(0:Int)<=(m:Int)+1:=zo
   have ng:(m:Int)+1<l.length:=zo
   generalize ke s st (l.map (bQ s)) (m+1)=L at s7 hlen⊢;have cL:aG 1 [AV.int .i64 (pw s st (bQ s l[m]) (bQ s l[m+1]))]=true:=rfl;simp[s2,s3,s4,e3,e4,bC,cK,dH,s7,aq,gA,a_,ai,cn,Sj,SP,acE,Rh,ng];refine oc (YJ hG s hF (mj _ (adi Rh)) (mj _ (adi aq)) h0 h1) ?_;simp[s2,s3,s4,e3,e4,bC,cK,dH,s7,cL];refine kR (L.map (AV.int .i64)) (AV.int .i64 (pw s st (bQ s l[m]) (bQ s l[m+1]))) (.own 3) (by simp[s7,jA,grow]) ahi rfl (vG _) (by rw[adn];omega) ?_;intro S' sd cE;simp[sd,cE,s2,s3,s4,e3,e4,bC,cK,dH,aq,ng,ln,jA,a_,ai,cn]
 clear s2 s3 s4 e3 e4 s7 S H;rintro S H ⟨s2,s3,s4,e3,e4,s7⟩;have V7:=nZ hF.o.2.1 h0 h1
 have Ok:(ke s st (l.map (bQ s)) l.length).length<10000:=by have:=zZ (s:=s) (st:=st) (l:=l.map (bQ s)) l.length;omega
 have hb:∀x∈ke s st (l.map (bQ s)) l.length,0<=x/\x<=1000:=λx hx=>by have:=F' hF h0 h1 _ x hx;omega
 refine aK (λS H=>S 7=jA (ke s st (l.map (bQ s)) l.length++if cut then[mW s.fI s.fH st]else[])) ?_ ?_
 .cases cut with
  |false=>simp[af,ae,s2,s3,s4,e3,e4,s7]
  |true=>
   have cL:aG 1 [AV.int .i64 (mW s.fI s.fH st)]=true:=rfl;generalize ke s st (l.map (bQ s)) l.length=L at s7 Ok⊢;simp[s2,s3,s4,e3,e4,s7,a_,ai,cn];refine oc (G9 hG hF.o.1 hF.o.2.1 (by have:=hF.o.2.2;omega) h0 h1) ?_;simp[cL];refine iA (L.map (AV.int .i64)) (AV.int .i64 (mW s.fI s.fH st)) (.own 3) (by simp[jA]) ahi rfl (vG _) (by rw[adn];omega) ?_;intro S' sd cE;simp[sd,cE,jA]
 clear s2 s3 s4 e3 e4 s7 S H;rintro S H s7;have ho:=hF.o
 have iY:∀x∈(ke s st (l.map (bQ s)) l.length++if cut then[mW s.fI s.fH st]else[]),0<=x/\x<=1000:=by
  intro x hx;rcases adm.1 hx with hx|hx
  .exact hb x hx
  .cases cut with
   |false=>simp at hx
   |true=>simp at hx;omega
 have Nd:(ke s st (l.map (bQ s)) l.length++if cut then[mW s.fI s.fH st]else[]).sum=(ke s st (l.map (bQ s)) l.length).sum+if cut then mW s.fI s.fH st else 0:=by
  rw[aeR]
  cases cut<;>simp
 have ux:(ke s st (l.map (bQ s)) l.length++if cut then[mW s.fI s.fH st]else[]).length<100000:=by
  rw[adC]
  cases cut<;>simp<;>omega
 rw[<-Nd];generalize(ke s st (l.map (bQ s)) l.length++if cut then[mW s.fI s.fH st]else[])=L at s7 iY ux⊢;rcases Bt L with⟨hg,rfl⟩|hg
 .rw[hg]at s7;simp[af,ae,s7];refine oc (IM hG [] ux iY) ?_;simp[af,ae]
 .rw[hg]at s7;simp[af,ae,s7];refine oc (IM hG L ux iY) ?_;simp[af,ae]
def Yc(hG:ar GI)(s:aI)(hs:bl s=true){l:List (Nat×Nat)}(cP:l≠[])(hl:l.length<=24)(mj:∀g∈l,M9 s g)(cut:Bool){st:Int}(h0:0<=st)(h1:st<=10):AC prog GI 171 [iz s,Mr l cut,.int .i64 st] (.ret (.int .i64 (lP s st (l.map (bQ s)) cut))):=by
 have hF:=gE hs
 have bX:∀a∈l.map (bQ s),MZ s a:=λa ha=>by
  obtain⟨g,hg,rfl⟩:=adF.1 ha;exact vM hs (mj g hg)
 have aaM:l.map (bQ s)≠[]:=by simpa using cP
 have hb:=EG hF h0 h1 aaM bX (by simpa using hl) cut;have iK:=aew.2 cP;have hg:=rr hF h0 h1 (l:=l.map (bQ s)) (i:=l.length-1) (by rw[adn];omega);have Vs:=rL hF bX (i:=l.length) ahi;have V7:=nZ hF.o.2.1 h0 h1;have ho:=hF.o;have hh:=hF.bT;have a1:=Xg hG s hs (by omega:l.length<10000) mj cut st;have a2:=ZC hG s hs cP zo mj cut h0 h1
 have Ed:lP s st (l.map (bQ s)) cut=(ka s (l.map (bQ s)) l.length+(if cut then s.bT else 0))+(j4 s st (l.map (bQ s)) (l.length-1)+(if cut then mW s.fI s.fH st else 0)):=by
  unfold lP;rw[adn]
 rw[Ed]at hb⊢
 have n_:0<=ka s (l.map (bQ s)) l.length+(if cut then s.bT else 0):=by cases cut<;>simp<;>omega
 have mC:0<=j4 s st (l.map (bQ s)) (l.length-1)+(if cut then mW s.fI s.fH st else 0):=by cases cut<;>simp<;>omega
 generalize ka s (l.map (bQ s)) l.length+(if cut then s.bT else 0)=X at a1 n_ hb⊢;generalize j4 s st (l.map (bQ s)) (l.length-1)+(if cut then mW s.fI s.fH st else 0)=Y at a2 mC hb⊢;have w1:IntKind.i64.wrap X=X:=aT zo;have w2:IntKind.i64.wrap (X+Y)=X+Y:=aT zo;refine cw hG func171 ntmps171 c171 ?_;refine aK (λS H=>S 2=.int .i64 st/\S 3=.box 3 0/\S 4=.box 4 0/\H 3=some (a_ s)/\H 4=some [.slice .view (l.map gA),.bool cut]) (by simp[af,ae,iz,a_,Mr,Hp,ai,cn]) ?_;rintro S H ⟨s2,s3,s4,e3,e4⟩;simp[af,ae,s2,s3,s4,e3,e4];refine bu 11 2 (λi S H=>S 2=.int .i64 st/\S 3=.box 3 0/\S 4=.box 4 0/\H 3=some (a_ s)/\H 4=some [.slice .view (l.map gA),.bool cut]/\S 10=.gJ [.func (.func 184) [] [],.func (.func 185) [] []]/\S 11=.int .i64 (i:Nat)/\S 7=.int .i64 (if i=0 then 0 else if i=1 then X else X+Y)) (λi S H h=>h.2.2.2.2.2.2.1) ⟨by simp[af,ae,s2],by simp[af,ae,s3],by simp[af,ae,s4],by simp[af,ae,e3],by simp[af,ae,e4],by simp[af,ae],by simp[af,ae],by simp[af,ae]⟩ ?_;clear s2 s3 s4 e3 e4 S H;rintro i hi S H ⟨s2,s3,s4,e3,e4,bJ,bC,s7⟩
 match i,hi with
 |0,_=>
  simp[af,ae,s2,s3,s4,e3,e4,bJ,bC,s7,a_,ai,cn,Bg];refine oc a1 ?_;simp[af,ae,s2,s3,s4,e3,e4,bJ,bC,s7,a_,ai,cn,w1];exact aT zo
 |1,_=>
  simp[af,ae,s2,s3,s4,e3,e4,bJ,bC,s7,a_,ai,cn,Bg];refine oc a2 ?_;simp[af,ae,s2,s3,s4,e3,e4,bJ,bC,s7,a_,ai,cn,w2];exact aT zo
 |2,_=>
  simp[af,ae,s2,s3,s4,e3,e4,bJ,bC,s7]
def V2(s:aI)(out:List Int)(es:List End)(i:Nat):AV:=Mr (km s out es i) (ly s es i)
def g_(s:aI)(out:List Int)(es:List End)(n:Nat):List AV:=(List.range n).map (V2 s out es)
def I1(s:aI)(out:List Int)(es:List End)(n:Nat):g_ s out es (n+1)=g_ s out es n++[V2 s out es n]:=by
 unfold g_;rw[aeA,adL];rfl
def Ny(s:aI)(out:List Int)(es:List End)(n:Nat):aG 2 (g_ s out es n)=true:=iC λa=>⟨rfl,rfl⟩
def VM(l:List (Nat×Nat)):aG 2 (l.map gA)=true:=iC λa=>⟨rfl,rfl⟩
def AY(s:aI)(out:List Int)(es:List End)(n:Nat):(g_ s out es n).length=n:=by unfold g_;simp
def QR(a:Nat)(S:an)(_:ao):Nat:=match S 6,S 7 with
 |.int _ w,.int _ f=>((a-w)*1000+(1000-f)).toNat
 |_,_=>0
def I81(s:aI)(out:List Int)(es:List End)(i a b:Nat)(S:an)(H:ao):Prop:=S 2=.box 2 0/\S 3=.box 3 0/\H 2=some (a_ s)/\H 3=some [vI out,.slice .view (es.map b_)]/\S 12=.slice .view (es.map b_)/\S 13=.int .i64 es.length/\S 14=.int .i64 (i:Nat)/\S 5=grow 249 (g_ s out es i)/\S 9=.box 9 0/\H 9=some [.int .i64 a,.int .i64 b]/\S 10=.box 10 0/\∃(w f:Nat)(D:List (Nat×Nat)),H 10=some [grow 261 (D.map gA),.bool (ly s es i)]/\S 6=.int .i64 w/\S 7=.int .i64 f/\D++l0 s out (w,f) (a,b)=km s out es i/\w<=a/\(w=a->f<=b)/\(w<a->f<=ea s w)
def XF(hG:ar GI)(s:aI)(hs:bl s=true)(out:List Int)(ho:out.length<1000000)(es:List End)(he:es.length<100000)(g:Good s out es):AC prog GI 170 [iz s,bq out es] (.ret (.slice .view (g_ s out es es.length))):=by
 have hF:=gE hs;refine AC.nz (o:=if g_ s out es es.length=[]then .nil else .view) ?_;refine cw hG func170 ntmps170 c170 ?_;refine aK (λS H=>S 2=.box 2 0/\S 3=.box 3 0/\H 2=some (a_ s)/\H 3=some [vI out,.slice .view (es.map b_)]) (by simp[af,ae,iz,a_,ai,cn,bq,aY]) ?_;rintro S H ⟨s2,s3,e2,e3⟩;simp[af,ae,s2,s3,e2,e3];refine bu 14 es.length (λi S H=>S 2=.box 2 0/\S 3=.box 3 0/\H 2=some (a_ s)/\H 3=some [vI out,.slice .view (es.map b_)]/\S 12=.slice .view (es.map b_)/\S 13=.int .i64 es.length/\S 14=.int .i64 (i:Nat)/\S 5=grow 249 (g_ s out es i)/\S 6=.int .i64 (nr es i).1/\S 7=.int .i64 (nr es i).2) (λi S H h=>h.2.2.2.2.2.2.1) ⟨by simp[af,ae,s2],by simp[af,ae,s3],by simp[af,ae,e2],by simp[af,ae,e3],by simp[af,ae],by simp[af,ae],by simp[af,ae],by simp[af,ae,grow,g_],by simp[af,ae,nr],by simp[af,ae,nr]⟩ ?_;clear s2 s3 e2 e3 S H;rintro i hi S H ⟨s2,s3,e2,e3,cK,dH,eg,s5,s6,s7⟩
 by_cases aq:i<es.length
 case neg=>
  have di:i=es.length:=zo
  subst di
  by_cases h0:g_ s out es es.length=[]
  .have p7:S 5=.slice .nil []:=by rw[s5,h0];rfl
   simp[af,ae,s2,s3,e2,e3,cK,dH,eg,p7,h0]
  .have p7:S 5=.slice (.own 249) (g_ s out es es.length):=by rw[s5];simp[grow,h0]
   simp[af,ae,s2,s3,e2,e3,cK,dH,eg,p7,h0]
 obtain⟨g1,g2,g3,g4,g5⟩:=g.one i aq
 obtain⟨a,ha⟩:∃a:Nat,es[i].1=a:=⟨es[i].1.toNat,zo⟩
 obtain⟨b,hb⟩:∃b:Nat,es[i].2=b:=⟨es[i].2.toNat,zo⟩
 have hE:es[i]=((a:Int),(b:Int)):=Prod.ext ha hb
 have Z0:nE es[i]=(a,b):=by rw[hE];rfl
 have jC:a<s.words.length:=zo
 have Fp:ly s es i=decide (b<s.words[a].aU.length):=by
  rw[D1 aq,hE];show decide ((b:Int)<(ea s (a:Int).toNat:Int))=_;rw[Int.toNat_natCast,kI jC,decide_eq_decide];omega
 rw[ha]at g3 g5;rw[hb]at g4 g5
 have g5:b<=s.words[a].aU.length:=by rw[Int.toNat_natCast,kI jC]at g5;omega
 have DA:km s out es i=l0 s out (nr es i) (a,b):=by rw[sH aq,Z0]
 have yh:=Fj hs g i;have hw:IntKind.i64.wrap ((i:Int)+1)=i+1:=aT zo
 have acA:nr es (i+1)=(a,b):=by
  show(match es[i]? with|some e=>nE e|none=>(0,0))=_;rw[adh aq];exact Z0
 have aaB:=Hh g aq;rw[Z0]at aaB;simp[af,ae,s2,s3,e2,e3,cK,dH,eg,aq,hE,b_,a_,ai,cn,jC,cD,bI];refine⟨I81 s out es i a b,QR a,⟨by simp[af,ae,s2],by simp[af,ae,s3],by simp[af,ae,e2,a_,ai,cn],by simp[af,ae,e3],by simp[af,ae,cK],by simp[af,ae,dH],by simp[af,ae,eg],by simp[af,ae,s5,grow],by simp[af,ae],by simp[af,ae],by simp[af,ae],(nr es i).1,(nr es i).2,[],by simp[af,ae,grow,Fp],by simp[af,ae,s6],by simp[af,ae,s7],by rw[DA];rfl,zo,zo,?_⟩,?_⟩
 .intro _
  cases i with
  |zero=>exact ad_ _
  |succ j=>
   have hj:=g.one j zo
   have:nr es (j+1)=nE es[j]:=by show(match es[j]? with|some e=>nE e|none=>(0,0))=_;rw[adh zo]
   rw[this];show es[j].2.toNat<=ea s es[j].1.toNat;omega
 clear s2 s3 e2 e3 cK dH eg s5 s6 s7 S H;rintro S H ⟨s2,s3,e2,e3,cK,dH,eg,s5,s9,e9,bJ,w,f,D,jr,s6,s7,hD,hwa,hfb,oC⟩
 have hDl:D.length<=24:=by
  have:=congrArg List.length hD;rw[adC]at this;omega
 have hl6:=(wY hs (out:=out) w).2;have abm:=(wY hs (out:=out) a).2;rw[kI jC]at abm
 have hf6:f<=6:=by
  by_cases h:w<a
  .have:=oC h;omega
  .have:=hfb zo;omega
 by_cases ru:w<a\/w=a/\f<b
 case neg=>
  obtain rfl:w=a:=by omega
  obtain rfl:f=b:=by have:=hfb rfl;omega
  rw[NW (adl _),ael]at hD
  have aan:D≠[]:=by rw[hD];exact J6 g aq
  have hg:grow 261 (D.map gA)=.slice (.own 261) (D.map gA):=by simp[grow,aan]
  rw[hg]at jr
  have Md:V2 s out es i=.agg [.slice .view (D.map gA),.bool (ly s es i)]:=by rw[hD];rfl
  have cL:aG 2 [AV.agg [AV.slice .view (D.map gA),AV.bool (ly s es i)]]=true:=rfl;simp[s2,s3,e2,e3,cK,dH,eg,s5,s9,e9,bJ,jr,s6,s7,cL];refine iA (g_ s out es i) (V2 s out es i) (.own 249) (by simp[s5,grow]) (by rw[Md];simp) (by rw[Md];rfl) (Ny _ _ _ _) (by rw[AY];omega) ?_;intro S' sd cE;simp[sd,cE,s2,s3,e2,e3,cK,dH,eg,s6,s7,hw,aq,acA,I1,grow,a_,ai,cn]
 have u_:w<s.words.length:=zo
 have YU:=kI u_;refine aK (λS H=>S 2=.box 2 0/\S 3=.box 3 0/\H 2=some (a_ s)/\H 3=some [vI out,.slice .view (es.map b_)]/\S 12=.slice .view (es.map b_)/\S 13=.int .i64 es.length/\S 14=.int .i64 (i:Nat)/\S 5=grow 249 (g_ s out es i)/\S 9=.box 9 0/\H 9=some [.int .i64 a,.int .i64 b]/\S 10=.box 10 0/\H 10=some [grow 261 (D.map gA),.bool (ly s es i)]/\S 6=.int .i64 w/\S 7=.int .i64 f) ?_ ?_
 .rcases ru with La|⟨rfl,aaq⟩
  .have vV:(w:Int)<a:=zo
   simp[af,ae,s2,s3,e2,e3,cK,dH,eg,s5,s9,e9,bJ,jr,s6,s7,vV,La]
  .have X4:(f:Int)<b:=zo
   simp[af,ae,s2,s3,e2,e3,cK,dH,eg,s5,s9,e9,bJ,jr,s6,s7,X4,aaq]
 have Mk:QR a S H=(a-w)*1000+(1000-f):=by unfold QR;rw[s6,s7];simp only;omega
 rw[Mk];clear s2 s3 e2 e3 cK dH eg s5 s9 e9 bJ jr s6 s7 Mk S H;rintro S H ⟨s2,s3,e2,e3,cK,dH,eg,s5,s9,e9,bJ,jr,s6,s7⟩;simp[s2,s3,e2,e3,cK,dH,eg,s5,s9,e9,bJ,jr,s6,s7];refine⟨_,zk,Mm hG out ho w,λ_=>rfl,?_⟩;have nv:=hF.words.2;have pH:IntKind.i64.wrap ((w:Int)+1)=w+1:=aT zo;have hf1:IntKind.i64.wrap ((f:Int)+1)=f+1:=aT zo;have hw0:IntKind.i64.wrap 0=0:=aT zo;cases Cq:out.contains (w:Int)
 case true=>
  have La:w<a:=by
   rcases ru with h|⟨rfl,_⟩
   .exact h
   .rw[Cq]at g3;cases g3
  simp[s2,s3,e2,e3,cK,dH,eg,s5,s9,e9,bJ,jr,s6,s7,pH,hw0];refine⟨⟨by simp[af,ae,s2],by simp[af,ae,s3],e2,e3,by simp[af,ae,cK],by simp[af,ae,dH],by simp[af,ae,eg],by simp[af,ae,s5,grow],by simp[af,ae,s9],e9,by simp[af,ae,bJ],w+1,0,D,jr,by simp[af,ae],by simp[af,ae],by rw[<-hD,Qh La Cq],zo,λ_=>ad_ _,λ_=>ad_ _⟩,?_⟩;simp[QR,au];omega
 have hlen:(((w:Nat):Int))<s.words.length:=zo
 cases B1:((f:Int)==s.words[w].aU.length)
 case true=>
  have WU:ea s w<=f:=by rw[YU];simp at B1;omega
  have La:w<a:=by
   rcases ru with h|⟨rfl,h⟩
   .exact h
   .rw[YU]at WU;omega
  simp[s2,s3,e2,e3,cK,dH,eg,s5,s9,e9,bJ,jr,s6,s7,pH,hw0,a_,ai,cn,cD,u_,B1];refine⟨⟨by simp[af,ae,s2],by simp[af,ae,s3],e2,e3,by simp[af,ae,cK],by simp[af,ae,dH],by simp[af,ae,eg],by simp[af,ae,s5,grow],by simp[af,ae,s9],e9,by simp[af,ae,bJ],w+1,0,D,jr,by simp[af,ae],by simp[af,ae],by rw[<-hD,MF La WU],zo,λ_=>ad_ _,λ_=>ad_ _⟩,?_⟩;simp[QR,au];omega
 have cP:f≠s.words[w].aU.length:=by simp at B1;omega
 have hfw:f<ea s w:=by
  rcases ru with h|⟨rfl,h⟩
  .have:=oC h;omega
  .omega
 have cL:aG 2 [AV.agg [AV.int .i64 (w:Nat),AV.int .i64 (f:Nat)]]=true:=rfl;simp[s2,s3,e2,e3,cK,dH,eg,s5,s9,e9,bJ,jr,s6,s7,a_,ai,cn,cD,u_,B1,bI,cL];refine iA (D.map gA) (gA (w,f)) (.own 261) (by simp[grow]) (by simp[gA]) rfl (VM _) (by rw[adn];omega) ?_;intro S' sd cE;simp[sd,cE,s2,s3,e2,e3,cK,dH,eg,s5,s9,e9,bJ,s6,s7,hf1,grow];refine⟨⟨by simp[af,ae,cE,s2],by simp[af,ae,cE,s3],?_,?_,by simp[af,ae,cE,cK],by simp[af,ae,cE,dH],by simp[af,ae,cE,eg],by simp[af,ae,cE,s5,grow],by simp[af,ae,cE,s9],?_,by simp[af,ae,cE,bJ],w,f+1,D++[(w,f)],?_,by simp[af,ae,cE,s6],by simp[af,ae],?_,hwa,?_,?_⟩,?_⟩
 .simp[af,ae,e2,a_,ai,cn]
 .simp[af,ae,e3]
 .simp[af,ae,e9]
 .simp[af,ae,grow]
 .have iD:l0 s out (w,f) (a,b)=(w,f)::l0 s out (w,f+1) (a,b):=Ux (by
   rcases ru with h|h
   .exact .inl ⟨h,Cq,hfw⟩
   .exact .inr h)
  rw[<-hD,iD];simp
 .intro h;rcases ru with h'|h'<;>omega
 .intro _;omega
 .simp[QR,au,cE,s6];omega
end Go.Proofs.Tryz
namespace Go.Proofs.Tryz
open Go Go.AL Go.RowKit Go.Proofs Go.Proofs.Tram
def UP {Pr:Nat→Nat→Prop} {w:World} {b:Nat} {ty:TypeId} {cells:Array Value} {es:List AV} {size:Nat} (hb:w.heap[b]? = some (.cells cells ty (0,0))) (hs:cells.size=es.length * size) (bj:∀ e∈es,e.cells.length=size∧∀ c∈e.cells,c.one=true)
  (hP:∀k,k<cells.size->Pr b k) (hr:∀i (h:i<es.length) j (hj:j<(es[i]).cells.length),RD Pr w ((es[i]).cells[j]) (cells.getD (i*size+j) undef)):RD Pr w (.slice .view es) (.slice (some ⟨b,0,none⟩) es.length es.length):=by
 refine .slice .view es b 0 es.length size (λk=>cells.getD k undef) (adl _) (λh=>by cases h) (λi h=>(bj _ (adi h)).1) (λi h j hj=>(bj _ (adi h)).2 _ (adi hj)) (λk hk=>?_) hr;rw[<-hs]at hk;refine⟨by rw[adW];exact hP k hk,?_⟩;simp[World.cell?,hb,hk]
variable{GI:World->Prop}
end Go.Proofs.Tryz
namespace Go.Proofs.Tryz
open Go Go.AL Go.RowKit Go.Proofs Go.Proofs.Tram
def Hd {bE:Nat} {u:Value} {ty:TypeId} (w:World) (hE:w.heap[bE]? = some (.cells #[u] ty (0,0))) (n:Int) :
    CallsD prog 85 #[.pointer (some ⟨bE,0,none⟩)] (.panicking [{ v := .iface 131 (.agg #[.int .i64 n]),recovered:=false }]) w fun e u' w' =>
      e=.returned (.tuple #[])/\u'=.panicking [{ v:=.iface 131 (.agg #[.int .i64 n]),recovered:=true }]/\∃w1,Below w.heap.size w w1/\w'=w1.setRow bE #[.int .i64 7]:=by
  refine afQ func85 rfl λCE cs hu=>?_
  apply ag7;apply agm;simp[wpOpsS,go_sem,recoverD,hu,ntmps85,Exit.thenS];refine agz ?_;refine(fo (m:=0)).1 ?_;refine hZ (λa=>a.tmps.size=14/\a.defers=[]/\a.tmps.getD 0 undef=.pointer (some ⟨bE,0,none⟩)/\a.tmps.getD 5 undef=.iface 131 (.agg #[.int .i64 n])) ⟨ahi,rfl,ahi,ahi⟩ ?_;rintro a ⟨bj,eI,h0,h5⟩;have aq:=(adj.1 hE).1;refine aeL (adB (adP ?_));show wpOpsIn _ _ _ _ _ [0] a w;refine bg rfl rfl zr (tx (x:=.tmp 5) w rfl h5) ?_;show Code.wpIn _ _ _ _ _ (a.put (some 7) (.bool false)) w
  have h7:(a.put (some 7) (.bool false)).tmps.getD 7 undef=.bool false:=by simp[Act.put,bj]
  refine aed (t:=false) h7 ?_;simp only[ads,adH];refine hZ (λa=>a.tmps.size=14/\a.defers=[]/\a.tmps.getD 0 undef=.pointer (some ⟨bE,0,none⟩)/\a.tmps.getD 5 undef=.iface 131 (.agg #[.int .i64 n])) ⟨by simp[Act.put,bj],eI,by simpa[Act.put,adt]using h0,by simpa[Act.put,adt]using h5⟩ ?_;clear h7 h5 h0 eI bj a;rintro a ⟨bj,eI,h0,h5⟩
  have hS:∀ (a:Act) (w:World),a.tmps.getD 5 undef = .iface 131 (.agg #[.int .i64 n])→∀ t,t < 14→((fun t=>if t=5 then AV.iface 131 (.agg [.int .i64 n]) else AV.bo:an) t).aJ=(fun t=>if t=5 then AV.iface 131 (.agg [.int .i64 n]) else AV.bo:an) t ∧
      RV (λ_ _=>True) cQ w ((λt=>if t=5 then AV.iface 131 (.agg [.int .i64 n])else AV.bo:an) t) (a.tmps.getD t undef):=by
    intro a w h5 t ht
    by_cases h:t=5
    . subst h
      rw[h5];refine⟨rfl,.data _ _ (.iface _ _ _ (.agg _ _ rfl (λi hi=>?_) (λi hi dv=>?_)))⟩
      . have:i=0:=by simpa using hi
        subst this;rfl
      . have:i=0:=by simpa using hi
        subst this;exact .int _ _
    . simp only[h,adH];exact⟨rfl,.bo _⟩
  refine adB ?_;refine cJ (GI:=λ_=>True) (λ_ _ _ _=>trivial) db (ac:=ah.qa c85.qb.qb.qb.qb) (W:=λt=>decide (8<=t)) zk zk zk trivial (λ_ _=>True) _ bj eI (hS a w h5) (K:=λS' _=>S' 9=.bool true/\S' 10=.agg [.int .i64 n]) ?_ ?_
  . simp[c85,ah.qa,ah.qb,bD,bp,aF,ba,aD,aN,aP.S,aP.H,ev,au,aX,AV.aJ]
  rintro g S' H' a' w' hg R1 ⟨h9,pB⟩ bn;have t9:=R1.slot 9 zd (λh=>h);rw[h9]at t9;have t9:=t9.fL;have t10:=R1.slot 10 zd (λh=>h);rw[pB]at t10
  have b1:Below w.heap.size w w':=by have:=R1.below;rwa [R1.base]at this
  show Code.wpIn _ _ _ _ _ a' w';refine aed (t:=true) t9 ?_;simp only[adS];refine adB ?_;refine jM R1 (GI:=λ_=>True) (λ_ _ _ _=>trivial) trivial db (ac:=ah.qa c85.qb.qb.qb.qb.qb.qa) (W:=λt=>decide (1<=t)) zk zk zk (by rw[hg];exact λ_ h=>h) (K:=λ_ _=>True) ?_ ?_
  . simp[c85,ah.qa,ah.qb,bD,bp,aF,ba,aD,aN,aP.S,aP.H,ev,au,aX,AV.aJ,pB,cd,HR.okB,AV.cells,AV.storable,bB,AV.cy,bw]
  rintro g2 S2 H2 a2 w2 nH R2 _ kH
  have b2:Below w.heap.size w w2:=by have:=R2.below;rwa [R2.base]at this
  have e0:a2.tmps.getD 0 undef=.pointer (some ⟨bE,0,none⟩):=(kH 0 rfl).trans ((bn 0 rfl).trans h0);have IL:w2.heap[bE]?=some (.cells #[u] ty (0,0)):=(b2.block bE aq).trans hE;obtain⟨i36,rT,sg⟩:=iZ 34 1;show Code.wpIn _ _ _ _ _ a2 w2;refine adP ?_;show wpOpsIn _ _ _ _ _ [0] a2 w2;refine eT rfl rfl zr (iV (x:=.tmp 0) (y:=.const (.int .i64 7)) (v:=.int .i64 7) rfl e0 rT sg IL rfl rfl) ?_;refine⟨by show a2.defers=[];rw[R2.defers,nH,hg];rfl,_,rfl,.tuple #[],?_,rfl,rfl,w2,b2,rfl⟩;simp[results,results85]
def Hq {bE:Nat} {u:Value} {ty:TypeId} (w:World) (hE:w.heap[bE]? = some (.cells #[u] ty (0,0))) (n:List UInt8) :
    CallsD prog 85 #[.pointer (some ⟨bE,0,none⟩)] (.panicking [{ v := .iface 133 (.agg #[.string ⟨n.toArray⟩]),recovered:=false }]) w fun e u' w' =>
      e=.returned (.tuple #[])/\u'=.panicking [{ v:=.iface 133 (.agg #[.string ⟨n.toArray⟩]),recovered:=true }]/\∃w1,Below w.heap.size w w1/\w'=w1.setRow bE #[.int .i64 4]:=by
  refine afQ func85 rfl λCE cs hu=>?_
  apply ag7;apply agm;simp[wpOpsS,go_sem,recoverD,hu,ntmps85,Exit.thenS];refine agz ?_;refine(fo (m:=0)).1 ?_;refine hZ (λa=>a.tmps.size=14/\a.defers=[]/\a.tmps.getD 0 undef=.pointer (some ⟨bE,0,none⟩)/\a.tmps.getD 5 undef=.iface 133 (.agg #[.string ⟨n.toArray⟩])) ⟨ahi,rfl,ahi,ahi⟩ ?_;rintro a ⟨bj,eI,h0,h5⟩;have aq:=(adj.1 hE).1;refine aeL (adB (adP ?_));show wpOpsIn _ _ _ _ _ [0] a w;refine bg rfl rfl zr (tx (x:=.tmp 5) w rfl h5) ?_;show Code.wpIn _ _ _ _ _ (a.put (some 7) (.bool false)) w
  have h7:(a.put (some 7) (.bool false)).tmps.getD 7 undef=.bool false:=by simp[Act.put,bj]
  refine aed (t:=false) h7 ?_;simp only[ads,adH];refine hZ (λa=>a.tmps.size=14/\a.defers=[]/\a.tmps.getD 0 undef=.pointer (some ⟨bE,0,none⟩)/\a.tmps.getD 5 undef=.iface 133 (.agg #[.string ⟨n.toArray⟩])) ⟨by simp[Act.put,bj],eI,by simpa[Act.put,adt]using h0,by simpa[Act.put,adt]using h5⟩ ?_;clear h7 h5 h0 eI bj a;rintro a ⟨bj,eI,h0,h5⟩
  have hS:∀ (a:Act) (w:World),a.tmps.getD 5 undef = .iface 133 (.agg #[.string ⟨n.toArray⟩])→∀ t,t < 14→((fun t=>if t=5 then AV.iface 133 (.agg [.str n]) else AV.bo:an) t).aJ=(fun t=>if t=5 then AV.iface 133 (.agg [.str n]) else AV.bo:an) t ∧
      RV (λ_ _=>True) cQ w ((λt=>if t=5 then AV.iface 133 (.agg [.str n])else AV.bo:an) t) (a.tmps.getD t undef):=by
    intro a w h5 t ht
    by_cases h:t=5
    . subst h
      rw[h5];refine⟨rfl,.data _ _ (.iface _ _ _ (.agg _ _ rfl (λi hi=>?_) (λi hi dv=>?_)))⟩
      . have:i=0:=by simpa using hi
        subst this;rfl
      . have:i=0:=by simpa using hi
        subst this;exact .str _
    . simp only[h,adH];exact⟨rfl,.bo _⟩
  refine adB ?_;refine cJ (GI:=λ_=>True) (λ_ _ _ _=>trivial) db (ac:=ah.qa c85.qb.qb.qb.qb) (W:=λt=>decide (8<=t)) zk zk zk trivial (λ_ _=>True) _ bj eI (hS a w h5) (K:=λS' _=>S' 9=.bool false/\S' 5=.iface 133 (.agg [.str n])) ?_ ?_
  . simp[c85,ah.qa,ah.qb,bD,bp,aF,ba,aD,aN,aP.S,aP.H,ev,au,aX,AV.aJ]
  rintro g0 S0 H0 a0 Zu Hb R0 ⟨Ko,h50⟩ Ij;have t90:=R0.slot 9 zd (λh=>h);rw[Ko]at t90;have t90:=t90.fL;show Code.wpIn _ _ _ _ _ a0 Zu;refine aed (t:=false) t90 ?_;simp only[ads,adH];refine adB ?_;refine jM R0 (GI:=λ_=>True) (λ_ _ _ _=>trivial) trivial db (ac:=ah.qa c85.qb.qb.qb.qb.qb.qb) (W:=λt=>decide (8<=t)) zk zk zk (by rw[Hb];exact λ_ h=>h) (K:=λS' _=>S' 12=.bool true/\S' 13=.agg [.str n]) ?_ ?_
  . simp[c85,ah.qa,ah.qb,bD,bp,aF,ba,aD,aN,aP.S,aP.H,ev,au,aX,AV.aJ,h50]
  rintro g S' H' a' w' hg R1 ⟨h9,pB⟩ Gs;have bn:=Ij.trans Gs;rw[Hb]at hg;have t9:=R1.slot 12 zd (λh=>h);rw[h9]at t9;have t9:=t9.fL;have t10:=R1.slot 13 zd (λh=>h);rw[pB]at t10
  have b1:Below w.heap.size w w':=by have:=R1.below;rwa [R1.base]at this
  show Code.wpIn _ _ _ _ _ a' w';refine aed (t:=true) t9 ?_;simp only[adS];refine adB ?_;refine jM R1 (GI:=λ_=>True) (λ_ _ _ _=>trivial) trivial db (ac:=ah.qa c85.qb.qb.qb.qb.qb.qb.qb.qa) (W:=λt=>decide (1<=t)) zk zk zk (by rw[hg];exact λ_ h=>h) (K:=λ_ _=>True) ?_ ?_
  . simp[c85,ah.qa,ah.qb,bD,bp,aF,ba,aD,aN,aP.S,aP.H,ev,au,aX,AV.aJ,pB,cd,HR.okB,AV.cells,AV.storable,bB,AV.cy,bw]
  rintro g2 S2 H2 a2 w2 nH R2 _ kH
  have b2:Below w.heap.size w w2:=by have:=R2.below;rwa [R2.base]at this
  have e0:a2.tmps.getD 0 undef=.pointer (some ⟨bE,0,none⟩):=(kH 0 rfl).trans ((bn 0 rfl).trans h0);have IL:w2.heap[bE]?=some (.cells #[u] ty (0,0)):=(b2.block bE aq).trans hE;obtain⟨i36,rT,sg⟩:=iZ 34 1;show Code.wpIn _ _ _ _ _ a2 w2;refine adP ?_;show wpOpsIn _ _ _ _ _ [0] a2 w2;refine eT rfl rfl zr (iV (x:=.tmp 0) (y:=.const (.int .i64 4)) (v:=.int .i64 4) rfl e0 rT sg IL rfl rfl) ?_;refine⟨by show a2.defers=[];rw[R2.defers,nH,hg];rfl,_,rfl,.tuple #[],?_,rfl,rfl,w2,b2,rfl⟩;simp[results,results85]
def Ih (p:Addr) (w:World) :
    CallsD prog 85 #[.pointer (some p)] .returning w λe u' w'=>e=.returned (.tuple #[])/\u'=.returning/\w'=w:=by
  refine afQ func85 rfl λCE cs hu=>?_
  apply ag7;apply agm;simp[wpOpsS,go_sem,recoverD,hu,ntmps85,Exit.thenS];refine agz ?_
  go_wp2
  cases CE
  simp_all[bodyPostS,results,results85]
def OP {a:Act} {w:World} {b:Nat} {v:Value} {ty:TypeId} (h2:a.tmps.getD 2 undef = .pointer (some ⟨b,0,none⟩)) (h:w.heap[b]? = some (.cells #[v] ty (0,0))):(results f40 a.tmps).run prog w = .ok v w:=by
  obtain⟨d,E2,uK⟩:=vZ 34
  have kN:(isAgg 34).run prog w = .ok false w:=by
    unfold isAgg;rw[adq,adD E2 w]
    cases d<;>simp_all[ef]
  have hl:(loadVar 34 ⟨b,0,none⟩).run prog w = .ok v w:=by
    simp[loadVar,adq,kN,World.cell?,h]
  have hr:f40.results=#[.cell 2 34]:=rfl
  have wh:a.tmps[2]?.getD undef=.pointer (some ⟨b,0,none⟩):=by rw[<-h2];simp
  simp[results,hr,wh,asAddr,hl]
def mF {k:Nat} {us:Array Value} {w:World} {R1 R:Ending→World→Prop} (jP:eb prog k=true) (hc:Calls prog k us (w.alloc (.cells #[.int .i64 0] 34)) R1)
    (h:∀ e w2,R1 e w2→w.heap.size < w2.heap.size∧(∃ u ty,w2.heap[w.heap.size]? = some (.cells #[u] ty (0,0))) ∧
      ((∃c,e=.returned c/\R (.returned (.int .i64 0)) (w2.setRow w.heap.size #[.int .i64 0]))\/
       (∃n,e=.panicked [{ v:=.iface 131 (.agg #[.int .i64 n]),recovered:=false }]/\∀w3,Below w2.heap.size w2 w3->R (.returned (.int .i64 7)) (w3.setRow w.heap.size #[.int .i64 7]))\/
       (∃s:List UInt8,e=.panicked [{ v:=.iface 133 (.agg #[.string ⟨s.toArray⟩]),recovered:=false }]/\∀w3,Below w2.heap.size w2 w3->R (.returned (.int .i64 4)) (w3.setRow w.heap.size #[.int .i64 4])))):
    Calls prog 40 #[.func (.func k) #[] us] w R:=by
  refine calls_of_wp_defers func40 rfl ?_;refine(fo (m:=0)).1 ?_;refine hZ (λa=>a.tmps.size=6/\a.defers=[]/\a.tmps.getD 0 undef=.func (.func k) #[] us) ⟨by simp[ntmps40],rfl,cH _ _ 0 ahi⟩ ?_;rintro a ⟨bj,eI,h0⟩
  obtain⟨bE,On⟩:∃bE,w.heap.size=bE:=⟨_,rfl⟩
  have fm:∀ (a:Act) (d t:Nat) (c:Value),t≠d→(a.put (some d) c).tmps.getD t undef=a.tmps.getD t undef:=fun a d t c h=>by
    simp[Act.put,adt (ad6 h)]
  have jK:∀ (a:Act) (d:Nat) (c:Value),a.tmps.size=6→d < 6→(a.put (some d) c).tmps.getD d undef=c:=fun a d c h hd=>by
    simp[Act.put,h,hd]
  have kh:∀(a:Act)(d:Option Nat)(c:Value),(a.put d c).tmps.size=a.tmps.size:=λa d c=>by cases d<;>simp[Act.put]
  refine adB (adP ?_);show wpOpsIn _ _ _ _ _ [0] a w;refine bg rfl rfl zr (lE (t:=34) (z:=.int .i64 0) rfl zk) ?_;show Code.wpIn _ _ _ _ _ (a.put (some 2) (.pointer (some ⟨w.heap.size,0,none⟩))) (w.alloc (.cells #[.int .i64 0] 34));rw[On]at h;simp only[On]
  obtain⟨w1,pH⟩:∃w1,w.alloc (.cells #[.int .i64 0] 34)=w1:=⟨_,rfl⟩
  rw[pH]at hc⊢;refine hZ (λa=>a.tmps.size=6/\a.defers=[]/\a.tmps.getD 0 undef=.func (.func k) #[] us/\a.tmps.getD 2 undef=.pointer (some ⟨bE,0,none⟩)) ⟨by rw[kh];exact bj,eI,by rw[fm _ _ _ _ zd];exact h0,jK _ _ _ bj zd⟩ ?_;clear h0 eI bj a;rintro a ⟨bj,eI,h0,h2⟩;refine adB (adP ?_);show wpOpsIn _ _ _ _ _ [0,1] a w1;refine bg rfl rfl zr (mr (fn:=.func 85) (c:=#[.tmp 2]) rfl) ?_
  have fh:(#[Operand.tmp 2].map a.eval) = #[.pointer (some ⟨bE,0,none⟩)]:=by
    simp only[adV,ady,adR,Act.eval];rw[h2]
  rw[fh];show wpOpsIn _ _ _ _ _ [1] (a.put (some 3) (.func (.func 85) #[] #[.pointer (some ⟨bE,0,none⟩)])) w1
  obtain⟨a2,jG⟩:∃a2,a.put (some 3) (.func (.func 85) #[] #[.pointer (some ⟨bE,0,none⟩)])=a2:=⟨_,rfl⟩
  rw[jG]
  have z2:a2.tmps.size=6:=by rw[<-jG,kh];exact bj
  have u3:a2.tmps.getD 3 undef=.func (.func 85) #[] #[.pointer (some ⟨bE,0,none⟩)]:=by rw[<-jG];exact jK _ _ _ bj zd
  have u0:a2.tmps.getD 0 undef=.func (.func k) #[] us:=by rw[<-jG,fm _ _ _ _ zd];exact h0
  have u2:a2.tmps.getD 2 undef=.pointer (some ⟨bE,0,none⟩):=by rw[<-jG,fm _ _ _ _ zd];exact h2
  have ud:a2.defers=[]:=by rw[<-jG];exact eI
  refine AO rfl rfl (d:={ target:=.fn (.func 85) #[.pointer (some ⟨bE,0,none⟩)],args:=#[] }) (w':=w1) ?_ ?_
  . unfold execOp
    simp[fe,Deferred.ofValue,Act.eval,u3]
  have Rz:∀ (w:World),(invoke (.fn (.func 85) #[.pointer (some ⟨bE,0,none⟩)]) #[]).run prog w = .ok (.enter 85 #[.pointer (some ⟨bE,0,none⟩)]) w:=fun w=>by
    simp[invoke,f_ (P:=prog) (f:=85) zk]
  show Code.wpIn _ _ _ _ _ { a2 with defers:={ target:=.fn (.func 85) #[.pointer (some ⟨bE,0,none⟩)],args:=#[] }::a2.defers } w1;refine hZ (λa=>a.tmps.size=6/\a.defers=[{ target:=.fn (.func 85) #[.pointer (some ⟨bE,0,none⟩)],args:=#[] }]/\a.tmps.getD 0 undef=.func (.func k) #[] us/\a.tmps.getD 2 undef=.pointer (some ⟨bE,0,none⟩)) ⟨z2,by show _::a2.defers=_;rw[ud],u0,u2⟩ ?_;clear u0 u2 u3 ud z2 jG a2 h0 h2 eI bj fh a;rintro a ⟨bj,eI,h0,h2⟩;refine adB (adP ?_);show wpOpsIn _ _ _ _ _ [0,1] a w1;refine bg rfl rfl zr (run_move (x:=.tmp 0) w1 rfl) ?_;have e0:a.eval (.tmp 0)=.func (.func k) #[] us:=h0;rw[e0];show wpOpsIn _ _ _ _ _ [1] (a.put (some 4) (.func (.func k) #[] us)) w1
  obtain⟨a2,jG⟩:∃a2,a.put (some 4) (.func (.func k) #[] us)=a2:=⟨_,rfl⟩
  rw[jG]
  have z2:a2.tmps.size=6:=by rw[<-jG,kh];exact bj
  have u4:a2.eval (.tmp 4)=.func (.func k) #[] us:=by show a2.tmps.getD 4 undef=_;rw[<-jG];exact jK _ _ _ bj zd
  have u2:a2.tmps.getD 2 undef=.pointer (some ⟨bE,0,none⟩):=by rw[<-jG,fm _ _ _ _ zd];exact h2
  have ud:a2.defers=[{ target:=.fn (.func 85) #[.pointer (some ⟨bE,0,none⟩)],args:=#[] }]:=by rw[<-jG];exact eI
  refine o9 rfl rfl zr (A_ (f:=.tmp 4) w1 rfl rfl rfl u4 jP) hc ?_;intro e w2 he;obtain⟨aq,⟨uE,Xj,hE⟩,tc⟩:=h e w2 he
  have Ei:∀ {args:Array Value} {u:FrameMode} {w:World} {R R':Ending→FrameMode→World→Prop},CallsD prog 85 args u w R→(∀ e u w,R e u w→R' e u w)→CallsD prog 85 args u w R':=fun h hr c cs hu =>
    let⟨e,u',w',fr,r,rest⟩:=h c cs hu;⟨e,u',w',fr,hr _ _ _ r,rest⟩
  have y4:∀ (p:PanicEntry) (v:Value) (hv:CallsD prog 85 #[.pointer (some ⟨bE,0,none⟩)] (.panicking [p]) w2 fun e u' w'=>e = .returned (.tuple #[])∧u' = .panicking [{ p with recovered:=true }]∧∃ w1,Below w2.heap.size w2 w1∧w'=w1.setRow bE #[v]),
      p.goexit=false->(∀w3,Below w2.heap.size w2 w3->R (.returned v) (w3.setRow bE #[v]))->Leaves prog f40 a2.tmps R a2.defers (.panicking [p]) w2:=by
    intro p v hv ru hR;rw[ud];refine ag3 ahi (Rz w2) (Ei hv ?_);rintro e u' w' ⟨rfl,rfl,w3,oq,rfl⟩;have Zs:w3.heap[bE]?=some (.cells #[uE] Xj (0,0)):=(oq.block bE aq).trans hE;show Leaves prog f40 a2.tmps R [] .returning (w3.setRow bE #[v]);exact⟨v,OP u2 (B' Zs),hR w3 oq⟩
  rcases tc with⟨c,rfl,hR⟩|⟨n,rfl,hR⟩|⟨s,rfl,hR⟩
  . show Code.wpIn _ _ _ _ _ (a2.put (some 5) c) w2
    have R8:(a2.put (some 5) c).tmps.getD 2 undef=.pointer (some ⟨bE,0,none⟩):=by rw[fm _ _ _ _ zd];exact u2
    refine adB (adP ?_);show wpOpsIn _ _ _ _ _ [0] (a2.put (some 5) c) w2;obtain⟨i36,rT,sg⟩:=iZ 34 1;refine eT rfl rfl zr (iV (x:=.tmp 2) (y:=.const (.int .i64 0)) (v:=.int .i64 0) rfl R8 rT sg hE rfl rfl) ?_;show Code.wpIn _ _ _ _ _ (a2.put (some 5) c) (w2.setRow bE #[.int .i64 0]);refine afh ?_;show Leaves prog f40 (a2.put (some 5) c).tmps R a2.defers .returning (w2.setRow bE #[.int .i64 0]);rw[ud];refine ag3 ahi (Rz _) (Ei (Ih _ _) ?_);rintro e u' w' ⟨rfl,rfl,rfl⟩;exact⟨_,OP R8 (B' hE),hR⟩
  . exact y4 _ _ (Hd w2 hE n) rfl hR
  . exact y4 _ _ (Hq w2 hE s) rfl hR
def Pq(s:aI):List (List Int):=(List.range s.words.length).flatMap λd=>wL s d []
def P1{s:aI}(h:0<s.words.length):gX s []=true:=by simp[gX,gf,nQ,h]
def kL(out:List Int):Nat->List Word->List Word
 |_,[]=>[]
 |i,w::l=>if out.contains (i:Int)then kL out (i+1) l else w::kL out (i+1) l
def FW(out:List Int):∀(a b:List Word)(k:Nat),kL out k (a++b)=kL out k a++kL out (k+a.length) b
 |[],b,k=>by simp[kL]
 |x::a,b,k=>by
  have ih:=FW out a b (k+1)
  have e:k+1+a.length=k+(x::a).length:=by simp;omega
  rw[e]at ih;show(if out.contains (k:Int)then kL out (k+1) (a++b)else x::kL out (k+1) (a++b))=(if out.contains (k:Int)then kL out (k+1) a else x::kL out (k+1) a)++_;rw[ih]
  split<;>rfl
def NX(out:List Int){l:List Word}{i:Nat}(h:i<l.length):kL out 0 (l.take (i+1))=kL out 0 (l.take i)++if out.contains (i:Int)then[]else[l[i]]:=by
 rw[adp h,FW,adA,adW,agj zo]
 rfl
def sf{out:List Int}:∀{l:List Word}{k:Nat}{w:Word},w∈kL out k l->w∈l
 |[],_,_,h=>by cases h
 |x::l,k,w,h=>by
  unfold kL at h;split at h
  .exact adu _ (sf h)
  .rcases adT.1 h with h|h
   .rw[h];simp
   .exact adu _ (sf h)
def vH(out:List Int):∀(l:List Word)(k:Nat),(kL out k l).length<=l.length
 |[],_=>adl _
 |x::l,k=>by
  have:=vH out l (k+1);unfold kL
  split<;>simp<;>omega
def FA{out:List Int}:∀{l:List Word}{k:Nat},kL out k l=[]->∀i,i<l.length->((k+i:Nat):Int)∈out
 |[],_,_,i,hi=>by simp at hi
 |x::l,k,h,i,hi=>by
  unfold kL at h;split at h
  case isFalse=>cases h
  rename_i hc
  match i with
  |0=>simpa using hc
  |i+1=>
   have:=FA h i (by simpa using hi);rw[show k+(i+1)=k+1+i by omega];exact this
def count_le:∀(n:Nat)(out:List Int),(∀i,i<n->(i:Int)∈out)->n<=out.length
 |0,_,_=>ad_ _
 |n+1,out,h=>by
  have hn:=h n zo
  have:=count_le n (out.erase (n:Int)) λi hi=>(ahc zo).2 (h i zo)
  rw[agS hn]at this;have:0<out.length:=ag5 hn;omega
def Gd(s:aI)(out:List Int):aI:={ s with words:=kL out 0 s.words }
def SF{s:aI}{l:List Int}(ho:gX s l=true):1<=(Gd s l).words.length:=by
 have h1:=Ma ho;rcases afc (Gd s l).words.length with h|h
 .have h0:kL l 0 s.words=[]:=ad1 h
  have:=count_le s.words.length l λi hi=>by
   have:=FA h0 i hi;simpa using this
  omega
 .exact h
def LH{s:aI}(hs:bl s=true){l:List Int}(ho:gX s l=true):bl (Gd s l)=true:=by
 have hn:=SF ho;have hl:=vH l s.words 0;unfold bl tU at hs⊢;simp only[adk,aeh]at hs⊢;obtain⟨⟨⟨⟨h1,h2⟩,h3⟩,h4⟩,⟨⟨⟨⟨⟨⟨e1,e2⟩,e3⟩,e4⟩,e5⟩,e6⟩,e7⟩⟩:=hs;refine⟨⟨⟨⟨h1,h2⟩,?_⟩,h4⟩,⟨⟨⟨⟨⟨⟨e1,e2⟩,e3⟩,e4⟩,?_⟩,e6⟩,e7⟩⟩
 .unfold da at h3⊢;simp only[adk,adr]at h3⊢;have:(Gd s l).words.length<=s.words.length:=hl;omega
 .rw[aeg]at e5⊢;intro w hw;exact e5 w (sf hw)
end Go.Proofs.Tryz
namespace Go.Proofs.Tryz
open Go Go.AL Go.RowKit Go.Proofs Go.Proofs.Tram
variable{GI:World->Prop}
def oR{Pr:Nat->Nat->Prop}{al:Nat->Option Nat}{w:World}{l:List UInt8}{c:Value}(h:RV Pr al w (.str l) c):c=.string ⟨l.toArray⟩:=by
 cases h with
 |data _ _ h=>cases h;rfl
def strs(ls:List (List UInt8)):AV:=.slice .view (ls.map .str)
def J0(pD:∀w,GI w->∃m,w.cell? ⟨1,0,none⟩=some (.int .i64 m))(s:List UInt8)(c:UInt8)(hs:s.length<4294967281):AC prog GI 86 [.str s,.str [c]] (.ret (strs (aZ c s))):=by
 intro w old bP hG hl hr
 obtain⟨v1,v2,rfl⟩:∃v1 v2,bP=#[v1,v2]:=by
  have h2:bP.size=2:=hl.symm;refine⟨bP[0],bP[1],?_⟩;apply aeP
  .simp[h2]
  .intro i h h'
   match i,h' with
   |0,_=>rfl
   |1,_=>rfl
 have e1:=oR (hr 0 ahi ahi);have e2:=oR (hr 1 ahi ahi);simp only[List.getElem_toArray,List.getElem_cons_zero,List.getElem_cons_succ]at e1 e2;subst e1 e2;obtain⟨m,hm⟩:=pD w hG;refine(Tryz.strings_Split ⟨s.toArray⟩ ⟨[c].toArray⟩ m w hs hm (adl _)).mono ?_;rintro e w' ⟨rfl,rfl⟩;have Gk:Lib.countB ⟨s.toArray⟩ ⟨[c].toArray⟩=s.count c:=Lib.count_one c s;have FH:=Lib.splitB_data ⟨[c].toArray⟩ 0 (s.count c) ⟨s.toArray⟩;have FH:(Lib.splitB ⟨[c].toArray⟩ 0 (s.count c) ⟨s.toArray⟩).map (·.data.toList)=aZ c s:=FH.trans (zW c s);have eF:=Lib.splitB_all ⟨[c].toArray⟩ (adl _) 0 (s.count c) ⟨s.toArray⟩ Gk;rw[Gk];generalize Lib.splitB ⟨[c].toArray⟩ 0 (s.count c) ⟨s.toArray⟩=ps at FH eF;rw[<-eF]
 have TZ:ps.length=((aZ c s).map AV.str).length:=by rw[<-FH];simp
 refine⟨(aej _ w).alloc (adl _) _,λb=>if b=w.heap.size then ps.length else 0,λb hb=>?_,_,rfl,.data _ _ ?_,trivial⟩
 .show(if b=w.heap.size then ps.length else 0)=0;rw[World.size_alloc]at hb;rw[if_neg zo]
 .unfold strs;rw[TZ];refine UP (es:=(aZ c s).map AV.str) (size:=1) (aee w _) (by simp;rw[<-FH];simp) (λe he=>?_) (λk hk=>.inr ⟨adl _,?_⟩) (λi h j hj=>?_)
  .obtain⟨x,_,rfl⟩:=adF.1 he;exact⟨rfl,λc hc=>by simp only[AV.cells,adJ]at hc;subst hc;rfl⟩
  .show k<(if w.heap.size=w.heap.size then((aZ c s).map AV.str).length else 0);rw[if_pos rfl,<-TZ];simpa using hk
  .have hi:i<ps.length:=by rw[TZ];exact h
   have hx:((aZ c s).map AV.str)[i]=.str ps[i].data.toList:=by simp[<-FH]
   have CJ:j=0:=by
    have:(((aZ c s).map AV.str)[i]).cells.length=1:=by rw[hx];rfl
    omega
   subst CJ
   have hc:(((aZ c s).map AV.str)[i]).cells[0]=.str ps[i].data.toList:=by simp only[hx];rfl
   rw[hc]
   have:((ps.map Value.string).toArray.getD (i*1+0) undef)=.string ps[i]:=by simp[hi]
   rw[this];exact .str _
def Ud{n:Nat}{bP:Array Value}(hl:n=bP.size)(h:n=1):∃v,bP=#[v]:=by
 refine⟨bP[0]' zo,?_⟩;apply aeP
 .simp;omega
 .intro i hi h'
  match i,h' with
  |0,_=>rfl
def Zz{n:Nat}{bP:Array Value}(hl:n=bP.size)(h:n=2):∃v1 v2,bP=#[v1,v2]:=by
 refine⟨bP[0]' zo,bP[1]' zo,?_⟩;apply aeP
 .simp;omega
 .intro i hi h'
  match i,h' with
  |0,_=>rfl
  |1,_=>rfl
def uH:Nat->Nat->List UInt8
 |0,_=>[]
 |f+1,u=>if u<10 then[UInt8.ofNat (48+u)]else uH f (u/10)++[UInt8.ofNat (48+u % 10)]
def C':∀(f u:Nat),0<f->u<10^f->Lib.decDigits u=uH f u
 |0,_,h,_=>zo
 |f+1,u,_,h=>by
  rw[Lib.decDigits,uH];split
  .rfl
  .rename_i pB
   cases f with
   |zero=>simp at h;omega
   |succ f=>rw[C' (f+1) (u/10) zo (by rw[Nat.pow_succ]at h;exact ahd (by rw[ae6];exact h))]
def uU(ls:List (List UInt8))(sep:List UInt8)(hn:ls.length<=100000)(hlen:(Lib.join ls sep).length<=140737488355328):AC prog GI 121 [strs ls,.str sep] (.ret (.str (Lib.join ls sep))):=by
 intro w old bP hG hl hr;obtain⟨v1,v2,rfl⟩:=Zz hl rfl;have e1:=(hr 0 ahi ahi).dW rfl;have e2:=oR (hr 1 ahi ahi);simp only[List.getElem_toArray,List.getElem_cons_zero,List.getElem_cons_succ]at e1 e2;subst e2;unfold strs at e1;generalize nV:ls.map AV.str=es at e1
 have hle:es.length=ls.length:=by rw[<-nV];simp
 have fin:∀{w':World}{l:List UInt8},Below w.heap.size w w'->l=Lib.join ls sep->AL.Ends prog old w (.ret (.str (Lib.join ls sep))) (.returned (.string ⟨l.toArray⟩)) w':=by
  rintro w' l hb rfl;exact⟨hb,λ_=>0,λ_ _=>rfl,_,rfl,.data _ _ (.str _),trivial⟩
 have emp:∀(a:Option Addr)(c:Nat),ls=[]->Calls prog 121 #[.slice a 0 c,.string ⟨sep.toArray⟩] w (AL.Ends prog old w (.ret (.str (Lib.join ls sep)))):=by
  rintro a c rfl;refine(Tryz.strings_Join_none a c ⟨sep.toArray⟩ w).mono ?_;rintro e w' ⟨rfl,rfl⟩;exact fin (l:=[]) (aej _ _) rfl
 cases e1 with
 |iB=>exact emp none 0 (ad1 (by rw[<-hle];rfl))
 |jx _ a0=>exact emp (some a0) 0 (ad1 (by rw[<-hle];rfl))
 |slice _ _ b off cap size cs fh uv bj h1 hc js=>
  by_cases h0:ls=[]
  .have wi:es.length=0:=by rw[hle,h0];rfl
   rw[wi];exact emp _ _ h0
  .have iK:0<ls.length:=aew.2 h0
   have ib:∀j (h:j<es.length),es[j]=.str (ls[j]' zo):=λj h=>by simp[<-nV]
   have xB:size=1:=by rw[<-bj 0 zo,ib];rfl
   subst xB
   have eV:∀j (h:j<ls.length),w.cell? ⟨b,off+j,none⟩=some (.string ⟨ls[j].toArray⟩):=λj h=>by
    rw[(hc j zo).2]
    have hz:0<(es[j]' zo).cells.length:=by rw[bj j zo];omega
    have h2:=js j zo 0 hz
    have h3:((es[j]' zo).cells[0]'hz)=.str ls[j]:=by simp only[ib j zo];rfl
    rw[h3]at h2;have e:=oR (RV.data (al:=cQ) _ _ h2);simp only[ae4,Nat.add_zero]at e;rw[e]
   have hb:b<w.heap.size:=aft _ _ (eV 0 iK)
   have O6:(ls.map λl=>(⟨l.toArray⟩:ByteArray)).map (·.data.toList)=ls:=by rw[aeu];simp[Function.comp_def]
   have WV:=Tryz.strings_Join b off cap (ls.map λl=>(⟨l.toArray⟩:ByteArray)) ⟨sep.toArray⟩ w (λj x hx=>by
    simp only[adO,adv]at hx;obtain⟨l,HU,rfl⟩:=hx;obtain⟨hj,rfl⟩:=adG.1 HU
    exact eV j hj) hb (by simp;omega) (by simp;omega) (by rw[O6];exact hlen)
   rw[O6,adn]at WV;rw[hle];refine WV.mono ?_;rintro e w' ⟨rfl,hb⟩;exact fin hb rfl
def GB(hG:ar GI)(s:List UInt8):AC prog GI 128 [.bool true,.str s] (.ret (.dR [])):=by
 refine cw hG func128 ntmps128 c128 ?_;simp[c128,bD,bp,aF,ba,aD,ev,aP.S,aP.H,bw,dk,au,aX,AL.start,AV.aJ,dS,post,cM,dc,de,AV.out,AV.cg]
def wrap32{n:Int}(h: -2147483648<=n/\n<2147483648):IntKind.i32.wrap n=n:=by
 have key:∀m:Int,m=n % 4294967296->(if decide (m>=2147483648)=true then m-4294967296 else m)=n:=by
  intro m hm;split
  .rename_i hd;have:=afi hd;omega
  .rename_i hd
   have Zp:¬m>=2147483648:=λhh=>hd (af2 hh)
   omega
 exact key _ rfl
def dp(w:List UInt8):Int:=w.foldl (λn c=>10*n+((c.toNat:Int)-48)) 0
def digit(c:UInt8):Prop:=48<=c.toNat/\c.toNat<=57
def El(w:List UInt8)(c:UInt8):dp (w++[c])=10*dp w+((c.toNat:Int)-48):=by simp[dp,aem]
def uI:∀(w:List UInt8),(∀c∈w,digit c)->w.length<=3->0<=dp w/\dp w<1000
 |[],_,_=>by simp[dp]
 |[a],h,_=>by have:=h a ahi;unfold digit at this;simp[dp];omega
 |[a,b],h,_=>by have h1:=h a ahi;have h2:=h b ahi;unfold digit at h1 h2;simp[dp];omega
 |[a,b,c],h,_=>by have h1:=h a ahi;have h2:=h b ahi;have h3:=h c ahi;unfold digit at h1 h2 h3;simp[dp];omega
 |_::_::_::_::_,_,h=>by simp at h
def oK(cc:Nat->Nat->Prop)(w:World)(k:Nat->Option Obj):Old:={ Old.plain cc w with aV:=k }
def xW(l:List Int):AV:=.slice (if l.isEmpty then .nil else .own 3) (ints l)
def iR(ws:List (List UInt8))(j:Nat)(S:an)(_:ao):Prop:=
 S 3=xW ((ws.take j).map dp)/\S 9=strs ws/\S 10=.int .i64 ws.length/\S 11=.int .i64 (j:Nat)
noncomputable def fu:ah:=ah.qb c131.qb.qb.qa.qb.qb
noncomputable def gC:ah:=ah.qb fu.qb.qb.qa
noncomputable def kP:ah:=ah.qb gC.qb.qb.qa.qb.qb
def zj(a:Act)(d:Nat)(c c':Value):(a.put (some d) c).put (some d) c'=a.put (some d) c':=by
 simp[Act.put]
def Tm (hG:ar GI) {w0:World} {n:Nat} {g:Gh} {S:an} {H:ao} {a:Act} {w:World} {d i1 i4:Nat} {s:List UInt8} {z x:List AV} (cq:GI w0) (R:Rel prog w0 n bL g S H a w) (hd:d < n) (Eg:i1 < n) (Ej:i4 < n) (Nk:d≠i4)
  (Eh:S i1=.box i1 0) (Di:H i1=some [.str s]) (Az:S i4=.box i4 0) (EI:H i4=some z) (hz:z.length=10) (hx:x.length=10) (sr:AC prog GI 94 [.str s] (.ret (.agg x))):
  Calls prog 93 #[a.tmps.getD i1 undef,a.tmps.getD i4 undef] w λe w2=>e=.returned (.tuple #[])/\∃(c:Value)(g':Gh)(S':an)(H':ao),g'.old=g.old/\Rel prog w0 n bL g' S' H' (a.put (some d) c) w2/\(∀t,t≠d->S' t=S t)/\H'=au H i4 (some (x.map AV.aJ)):=by
 have bj:=R.size;have v1:=R.slot i1 Eg id;rw[Eh]at v1;have v4:=R.slot i4 Ej id;rw[Az]at v4
 obtain⟨b1,e1,yn⟩:∃b,a.tmps.getD i1 undef=.pointer (some ⟨b,0,none⟩)/\g.al i1=some b:=by
  generalize a.tmps.getD i1 undef=c at v1
  cases v1 with
  |data _ _ h=>cases h
  |box _ _ b h=>exact⟨b,rfl,h⟩
 obtain⟨b4,e4,acm⟩:∃b,a.tmps.getD i4 undef=.pointer (some ⟨b,0,none⟩)/\g.al i4=some b:=by
  generalize a.tmps.getD i4 undef=c at v4
  cases v4 with
  |data _ _ h=>cases h
  |box _ _ b h=>exact⟨b,rfl,h⟩
 obtain⟨cs,vs,ty,k0,k1,k2,k3,k4,k5,k6,k7,k8⟩:=R.box i1 b1 yn;rw[Di]at k0;cases k0
 have h0:0<vs.size:=by rw[<-k5];exact agY
 have hv:=oR (RV.data (al:=cQ) _ _ (k6 0 ahi h0))
 have eV:w.cell? ⟨b1,0,none⟩=some (.string ⟨s.toArray⟩):=by simp[World.cell?,k2,h0,hv]
 have uw:=R.below
 have hle:g.base<=w.heap.size:=by rw[R.base];exact R.below.size
 rw[R.base]at uw;have gj:GI w:=hG w0 w cq uw;rw[e1,e4];refine afo func93 rfl ?_;refine(fo (m:=0)).1 ?_;refine hZ (λa=>a.tmps.size=4/\a.defers=[]/\a.tmps.getD 0 undef=.pointer (some ⟨b1,0,none⟩)/\a.tmps.getD 1 undef=.pointer (some ⟨b4,0,none⟩)) ⟨by simp[ntmps93],rfl,cH _ _ 0 ahi,cH _ _ 1 ahi⟩ ?_;rintro aC ⟨zC,dC,t0,t1⟩
 have fm:∀(a:Act)(d t:Nat)(c:Value),t≠d->(a.put (some d) c).tmps.getD t undef=a.tmps.getD t undef:=λa d t c h=>by
  simp[Act.put,adt (ad6 h)]
 have jK:∀(a:Act)(d:Nat)(c:Value),a.tmps.size=4->d<4->(a.put (some d) c).tmps.getD d undef=c:=λa d c h hd=>by
  simp[Act.put,h,hd]
 refine adP ?_;show wpOpsIn _ _ _ _ _ [0,1,2] aC w;refine bg rfl rfl zr (jV (t:=9) (d:=.string) (b:=b1) (off:=0) rfl t0 zk rfl eV) ?_;show wpOpsIn _ _ _ _ _ [1,2] (aC.put (some 2) (.string ⟨s.toArray⟩)) w
 refine gk rfl rfl zr (gn (k:=94) (args:=#[.string ⟨s.toArray⟩]) w rfl rfl ?_ zk) (sr w (fC g false) #[.string ⟨s.toArray⟩] gj rfl (λi h h'=>by
  match i,h with
  |0,_=>exact .data _ _ (.str s))) ?_
 .simp only[adV,ady,adR];show #[(aC.put (some 2) _).tmps.getD 2 undef]=_;rw[jK _ _ _ zC zd]
 rintro e w2 ⟨iY,hi,qi,c,rfl,MR,cV⟩;refine⟨c,rfl,?_⟩;obtain⟨g',mL,ru,R2⟩:=R.call (some d) (λt ht=>by cases ht;exact⟨hd,id⟩) false iY qi MR cV (λh=>by cases h);obtain⟨i28,r_,sG⟩:=iZ 29 10
 let oS:Oper:={ dst:=none,op := .store 29 (.tmp i4) (.tmp d),type:=0,pos := "",after := #[],guard:=none }
 have l8:bB z 0 (x.map AV.aJ)=x.map AV.aJ:=by simp[bB,hz,hx]
 have jZ:aD (AL.aX S (some d) (.agg x)) H (.store .any i28.size (.t i4) (.t d))=some { v:=cz,dm:=some d,hw:=some (i4,x.map AV.aJ) }:=by
  simp[aD,AL.aX,ev,au,ad6 Nk,Az,EI,HR.okB,AV.cells,AV.storable,AV.cy,sG,hx,hz,bw,l8]
 obtain⟨c2,w3,g3,dz,TP,Ch,R3⟩:=mZ R2 (o:=oS) (x1:=.tmp i4) (x2:=.tmp d) (y1:=.t i4) (y2:=.t d) (hr:=.any) rfl rfl r_ (by simp[du,Ej]) (by simp[du,hd]) (λ_ _=>id) (λ_ _=>id) jZ;show wpOpsIn _ _ _ _ _ [2] ((aC.put (some 2) (.string ⟨s.toArray⟩)).put (some 3) c) w2
 obtain⟨a3,Td⟩:∃a3,(aC.put (some 2) (.string ⟨s.toArray⟩)).put (some 3) c=a3:=⟨_,rfl⟩
 rw[Td]
 have z3:a3.tmps.size=4:=by rw[<-Td,lX,lX];exact zC
 have d3:a3.defers=[]:=by rw[<-Td];exact dC
 have e31:a3.eval (.tmp 1)=.pointer (some ⟨b4,0,none⟩):=by
  rw[<-Td,ck _ _ _ _ (by rw[lX];omega),if_neg zd,ck _ _ _ _ zo,if_neg zd];exact t1
 have e33:a3.eval (.tmp 3)=c:=by rw[<-Td,ck _ _ _ _ (by rw[lX];omega),if_pos rfl]
 have f4:(a.put (some d) c).eval (.tmp i4)=.pointer (some ⟨b4,0,none⟩):=by rw[ck _ _ _ _ zo,if_neg (ad6 Nk)];exact e4
 have fd:(a.put (some d) c).eval (.tmp d)=c:=by rw[ck _ _ _ _ zo,if_pos rfl]
 have bn:∀o:Oper,o.op=.store 29 (.tmp 1) (.tmp 3)->(execOp a3.eval o).run prog w2=(execOp (a.put (some d) c).eval oS).run prog w2:=by
  intro o ho;unfold execOp;simp only[ho,e31,e33,oS,f4,fd]
 have fin:∀ops,wpOpsIn (FR none) 0 prog ops (bodyPost prog f93 λe w2=>e=.returned (.tuple #[])/\∃(c:Value)(g':Gh)(S':an)(H':ao),g'.old=g.old/\Rel prog w0 n bL g' S' H' (a.put (some d) c) w2/\(∀t,t≠d->S' t=S t)/\H'=au H i4 (some (x.map AV.aJ))) [] a3 w3:=by
  intro ops;refine⟨d3,.tuple #[],?_,rfl,c,g3,_,_,by rw[Ch,ru],R3,λt ht=>?_,rfl⟩
  .simp[results,results93]
  .simp[aP.S,AL.aX,au,ht,oS]
 rcases dz with dz|⟨dz,rfl⟩
 .refine bg rfl rfl zr ((bn _ rfl).trans dz) (fin _)
 .refine eT rfl rfl zr ((bn _ rfl).trans dz) (fin _)
def tJ{P:Program}{w0:World}{n:Nat}{g:Gh}{S:an}{H:ao}{a:Act}{w:World}(R:Rel P w0 n bL g S H a w)(b:Nat):Rel P w0 n bL { g with old:={ g.old with aV:=au g.old.aV b none } } S H a w:={
 size:=R.size
 defers:=R.defers
 facts:=R.facts
 slot:=R.slot
 own t ht hu:=(R.own t ht hu).aV rfl λb hb=>⟨rfl,rfl,hb⟩
 box i c hi:=by
  obtain⟨cs,vs,ty,h1,h2,h3,h4,h5,h6,h7,h8,h9⟩:=R.box i c hi;exact⟨cs,vs,ty,h1,h2,h3,h4,h5,h6,h7,λj hj dU=>(h8 j hj dU).aV rfl λb hb=>⟨rfl,rfl,hb⟩,h9⟩
 jQ:=R.jQ
 jX:=R.jX
 inj:=R.inj
 base:=R.base
 below:=R.below
 fresh:=R.fresh
 still:=R.still
 grown:=R.grown
 kept c o h:=by
  have hc:c≠b:=by rintro rfl;simp[au]at h
  exact R.kept c o (by simpa[au,hc]using h) }
def I7 (hG:ar GI) {w0:World} {n:Nat} {g:Gh} {S:an} {H:ao} {a:Act} {w:World} {d i1 i4:Nat} {s:List UInt8} {z x:List AV} (cq:GI w0) (R:Rel prog w0 n bL g S H a w) (hd:d < n) (Eg:i1 < n) (Ej:i4 < n) (Nk:d≠i4)
  (Eh:S i1=.box i1 0) (Di:H i1=some [.str s]) (Az:S i4=.box i4 0) (EI:H i4=some z) (hz:z.length=10) (hx:x.length=10) (sr:AC prog GI 94 [.str s] (.ret (.agg x))):
  Calls prog 92 #[.func (.func 93) #[] #[a.tmps.getD i1 undef,a.tmps.getD i4 undef]] w λe w2=>e=.returned (.int .i64 0)/\∃(c:Value)(g':Gh)(S':an)(H':ao),g'.old=g.old/\Rel prog w0 n bL g' S' H' (a.put (some d) c) w2/\(∀t,t≠d->S' t=S t)/\H'=au H i4 (some (x.map AV.aJ)):=by
 have R1:=R.nx (.cells #[.int .i64 0] 34)
 have zl:g.old.aV w.heap.size=none:=by
  cases h:g.old.aV w.heap.size with
  |none=>rfl
  |some o=>
   have:=(adj.1 (R.kept _ o h).2.1).1;omega
 refine qA zk (Tm hG cq R1 hd Eg Ej Nk Eh Di Az EI hz hx sr) ?_;rintro e w2 ⟨rfl,c,g',S',H',ho,R2,qN,ur⟩
 have hk:g'.old.aV w.heap.size=some (.cells #[.int .i64 0] 34):=by rw[ho];exact aO _ _ _
 have kB:=(R2.kept _ _ hk).2.1;have aq:=(adj.1 kB).1;refine⟨aq,⟨_,_,kB⟩,.inl ⟨_,rfl,rfl,c,_,S',H',?_,(tJ R2 w.heap.size).jU ?_,qN,ur⟩⟩
 .show({ g'.old with aV:=au g'.old.aV w.heap.size none }:Old)=_;rw[ho]
  have:au (au g.old.aV w.heap.size (some (.cells #[.int .i64 0] 34))) w.heap.size none=g.old.aV:=by
   funext b
   by_cases hb:b=w.heap.size
   .subst hb;simp[au,zl]
   .simp[au,hb]
  show({ g.old with aV:=au (au g.old.aV w.heap.size (some (.cells #[.int .i64 0] 34))) w.heap.size none }:Old)=_;rw[this]
 .refine⟨rfl,rfl,rfl,ahi,λk cE=>?_⟩
  by_cases hb:k=w.heap.size
  .subst hb;rw[ae3 w2 _ _ _ _ _ kB,kB]
  .exact aes w2 _ k _ hb
def aa1 (hG:ar GI) {s:List UInt8} {x:List AV} (hs:s.length≤320) (hx:x.length=10) (sr:AC prog GI 94 [.str s] (.ret (.agg x))) (Ro:AC prog GI 44 [.agg (x.map AV.cI)] (.ret (.bool true))) :
  AC prog GI 43 [.str s] (.ret (.dR [.agg (x.map AV.cI),.int .i64 0])):=by
 refine AC.jF func43 rfl ntmps43 ahi λcc w=>?_
 refine dX hG c43.qa (λS' H'=>S' 1=.box 1 0/\S' 2=.box 2 0/\H' 1=some [.str s]/\∃z,H' 2=some z/\z.length=10) ?_ ?_
 .simp[c43,ah.qa,bD,bp,aF,ba,aD,ev,aP.S,aP.H,au,aX,AL.start,AV.aJ,AV.cells,AV.storable,cd,bw,aN]
 rintro S1 H1 ⟨s1,s2,h1,z2,h2,RS⟩;refine SW.seq (dX hG c43.qb.qa.qa (λS' H'=>S' 1=.box 1 0/\S' 2=.box 2 0/\H' 1=some [.str s]/\H' 2=some z2/\S' 8=.bool false) ?_ ?_)
 .have Sc:¬(320:Int)<s.length:=zo
  simp[c43,ah.qa,ah.qb,bD,bp,aF,ba,aD,ev,aP.S,aP.H,au,aX,s1,s2,h1,h2,cb,HR.okB,AV.aJ,dS,Sc,aN]
 rintro S2 H2 ⟨s1,s2,h1,h2,s8⟩;refine SW.cond rfl false (by show S2 8=_;rw[s8]) (SW.skip ?_);show SW prog GI 21 none (.seq _ (.seq (.seq _ (.seq _ (.cond _ _ _))) (.seq (.seq _ (.cond _ _ _)) (.seq _ .ret)))) _ _ _ _;refine dX hG c43.qb.qb.qa (λS' H'=>S' 1=.box 1 0/\S' 2=.box 2 0/\S' 4=.box 4 0/\H' 1=some [.str s]/\H' 2=some z2/\∃z,H' 4=some z/\z.length=10) ?_ ?_
 .simp[c43,ah.qa,ah.qb,bD,bp,aF,ba,au,cd,s1,s2,h1,h2,aN]
 rintro S3 H3 ⟨s1,s2,s4,h1,h2,z4,h4,Qt⟩
 refine SW.seq (SW.seq (SW.hand hG (p:=0) (lm:=[0,1]) (l2:=[2]) (kj:=[]) (oh:=[_,_]) (nk:=[_]) rfl rfl rfl rfl zk (λ_ h=>h) (n9:=[]) (np:=(c43.qb.qb.qb.qa.qa.dl).drop 2) rfl zk rfl zk
  (K1:=λS' H'=>S' 1=.box 1 0/\S' 2=.box 2 0/\S' 4=.box 4 0/\H' 1=some [.str s]/\H' 2=some z2/\H' 4=some z4)
  (K2:=λo S' H'=>o=Old.plain cc w/\S' 2=.box 2 0/\S' 4=.box 4 0/\S' 11=.int .i64 0/\H' 2=some z2/\H' 4=some (x.map AV.aJ))
  (K3:=λo S' H'=>o=Old.plain cc w/\S' 2=.box 2 0/\S' 4=.box 4 0/\S' 5=.int .i64 0/\H' 2=some z2/\H' 4=some (x.map AV.aJ)) ⟨s1,s2,s4,h1,h2,h4⟩ ?_ ?_ ?_))
 .rintro w0 g S5 H5 a w5 m cq ho R ⟨s1,s2,s4,h1,h2,h4⟩;have bj:=R.size;refine bg rfl rfl zr (mr (fn:=.func 93) (c:=#[.tmp 1,.tmp 4]) rfl) ?_
  obtain⟨fv,lZ⟩:∃fv:Value,fv=.func (.func 93) #[] (#[Operand.tmp 1,.tmp 4].map a.eval):=⟨_,rfl⟩
  show wpOpsIn _ _ _ _ _ [1] (a.put (some 10) (.func (.func 93) #[] (#[Operand.tmp 1,.tmp 4].map a.eval))) w5;rw[<-lZ];have R1:=R.put 10 .bo fv zd (.bo _) trivial
  obtain⟨a1,nu⟩:∃a1,a.put (some 10) fv=a1:=⟨_,rfl⟩
  rw[nu]at R1⊢
  have vf:fv=.func (.func 93) #[] #[a1.tmps.getD 1 undef,a1.tmps.getD 4 undef]:=by
   have e1:=ck a 10 1 fv zo;have e4:=ck a 10 4 fv zo;rw[if_neg zd,nu]at e1 e4;have yp:a1.tmps.getD 1 undef=a.eval (.tmp 1):=e1;have Cj:a1.tmps.getD 4 undef=a.eval (.tmp 4):=e4;rw[yp,Cj,lZ];simp only[adV,ady,adR]
  have jr:a1.eval (.tmp 10)=fv:=by rw[<-nu,ck _ _ _ _ zo,if_pos rfl]
  refine gk rfl rfl zr (gn (k:=92) (args:=#[.func (.func 93) #[] #[a1.tmps.getD 1 undef,a1.tmps.getD 4 undef]]) w5 rfl rfl ?_ zk) (I7 hG cq R1 (d:=11) (i1:=1) (i4:=4) zd zd zd zd (by simp[au,s1]) h1 (by simp[au,s4]) h4 Qt hx sr) ?_
  .simp only[adV,ady,adR,jr,<-vf]
  .rintro e w6 ⟨rfl,c,g',S',H',oV,R2,qN,ur⟩;refine⟨_,rfl,?_⟩;have R3:=R2.put 11 (.int .i64 0) (.int .i64 0) zd (.data _ _ (.int _ _)) trivial;rw[zj]at R3;refine⟨g',_,H',R3,oV.trans ho,?_,?_,aO _ _ _,?_,?_⟩
   .show au S' 11 _ 2=_;rw[aQ _ _ zd,qN 2 zd];simp[au,s2]
   .show au S' 11 _ 4=_;rw[aQ _ _ zd,qN 4 zd];simp[au,s4]
   .rw[ur,aQ _ _ zd];exact h2
   .rw[ur];exact aO _ _ _
 .rintro o S5 H5 ⟨rfl,s2,s4,bC,h2,h4⟩;refine⟨λ_ h=>h,?_⟩;simp[c43,ah.qa,ah.qb,ah.dl,bp,aF,ba,aD,ev,aP.S,aP.H,au,aX,s2,s4,bC,h2,h4,AV.aJ,bw]
 .rintro o S5 H5 ⟨rfl,s2,s4,s5,h2,h4⟩;refine dX hG c43.qb.qb.qb.qa.qb.qa (λS' H'=>S' 2=.box 2 0/\S' 4=.box 4 0/\S' 13=.bool false/\H' 2=some z2/\H' 4=some (x.map AV.aJ)) ?_ ?_
  .simp[c43,ah.qa,ah.qb,bD,bp,aF,ba,aD,ev,aP.S,aP.H,au,aX,s2,s4,s5,h2,h4,AV.aJ,dS,aN]
  rintro S6 H6 ⟨s2,s4,dH,h2,h4⟩;refine SW.cond rfl false (by show S6 13=_;rw[dH]) (SW.skip ?_);have Bc:List.take 10 (x.map AV.aJ)=x.map AV.aJ:=ado (by simp;omega)
  have e7:∀(l:List AV) H,fz H (.agg (l.map AV.aJ))=.agg (l.map AV.cI):=λl H=>by simp only[fz,gZ,AV.vw,aeu,oX]
  refine SW.seq (dX hG c43.qb.qb.qb.qb.qa.qa (λS' H'=>S' 2=.box 2 0/\S' 4=.box 4 0/\S' 18=.bool false/\H' 2=some z2/\H' 4=some (x.map AV.aJ)) ?_ ?_)
  .simp[c43,ah.qa,ah.qb,bD,bp,aF,ba,aD,ev,aP.S,aP.H,au,aX,s2,s4,h2,h4,cb,HR.okB,hx,iH,Bc,e7,aN];refine oc Ro ?_;simp[eN,au,s2,s4,h2,h4]
  rintro S7 H7 ⟨s2,s4,kV,h2,h4⟩;refine SW.cond rfl false (by show S7 18=_;rw[kV]) (SW.skip ?_);refine dX hG c43.qb.qb.qb.qb.qb.qa (λS' H'=>S' 2=.box 2 0/\S' 3=.int .i64 0/\H' 2=some (x.map AV.aJ)) ?_ ?_
  .have Mq:List.drop 10 z2=[]:=aey zo;simp[c43,ah.qa,ah.qb,bD,bp,aF,ba,aD,ev,aP.S,aP.H,au,aX,s2,s4,h2,h4,cb,HR.okB,hx,iH,Bc,AV.cells,AV.storable,AV.cy,bB,bw,RS,Mq,aN,AV.aJ]
  rintro S8 H8 ⟨s2,s3,h2⟩;obtain⟨i28,r_,sG⟩:=iZ 29 10;obtain⟨fs,fw⟩:=uZ 29;refine SW.ret ⟨ep.plain rfl,rfl,_,?_,rfl⟩;show cM prog 21 [.cell 2 29,.tmp 3] S8 H8=_;simp[cM,dc,de,s2,s3,h2,r_,fw,sG,cb,ef,hx,AV.out,iH,oX,Bc,AV.cg,AV.vw,AV.cI,aeu]
end Go.Proofs.Tryz
namespace Go.Proofs.Tryz
open Go.AL
def fb(c:UInt8):List (List UInt8)->List UInt8
 |[]=>[]
 |[p]=>p
 |p::q::r=>p++c::fb c (q::r)
def ij(c:UInt8)(p:List UInt8){l:List (List UInt8)}(h:l≠[]):fb c (p::l)=p++c::fb c l:=by
 cases l with
 |nil=>exact absurd rfl h
 |cons a l=>rfl
def o8{c:UInt8}:∀{p l:List UInt8},¬c∈p->aZ c (p++c::l)=p::aZ c l
 |[],l,_=>by
  show(if c=c then[]::aZ c l else _)=_;rw[if_pos rfl]
 |b::p,l,h=>by
  have hb:b≠c:=λe=>h (e▸adx)
  show(if b=c then[]::aZ c (p++c::l)else match aZ c (p++c::l)with|[]=>[[b]]|p::ps=>(b::p)::ps)=_;rw[if_neg hb,o8 (λe=>h (adu _ e))]
def A3{c:UInt8}:∀{p:List UInt8},¬c∈p->aZ c p=[p]
 |[],_=>rfl
 |b::p,h=>by
  have hb:b≠c:=λe=>h (e▸adx)
  show(if b=c then[]::aZ c p else match aZ c p with|[]=>[[b]]|p::ps=>(b::p)::ps)=_;rw[if_neg hb,A3 (λe=>h (adu _ e))]
def Bq(c:UInt8):∀l:List UInt8,fb c (aZ c l)=l
 |[]=>rfl
 |b::l=>by
  have ih:=Bq c l;show fb c (if b=c then[]::aZ c l else match aZ c l with|[]=>[[b]]|p::ps=>(b::p)::ps)=_;have hn:=sI c l;split
  .rename_i h;rw[ij c _ hn,ih,h];rfl
  .cases hs:aZ c l with
   |nil=>exact absurd hs hn
   |cons p ps=>
    rw[hs]at ih;simp only
    cases ps with
    |nil=>exact congrArg (b::·) ih
    |cons q ps=>exact congrArg (b::·) ih
def aW(n:Int):List UInt8:=uH 20 n.toNat
def dg(n:Nat):UInt8:=UInt8.ofNat (48+n)
def rm{n:Nat}(h:n<10):(dg n).toNat=48+n:=by
 unfold dg;simp;omega
def qD{n:Nat}(h:n<10):uH 20 n=[dg n]:=by
 show(if n<10 then[UInt8.ofNat (48+n)]else _)=_;rw[if_pos h];rfl
def yC{n:Nat}(h0:10<=n)(h:n<100):uH 20 n=[dg (n/10),dg (n % 10)]:=by
 show(if n<10 then _ else uH 19 (n/10)++[UInt8.ofNat (48+n % 10)])=_;rw[if_neg zo];show(if n/10<10 then[UInt8.ofNat (48+n/10)]else _)++_=_;rw[if_pos zo];rfl
def xl{n:Nat}(h0:100<=n)(h:n<1000):uH 20 n=[dg (n/100),dg (n/10 % 10),dg (n % 10)]:=by
 show(if n<10 then _ else uH 19 (n/10)++[UInt8.ofNat (48+n % 10)])=_;rw[if_neg zo];show(if n/10<10 then _ else uH 18 (n/10/10)++[UInt8.ofNat (48+n/10 % 10)])++_=_;rw[if_neg zo];show((if n/10/10<10 then[UInt8.ofNat (48+n/10/10)]else _)++_)++_=_;rw[if_pos zo,show n/10/10=n/100 by omega];rfl
def dY(n:Int):Prop:=0<=n/\n<=999
def yZ:∀{w:List UInt8},(∀c∈w,digit c)->w.length<=3->dY (dp w)
 |[],_,_=>by simp[dp,dY]
 |[a],h,_=>by
  have h1:=h a ahi;unfold digit at h1;simp only[dp,List.foldl,dY];omega
 |[a,b],h,_=>by
  have h1:=h a ahi;have h2:=h b ahi;unfold digit at h1 h2;simp only[dp,List.foldl,dY];omega
 |[a,b,c],h,_=>by
  have h1:=h a ahi;have h2:=h b ahi;have h3:=h c ahi;unfold digit at h1 h2 h3;simp only[dp,List.foldl,dY];omega
 |_::_::_::_::_,_,h=>by simp at h
def mP:List UInt8:=[102,114,111,110,116]
def mT:List UInt8:=[115,112,97,99,101,115]
def nt:List UInt8:=[115,105,103,110]
def nw:List UInt8:=[112,97,105,114]
def mq:List UInt8:=[119,111,114,100]
def fO(nm:List UInt8)(l:List (List UInt8)):List UInt8:=fb 32 (nm::l)
def fg(l:List Int):List UInt8:=if l=[]then[45]else fb 44 (l.map aW)
def iP(b:Bool):List UInt8:=if b then[121,101,115]else[110,111]
def je(w:Word):List UInt8:=fO mq [iP w.free,fg w.aU,fg w.bU]
def jE(p:jY):List UInt8:=fO nw [aW p.l,aW p.r,aW p.lo,aW p.hi]
def gp(n:Int):List UInt8:=fO nt [aW n]
def fF(s:aI):List UInt8:=fO mP [aW s.wide,aW s.rows]
def gR(s:aI):List UInt8:=fO mT [aW s.fI,aW s.fH,aW s.ir,aW s.il,aW s.bT]
def ez(s:aI):List (List UInt8):=fF s::gR s::(s.aM.map gp++(s.aL.map jE++s.words.map je))
def dN:Nat->List UInt8->Int
 |_,[]=>0
 |k,b::l=>(b.toNat:Int)*(k+1)+dN (k+1) l
def ct:Nat->List (List UInt8)->Int
 |_,[]=>0
 |i,r::rs=>dN 0 r*(i+1)+ct (i+1) rs
def kK(c:Int):List UInt8:=[101,110,100,32]++aW (c/100)++aW (c/10 % 10)++aW (c % 10)
def xm(l:List (List UInt8)):List UInt8:=fb 10 (l++[kK (ct 0 l % 173),[]])
def iM(s:aI):List UInt8:=xm (ez s)
def iO(w:List UInt8):Bool:=!w.isEmpty&&decide (w.length<=3)&&(w.all λc=>decide (48<=c.toNat)&&decide (c.toNat<=57))&&aW (dp w)==w
def mY{w:List UInt8}:iO w=true↔w≠[]/\w.length<=3/\(∀c∈w,digit c)/\aW (dp w)=w:=by
 unfold iO digit;simp[and_assoc]
def J1{w:List UInt8}(h:iO w=true):dY (dp w):=by
 obtain⟨_,h2,h3,_⟩:=mY.1 h;exact yZ h3 h2
def fa:List (List UInt8)->Except (List UInt8) (List Int)
 |[]=>.ok []
 |w::ws=>if iO w then(match fa ws with|.ok l=>.ok (dp w::l)|.error e=>.error e)else .error w
def xL:∀{ws:List (List UInt8)},ws.all iO=true->fa ws=.ok (ws.map dp)
 |[],_=>rfl
 |w::ws,h=>by
  rw[List.all_cons,adk]at h;unfold fa;rw[if_pos h.1,xL h.2];rfl
def qW:∀{ws:List (List UInt8)}{l:List Int},fa ws=.ok l->ws.all iO=true/\l=ws.map dp
 |[],l,h=>by cases h;exact⟨rfl,rfl⟩
 |w::ws,l,h=>by
  unfold fa at h;split at h
  .rename_i hw
   cases hg:fa ws with
   |error e=>rw[hg]at h;cases h
   |ok r=>
    rw[hg]at h;cases h;obtain⟨h1,rfl⟩:=qW hg;exact⟨by rw[List.all_cons,hw,h1];rfl,rfl⟩
  .cases h
def gK(l:List Int):Prop:=∀n∈l,dY n
def gv:gK []:=λ_ h=>(aeq h).elim
def bz{a:Int}{l:List Int}(h:dY a)(hl:gK l):gK (a::l):=by
 intro n hn;rcases adT.1 hn with rfl|hn
 .exact h
 .exact hl n hn
def Bs{ws:List (List UInt8)}(h:ws.all iO=true):gK (ws.map dp):=by
 intro n hn;obtain⟨w,hw,rfl⟩:=adF.1 hn;exact J1 (adw.1 h w hw)
def iI(w:List UInt8):Except (List UInt8) (List Int):=if w=[45]then .ok []else fa (aZ 44 w)
def wG{w:List UInt8}{l:List Int}(h:iI w=.ok l):gK l:=by
 unfold iI at h;split at h
 .cases h;intro n hn;cases hn
 .obtain⟨h1,rfl⟩:=qW h;exact Bs h1
def cN{α β:Type}(x:Except (List UInt8) α)(f:α->Except (List UInt8) β):Except (List UInt8) β:=match x with
 |.ok a=>f a
 |.error e=>.error e
def ee{α β:Type}(f:α->β->Except (List UInt8) α):α->List β->Except (List UInt8) α
 |a,[]=>.ok a
 |a,b::l=>cN (f a b) λa'=>ee f a' l
def tA{α β:Type}{f:α->β->Except (List UInt8) α}:∀{l r:List β}{a b:α},ee f a l=.ok b->ee f a (l++r)=ee f b r
 |[],r,a,b,h=>by cases h;rfl
 |x::l,r,a,b,h=>by
  show cN (f a x) (λa'=>ee f a' (l++r))=_;have h:cN (f a x) (λa'=>ee f a' l)=.ok b:=h
  cases hx:f a x with
  |error e=>rw[hx]at h;cases h
  |ok a'=>
   rw[hx]at h;exact tA (l:=l) h
def at'(l:List Int)(i:Nat):Int:=l[i]?.getD 0
def eo(x:aI)(r:List UInt8):Except (List UInt8) aI:=
 let nm:=(aZ 32 r).headD []
 let ws:=(aZ 32 r).tail
 if nm=mP/\ws.length=2 then cN (fa ws) λn=>.ok { x with wide:=at' n 0,rows:=at' n 1 }
 else if nm=mT/\ws.length=5 then cN (fa ws) λn=>.ok { x with fI:=at' n 0,fH:=at' n 1,ir:=at' n 2,il:=at' n 3,bT:=at' n 4 }
 else if nm=nt/\ws.length=1 then cN (fa ws) λn=>.ok { x with aM:=x.aM++n }
 else if nm=nw/\ws.length=4 then cN (fa ws) λn=>.ok { x with aL:=x.aL++[⟨at' n 0,at' n 1,at' n 2,at' n 3⟩] }
 else if nm=mq/\ws.length=3 then cN (iI (ws[1]?.getD [])) λa=>cN (iI (ws[2]?.getD [])) λb=>.ok { x with words:=x.words++[⟨a,b,ws[0]?.getD []==[121,101,115]⟩] }
 else .error r
def cG:aI:=⟨[],[],0,0,0,0,0,[],0,0⟩
def lx(t:List UInt8):Except (List UInt8) aI:=
 if(aZ 10 t).length<2 then .error t
 else cN (ee eo cG ((aZ 10 t).take ((aZ 10 t).length-2))) λx=>if iM x=t then .ok x else .error t
structure nW(s:aI):Prop where
 aM:gK s.aM
 aL:∀p∈s.aL,dY p.l/\dY p.r/\dY p.lo/\dY p.hi
 fI:dY s.fI
 fH:dY s.fH
 ir:dY s.ir
 il:dY s.il
 bT:dY s.bT
 words:∀w∈s.words,gK w.aU/\gK w.bU
 wide:dY s.wide
 rows:dY s.rows
def lK{l:List Int}(h:gK l)(i:Nat):dY (at' l i):=by
 unfold at'
 cases e:l[i]? with
 |none=>exact⟨zd,zd⟩
 |some n=>exact h n (aer e)
def gP{α β:Type}{x:Except (List UInt8) α}{f:α->Except (List UInt8) β}{b:β}(h:cN x f=.ok b):∃a,x=.ok a/\f a=.ok b:=by
 cases x with
 |error e=>cases h
 |ok a=>exact⟨a,rfl,h⟩
def pX{ws:List (List UInt8)}{l:List Int}(h:fa ws=.ok l):gK l:=by
 obtain⟨h1,rfl⟩:=qW h;exact Bs h1
def L_{x y:aI}{r:List UInt8}(hx:nW x)(h:eo x r=.ok y):nW y:=by
 unfold eo at h;simp only at h
 repeat' split at h
 .obtain⟨n,hn,h⟩:=gP h;cases h;have hn:=pX hn;exact{ hx with wide:=lK hn 0,rows:=lK hn 1 }
 .obtain⟨n,hn,h⟩:=gP h;cases h;have hn:=pX hn;exact{ hx with fI:=lK hn 0,fH:=lK hn 1,ir:=lK hn 2,il:=lK hn 3,bT:=lK hn 4 }
 .obtain⟨n,hn,h⟩:=gP h;cases h;have hn:=pX hn;refine{ hx with aM:=λk hk=>?_ };rcases adm.1 hk with hk|hk
  .exact hx.aM k hk
  .exact hn k hk
 .obtain⟨n,hn,h⟩:=gP h;cases h;have hn:=pX hn;refine{ hx with aL:=λk hk=>?_ };rcases adm.1 hk with hk|hk
  .exact hx.aL k hk
  .rw[adJ]at hk;subst hk;exact⟨lK hn 0,lK hn 1,lK hn 2,lK hn 3⟩
 .obtain⟨a,ha,h⟩:=gP h;obtain⟨b,hb,h⟩:=gP h;cases h;refine{ hx with words:=λk hk=>?_ };rcases adm.1 hk with hk|hk
  .exact hx.words k hk
  .rw[adJ]at hk;subst hk;exact⟨wG ha,wG hb⟩
 .cases h
def GO:nW cG:=by
 have z:dY 0:=⟨zd,zd⟩
 exact⟨λ_ h=>(aeq h).elim,λ_ h=>(aeq h).elim,z,z,z,z,z,λ_ h=>(aeq h).elim,z,z⟩
def ov(c:UInt8):∀{l:List (List UInt8)},l≠[]->(fb c l).length+1=(l.map λp=>p.length+1).sum
 |[],h=>absurd rfl h
 |[p],_=>by simp[fb]
 |p::q::r,_=>by
  have ih:=ov c (l:=q::r) ahi;rw[ij c p ahi,ady,List.sum_cons,<-ih];simp;omega
def eB{n:Int}(h:dY n):(aW n).length<=3/\(n<100->(aW n).length<=2)/\(n<10->(aW n).length=1):=by
 obtain⟨m,rfl⟩:∃m:Nat,n=m:=⟨n.toNat,by have:=h.1;omega⟩
 have hm:m<1000:=by have:=h.2;omega
 unfold aW;rw[Int.toNat_natCast]
 by_cases h1:m<10
 .rw[qD h1];simp
 by_cases h2:m<100
 .rw[yC zo h2];simp;omega
 .rw[xl zo hm];simp;omega
def Cc{α:Type}(f:α->Nat)(b:Nat):∀{l:List α},(∀x∈l,f x<=b)->(l.map f).sum<=b*l.length
 |[],_=>ahi
 |a::l,h=>by
  have ih:=Cc f b (l:=l) (λx hx=>h x (adu _ hx));have ha:=h a adx;rw[ady,List.sum_cons,List.length_cons,ahA];omega
def pk{s:aI}(hs:bl s=true):nW s:=by
 have hF:=gE hs
 have hi:∀{n a b:Int},0<=a->b<=999->a<=n/\n<=b->dY n:=λh0 h1 h=>⟨zo,zo⟩
 have ho:=hF.o;have hg:=hF.g;have hh:=hF.bT;have hw:=hF.wide;have hr:=hF.rows
 have GL:∀p∈s.aL,p.l<s.aM.length/\p.r<s.aM.length:=by
  unfold bl at hs;simp only[adk]at hs;intro p hp;have h:=(fQ.1 hs.1.2).1 p hp;unfold jS jd da at h;simp only[adk,adr]at h;omega
 have u_:=hF.JX;refine{ aM:=λn hn=>?_,aL:=λp hp=>?_,fI:=⟨zo,zo⟩,fH:=⟨zo,zo⟩,ir:=⟨zo,zo⟩,il:=⟨zo,zo⟩,bT:=⟨zo,zo⟩,words:=λw hw=>⟨λn hn=>?_,λn hn=>?_⟩,wide:=⟨zo,zo⟩,rows:=⟨zo,zo⟩ }
 .have:=hF.aM n hn;exact⟨zo,zo⟩
 .have h1:=hF.aL p hp;have h2:=GL p hp;exact⟨⟨zo,zo⟩,⟨zo,zo⟩,⟨zo,zo⟩,⟨zo,zo⟩⟩
 .have:=(mU hs hw).sign n hn;exact⟨zo,zo⟩
 .have hc:=(mU hs hw).bU;have h6:=(mU hs hw).y3;unfold gf at hc;have:=(fQ.1 hc).1 n hn;unfold da at this;simp only[adk,adr]at this;exact⟨zo,zo⟩
def pG(l:List Int):List UInt8:=l.flatMap λn=>32::aW n
def CW(c:UInt8):∀(p:List UInt8)(l:List (List UInt8)),fb c (p::l)=p++l.flatMap λq=>c::q
 |p,[]=>by simp[fb]
 |p,q::l=>by
  rw[ij c p ahi,CW c q l,aeD];simp
def Ek(nm:List UInt8)(l:List Int):fO nm (l.map aW)=nm++pG l:=by
 unfold fO pG;rw[CW,List.flatMap_map]
def J_{l:List Int}{i:Nat}(h:i<l.length):pG (l.take (i+1))=pG (l.take i)++32::aW l[i]:=by
 unfold pG;rw[adp h,aeX];simp
def Cx{l:List Int}(h:gK l):(pG l).length<=4*l.length:=by
 induction l with
 |nil=>simp[pG]
 |cons n l ih=>
  have ih:=ih λx hx=>h x (adu _ hx)
  have:=(eB (h n adx)).1;unfold pG at ih⊢;rw[aeD,adC,List.length_cons,List.length_cons];omega
def BL(c:UInt8)(p:List UInt8):∀{l:List (List UInt8)},l≠[]->fb c (l++[p])=fb c l++c::p
 |[],h=>absurd rfl h
 |[q],_=>by simp[fb]
 |q::r::l,_=>by
  rw[List.cons_append,ij c q ahi,BL c p (l:=r::l) ahi,ij c q ahi];simp
def nI(l:List Int)(i:Nat):List UInt8:=fb 44 ((l.take i).map aW)
def Jh{l:List Int}{i:Nat}(h:i<l.length):nI l (i+1)=(if 0<i then nI l i++[44]else nI l i)++aW l[i]:=by
 unfold nI;rw[adp h,adL]
 cases i with
 |zero=>simp[fb]
 |succ i=>
  rw[show[l[i+1]].map aW=[aW l[i+1]]from rfl,BL]
  .simp
  .simp;intro e;rw[e]at h;simp at h
def xJ{l:List Int}(h:gK l)(i:Nat):(nI l i).length<=4*l.length:=by
 unfold nI
 by_cases h0:(l.take i).map aW=[]
 .rw[h0];simp[fb]
 .have:=ov 44 h0;rw[aeu]at this
  have h2:((l.take i).map ((λp=>p.length+1)∘aW)).sum<=4*(l.take i).length:=Cc _ 4 λn hn=>by
   have:=(eB (h n (adU hn))).1;show(aW n).length+1<=4;omega
  rw[adA]at h2;omega
def dK(l:List (List UInt8)):List UInt8:=l.flatMap λp=>p++[10]
def qZ{l:List (List UInt8)}{i:Nat}(h:i<l.length):dK (l.take (i+1))=dK (l.take i)++l[i]++[10]:=by
 unfold dK;rw[adp h,aeX];simp
def tm{l:List (List UInt8)}{b:Nat}(h:∀p∈l,p.length<b):(dK l).length<=b*l.length:=by
 induction l with
 |nil=>simp[dK]
 |cons p l ih=>
  have ih:=ih λx hx=>h x (adu _ hx)
  have:=h p adx;unfold dK at ih⊢;rw[aeD,adC,adC,List.length_singleton,List.length_cons,ahA];omega
def AS(l:List (List UInt8)):xm l=dK l++kK (ct 0 l % 173)++[10]:=by
 have:∀(l:List (List UInt8))(e:List UInt8),fb 10 (l++[e,[]])=dK l++e++[10]:=by
  intro l
  induction l with
  |nil=>intro e;simp[fb,dK]
  |cons p l ih=>
   intro e;rw[List.cons_append,ij 10 p ahi,ih e];unfold dK;simp
 exact this l _
def CX:∀(l r:List UInt8)(k:Nat),dN k (l++r)=dN k l+dN (k+l.length) r
 |[],r,k=>by simp[dN]
 |b::l,r,k=>by
  show(b.toNat:Int)*(k+1)+dN (k+1) (l++r)=(b.toNat:Int)*(k+1)+dN (k+1) l+_;rw[CX l r (k+1),List.length_cons,show k+1+l.length=k+(l.length+1) by omega];omega
def qV{l:List UInt8}{k:Nat}(h:k<l.length):dN 0 (l.take (k+1))=dN 0 (l.take k)+(l[k].toNat:Int)*(k+1):=by
 rw[adp h,CX];simp[dN,adA,agj (agn h)]
def Bj:∀(l r:List (List UInt8))(k:Nat),ct k (l++r)=ct k l+ct (k+l.length) r
 |[],r,k=>by simp[ct]
 |b::l,r,k=>by
  show dN 0 b*(k+1)+ct (k+1) (l++r)=dN 0 b*(k+1)+ct (k+1) l+_;rw[Bj l r (k+1),List.length_cons,show k+1+l.length=k+(l.length+1) by omega];omega
def pO{l:List (List UInt8)}{k:Nat}(h:k<l.length):ct 0 (l.take (k+1))=ct 0 (l.take k)+dN 0 l[k]*(k+1):=by
 rw[adp h,Bj];simp[ct,adA,agj (agn h)]
def uR(b:UInt8):b.toNat<=255:=by have:=UInt8.toNat_lt b;omega
def lW:∀(l:List UInt8)(k:Nat),k+l.length<=10000->0<=dN k l/\dN k l<=2550000*l.length
 |[],k,_=>by simp[dN]
 |b::l,k,h=>by
  have ih:=lW l (k+1) (by simp at h;omega);have hb:=uR b;have h1:(b.toNat:Int)*(k+1)<=255*10000:=aec zo (by simp at h;omega) zo zo;have h2:0<=(b.toNat:Int)*(k+1):=ad8 zo zo;show 0<=(b.toNat:Int)*(k+1)+dN (k+1) l/\(b.toNat:Int)*(k+1)+dN (k+1) l<=_;rw[List.length_cons];omega
def mB:∀(l:List (List UInt8))(k:Nat),k+l.length<=1000->(∀p∈l,p.length<=10000)->0<=ct k l/\ct k l<=25500000000000*l.length
 |[],k,_,_=>by simp[ct]
 |b::l,k,h,hp=>by
  have ih:=mB l (k+1) (by simp at h;omega) λx hx=>hp x (adu _ hx)
  have hb:=hp b adx;have hl:=lW b 0 zo;have h1:dN 0 b*(k+1)<=25500000000*1000:=aec zo (by simp at h;omega) zo zo;have h2:0<=dN 0 b*(k+1):=ad8 zo zo;show 0<=dN 0 b*(k+1)+ct (k+1) l/\dN 0 b*(k+1)+ct (k+1) l<=_;rw[List.length_cons];omega
def B9(c:UInt8):∀l:List (List UInt8),Lib.join l [c]=fb c l
 |[]=>rfl
 |[p]=>by rw[Lib.join_one];rfl
 |p::q::r=>by
  rw[ij c p ahi,<-B9 c (q::r),Lib.join_cons,Lib.join_cons];simp[Lib.joinTail]
def vb(c:UInt8)(l:List UInt8):((aZ c l).map λp=>p.length+1).sum=l.length+1:=by
 have h:=ov c (sI c l);rw[Bq]at h;exact h.symm
def AP:∀L:List (List UInt8),L.length<=(L.map λp=>p.length+1).sum
 |[]=>ahi
 |p::L=>by
  have:=AP L;rw[ady,List.sum_cons,List.length_cons];omega
def BF:∀{L:List (List UInt8)}{p:List UInt8},p∈L->p.length+1<=(L.map λp=>p.length+1).sum
 |q::L,p,h=>by
  rw[ady,List.sum_cons];rcases adT.1 h with rfl|h
  .omega
  .have:=BF h;omega
def lq(c:UInt8)(l:List UInt8):(aZ c l).length<=l.length+1:=by
 have:=AP (aZ c l);rw[vb]at this;exact this
def kz{c:UInt8}{l p:List UInt8}(h:p∈aZ c l):p.length<=l.length:=by
 have:=BF h;rw[vb]at this;omega
def mX{ws:List (List UInt8)}{l:List Int}(h:fa ws=.ok l):l.length=ws.length:=by
 rw[(qW h).2,adn]
def ym{w:List UInt8}{l:List Int}(h:iI w=.ok l):l.length<=w.length+1:=by
 unfold iI at h;split at h
 .cases h;simp
 .rw[mX h];exact lq 44 w
def Kp{L:List (List UInt8)}{b:Nat}(h:∀p∈L,p.length<=b)(i:Nat):(L[i]?.getD []).length<=b:=by
 cases e:L[i]? with
 |none=>simp
 |some p=>exact h p (aer e)
structure Grown(b:Nat)(x:aI)(k:Nat):Prop where
 aM:x.aM.length<=k
 aL:x.aL.length<=k
 words:x.words.length<=k
 aU:∀w∈x.words,w.aU.length<=b
 bU:∀w∈x.words,w.bU.length<=b
def Grown.mono{b k k':Nat}{x:aI}(h:Grown b x k)(hk:k<=k'):Grown b x k':=⟨by have:=h.aM;omega,by have:=h.aL;omega,by have:=h.words;omega,h.aU,h.bU⟩
def yE{x y:aI}{r:List UInt8}{b k:Nat}(hr:r.length+1<=b)(hx:Grown b x k)(h:eo x r=.ok y):Grown b y (k+1)/\4<=r.length:=by
 have hp:∀p∈(aZ 32 r).tail,p.length<=r.length:=λp hp=>kz (List.mem_of_mem_tail hp)
 have BV:((aZ 32 r).headD []).length<=r.length:=by
  cases e:aZ 32 r with
  |nil=>exact absurd e (sI 32 r)
  |cons p l=>exact kz (c:=32) (by rw[e];exact adx)
 have hm:=hx.mono (Nat.le_succ k);unfold eo at h;simp only at h;split at h
 .rename_i hc;rw[hc.1]at BV;obtain⟨n,hn,h⟩:=gP h;cases h;exact⟨⟨hm.aM,hm.aL,hm.words,hm.aU,hm.bU⟩,by simp[mP]at BV;omega⟩
 split at h
 .rename_i hc;rw[hc.1]at BV;obtain⟨n,hn,h⟩:=gP h;cases h;exact⟨⟨hm.aM,hm.aL,hm.words,hm.aU,hm.bU⟩,by simp[mT]at BV;omega⟩
 split at h
 .rename_i hc;rw[hc.1]at BV;obtain⟨n,hn,h⟩:=gP h;cases h;have h1:=mX hn;have h2:=hx.aM;exact⟨⟨by simp;omega,hm.aL,hm.words,hm.aU,hm.bU⟩,by simp[nt]at BV;omega⟩
 split at h
 .rename_i hc;rw[hc.1]at BV;obtain⟨n,hn,h⟩:=gP h;cases h;have h2:=hx.aL;exact⟨⟨hm.aM,by simp;omega,hm.words,hm.aU,hm.bU⟩,by simp[nw]at BV;omega⟩
 split at h
 .rename_i hc;rw[hc.1]at BV;obtain⟨a,ha,h⟩:=gP h;obtain⟨c,jB,h⟩:=gP h;cases h;have h2:=hx.words;have h3:=ym ha;have h4:=ym jB;have h5:=Kp hp 1;have h6:=Kp hp 2;refine⟨⟨hm.aM,hm.aL,by simp;omega,?_,?_⟩,by simp[mq]at BV;omega⟩
  .intro w hw;rcases adm.1 hw with hw|hw
   .exact hx.aU w hw
   .rw[adJ]at hw;subst hw;show a.length<=b;omega
  .intro w hw;rcases adm.1 hw with hw|hw
   .exact hx.bU w hw
   .rw[adJ]at hw;subst hw;show c.length<=b;omega
 .cases h
def tO{b:Nat}:∀{L:List (List UInt8)}{x y:aI}{k:Nat},(∀r∈L,r.length+1<=b)->Grown b x k->ee eo x L=.ok y->Grown b y (k+L.length)/\5*L.length<=(L.map λp=>p.length+1).sum
 |[],x,y,k,_,hx,h=>by cases h;exact⟨hx,ahi⟩
 |r::L,x,y,k,hr,hx,h=>by
  have h:cN (eo x r) (λa=>ee eo a L)=.ok y:=h;obtain⟨a,ha,h⟩:=gP h;obtain⟨h1,h2⟩:=yE (hr r adx) hx ha;obtain⟨h3,h4⟩:=tO (λq hq=>hr q (adu _ hq)) h1 h;rw[ady,List.sum_cons,List.length_cons];exact⟨h3.mono zo,zo⟩
def ry(b:Nat):Grown b cG 0:=⟨adl _,adl _,adl _,λ_ h=>(aeq h).elim,λ_ h=>(aeq h).elim⟩
def Bi{α β:Type}{f:α->β->Except (List UInt8) α}{x:α}{L:List β}{i:Nat}(hi:i<L.length){y:α}(h:ee f x (L.take i)=.ok y):ee f x (L.take (i+1))=f y L[i]:=by
 rw[adp hi,tA h];show cN (f y L[i]) (λa=>.ok a)=_
 cases f y L[i]<;>rfl
def u9{α β:Type}{f:α->β->Except (List UInt8) α}:∀{L:List β}{x y:α}{i:Nat}(hi:i<L.length){e:List UInt8},ee f x (L.take i)=.ok y->f y L[i]=.error e->ee f x L=.error e
 |[],x,y,i,hi,_,_,_=>by simp at hi
 |b::L,x,y,0,_,e,h,he=>by
  cases h;show cN (f x b) (λa=>ee f a L)=_;rw[show(b::L)[0]=b from rfl]at he;rw[he];rfl
 |b::L,x,y,i+1,hi,e,h,he=>by
  rw[List.take_succ_cons]at h;have h:cN (f x b) (λa=>ee f a (L.take i))=.ok y:=h;obtain⟨a,ha,h⟩:=gP h;show cN (f x b) (λa=>ee f a L)=_;rw[ha];exact u9 (L:=L) (by simpa using hi) h (by simpa using he)
def qY{c:UInt8}:∀{l:List (List UInt8)},l≠[]->(∀p∈l,¬c∈p)->aZ c (fb c l)=l
 |[],h,_=>absurd rfl h
 |[p],_,h=>A3 (h p adx)
 |p::q::r,_,h=>by
  rw[ij c p ahi,o8 (h p adx),qY ahi (λx hx=>h x (adu _ hx))]
def oG{n:Int}(h:dY n):aW n≠[]/\(aW n).length<=3/\(∀c∈aW n,digit c)/\dp (aW n)=n:=by
 obtain⟨m,rfl⟩:∃m:Nat,n=m:=⟨n.toNat,by have:=h.1;omega⟩
 have hm:m<1000:=by have:=h.2;omega
 unfold aW;rw[Int.toNat_natCast]
 by_cases h1:m<10
 .rw[qD h1];have e:=rm h1;refine⟨ahi,ahi,?_,?_⟩
  .intro c hc;rw[adJ]at hc;subst hc;unfold digit;omega
  .simp[dp,e];omega
 by_cases h2:m<100
 .rw[yC zo h2];have e1:=rm (n:=m/10) zo;have e2:=rm (n:=m % 10) zo;refine⟨ahi,ahi,?_,?_⟩
  .intro c hc;simp only[adT,aeq,agv]at hc
   rcases hc with rfl|rfl<;>unfold digit<;>omega
  .simp[dp,e1,e2];omega
 .rw[xl zo hm];have e1:=rm (n:=m/100) zo;have e2:=rm (n:=m/10 % 10) zo;have e3:=rm (n:=m % 10) zo;refine⟨ahi,ahi,?_,?_⟩
  .intro c hc;simp only[adT,aeq,agv]at hc
   rcases hc with rfl|rfl|rfl<;>unfold digit<;>omega
  .simp[dp,e1,e2,e3];omega
def Iw{n:Int}(h:dY n){c:UInt8}(hc:¬digit c):¬c∈aW n:=λhm=>hc ((oG h).2.2.1 c hm)
end Go.Proofs.Tryz
namespace Go.Proofs.Tryz
open Go Go.AL Go.RowKit Go.Proofs Go.Proofs.Tram
attribute [local simp] eD fG fB eR eQ d_ ec dE dJ eP dF df ik ig aF aD ev aP.S aP.H bw au aX AL.start AV.cells AV.storable AV.cy bB cd dS cb HR.okB post cM dc de AV.out AV.cg cZ dZ fz gZ AV.vw cW vI int cz aN dk dP iS jN eM dV bG AV.aJ AV.cI
variable{GI:World->Prop}
def mE(s:aI)(out:List Int)(es:List End)(st:Int):Int:=firstT (λn=>decide (s.wide<n)) (fl s out es st)
def PM{s:aI}{out:List Int}{es:List End}{st:Int}:((fl s out es st).all λn=>decide (n<=s.wide))=decide (mE s out es st<0):=by
 have h:=nh (p:=λn=>decide (s.wide<n)) (l:=fl s out es st)
 have e:((fl s out es st).all λn=>decide (n<=s.wide))=!((fl s out es st).any λn=>decide (s.wide<n)):=by
  rw[ad5];simp
 rw[e,<-h];unfold mE
 by_cases hz:0<=firstT (λn=>decide (s.wide<n)) (fl s out es st)
 .have:¬firstT (λn=>decide (s.wide<n)) (fl s out es st)<0:=zo
  simp[hz,this]
 .have:firstT (λn=>decide (s.wide<n)) (fl s out es st)<0:=zo
  simp[hz,this]
def Cf(s:aI)(out:List Int)(es:List End)(st:Int):iJ:=if mE s out es st<0 then .ret (.dR [])else .panic (.iface 190 (.agg [.int .i64 (mE s out es st)]))
def XI(hG:ar GI)(s:aI)(fE:bl s=true)(out:List Int)(ho:out.length<1000000)(es:List End)(he:es.length<100000)(g:Good s out es){st:Int}(h0:0<=st)(h1:st<=10):AC prog GI 169 [.ref (a_ s),.ref [vI out,.slice .view (es.map b_)],.ref [.int .i64 st]] (Cf s out es st):=by
 have YU:=G2 s out es st;refine cw hG func169 ntmps169 c169 ?_;refine aK (λS H=>S 0=.ref (a_ s)/\S 2=.ref [.int .i64 st]/\S 7=.slice .view (g_ s out es es.length)/\S 8=.int .i64 es.length/\S 9=.int .i64 0) ?_ ?_
 .simp[a_,ai,cn];refine oc (XF hG s fE out ho es he g) ?_;simp[AY]
 rintro S H ⟨s0,s2,s7,s8,s9⟩;simp[s0,s2,s7,s8,s9];refine bu 9 es.length (λi S H=>S 0=.ref (a_ s)/\S 2=.ref [.int .i64 st]/\S 7=.slice .view (g_ s out es es.length)/\S 8=.int .i64 es.length/\S 9=.int .i64 (i:Nat)/\∀j (hj:j<(fl s out es st).length),j<i->decide (s.wide<(fl s out es st)[j])=false) (λi S H h=>h.2.2.2.2.1) ⟨by simp[s0],by simp[s2],by simp[s7],by simp[s8],by simp[s9],λj _ hj=>absurd hj (ago _)⟩ ?_;clear s0 s2 s7 s8 s9 S H;rintro i hi S H ⟨s0,s2,s7,s8,s9,hb⟩
 by_cases aq:i<es.length
 case neg=>
  have hn:mE s out es st<0:=by
   unfold mE;rw[kG λj hj=>hb j hj zo];decide
  unfold Cf;rw[if_pos hn];simp[s0,s2,s7,s8,s9,aq]
 have hw:IntKind.i64.wrap ((i:Int)+1)=i+1:=aT zo
 have Md:(g_ s out es es.length)[i]?=some (.agg [.slice .view ((km s out es i).map gA),.bool (ly s es i)]):=by
  unfold g_;rw[adO,ahj aq];rfl
 have vV:(fl s out es st)[i]' zo=rO s out es st i:=by unfold fl;simp
 refine aK (λS H=>S 0=.ref (a_ s)/\S 2=.ref [.int .i64 st]/\S 7=.slice .view (g_ s out es es.length)/\S 8=.int .i64 es.length/\S 9=.int .i64 (i:Nat)/\S 10=.bool true) (by simp[s0,s2,s7,s8,s9,aq]) ?_;clear s0 s2 s7 s8 s9 S H;rintro S H ⟨s0,s2,s7,s8,s9,bJ⟩;refine G0 (by simp[bJ]) ?_;refine IT ?_;refine aK (λS H=>S 0=.ref (a_ s)/\S 2=.ref [.int .i64 st]/\S 7=.slice .view (g_ s out es es.length)/\S 8=.int .i64 es.length/\S 9=.int .i64 (i:Nat)/\S 3=.int .i64 (i:Nat)/\S 4=.box 4 0/\H 4=some [.slice .view ((km s out es i).map gA),.bool (ly s es i)]) (by simp[s0,s2,s7,s8,s9,aq,Md]) ?_;clear s0 s2 s7 s8 s9 bJ S H;rintro S H ⟨s0,s2,s7,s8,s9,s3,s4,e4⟩;have a84:=Yc hG s fE (J6 g aq) (Fj fE g i) (λx hx=>Px g hx) (ly s es i) h0 h1
 have UL:s.wide<rO s out es st i->mE s out es st=i:=λh=>by
  unfold mE;exact mQ (i:=i) zo (by rw[vV];simpa using h) hb
 simp[s0,s2,s7,s8,s9,s3,s4,e4,a_,ai,cn];refine oc a84 ?_
 by_cases yk:s.wide<rO s out es st i
 .have GV:s.wide<lP s st ((km s out es i).map (bQ s)) (ly s es i):=yk;have hf:=UL yk;unfold Cf;rw[if_neg zo,hf];simp[s0,s2,s7,s8,s9,s3,s4,e4,a_,ai,cn,GV,DQ,bI]
 .have GV:¬s.wide<lP s st ((km s out es i).map (bQ s)) (ly s es i):=yk;simp[s0,s2,s7,s8,s9,s3,s4,e4,a_,ai,cn,GV,hw,aq];intro j hj fD
  by_cases e:j=i
  .subst e;rw[vV];omega
  .have:=hb j hj zo;simpa using this
def TF(hG:ar GI)(s:aI)(fE:bl s=true)(out:List Int)(ho:out.length<1000000)(es:List End)(he:es.length<100000)(g:Good s out es){st:Int}(h0:0<=st)(h1:st<=10):AC prog GI 153 [iz s,bq out es,.int .i64 st] (.ret (.bool (ld s out es st))):=by
 have a:=XI hG s fE out ho es he g h0 h1
 have e:ld s out es st=(decide ((es.length:Int)<=s.rows)&&decide (mE s out es st<0)):=by unfold ld;rw[PM]
 rw[e];refine cw hG func153 ntmps153 c153 ?_;refine aK (λS H=>S 3=.box 3 0/\S 4=.box 4 0/\S 5=.box 5 0/\H 3=some (a_ s)/\H 4=some [vI out,.slice .view (es.map b_)]/\H 5=some [.int .i64 st]) (by simp[iz,a_,ai,cn,bq,aY]) ?_;rintro S H ⟨s3,s4,s5,e3,e4,e5⟩
 by_cases hr:(es.length:Int)<=s.rows
 case neg=>simp[s3,s4,s5,e3,e4,e5,a_,ai,cn,hr]
 unfold Cf at a
 by_cases hw:mE s out es st<0
 .rw[if_pos hw]at a;have b:=WC hG (k:=169) zk a (.inl ⟨_,rfl,rfl⟩);simp[s3,s4,s5,e3,e4,e5,a_,ai,cn,hr];refine⟨_,zk,b,λ_=>rfl,?_⟩;simp[hw]
 .rw[if_neg hw]at a;have b:=WC hG (k:=169) zk a (.inr (.inl ⟨_,rfl,rfl⟩));simp[s3,s4,s5,e3,e4,e5,a_,ai,cn,hr];refine⟨_,zk,b,λ_=>rfl,?_⟩;simp[hw]
def Ba{p:Int->Bool}:∀{n i:Nat},i<=n->(∀k:Nat,i<=k->k<n->p k=false)->zJ p n=zJ p i
 |0,i,h,_=>by rw[show i=0 by omega]
 |n+1,i,h,hp=>by
  by_cases e:i=n+1
  .rw[e]
  .rw[zJ,hp n zo zo]
   exact Ba zo λk h1 h2=>hp k h1 zo
def Od(hG:ar GI)(s:aI)(fE:bl s=true)(out:List Int)(ho:out.length<1000000)(es:List End)(he:es.length<100000)(g:Good s out es):AC prog GI 143 [iz s,bq out es] (.ret (.int .i64 (Al s out es))):=by
 refine cw hG func143 ntmps143 c143 ?_;refine aK (λS H=>S 2=.box 2 0/\S 3=.box 3 0/\H 2=some (a_ s)/\H 3=some [vI out,.slice .view (es.map b_)]) (by simp[iz,a_,ai,cn,bq,aY]) ?_;rintro S H ⟨s2,s3,e2,e3⟩;simp[s2,s3,e2,e3];refine Mt 5 11 (λi S H=>i<=11/\S 2=.box 2 0/\S 3=.box 3 0/\H 2=some (a_ s)/\H 3=some [vI out,.slice .view (es.map b_)]/\S 5=.int .i64 ((i:Nat)-1)/\∀k:Nat,i<=k->k<11->ld s out es k=false) (λi S H h=>h.2.2.2.2.2.1) ⟨zo,by simp[s2],by simp[s3],by simp[e2],by simp[e3],ahi,λk h1 h2=>zo⟩ ?_;clear s2 s3 e2 e3 S H;rintro i hi S H ⟨_,s2,s3,e2,e3,s5,hb⟩;have hm:=Ba (p:=ld s out es) hi hb
 cases i with
 |zero=>
  have hm:Al s out es= -1:=hm;simp[s2,s3,e2,e3,s5,hm]
 |succ m=>
  have hm:Al s out es=if ld s out es m then(m:Int)else zJ (ld s out es) m:=hm
  have p7:S 5=.int .i64 (m:Nat):=by rw[s5];congr 1;omega
  have Sj:IntKind.i64.wrap ((m:Int)-1)=m-1:=aT zo;simp[s2,s3,e2,e3,p7,a_,ai,cn];refine oc (TF hG s fE out ho es he g zo zo) ?_;cases hf:ld s out es m
  .simp[s2,s3,e2,e3,p7,a_,ai,cn,Sj];refine⟨zo,λk h1 h2=>?_⟩
   by_cases e:k=m
   .subst e;exact hf
   .exact hb k zo h2
  .rw[hf]at hm;simp at hm;simp[s2,s3,e2,e3,p7,a_,ai,cn,hm]
def M3{n:Int}(h:0<=n/\n<256):IntKind.u8.wrap n=n:=by
 unfold IntKind.wrap;simp[IntKind.bits,IntKind.signed];omega
def Y7{d:Nat}(h:d<10):bytesOf [AV.int .u8 (48+(d:Int))]=some [dg d]:=by
 have:(48+(d:Int))=((dg d).toNat:Int):=by rw[rm h];omega
 rw[this]
 have hb:((dg d).toNat:Int)<256:=by have:=rm h;omega
 simp[bytesOf,hb]
def Fq{n:Nat}(h:n<10):aW n=[dg n]:=by unfold aW;rw[Int.toNat_natCast,qD h]
def MW{n:Nat}(h0:10<=n):aW n=aW ((n/10:Nat):Int)++[dg (n % 10)]\/1000<=n:=by
 unfold aW;rw[Int.toNat_natCast,Int.toNat_natCast]
 by_cases h1:n<100
 .rw[yC h0 h1,qD zo];exact .inl rfl
 .by_cases h2:n<1000
  .rw[xl zo h2,yC zo zo];left;simp;rw[show n/10/10=n/100 by omega]
  .exact .inr zo
def VO(hG:ar GI):∀(d n:Nat),n<1000->n<10^d->AC prog GI 137 [.int .i64 (n:Nat)] (.ret (.str (aW n))):=by
 intro d
 induction d with
 |zero=>
  intro n hn h
  have:n=0:=by simp at h;omega
  subst this;rw[Fq zo];have hd:=Y7 (d:=0) zo;have hw:IntKind.i64.wrap 48=48:=aT zo;have h8:IntKind.u8.wrap 48=48:=M3 zo;simp at hd;have bX:aG 1 [AV.int .u8 48]=true:=rfl;refine cw hG func137 ntmps137 c137 ?_;simp[c137,hw,h8,hd,bX]
 |succ d ih=>
  intro n hn h
  have e1:(-10:Int)<n:=zo
  have e2:¬(n:Int)<0:=zo
  by_cases pB:n<10
  .have Uh:(n:Int)<10:=zo
   rw[Fq pB];have hd:=Y7 pB;have hw:IntKind.i64.wrap (48+(n:Int))=48+n:=aT zo;have h8:IntKind.u8.wrap (48+(n:Int))=48+n:=M3 zo;have bX:aG 1 [AV.int .u8 (48+(n:Int))]=true:=rfl;refine cw hG func137 ntmps137 c137 ?_;simp[c137,e1,e2,pB,Uh,hw,h8,hd,bX]
  .have Uh:¬(n:Int)<10:=zo
   have hm:aW n=aW ((n/10:Nat):Int)++[dg (n % 10)]:=by
    rcases MW (n:=n) zo with h|h
    .exact h
    .omega
   have a:=ih (n/10) zo (by rw[Nat.pow_succ]at h;omega)
   have hq:IntKind.i64.wrap ((n:Int).tdiv 10)=((n/10:Nat):Int):=by
    rw[aT]
    .rw[aea zo];omega
    .rw[aea zo];omega
   have hr:(n:Int).tmod 10=((n % 10:Nat):Int):=by
    rw[ad3 zo];omega
   have hd:=Y7 (d:=n % 10) zo;have hw:IntKind.i64.wrap (48+((n % 10:Nat):Int))=48+((n % 10:Nat):Int):=aT zo;have h8:IntKind.u8.wrap (48+((n % 10:Nat):Int))=48+((n % 10:Nat):Int):=M3 zo;have hl:(aW ((n/10:Nat):Int)).length<=3:=(eB ⟨zo,zo⟩).1
   have rV:(aW ((n/10:Nat):Int)).length+1<1073741824:=zo
   have Ua:IntKind.i64.wrap ((n:Int)/10)=((n/10:Nat):Int):=by rw[aT zo];omega
   have Zg:(n:Int) % 10=((n % 10:Nat):Int):=zo
   have bX:aG 1 [AV.int .u8 (48+((n % 10:Nat):Int))]=true:=rfl;rw[hm]
   generalize aW ((n/10:Nat):Int)=u at*
   generalize hz:((n % 10:Nat):Int)=z at*
   generalize hy:((n/10:Nat):Int)=y at*
   generalize dg (n % 10)=g at*
   refine cw hG func137 ntmps137 c137 ?_;simp[c137,e1,e2,pB,Uh,hq,Ua];refine oc a ?_;simp[hr,Zg,hw,h8,hd,rV,bX]
def uN(hG:ar GI){n:Int}(h:dY n):AC prog GI 137 [.int .i64 n] (.ret (.str (aW n))):=by
 obtain⟨m,rfl⟩:∃m:Nat,n=m:=⟨n.toNat,by have:=h.1;omega⟩
 exact VO hG 3 m (by have:=h.2;omega) (by have:=h.2;omega)
def zL(hG:ar GI)(nm:List UInt8)(l:List Int)(hn:nm.length<1000)(hl:l.length<1000)(h:gK l):AC prog GI 105 [.str nm,vI l] (.ret (.str (fO nm (l.map aW)))):=by
 rw[Ek]
 have ER:∀i,(pG (l.take i)).length<=4*1000:=λi=>by
  have:=Cx (l:=l.take i) λx hx=>h x (adU hx)
  rw[adA]at this;omega
 refine cw hG func105 ntmps105 c105 ?_;simp[c105];refine bu 5 l.length (λi S H=>S 1=vI l/\S 5=.int .i64 (i:Nat)/\S 0=.str (nm++pG (l.take i))) (λi S H h=>h.2.1) ⟨ahi,ahi,by simp[pG]⟩ ?_;rintro i hi S H ⟨s1,s5,s0⟩
 by_cases aq:i<l.length
 case neg=>
  have di:i=l.length:=zo
  subst di;rw[ado (adl _)]at s0;simp[s1,s5,s0]
 have hw:IntKind.i64.wrap ((i:Int)+1)=i+1:=aT zo;have hN:=h _ (adi aq);have Ft:=uN hG hN;have Mj:=(eB hN).1;have ht:=ER i;rw[J_ aq]
 generalize pG (l.take i)=t at*
 generalize aW l[i]=d at*
 have c1:nm.length+(t.length+1)<1073741824:=zo
 have c2:nm.length+(t.length+(1+d.length))<1073741824:=zo
 have c2':nm.length+(t.length+(d.length+1))<1073741824:=zo
 have c3:nm.length+t.length+1<1073741824:=zo
 have c4:nm.length+t.length+1+d.length<1073741824:=zo
 have c5:nm.length+(t.length+1)+d.length<1073741824:=zo
 simp[s1,s5,s0,aq,c1,c3];refine oc Ft ?_;simp[s1,s5,s0,aq,hw,c1,c2,c2',c3,c4,c5]
def Uo(hG:ar GI)(l:List Int)(hl:l.length<1000)(h:gK l):AC prog GI 107 [vI l] (.ret (.str (fg l))):=by
 by_cases h0:l=[]
 .subst h0;have:fg []=[45]:=rfl;rw[this];refine cw hG func107 ntmps107 c107 ?_;simp[c107]
 have uv:((l.length:Int)==0)=false:=by have:=aew.2 h0;simp;omega
 have hT:fg l=nI l l.length:=by unfold fg nI;rw[if_neg h0,ado (adl _)]
 rw[hT];refine cw hG func107 ntmps107 c107 ?_;simp[c107,uv,h0];refine bu 4 l.length (λi S H=>S 0=vI l/\S 4=.int .i64 (i:Nat)/\S 3=.str (nI l i)) (λi S H h=>h.2.1) ⟨ahi,ahi,by simp[nI,fb]⟩ ?_;rintro i hi S H ⟨s0,s4,s3⟩
 by_cases aq:i<l.length
 case neg=>
  have di:i=l.length:=zo
  subst di;simp[s0,s4,s3]
 have hw:IntKind.i64.wrap ((i:Int)+1)=i+1:=aT zo;have hN:=h _ (adi aq);have Ft:=uN hG hN;have Mj:=(eB hN).1;have ht:=xJ h i;rw[Jh aq]
 generalize nI l i=t at*
 generalize aW l[i]=d at*
 by_cases hp:0<i
 .have vl:(0:Int)<i:=zo
  have c1:t.length+1<1073741824:=zo
  have c2:t.length+1+d.length<1073741824:=zo
  have c3:t.length+(d.length+1)<1073741824:=zo
  simp[s0,s4,s3,aq,hp,c1];refine oc Ft ?_;simp[s0,s4,s3,aq,hw,hp,c1,c2,c3]
 .have vl:i=0:=zo
  subst vl
  have c2:t.length+d.length<1073741824:=zo
  have pH:IntKind.i64.wrap 1=1:=aT zo;simp[s0,s4,s3,aq];refine oc Ft ?_;simp[s0,s4,s3,aq,hw,pH,c2]
def YI(hG:ar GI)(l:List (List UInt8))(hl:l.length<1000)(h:∀p∈l,p.length<10000):AC prog GI 106 [strs l,.int .i64 173] (.ret (.str (xm l))):=by
 rw[AS]
 have oC:∀i,(dK (l.take i)).length<=10000*1000:=λi=>by
  have:=tm (l:=l.take i) (b:=10000) λx hx=>h x (adU hx)
  have h2:10000*(l.take i).length<=10000*1000:=afs _ (by rw[adA];omega);omega
 have jP:∀i,0<=ct 0 (l.take i)/\ct 0 (l.take i)<=25500000000000000:=λi=>by
  have:=mB (l.take i) 0 (by rw[adA];omega) λx hx=>by have:=h x (adU hx);omega
  rw[adA]at this;omega
 refine cw hG func106 ntmps106 c106 ?_;simp[c106];refine bu 7 l.length (λi S H=>S 0=strs l/\S 1=.int .i64 173/\S 7=.int .i64 (i:Nat)/\S 5=.str (dK (l.take i))/\S 6=.int .i64 (ct 0 (l.take i))) (λi S H h=>h.2.2.1) ⟨by simp[strs],ahi,ahi,by simp[dK],by simp[ct]⟩ ?_;rintro i hi S H ⟨s0,s1,s7,s5,s6⟩
 by_cases aq:i<l.length
 case neg=>
  have di:i=l.length:=zo
  subst di;rw[ado (adl _)]at s5 s6;have hf:=oC l.length;have hc:=jP l.length;rw[ado (adl _)]at hf hc
  generalize dK l=F at*
  obtain⟨c,MV⟩:∃c:Nat,ct 0 l=c:=⟨(ct 0 l).toNat,zo⟩
  rw[MV]at s6⊢
  have hm:(c:Int).tmod 173=((c % 173:Nat):Int):=by rw[ad3 zo];omega
  have uB:(c:Int) % 173=((c % 173:Nat):Int):=zo
  have SY:c % 173<173:=afK _ zo;rw[uB]
  generalize c % 173=r at*
  have n1:dY ((r:Int)/100):=⟨zo,zo⟩
  have n2:dY ((r:Int)/10 % 10):=⟨zo,zo⟩
  have n3:dY ((r:Int) % 10):=⟨zo,zo⟩
  have q1:IntKind.i64.wrap ((r:Int)/100)=(r:Int)/100:=aT zo;have q2:IntKind.i64.wrap ((r:Int)/10)=(r:Int)/10:=aT zo;have t1:(r:Int).tdiv 100=(r:Int)/100:=aea zo;have t2:(r:Int).tdiv 10=(r:Int)/10:=aea zo;have t3:((r:Int)/10).tmod 10=(r:Int)/10 % 10:=ad3 zo;have t4:(r:Int).tmod 10=(r:Int) % 10:=ad3 zo;have a1:=uN hG n1;have a2:=uN hG n2;have a3:=uN hG n3;have d1:=(eB n1).1;have d2:=(eB n2).1;have d3:=(eB n3).1;have hE:kK (r:Int)=[101,110,100,32]++aW ((r:Int)/100)++aW ((r:Int)/10 % 10)++aW ((r:Int) % 10):=rfl;rw[hE]
  generalize aW ((r:Int)/100)=u at*
  generalize aW ((r:Int)/10 % 10)=v at*
  generalize aW ((r:Int) % 10)=w at*
  have e1:F.length+(u.length+1+1+1+1)+v.length<1073741824:=zo
  have e2:F.length+(u.length+v.length+1+1+1+1)+w.length<1073741824:=zo
  have e3:F.length+(u.length+(v.length+w.length)+1+1+1+1)+1<1073741824:=zo
  have e4:F.length+(u.length+v.length+w.length+1+1+1+1)+1<1073741824:=zo
  have b1:F.length+4<1073741824:=zo
  have b2:F.length+(u.length+4)<1073741824:=zo
  have b3:F.length+(v.length+u.length+4)<1073741824:=zo
  have b4:F.length+4+u.length<1073741824:=zo
  have b5:F.length+4+u.length+v.length<1073741824:=zo
  have b6:F.length+4+u.length+v.length+w.length<1073741824:=zo
  have b7:F.length+4+u.length+v.length+w.length+1<1073741824:=zo
  simp[s0,s1,s7,s5,s6,strs,hm,uB,q1,q2,t1,t2,t3,t4,b1];refine oc a1 ?_;simp[s0,s1,s7,s5,s6,strs,hm,uB,q1,q2,t1,t2,t3,t4,b1,b4];refine oc a2 ?_;simp[s0,s1,s7,s5,s6,strs,hm,uB,q1,q2,t1,t2,t3,t4,b1,b4,b5,e1];refine oc a3 ?_;simp[s0,s1,s7,s5,s6,strs,hm,uB,q1,q2,t1,t2,t3,t4,b1,b4,b5,e1,e2,e3,e4]
 have hw:IntKind.i64.wrap ((i:Int)+1)=i+1:=aT zo;have hp:=h _ (adi aq);have hf:=oC i;have hc:=jP i;have uV:dK (l.take (i+1))=dK (l.take i)++l[i]++[10]:=qZ aq;have vt:=pO aq
 have Dk:∀k,0<=dN 0 (l[i].take k)/\dN 0 (l[i].take k)<=25500000000:=λk=>by
  have:=lW (l[i].take k) 0 (by rw[adA];omega);rw[adA]at this;omega
 rw[uV,vt];clear uV vt
 generalize dK (l.take i)=F at*
 generalize ct 0 (l.take i)=c at*
 have ib:(l.map AV.str)[i]?=some (.str l[i]):=by rw[adO,adh aq];rfl
 generalize vv:l[i]=p at*
 refine aK (λS H=>S 0=strs l/\S 1=.int .i64 173/\S 7=.int .i64 (i:Nat)/\S 5=.str F/\S 6=.int .i64 c) (by simp[s0,s1,s7,s5,s6,strs,aq]) ?_;clear s0 s1 s7 s5 s6 S H;rintro S H ⟨s0,s1,s7,s5,s6⟩;refine aK (λS H=>S 0=strs l/\S 1=.int .i64 173/\S 7=.int .i64 (i:Nat)/\S 5=.str (F++p++[10])/\S 6=.int .i64 (c+dN 0 p*(i+1))) ?_ ?_
 .refine mo ?_;refine aK (λS H=>S 0=strs l/\S 1=.int .i64 173/\S 7=.int .i64 (i:Nat)/\S 5=.str F/\S 6=.int .i64 (c+dN 0 p*(i+1))) ?_ ?_
  .simp[s0,s1,s7,s5,s6];refine bu 8 p.length (λk S H=>S 0=strs l/\S 1=.int .i64 173/\S 7=.int .i64 (i:Nat)/\S 5=.str F/\S 8=.int .i64 (k:Nat)/\S 6=.int .i64 (c+dN 0 (p.take k)*(i+1))) (λi S H h=>h.2.2.2.2.1) ⟨by simp[s0],by simp[s1],by simp[s7],by simp[s5],ahi,by simp[s6,dN]⟩ ?_;clear s0 s1 s7 s5 s6 S H;rintro k hk S H ⟨s0,s1,s7,s5,s8,s6⟩
   by_cases jv:k<p.length
   case neg=>
    have cE:k=p.length:=zo
    subst cE;rw[ado (adl _)]at s6;simp[s0,s1,s7,s5,s8,s6,strs,aq,vv]
   have sF:IntKind.i64.wrap ((k:Int)+1)=k+1:=aT zo;have oH:=Dk k;have HD:=uR p[k];rw[qV jv]
   generalize dN 0 (p.take k)=u at*
   generalize Mp:p[k].toNat=y at*
   have YV:p[k]?=some p[k]:=adh jv;have m1:(y:Int)*(k+1)<=255*10000:=aec zo zo zo zo;have m0:0<=(y:Int)*(k+1):=ad8 zo zo;have m2:(y:Int)*(k+1)*(i+1)<=2550000*1000:=aec zo zo zo zo;have m3:0<=(y:Int)*(k+1)*(i+1):=ad8 zo zo;have m4:u*(i+1)<=25500000000*1000:=aec zo zo zo zo;have m5:0<=u*(i+1):=ad8 zo zo;have w0:IntKind.i64.wrap (y:Int)=y:=aT zo;have w1:IntKind.i64.wrap ((y:Int)*(k+1))=(y:Int)*(k+1):=aT zo;have w2:IntKind.i64.wrap ((y:Int)*(k+1)*(i+1))=(y:Int)*(k+1)*(i+1):=aT zo
   have w3:IntKind.i64.wrap (c+u*(i+1)+(y:Int)*(k+1)*(i+1))=c+(u+(y:Int)*(k+1))*(i+1):=by
    rw[aT zo,agx];omega
   simp[s0,s1,s7,s5,s8,s6,strs,aq,vv,jv,Mp,w0,w1,w2,w3,hw,sF]
  clear s0 s1 s7 s5 s6 S H;rintro S H ⟨s0,s1,s7,s5,s6⟩
  have b1:F.length+p.length<1073741824:=zo
  have b2:F.length+p.length+1<1073741824:=zo
  have b3:F.length+(p.length+1)<1073741824:=zo
  simp[s0,s1,s7,s5,s6,strs,aq,vv,b1,b2,b3]
 clear s0 s1 s7 s5 s6 S H;rintro S H ⟨s0,s1,s7,s5,s6⟩;simp[s0,s1,s7,s5,s6,strs,hw,aq]
def sy(hG:ar GI)(l:List (List UInt8))(w:List UInt8)(hl:l.length<1000000)(k:Nat)(hk:k<l.length)(he:l[k]=w)(cP:∀j (h:j<k),l[j]≠w):AC prog GI 130 [strs l,.str w] (.ret (.int .i64 k)):=by
 refine cw hG func130 ntmps130 c130 ?_;refine aK (λS H=>S 0=strs l/\S 1=.str w) (by simp[strs]) ?_;rintro S H ⟨s0,s1⟩;simp[s0,s1,strs];refine bu 8 l.length (λi S H=>i<=k/\S 0=strs l/\S 1=.str w/\S 7=.int .i64 (l.length:Nat)/\S 8=.int .i64 (i:Nat)) (λi S H h=>h.2.2.2.2) ⟨ad_ _,by simp[s0,strs],by simp[s1],ahi,ahi⟩ ?_;clear s0 s1 S H;rintro i hi S H ⟨hik,s0,s1,s7,s8⟩
 have aq:i<l.length:=zo
 have hw:IntKind.i64.wrap ((i:Int)+1)=i+1:=aT zo
 by_cases hc:i=k
 .subst hc;simp[s0,s1,s7,s8,strs,aq,he]
 .have hn:(w==l[i])=false:=by
   rw[ad4]
   exact λe=>cP i zo e.symm
  have hle:i+1<=k:=zo
  simp[s0,s1,s7,s8,strs,aq,hn,hw,hle]
def P0(hG:ar GI)(l:List (List UInt8))(w:List UInt8)(hl:l.length<1000000)(cP:∀j (h:j<l.length),l[j]≠w):AC prog GI 130 [strs l,.str w] (.ret (.int .i64 (-1))):=by
 refine cw hG func130 ntmps130 c130 ?_;refine aK (λS H=>S 0=strs l/\S 1=.str w) (by simp[strs]) ?_;rintro S H ⟨s0,s1⟩;refine aK (λS H=>True) ?_ ahi;simp[s0,s1,strs];refine bu 8 l.length (λi S H=>S 0=strs l/\S 1=.str w/\S 7=.int .i64 (l.length:Nat)/\S 8=.int .i64 (i:Nat)) (λi S H h=>h.2.2.2) ⟨by simp[s0,strs],by simp[s1],ahi,ahi⟩ ?_;clear s0 s1 S H;rintro i hi S H ⟨s0,s1,s7,s8⟩
 by_cases aq:i<l.length
 case neg=>
  simp[s0,s1,s7,s8,strs,aq]
 have hw:IntKind.i64.wrap ((i:Int)+1)=i+1:=aT zo
 have hn:(w==l[i])=false:=by
  rw[ad4]
  exact λe=>cP i aq e.symm
 simp[s0,s1,s7,s8,strs,aq,hn,hw]
end Go.Proofs.Tryz
namespace Go.Proofs.Tryz
open Go Go.AL Go.RowKit Go.Proofs Go.Proofs.Tram
attribute [local simp] eD fG qe ou eQ d_ ec dE dJ eP dF df ik ig aF aD ev aP.S aP.H bw au aX AL.start AV.cells AV.storable AV.cy bB cd dS cb HR.okB post cM dc de AV.out AV.cg cZ dZ fz gZ AV.vw cW vI int cz aN dk dP iS jN eM dV bG AV.aJ AV.cI
variable{GI:World->Prop}
def gl(l:List (List UInt8)):aG 1 (l.map AV.str)=true:=iC λa=>⟨rfl,rfl⟩
def Ge(w:Word):je w=((((([119,111,114,100,32]++iP w.free)++[32])++fg w.aU)++[32])++fg w.bU):=by
 unfold je fO;simp[fb,mq]
def pY{l:List Int}(h:gK l)(hl:l.length<1000):(fg l).length<=4000:=by
 by_cases h0:l=[]
 .subst h0;simp[fg]
 .have:=xJ h l.length
  have e:fg l=nI l l.length:=by unfold fg nI;rw[if_neg h0,ado (adl _)]
  rw[e];omega
structure MG(s:aI):Prop where
 aM:s.aM.length<=300
 aL:s.aL.length<=300
 words:s.words.length<=300
 aU:∀w∈s.words,w.aU.length<1000
 bU:∀w∈s.words,w.bU.length<1000
def oY{nm:List UInt8}{l:List Int}(hn:nm.length<=10)(h:gK l)(hl:l.length<=5):(fO nm (l.map aW)).length<10000:=by
 rw[Ek,adC];have:=Cx h;omega
def tq{s:aI}(hN:nW s)(hf:MG s):∀p∈ez s,p.length<10000:=by
 intro p hp;unfold ez at hp;simp only[adT,adm,adF]at hp
 rcases hp with rfl|rfl|⟨n,hn,rfl⟩|⟨q,hq,rfl⟩|⟨w,hw,rfl⟩
 .exact oY (l:=[s.wide,s.rows]) zd (bz hN.wide (bz hN.rows gv)) ahi
 .exact oY (l:=[s.fI,s.fH,s.ir,s.il,s.bT]) zd (bz hN.fI (bz hN.fH (bz hN.ir (bz hN.il (bz hN.bT gv))))) ahi
 .exact oY (l:=[n]) zd (bz (hN.aM n hn) gv) ahi
 .obtain⟨h1,h2,h3,h4⟩:=hN.aL q hq;exact oY (l:=[q.l,q.r,q.lo,q.hi]) zd (bz h1 (bz h2 (bz h3 (bz h4 gv)))) ahi
 .obtain⟨h1,h2⟩:=hN.words w hw;have a:=pY h1 (hf.aU w hw);have b:=pY h2 (hf.bU w hw)
  have c:(iP w.free).length<=3:=by cases w.free<;>decide
  rw[Ge];simp;omega
def aau(hG:ar GI)(s:aI)(hN:nW s)(hf:MG s):AC prog GI 47 [cC s] (.ret (.str (iM s))):=by
 have q1:=hf.aM;have q2:=hf.aL;have q3:=hf.words
 have wu:(ez s).length<1000:=by unfold ez;simp;omega
 have Ck:=YI hG (ez s) wu (tq hN hf);have a1:AC prog GI 105 [.str mP,vI [s.wide,s.rows]] (.ret (.str (fF s))):=zL hG mP [s.wide,s.rows] zd ahi (bz hN.wide (bz hN.rows gv));have a2:AC prog GI 105 [.str mT,vI [s.fI,s.fH,s.ir,s.il,s.bT]] (.ret (.str (gR s))):=zL hG mT [s.fI,s.fH,s.ir,s.il,s.bT] zd ahi (bz hN.fI (bz hN.fH (bz hN.ir (bz hN.il (bz hN.bT gv)))));have hT:iM s=xm (ez s):=rfl;rw[hT];refine cw hG func47 ntmps47 c47 ?_;refine aK (λS H=>S 1=.box 1 0/\H 1=some (ai s)) (by simp[af,ae,cC,ai]) ?_;rintro S H ⟨s1,e1⟩;refine aK (λS H=>S 1=.box 1 0/\H 1=some (ai s)/\S 3=grow 9 ([fF s,gR s].map AV.str)) ?_ ?_
 .have bX:aG 1 [AV.str (fF s),AV.str (gR s)]=true:=rfl;have fY:aG 1 [AV.int .i64 s.wide,AV.int .i64 s.rows]=true:=rfl;have Fy:aG 1 [AV.int .i64 s.fI,AV.int .i64 s.fH,AV.int .i64 s.ir,AV.int .i64 s.il,AV.int .i64 s.bT]=true:=rfl;simp[af,ae,s1,e1,ai,fY];refine oc a1 ?_;simp[af,ae,s1,e1,ai,Fy];refine oc a2 ?_;simp[af,ae,s1,e1,ai,bX,grow]
 clear s1 e1 S H;rintro S H ⟨s1,e1,s3⟩;refine aK (λS H=>S 1=.box 1 0/\H 1=some (ai s)/\S 3=grow 9 (([fF s,gR s]++s.aM.map gp).map AV.str)) ?_ ?_
 .simp[af,ae,s1,e1,s3];refine bu 4 s.aM.length (λi S H=>S 1=.box 1 0/\H 1=some (ai s)/\S 4=.int .i64 (i:Nat)/\S 3=grow 9 (([fF s,gR s]++(s.aM.take i).map gp).map AV.str)) (λi S H h=>h.2.2.1) ⟨by simp[af,ae,s1],by simp[af,ae,e1],by simp[af,ae],by simp[af,ae,s3,grow]⟩ ?_;clear s1 e1 s3 S H;rintro i hi S H ⟨s1,e1,s4,s3⟩
  by_cases aq:i<s.aM.length
  case neg=>
   have di:i=s.aM.length:=zo
   subst di;rw[ado (adl _)]at s3;simp[af,ae,s1,e1,s4,s3,ai]
  have hw:IntKind.i64.wrap ((i:Int)+1)=i+1:=aT zo;have a3:AC prog GI 105 [.str nt,vI [s.aM[i]]] (.ret (.str (gp s.aM[i]))):=zL hG nt [s.aM[i]] zd ahi (bz (hN.aM _ (adi aq)) gv)
  have ht:[fF s,gR s]++(s.aM.take (i+1)).map gp=([fF s,gR s]++(s.aM.take i).map gp)++[gp s.aM[i]]:=by
   rw[adp aq,adL,ad2];rfl
  have hlen:([fF s,gR s]++(s.aM.take i).map gp).length<=2000:=by simp;omega
  rw[ht]
  generalize[fF s,gR s]++(s.aM.take i).map gp=B at*
  generalize gp s.aM[i]=t at*
  have fY:aG 1 [AV.int .i64 s.aM[i]]=true:=rfl;have cL:aG 1 [AV.str t]=true:=rfl;simp[s1,e1,s4,s3,ai,aq,fY];refine oc a3 ?_;simp[s1,e1,s4,s3,cL];refine iA (B.map AV.str) (AV.str t) (.own 9) (by simp[s3,grow]) ahi cL (gl B) (by rw[adn];omega) ?_;intro S' sd cE;simp[sd,cE,s1,e1,s4,aq,hw,ai,grow]
 clear s1 e1 s3 S H;rintro S H ⟨s1,e1,s3⟩;generalize hA:[fF s,gR s]++s.aM.map gp=A at s3
 have hAl:A.length<=302:=by rw[<-hA];simp;omega
 refine aK (λS H=>S 1=.box 1 0/\H 1=some (ai s)/\S 3=grow 9 ((A++s.aL.map jE).map AV.str)) ?_ ?_
 .simp[af,ae,s1,e1,s3];refine bu 5 s.aL.length (λi S H=>S 1=.box 1 0/\H 1=some (ai s)/\S 5=.int .i64 (i:Nat)/\S 3=grow 9 ((A++(s.aL.take i).map jE).map AV.str)) (λi S H h=>h.2.2.1) ⟨by simp[af,ae,s1],by simp[af,ae,e1],by simp[af,ae],by simp[af,ae,s3,grow]⟩ ?_;clear s1 e1 s3 S H;rintro i hi S H ⟨s1,e1,s5,s3⟩
  by_cases aq:i<s.aL.length
  case neg=>
   have di:i=s.aL.length:=zo
   subst di;rw[ado (adl _)]at s3;simp[af,ae,s1,e1,s5,s3,ai]
  have hw:IntKind.i64.wrap ((i:Int)+1)=i+1:=aT zo;obtain⟨n1,n2,n3,n4⟩:=hN.aL _ (adi aq);have a3:AC prog GI 105 [.str nw,vI [s.aL[i].l,s.aL[i].r,s.aL[i].lo,s.aL[i].hi]] (.ret (.str (jE s.aL[i]))):=zL hG nw [s.aL[i].l,s.aL[i].r,s.aL[i].lo,s.aL[i].hi] zd ahi (bz n1 (bz n2 (bz n3 (bz n4 gv))))
  have ht:A++(s.aL.take (i+1)).map jE=(A++(s.aL.take i).map jE)++[jE s.aL[i]]:=by
   rw[adp aq,adL,ad2];rfl
  have hlen:(A++(s.aL.take i).map jE).length<=2000:=by simp;omega
  rw[ht]
  generalize A++(s.aL.take i).map jE=B at*
  generalize jE s.aL[i]=t at*
  have fY:aG 1 [AV.int .i64 s.aL[i].l,AV.int .i64 s.aL[i].r,AV.int .i64 s.aL[i].lo,AV.int .i64 s.aL[i].hi]=true:=rfl;have cL:aG 1 [AV.str t]=true:=rfl;simp[s1,e1,s5,s3,ai,aq,fY,dM];refine oc a3 ?_;simp[s1,e1,s5,s3,cL];refine iA (B.map AV.str) (AV.str t) (.own 9) (by simp[s3,grow]) ahi cL (gl B) (by rw[adn];omega) ?_;intro S' sd cE;simp[sd,cE,s1,e1,s5,aq,hw,ai,grow]
 clear s1 e1 s3 S H;rintro S H ⟨s1,e1,s3⟩;generalize hC:A++s.aL.map jE=C at s3
 have hCl:C.length<=602:=by rw[<-hC];simp;omega
 have hLT:ez s=C++s.words.map je:=by
  rw[<-hC,<-hA];unfold ez;simp
 refine aK (λS H=>S 3=grow 9 ((C++s.words.map je).map AV.str)) ?_ ?_
 .simp[af,ae,s1,e1,s3];refine bu 7 s.words.length (λi S H=>S 1=.box 1 0/\H 1=some (ai s)/\S 7=.int .i64 (i:Nat)/\S 3=grow 9 ((C++(s.words.take i).map je).map AV.str)) (λi S H h=>h.2.2.1) ⟨by simp[af,ae,s1],by simp[af,ae,e1],by simp[af,ae],by simp[af,ae,s3,grow]⟩ ?_;clear s1 e1 s3 S H;rintro i hi S H ⟨s1,e1,s7,s3⟩
  by_cases aq:i<s.words.length
  case neg=>
   have di:i=s.words.length:=zo
   subst di;rw[ado (adl _)]at s3;simp[af,ae,s1,e1,s7,s3,ai]
  have hw:IntKind.i64.wrap ((i:Int)+1)=i+1:=aT zo;obtain⟨n1,n2⟩:=hN.words _ (adi aq);have f1:=hf.aU _ (adi aq);have f2:=hf.bU _ (adi aq);have a3:=Uo hG s.words[i].aU f1 n1;have a4:=Uo hG s.words[i].bU f2 n2;have l1:=pY n1 f1;have l2:=pY n2 f2;have Us:=Ge s.words[i]
  have ht:C++(s.words.take (i+1)).map je=(C++(s.words.take i).map je)++[je s.words[i]]:=by
   rw[adp aq,adL,ad2];rfl
  have hlen:(C++(s.words.take i).map je).length<=2000:=by simp;omega
  rw[ht]
  generalize C++(s.words.take i).map je=B at*
  generalize je s.words[i]=t at*
  have cL:aG 1 [AV.str t]=true:=rfl
  have mR:∃fr:List UInt8,iP s.words[i].free=fr/\fr.length<=3/\((s.words[i].free=true/\fr=[121,101,115])\/(s.words[i].free=false/\fr=[110,111])):=by
   cases s.words[i].free
   .exact⟨_,rfl,zd,.inr ⟨rfl,rfl⟩⟩
   .exact⟨_,rfl,zd,.inl ⟨rfl,rfl⟩⟩
  obtain⟨fr,qi,oC,tc⟩:=mR;rw[qi]at Us
  generalize fg s.words[i].aU=u at*
  generalize fg s.words[i].bU=v at*
  have b0:5+fr.length<1073741824:=zo
  rcases tc with⟨hb,rfl⟩|⟨hb,rfl⟩
  .simp at Us
   have c1:u.length+9<1073741824:=zo
   have c2:9+u.length<1073741824:=zo
   have c3:u.length+9+1<1073741824:=zo
   have Kh:aG 1 [AV.str (119::111::114::100::32::121::101::115::32::(u++32::v))]=true:=rfl;simp[s1,e1,s7,s3,ai,aq,cD,hb];refine oc a3 ?_;simp[s1,e1,s7,s3,ai,aq,cD,hb,c1,c2,c3];refine oc a4 ?_
   have c4:u.length+1+1+1+1+1+1+1+1+1+1+v.length<1073741824:=zo
   have c5:u.length+10+v.length<1073741824:=zo
   simp[s1,e1,s7,s3,ai,aq,cD,hb,c1,c2,c3,c4,c5,Kh];refine kR (B.map AV.str) (AV.str t) (.own 9) (by simp[s3,grow]) (by simp[Us]) cL (gl B) (by rw[adn];omega) ?_;intro S' sd cE;simp[sd,cE,s1,e1,s7,aq,hw,ai,grow]
  .simp at Us
   have c1:u.length+8<1073741824:=zo
   have c2:8+u.length<1073741824:=zo
   have c3:u.length+8+1<1073741824:=zo
   have Kh:aG 1 [AV.str (119::111::114::100::32::110::111::32::(u++32::v))]=true:=rfl;simp[s1,e1,s7,s3,ai,aq,cD,hb];refine oc a3 ?_;simp[s1,e1,s7,s3,ai,aq,cD,hb,c1,c2,c3];refine oc a4 ?_
   have c4:u.length+1+1+1+1+1+1+1+1+1+v.length<1073741824:=zo
   have c5:u.length+9+v.length<1073741824:=zo
   simp[s1,e1,s7,s3,ai,aq,cD,hb,c1,c2,c3,c4,c5,Kh];refine kR (B.map AV.str) (AV.str t) (.own 9) (by simp[s3,grow]) (by simp[Us]) cL (gl B) (by rw[adn];omega) ?_;intro S' sd cE;simp[sd,cE,s1,e1,s7,aq,hw,ai,grow]
 clear s1 e1 s3 S H;rintro S H s3;rw[<-hLT]at s3
 have U':S 3=.slice (.own 9) ((ez s).map AV.str):=by rw[s3];simp[grow,ez]
 simp[af,ae,U'];refine oc Ck ?_;simp[af,ae]
def TB (GI:World->Prop):Prop:=∀ w,GI w->Lib.TabIs prog w "internal/strconv.uint64pow10" .u64 Lib.pow10Tab
def Cm(hT:TB GI){n:Int}(h:dY n):AC prog GI 79 [.int .i64 n] (.ret (.str (aW n))):=by
 intro w old bP hG hl hr;obtain⟨v,rfl⟩:=Ud hl rfl;have e1:=(hr 0 ahi ahi).int_eq;simp only[List.getElem_toArray,List.getElem_cons_zero]at e1;subst e1;obtain⟨h0,h1⟩:=h;refine(Tryz.strconv_Itoa n zo zo w (hT w hG)).mono ?_;rintro e w' ⟨rfl,k,os,rfl⟩;refine⟨Lib.below_grow _ w (adl _) k os,λ_=>0,λ_ _=>rfl,_,rfl,.data _ _ ?_,trivial⟩
 have hi:Lib.itoa n=aW n:=by
  unfold Lib.itoa aW;rw[if_neg zo,C' 20 n.toNat zo zo]
 rw[hi];exact .str _
def C4(hG:ar GI)(hT:TB GI)(l:List Int)(h0:l≠[])(hl:l.length<1000)(h:gK l):AC prog GI 213 [vI l] (.ret (strs (l.map aW))):=by
 have e0:strs (l.map aW)=.slice .view ((l.map aW).map .str):=rfl;rw[e0];refine cw hG func213 ntmps213 c213 ?_;simp[c213,af,ae];refine bu 8 l.length (λi S H=>S 6=vI l/\S 7=.int .i64 (l.length:Nat)/\S 8=.int .i64 (i:Nat)/\S 3=grow 9 (((l.take i).map aW).map AV.str)) (λi S H h=>h.2.2.1) ⟨by simp[af,ae],by simp[af,ae],by simp[af,ae],by simp[af,ae,grow]⟩ ?_;rintro i hi S H ⟨s6,s7,s8,s3⟩
 by_cases aq:i<l.length
 case neg=>
  have di:i=l.length:=zo
  subst di;rw[ado (adl _)]at s3;simp[af,ae,s6,s7,s8,s3,grow,h0]
 have hw:IntKind.i64.wrap ((i:Int)+1)=i+1:=aT zo;have a157:=Cm hT (h _ (adi aq))
 have ht:(l.take (i+1)).map aW=(l.take i).map aW++[aW l[i]]:=by
  rw[adp aq,adL];rfl
 have hlen:((l.take i).map aW).length<=1000:=by simp;omega
 rw[ht]
 generalize(l.take i).map aW=B at*
 generalize aW l[i]=t at*
 have cL:aG 1 [AV.str t]=true:=rfl;simp[s6,s7,s8,s3,aq];refine oc a157 ?_;simp[s6,s7,s8,s3,cL];refine iA (B.map AV.str) (AV.str t) (.own 9) (by simp[s3,grow]) ahi cL (gl B) (by rw[adn];omega) ?_;intro S' sd cE;simp[sd,cE,s6,s7,s8,aq,hw,grow]
structure JO(c:UInt8)(s:List UInt8)(i:Nat)(P:List (List UInt8))(st:Nat):Prop where
 le:st<=i
 Uk:P.length<=st
 no:¬c∈(s.take i).drop st
 eq:aZ c s=P++aZ c (s.drop st)
def JO.zero(c:UInt8)(s:List UInt8):JO c s 0 [] 0:=⟨adl _,adl _,ahi,rfl⟩
def JO.skip{c:UInt8}{s:List UInt8}{i:Nat}{P:List (List UInt8)}{st:Nat}(h:JO c s i P st)(hi:i<s.length)(hc:s[i]≠c):JO c s (i+1) P st:=by
 obtain⟨h1,h2,h3,h4⟩:=h;refine⟨zo,h2,?_,h4⟩;rw[adp hi,afa (by rw[adA];omega)];intro hm;rcases adm.1 hm with hm|hm
 .exact h3 hm
 .rw[adJ]at hm;exact hc hm.symm
def JO.cut{c:UInt8}{s:List UInt8}{i:Nat}{P:List (List UInt8)}{st:Nat}(h:JO c s i P st)(hi:i<s.length)(hc:s[i]=c):JO c s (i+1) (P++[(s.take i).drop st]) (i+1):=by
 obtain⟨h1,h2,h3,h4⟩:=h;refine⟨adl _,by simp;omega,ahi,?_⟩;rw[h4,ad2]
 congr 1
 have e:s.drop st=(s.take i).drop st++c::s.drop (i+1):=by
  have e1:s=s.take i++s[i]::s.drop (i+1):=by
   rw[List.getElem_cons_drop,aeC]
  conv=>lhs;rw[e1]
  rw[afa (by rw[adA];omega),hc]
 rw[e,o8 h3]
 rfl
end Go.Proofs.Tryz
namespace Go.Proofs.Tryz
open Go.AL
def Bf{n:Int}(h:dY n):iO (aW n)=true:=by
 obtain⟨h1,h2,h3,h4⟩:=oG h;exact mY.2 ⟨h1,h2,h3,by rw[h4]⟩
def lg{c:UInt8}:∀q∈([]:List (List UInt8)),¬c∈q:=λ_ h=>(aeq h).elim
def bO{c:UInt8}{p:List UInt8}{l:List (List UInt8)}(h:¬c∈p)(hl:∀q∈l,¬c∈q):∀q∈p::l,¬c∈q:=by
 intro q hq;rcases adT.1 hq with rfl|hq
 .exact h
 .exact hl q hq
def Dx{l:List Int}(h:gK l):(l.map aW).all iO=true/\(l.map aW).map dp=l:=by
 constructor
 .rw[adw];intro w hw;obtain⟨n,hn,rfl⟩:=adF.1 hw;exact Bf (h n hn)
 .rw[aeu]
  conv=>rhs;rw[<-List.map_id l]
  exact aeb λn hn=>(oG (h n hn)).2.2.2
def oZ{l:List Int}(h:gK l):fa (l.map aW)=.ok l:=by
 rw[xL (Dx h).1,(Dx h).2]
def wQ:∀{l:List Int},gK l->∀c∈fb 44 (l.map aW),digit c\/c=44\/c=45
 |[],_,c,hc=>by cases hc
 |[n],h,c,hc=>.inl ((oG (h n adx)).2.2.1 c hc)
 |n::m::l,h,c,hc=>by
  rw[ady,ij 44 _ ahi]at hc;rcases adm.1 hc with hc|hc
  .exact .inl ((oG (h n adx)).2.2.1 c hc)
  .rcases adT.1 hc with rfl|hc
   .exact .inr (.inl rfl)
   .exact wQ (λx hx=>h x (adu _ hx)) c hc
def y8{l:List Int}(h:gK l):∀c∈fg l,digit c\/c=44\/c=45:=by
 intro c hc;unfold fg at hc;split at hc
 .rw[adJ]at hc;exact .inr (.inr hc)
 .exact wQ h c hc
def GX{l:List Int}(h:gK l)(hl:l≠[]):fg l≠[45]/\aZ 44 (fg l)=l.map aW:=by
 unfold fg;rw[if_neg hl]
 have hs:aZ 44 (fb 44 (l.map aW))=l.map aW:=qY (by simpa using hl) (by
  intro p hp;obtain⟨n,hn,rfl⟩:=adF.1 hp
  exact Iw (h n hn) (by unfold digit;decide))
 refine⟨?_,hs⟩;intro e;rw[e]at hs
 have h2:l.map aW=[[45]]:=by rw[<-hs];decide
 have hm:([45]:List UInt8)∈l.map aW:=by rw[h2];exact adx
 obtain⟨n,hn,hd⟩:=adF.1 hm;have:=(oG (h n hn)).2.2.1 45 (by rw[hd];exact adx);revert this;unfold digit;decide
def wW{l:List Int}(h:gK l):iI (fg l)=.ok l:=by
 unfold iI
 by_cases hl:l=[]
 .subst hl;rfl
 .obtain⟨h1,h2⟩:=GX h hl;rw[if_neg h1,h2,oZ h]
def lC{nm:List UInt8}{l:List (List UInt8)}(h:∀p∈nm::l,¬(32:UInt8)∈p):aZ 32 (fO nm l)=nm::l:=qY ahi h
def gM{n:Int}(h:dY n):¬(32:UInt8)∈aW n:=Iw h (by unfold digit;decide)
def Dh{l:List Int}(h:gK l):¬(32:UInt8)∈fg l:=by
 intro hc;rcases y8 h 32 hc with h|h|h
 .revert h;unfold digit;decide
 .revert h;decide
 .revert h;decide
def CD(b:Bool):¬(32:UInt8)∈iP b:=by cases b<;>decide
def Ic{s:aI}(h:nW s):aZ 32 (fF s)=[mP,aW s.wide,aW s.rows]:=lC (bO zd (bO (gM h.wide) (bO (gM h.rows) lg)))
def Jr{s:aI}(h:nW s):aZ 32 (gR s)=[mT,aW s.fI,aW s.fH,aW s.ir,aW s.il,aW s.bT]:=lC (bO zd (bO (gM h.fI) (bO (gM h.fH) (bO (gM h.ir) (bO (gM h.il) (bO (gM h.bT) lg))))))
def L5{n:Int}(h:dY n):aZ 32 (gp n)=[nt,aW n]:=lC (bO zd (bO (gM h) lg))
def J9{p:jY}(h:dY p.l/\dY p.r/\dY p.lo/\dY p.hi):aZ 32 (jE p)=[nw,aW p.l,aW p.r,aW p.lo,aW p.hi]:=lC (bO zd (bO (gM h.1) (bO (gM h.2.1) (bO (gM h.2.2.1) (bO (gM h.2.2.2) lg)))))
def Kx{w:Word}(h:gK w.aU/\gK w.bU):aZ 32 (je w)=[mq,iP w.free,fg w.aU,fg w.bU]:=lC (bO zd (bO (CD _) (bO (Dh h.1) (bO (Dh h.2) lg))))
def CT(b:Bool):(iP b==[121,101,115])=b:=by cases b<;>decide
def L1{s x:aI}(h:nW s):eo x (fF s)=.ok { x with wide:=s.wide,rows:=s.rows }:=by
 unfold eo;rw[Ic h];have:=oZ (l:=[s.wide,s.rows]) (bz h.wide (bz h.rows gv));simp only[ady,adR]at this;simp[this,cN,at']
def OM{s x:aI}(h:nW s):eo x (gR s)=.ok { x with fI:=s.fI,fH:=s.fH,ir:=s.ir,il:=s.il,bT:=s.bT }:=by
 unfold eo;rw[Jr h];have:=oZ (l:=[s.fI,s.fH,s.ir,s.il,s.bT]) (bz h.fI (bz h.fH (bz h.ir (bz h.il (bz h.bT gv)))));simp only[ady,adR]at this
 have n1:mT≠mP:=zd
 simp[this,cN,at',n1]
def M1{x:aI}{n:Int}(h:dY n):eo x (gp n)=.ok { x with aM:=x.aM++[n] }:=by
 unfold eo;rw[L5 h];have:=oZ (l:=[n]) (bz h gv);simp only[ady,adR]at this;simp[this,cN,at']
def Ob{x:aI}{p:jY}(h:dY p.l/\dY p.r/\dY p.lo/\dY p.hi):eo x (jE p)=.ok { x with aL:=x.aL++[p] }:=by
 unfold eo;rw[J9 h];obtain⟨h1,h2,h3,h4⟩:=h;have:=oZ (l:=[p.l,p.r,p.lo,p.hi]) (bz h1 (bz h2 (bz h3 (bz h4 gv))));simp only[ady,adR]at this;simp[this,cN,at']
def NV{x:aI}{w:Word}(h:gK w.aU/\gK w.bU):eo x (je w)=.ok { x with words:=x.words++[w] }:=by
 unfold eo;rw[Kx h]
 have n1:mq≠mP:=zd
 have n2:mq≠mT:=zd
 have n3:mq≠nt:=zd
 have n4:mq≠nw:=zd
 simp[wW h.1,wW h.2,cN,at',CT]
def Kj{l:List Int}(h:gK l):∀{x:aI},ee eo x (l.map gp)=.ok { x with aM:=x.aM++l }:=by
 induction l with
 |nil=>intro x;simp[ee]
 |cons n l ih=>
  intro x;show cN (eo x (gp n)) (λa=>ee eo a (l.map gp))=_;rw[M1 (h n adx)];show ee eo _ _=_;rw[ih (λk hk=>h k (adu _ hk))];simp
def Lf{l:List jY}(h:∀p∈l,dY p.l/\dY p.r/\dY p.lo/\dY p.hi):∀{x:aI},ee eo x (l.map jE)=.ok { x with aL:=x.aL++l }:=by
 induction l with
 |nil=>intro x;simp[ee]
 |cons n l ih=>
  intro x;show cN (eo x (jE n)) (λa=>ee eo a (l.map jE))=_;rw[Ob (h n adx)];show ee eo _ _=_;rw[ih (λk hk=>h k (adu _ hk))];simp
def Jp{l:List Word}(h:∀w∈l,gK w.aU/\gK w.bU):∀{x:aI},ee eo x (l.map je)=.ok { x with words:=x.words++l }:=by
 induction l with
 |nil=>intro x;simp[ee]
 |cons n l ih=>
  intro x;show cN (eo x (je n)) (λa=>ee eo a (l.map je))=_;rw[NV (h n adx)];show ee eo _ _=_;rw[ih (λk hk=>h k (adu _ hk))];simp
def JU{s:aI}(h:nW s):ee eo cG (ez s)=.ok s:=by
 show cN (eo cG (fF s)) (λa=>cN (eo a (gR s)) λa=>ee eo a (s.aM.map gp++(s.aL.map jE++s.words.map je)))=_;rw[L1 h];show cN (eo _ (gR s)) _=_;rw[OM h];show ee eo _ _=_;rw[tA (Kj h.aM),tA (Lf h.aL),Jp h.words];simp[cG]
def lO{c:UInt8}(hc:c≠10):∀{l:List (List UInt8)},(∀p∈l,¬(10:UInt8)∈p)->¬(10:UInt8)∈fb c l
 |[],_,h=>by cases h
 |[p],h,hm=>h p adx hm
 |p::q::r,h,hm=>by
  rw[ij c p ahi]at hm;rcases adm.1 hm with hm|hm
  .exact h p adx hm
  .rcases adT.1 hm with e|hm
   .exact hc e.symm
   .exact lO hc (λx hx=>h x (adu _ hx)) hm
def fy{n:Int}(h:dY n):¬(10:UInt8)∈aW n:=Iw h (by unfold digit;decide)
def Cg{l:List Int}(h:gK l):¬(10:UInt8)∈fg l:=by
 intro hc;rcases y8 h 10 hc with h|h|h
 .revert h;unfold digit;decide
 .revert h;decide
 .revert h;decide
def Kl{s:aI}(h:nW s):∀p∈ez s,¬(10:UInt8)∈p:=by
 intro p hp;unfold ez at hp;simp only[adT,adm,adF]at hp
 rcases hp with rfl|rfl|⟨n,hn,rfl⟩|⟨q,hq,rfl⟩|⟨w,hw,rfl⟩
 .exact lO zd (bO zd (bO (fy h.wide) (bO (fy h.rows) lg)))
 .exact lO zd (bO zd (bO (fy h.fI) (bO (fy h.fH) (bO (fy h.ir) (bO (fy h.il) (bO (fy h.bT) lg))))))
 .exact lO zd (bO zd (bO (fy (h.aM n hn)) lg))
 .obtain⟨h1,h2,h3,h4⟩:=h.aL q hq;exact lO zd (bO zd (bO (fy h1) (bO (fy h2) (bO (fy h3) (bO (fy h4) lg)))))
 .obtain⟨h1,h2⟩:=h.words w hw;exact lO zd (bO zd (bO (by cases w.free<;>decide) (bO (Cg h1) (bO (Cg h2) lg))))
def zx(l:List (List UInt8)):0<=ct 0 l % 173/\ct 0 l % 173<173:=by omega
def P5{c:Int}(h:0<=c)(h':c<173):¬(10:UInt8)∈kK c:=by
 unfold kK;simp only[adm];rintro(((h1|h1)|h1)|h1)
 .revert h1;decide
 .exact fy ⟨zo,zo⟩ h1
 .exact fy ⟨zo,zo⟩ h1
 .exact fy ⟨zo,zo⟩ h1
def L0{l:List (List UInt8)}(h:∀p∈l,¬(10:UInt8)∈p):aZ 10 (xm l)=l++[kK (ct 0 l % 173),[]]:=by
 refine qY ahi ?_;intro p hp;simp only[adm,adT,aeq,agv]at hp;obtain⟨h1,h2⟩:=zx l;rcases hp with hp|rfl|rfl
 .exact h p hp
 .exact P5 h1 h2
 .simp
def HP{s:aI}(h:nW s):lx (iM s)=.ok s:=by
 unfold lx;have hs:aZ 10 (iM s)=ez s++[kK (ct 0 (ez s) % 173),[]]:=L0 (Kl h);rw[hs,if_neg ahi,adC,show[kK (ct 0 (ez s) % 173),[]].length=2 from rfl,afz,afH,JU h];show(if iM s=iM s then _ else _)=_;rw[if_pos rfl]
def oB(nm:List UInt8)(l:List (List UInt8)):(fO nm l).length=nm.length+(l.map λp=>p.length+1).sum:=by
 have:=ov 32 (l:=nm::l) ahi;rw[ady,List.sum_cons]at this;unfold fO;omega
def CI{l:List Int}(h:∀n∈l,0<=n/\n<10){b:Nat}(hb:l.length<=b)(oH:1<=b):(fg l).length+1<=2*b:=by
 unfold fg;split
 .simp;omega
 .rename_i hl;rw[ov 44 (by simpa using hl),aeu];refine aeo (Cc _ 2 λn hn=>?_) zo;have:=(eB ⟨(h n hn).1,by have:=(h n hn).2;omega⟩).2.2 (h n hn).2;show(aW n).length+1<=2;omega
def tN{n:Int}(h:dY n)(h1:n<100):(aW n).length<=2:=(eB h).2.1 h1
def qj{n:Int}(h:dY n)(h1:n<10):(aW n).length<=1:=Nat.le_of_eq ((eB h).2.2 h1)
def CU(l r:List (List UInt8)):((l++r).map λp=>p.length+1).sum=(l.map λp=>p.length+1).sum+(r.map λp=>p.length+1).sum:=by
 rw[adL,aeR]
def tF{α:Type}{f:α->List UInt8}{l:List α}{b:Nat}(h:∀x∈l,(f x).length+1<=b):((l.map f).map λp=>p.length+1).sum<=b*l.length:=by
 rw[aeu];exact Cc _ b h
def OK{s:aI}(hs:bl s=true):(fF s).length<=11/\(gR s).length<=19/\(∀n∈s.aM,(gp n).length<=7)/\(∀p∈s.aL,(jE p).length<=12)/\∀w∈s.words,(je w).length<=30:=by
 have hN:=pk hs;have hF:=gE hs;have ho:=hF.o;have hg:=hF.g;have hh:=hF.bT;have hw:=hF.wide;have hr:=hF.rows;have u_:=hF.JX
 have GL:∀p∈s.aL,p.l<s.aM.length/\p.r<s.aM.length:=by
  unfold bl at hs;simp only[adk]at hs;intro p hp;have h:=(fQ.1 hs.1.2).1 p hp;unfold jS jd da at h;simp only[adk,adr]at h;omega
 refine⟨?_,?_,λn hn=>?_,λp hp=>?_,λw hw=>?_⟩
 .unfold fF;rw[oB];have h1:=(eB hN.wide).1;have h2:=qj hN.rows zo;simp[mP];omega
 .unfold gR;rw[oB];have h1:=qj hN.fI zo;have h2:=qj hN.fH zo;have h3:=tN hN.ir zo;have h4:=tN hN.il zo;have h5:=tN hN.bT zo;simp[mT];omega
 .unfold gp;rw[oB];have:=hF.aM n hn;have h1:=tN (hN.aM n hn) zo;simp[nt];omega
 .unfold jE;rw[oB];obtain⟨n1,n2,n3,n4⟩:=hN.aL p hp;have h1:=hF.aL p hp;have h2:=GL p hp;have h3:=qj n1 zo;have h4:=qj n2 zo;have h5:=qj n3 zo;have h6:=qj n4 zo;simp[nw];omega
 .unfold je;rw[oB];have f:=mU hs hw;have hc:=f.bU;have h6:=f.y3;have h1:=f.Br;have kJ:=tD hc zo
  have wj:∀n∈w.bU,0<=n/\n<10:=by
   intro n hn;unfold gf at hc;have:=(fQ.1 hc).1 n hn;unfold da at this;simp only[adk,adr]at this;omega
  have nq:∀n∈w.aU,0<=n/\n<10:=by
   intro n hn;have:=f.sign n hn;omega
  have e1:=CI nq h6 zo;have e2:=CI (b:=5) wj zo zo
  have e3:(iP w.free).length<=3:=by cases w.free<;>decide
  simp[mq];omega
def Ry{c:Int}(h:0<=c)(h':c<173):kK c=[101,110,100,32,dg (c/100).toNat,dg (c/10 % 10).toNat,dg (c % 10).toNat]:=by
 unfold kK aW;rw[qD zo,qD zo,qD zo];rfl
def FX{s:aI}(hs:bl s=true):(iM s).length<=320:=by
 obtain⟨h1,h2,h3,h4,h5⟩:=OK hs;have hF:=gE hs;have e:=ov 10 (l:=ez s++[kK (ct 0 (ez s) % 173),[]]) ahi
 have he:(kK (ct 0 (ez s) % 173)).length=7:=by
  obtain⟨a,b⟩:=zx (ez s);rw[Ry a b];rfl
 rw[CU]at e
 have hl:((ez s).map λp=>p.length+1).sum=(fF s).length+1+((gR s).length+1+(((s.aM.map gp).map λp=>p.length+1).sum+(((s.aL.map jE).map λp=>p.length+1).sum+((s.words.map je).map λp=>p.length+1).sum))):=by
  unfold ez;rw[ady,List.sum_cons,ady,List.sum_cons,CU,CU]
 have a1:=tF (b:=8) λn hn=>agT (h3 n hn)
 have a2:=tF (b:=13) λn hn=>agT (h4 n hn)
 have a3:=tF (b:=31) λn hn=>agT (h5 n hn)
 have b1:=hF.JX;have b2:=hF.R_;have b3:=hF.words.2
 have hz:(([kK (ct 0 (ez s) % 173),[]]:List (List UInt8)).map λp=>p.length+1).sum=9:=by simp[he]
 rw[hl,hz]at e;unfold iM xm;omega
end Go.Proofs.Tryz
namespace Go.Proofs.Tryz
open Go Go.AL Go.RowKit Go.Proofs Go.Proofs.Tram
attribute [local simp] eD fG fB eR eQ d_ ec dE dJ eP dF df ik ig aF aD ev aP.S aP.H bw au aX AL.start AV.cells AV.storable AV.cy bB cd dS cb HR.okB post cM dc de AV.out AV.cg cZ dZ fz gZ AV.vw cW vI int cz aN dk dP iS jN eM dV bG AV.aJ AV.cI
variable{GI:World->Prop}
def YR(hG:ar GI)(hT:TB GI)(s:aI)(hN:nW s):AC prog GI 212 [cC s] (.ret (strs ([s.wide,s.rows].map aW))):=by
 have a:=C4 hG hT [s.wide,s.rows] ahi ahi (bz hN.wide (bz hN.rows gv));have fY:aG 1 [AV.int .i64 s.wide,AV.int .i64 s.rows]=true:=rfl
 generalize ho:strs ([s.wide,s.rows].map aW)=o at*
 have hs:o.storable=true:=by rw[<-ho];rfl
 have hv:o.vw=o:=by rw[<-ho];rfl
 refine cw hG func212 ntmps212 c212 ?_;simp[c212,cC,ai,fY];refine oc a ?_;subst ho;simp[strs]
def Y1(hG:ar GI)(hT:TB GI)(s:aI)(hN:nW s):AC prog GI 214 [cC s] (.ret (strs ([s.fI,s.fH,s.ir,s.il,s.bT].map aW))):=by
 have a:=C4 hG hT [s.fI,s.fH,s.ir,s.il,s.bT] ahi ahi (bz hN.fI (bz hN.fH (bz hN.ir (bz hN.il (bz hN.bT gv)))));have fY:aG 1 [AV.int .i64 s.fI,AV.int .i64 s.fH,AV.int .i64 s.ir,AV.int .i64 s.il,AV.int .i64 s.bT]=true:=rfl
 generalize ho:strs ([s.fI,s.fH,s.ir,s.il,s.bT].map aW)=o at*
 refine cw hG func214 ntmps214 c214 ?_;simp[c214,cC,ai,fY];refine oc a ?_;subst ho;simp[strs]
def X9(hG:ar GI)(hT:TB GI)(n:Int)(h:dY n):AC prog GI 215 [.agg [.int .i64 n]] (.ret (strs ([n].map aW))):=by
 have a:=C4 hG hT [n] ahi ahi (bz h gv);have fY:aG 1 [AV.int .i64 n]=true:=rfl
 generalize ho:strs ([n].map aW)=o at*
 refine cw hG func215 ntmps215 c215 ?_;simp[c215,fY];refine oc a ?_;subst ho;simp[strs]
def ZB(hG:ar GI)(hT:TB GI)(p:jY)(n1:dY p.l)(n2:dY p.r)(n3:dY p.lo)(n4:dY p.hi):AC prog GI 216 [dM p] (.ret (strs ([p.l,p.r,p.lo,p.hi].map aW))):=by
 have a:=C4 hG hT [p.l,p.r,p.lo,p.hi] ahi ahi (bz n1 (bz n2 (bz n3 (bz n4 gv))));have fY:aG 1 [AV.int .i64 p.l,AV.int .i64 p.r,AV.int .i64 p.lo,AV.int .i64 p.hi]=true:=rfl
 generalize ho:strs ([p.l,p.r,p.lo,p.hi].map aW)=o at*
 refine cw hG func216 ntmps216 c216 ?_;simp[c216,dM,fY];refine oc a ?_;subst ho;simp[strs]
def ND{l:List Int}(h:gK l):(fb 44 (l.map aW)).length<=4*l.length:=by
 have:=xJ h l.length;unfold nI at this;rwa [ado (adl _)]at this
def Sa(hG:ar GI)(hT:TB GI)(l:List Int)(hl:l.length<1000)(h:gK l):AC prog GI 218 [vI l] (.ret (.str (fg l))):=by
 by_cases h0:l=[]
 .subst h0;have:fg []=[45]:=rfl;rw[this];refine cw hG func218 ntmps218 c218 ?_;simp[c218]
 have uv:((l.length:Int)==0)=false:=by have:=aew.2 h0;simp;omega
 have a:=C4 hG hT l h0 hl h;have hj:=ND h;have b:=uU (GI:=GI) (l.map aW) [44] (by simp;omega) (by rw[B9];omega);rw[B9]at b
 have hT:fg l=fb 44 (l.map aW):=by unfold fg;rw[if_neg h0]
 rw[hT]
 have b2:AC prog GI 121 [.slice .view (l.map (AV.str∘aW)),.str [44]] (.ret (.str (fb 44 (l.map aW)))):=by
  have e:l.map (AV.str∘aW)=(l.map aW).map AV.str:=by rw[aeu]
  rw[e];exact b
 generalize fb 44 (l.map aW)=r at*
 generalize ho:strs (l.map aW)=o at*
 refine cw hG func218 ntmps218 c218 ?_;simp[c218,uv,h0];refine oc a ?_;subst ho;simp[strs];refine oc b2 ?_;simp[strs]
def Zd(hG:ar GI)(hT:TB GI)(w:Word)(h1:gK w.aU)(h2:gK w.bU)(f1:w.aU.length<1000)(f2:w.bU.length<1000):AC prog GI 217 [cD w] (.ret (strs [iP w.free,fg w.aU,fg w.bU])):=by
 have a:=Sa hG hT w.aU f1 h1;have b:=Sa hG hT w.bU f2 h2
 have Fy:∀x y z:List UInt8,aG 1 [AV.str x,AV.str y,AV.str z]=true:=λ_ _ _=>rfl
 generalize fg w.aU=u at*
 generalize fg w.bU=v at*
 have e0:strs [iP w.free,u,v]=.slice .view [.str (iP w.free),.str u,.str v]:=rfl;rw[e0];refine AC.nz (o:=.own 9) ?_;refine cw hG func217 ntmps217 c217 ?_;cases hf:w.free
 all_goals
  simp[c217,cD,hf,iP];refine oc a ?_;simp;refine oc b ?_;simp[Fy,strs]
def zK(hG:ar GI):AC prog GI 129 [] (.ret (.agg [.str mP,.str mT,.str nt,.str nw,.str mq])):=by
 obtain⟨it,hit,bj⟩:=iZ 193 5;refine cw hG func129 ntmps129 c129 ?_;simp[c129,mP,mT,nt,nw,mq,hit,bj,ef,bI]
def Xr(hG:ar GI)(s:aI)(hs:qE s):AC prog GI 48 [cC s,cC s] (.ret (.bool true)):=by
 have q0:=hs.aM;have q1:=hs.aL;have q2:=hs.words
 have Vw:=λl hl=>RJ (GI:=GI) hG l l hl
 simp only[beq_self_eq_true]at Vw;refine cw hG func48 ntmps48 c48 ?_;refine aK (λS H=>S 2=.box 2 0/\S 3=.box 3 0/\H 2=some (ai s)/\H 3=some (ai s)) (by simp[cC,ai]) ?_;rintro S H ⟨s2,s3,e2,e3⟩;refine aK (λS H=>S 2=.box 2 0/\S 3=.box 3 0/\H 2=some (ai s)/\H 3=some (ai s)) ?_ ?_
 .simp[s2,s3,e2,e3,ai];refine⟨_,zk,Vw s.aM zo,λ_=>rfl,?_⟩;simp[s2,s3,e2,e3,ai,ku]
 clear s2 s3 e2 e3 S H;rintro S H ⟨s2,s3,e2,e3⟩;refine aK (λS H=>S 2=.box 2 0/\S 3=.box 3 0/\H 2=some (ai s)/\H 3=some (ai s)) ?_ ?_
 .simp[s2,s3,e2,e3];refine bu 5 s.aL.length (λi S H=>S 2=.box 2 0/\S 3=.box 3 0/\H 2=some (ai s)/\H 3=some (ai s)/\S 5=.int .i64 (i:Nat)) (λi S H h=>h.2.2.2.2) ⟨by simp[s2],by simp[s3],by simp[e2],by simp[e3],ahi⟩ ?_;clear s2 s3 e2 e3 S H;rintro i hi S H ⟨s2,s3,e2,e3,s5⟩
  by_cases aq:i<s.aL.length
  case neg=>
   have di:i=s.aL.length:=zo
   subst di;simp[s2,s3,e2,e3,s5,ai]
  have hw:IntKind.i64.wrap ((i:Int)+1)=i+1:=aT zo;simp[s2,s3,e2,e3,s5,ai,aq,hw,dM,ku]
 clear s2 s3 e2 e3 S H;rintro S H ⟨s2,s3,e2,e3⟩;refine aK (λS H=>True) ?_ ahi;simp[s2,s3,e2,e3];refine bu 6 s.words.length (λi S H=>S 2=.box 2 0/\S 3=.box 3 0/\H 2=some (ai s)/\H 3=some (ai s)/\S 6=.int .i64 (i:Nat)) (λi S H h=>h.2.2.2.2) ⟨by simp[s2],by simp[s3],by simp[e2],by simp[e3],ahi⟩ ?_;clear s2 s3 e2 e3 S H;rintro i hi S H ⟨s2,s3,e2,e3,s6⟩
 by_cases aq:i<s.words.length
 case neg=>
  have di:i=s.words.length:=zo
  subst di;simp[s2,s3,e2,e3,s6,ai]
 have hw:IntKind.i64.wrap ((i:Int)+1)=i+1:=aT zo;have f1:=hs.aU _ (adi aq);have f2:=hs.bU _ (adi aq);simp[s2,s3,e2,e3,s6,ai,aq,hw,cD];refine⟨_,zk,Vw s.words[i].aU zo,λ_=>rfl,?_⟩;simp[s2,s3,e2,e3,s6,ai,aq,hw,cD];refine⟨_,zk,Vw s.words[i].bU zo,λ_=>rfl,?_⟩;simp[s2,s3,e2,e3,s6,ai,aq,hw,cD]
end Go.Proofs.Tryz
namespace Go.AL
def vB{P:Program}{GI:World->Prop}{i k:Nat}{x y:ah}{Q:dT->an->ao->Prop}{S:an}{H:ao}(K:an->ao->Prop)(hx:bD P GI x (aN K) S H)(hy:∀S' H',K S' H'->A6 P GI i k y Q S' H'):A6 P GI i (k+1) (.seq x y) Q S H:=by
 refine QU K (gu x (λe S H h=>?_) hx) (λh=>gu x h) hy
 cases e<;>first|exact⟨rfl,h⟩|exact h.elim
def Rel.tJ{P:Program}{w0:World}{n:Nat}{g:Gh}{S:an}{H:ao}{a:Act}{w:World}(R:Rel P w0 n bL g S H a w)(b:Nat):Rel P w0 n bL { g with old:={ g.old with aV:=au g.old.aV b none } } S H a w:={
 size:=R.size
 defers:=R.defers
 facts:=R.facts
 slot:=R.slot
 own t ht hu:=(R.own t ht hu).aV rfl λb hb=>⟨rfl,rfl,hb⟩
 box i c hi:=by
  obtain⟨cs,vs,ty,h1,h2,h3,h4,h5,h6,h7,h8,h9⟩:=R.box i c hi;exact⟨cs,vs,ty,h1,h2,h3,h4,h5,h6,h7,λj hj dU=>(h8 j hj dU).aV rfl λb hb=>⟨rfl,rfl,hb⟩,h9⟩
 jQ:=R.jQ
 jX:=R.jX
 inj:=R.inj
 base:=R.base
 below:=R.below
 fresh:=R.fresh
 still:=R.still
 grown:=R.grown
 kept c o h:=by
  have hc:c≠b:=by rintro rfl;simp[au]at h
  exact R.kept c o (by simpa[au,hc]using h) }
section
variable{P:Program}{a:Act}{w:World}{m:Nat}{Q:Exit->Act->World->Prop}
def Gv {ops:Array Oper} {i:Nat} {rest:List Nat} {o:Oper} (ho:ops[i]? = some o) (hw:Region.wanted o (yielded ops a.tmps)=true) (dL:eH o.op=true) {l f:Nat} {tmps:Array Value} {VU bd:Code} {w':World}
  (hr:(execOp a.eval o).run P w=.ok (.round l f tmps VU bd) w') {R:Ending->World->Prop} (hc:∀m,RoundIn (FR none) m P l f tmps VU bd w' R) (hk:∀e ju,R e ju->∃v,e=.returned v/\wpOpsIn (FR none) m P ops Q rest (a.put o.dst v) ju):wpOpsIn (FR none) m P ops Q (i::rest) a w:=by
 simp only[wpOpsIn,ho];rw[if_pos hw];refine⟨λ_ _=>trivial,?_⟩;rw[aeM _ _ _ (λc hc=>by rw[hc]at dL;cases dL),hr];refine⟨λh=>by simp[FR,Fence.wide]at h,(hc (m-1)).mono λe ju hh=>?_⟩;obtain⟨v,rfl,h⟩:=hk e ju hh;exact h
def Qa{o:Oper}{t:TypeId}{x:Operand}{b:Bool}(ho:o.op=.unOp .not t x)(hx:a.eval x=.bool b):(execOp a.eval o).run P w=.ok (.value (.bool !b)) w:=by
 unfold execOp;simp[ho,hx,Op.unary]
end
section
variable{P:Program}{GI:World->Prop}
def Xo {S:an} {H:ao} {t e size cap i j:Nat} {l vs:List AV} {o:Ow} (hi:S i=grow e l) (hj:S j = .slice o vs) (hv:aG size vs=true) (hl:aG size l=true) (hn:l.length+vs.length < 1048576) :
  ∃dm,(dm=none\/dm=some i)/\aD S H (.append t e size cap (.t i) (.t j))=some { v:=grow e (l++vs),dm:=dm }:=by
 have ei:ev S (.t i)=grow e l:=hi;have ej:ev S (.t j)=.slice o vs:=hj
 cases l with
 |nil=>
  refine⟨none,.inl rfl,?_⟩;simp only[aD];rw[ei,ej,Fs]
  have zt:vs.length<1048576:=by simpa using hn
  simp[hv,grow,zt]
 |cons x l=>
  refine⟨some i,.inr rfl,?_⟩
  have zt:l.length+1+vs.length<1048576:=by simpa using hn
  simp only[aD];rw[ei,ej];simp[grow,hv,hl,bw,zt]
def mM {K:an→ao→Prop} {S:an} {H:ao} {t e size cap d i j:Nat} {rest:List bH} (l vs:List AV) (o:Ow) (hi:S i=grow e l) (hj:S j = .slice o vs) (hv:aG size vs=true) (hl:aG size l=true) (hn:l.length+vs.length < 1048576)
  (h:∀S',S' d=grow e (l++vs)->(∀k,k≠d->k≠i->S' k=S k)->cU P GI rest K S' H):cU P GI (⟨some d,none,.append t e size cap (.t i) (.t j)⟩::rest) K S H:=by
 obtain⟨dm,HY,jZ⟩:=Xo (t:=t) (cap:=cap) (H:=H) hi hj hv hl hn;obtain⟨k1,k2⟩:=vU (S:=S) (d:=d) HY (grow e (l++vs));rw[ae];simp only[aF,jZ];exact h _ k1 k2
end
section
variable{P:Program}{GI:World->Prop}
def LR (f args d g rest K S H):cU P GI (⟨d,g,.gr f args⟩::rest) K S H=(match aF S g with
  |some true=>((match ev S f with|.func _ first cap=>(first++args.map (ev S)++cap).any cW|_=>true)=false/\(match ev S f with
   |.func (.func k) first cap=>lB P GI k ((first++args.map (ev S)++cap).map (fz H)) ((first++args.map (ev S)++cap).any cW) (kD P GI rest K S d H) (λ_=>False)
   |_=>False))
  |some false=>cU P GI rest K (aX S d cz) H
  |none=>False):=(Eq.refl _).trans (Eq.refl _)
def mS{i d k t:Nat}{Nv:List (TypeId×Nat)}{v r:AV}{rest:List bH}{K:an->ao->Prop}{S:an}{H:ao}(hS:S i=.iface t v)(ht:Nv.lookup t=some k)(hb:cW v=false)(hf:fz H v=v)(hc:eb P k=true)(a:AC P GI k [v] (.ret r))(h:cU P GI rest K (au S d r) H):cU P GI (⟨some d,none,.gr (.m i Nv) []⟩::rest) K S H:=by
 rw[LR]
 have e:ev S (.m i Nv)=.func (.func k) [v] []:=by simp[ev,hS,ht]
 simp only[aF,e];refine⟨by simp[hb],.ret r,hc,?_,by simp[hb],?_⟩
 .simpa[hf]using a
 .exact h
end
end Go.AL
namespace Go.Proofs.Tryz
open Go Go.AL Go.RowKit Go.Proofs Go.Proofs.Tram
attribute [local simp] eD fG fB eR eQ d_ ec dE dJ eP dF df ik ig aF aD ev aP.S aP.H bw au aX AL.start AV.cells AV.storable AV.cy bB cd dS cb HR.okB post cM dc de AV.out AV.cg cZ dZ fz gZ AV.vw cW vI int cz aN dk dP iS jN eM dV bG AV.aJ AV.cI
variable{GI:World->Prop}
def iw(nm:List UInt8)(ws:List (List UInt8)):Lib.join (nm::ws) [32]=fO nm ws:=B9 32 (nm::ws)
def TK(hG:ar GI)(V:List AV)(ws:List (List UInt8))(hb:cW (.agg V)=false)(hf:∀H,fz H (.agg V)=.agg V)(a:AC prog GI 212 [.agg V] (.ret (strs ws)))(hl:ws.length<1000)(hr:(fO mP ws).length<100000):AC prog GI 104 [.iface 149 (.agg V)] (.ret (.str (fO mP ws))):=by
 have pj:=zK hG;have b:=uU (GI:=GI) (mP::ws) [32] (by simp;omega) (by rw[iw];omega);rw[iw]at b;have b2:AC prog GI 121 [.slice .view (AV.str mP::ws.map AV.str),.str [32]] (.ret (.str (fO mP ws))):=b;have cL:aG 1 [AV.str mP]=true:=rfl;have fY:aG 1 (ws.map AV.str)=true:=gl ws
 have hlen:1+(ws.map AV.str).length<1048576:=by simp;omega
 generalize fO mP ws=r at*
 refine cw hG func104 ntmps104 c104 ?_;simp[c104];refine oc pj ?_;simp[cL];refine mS (t:=149) (v:=.agg V) (r:=strs ws) ahi zr hb (hf _) zk a ?_;refine mM [AV.str mP] (ws.map .str) .view (by simp[grow]) (by simp[strs]) fY cL hlen ?_;intro S' sd cE;simp[sd,cE,grow];refine oc b2 ?_;simp
def Rk(hG:ar GI)(V:List AV)(ws:List (List UInt8))(hb:cW (.agg V)=false)(hf:∀H,fz H (.agg V)=.agg V)(a:AC prog GI 214 [.agg V] (.ret (strs ws)))(hl:ws.length<1000)(hr:(fO mT ws).length<100000):AC prog GI 104 [.iface 150 (.agg V)] (.ret (.str (fO mT ws))):=by
 have pj:=zK hG;have b:=uU (GI:=GI) (mT::ws) [32] (by simp;omega) (by rw[iw];omega);rw[iw]at b;have b2:AC prog GI 121 [.slice .view (AV.str mT::ws.map AV.str),.str [32]] (.ret (.str (fO mT ws))):=b;have cL:aG 1 [AV.str mT]=true:=rfl;have fY:aG 1 (ws.map AV.str)=true:=gl ws
 have hlen:1+(ws.map AV.str).length<1048576:=by simp;omega
 generalize fO mT ws=r at*
 refine cw hG func104 ntmps104 c104 ?_;simp[c104];refine oc pj ?_;simp[cL];refine mS (t:=150) (v:=.agg V) (r:=strs ws) ahi zr hb (hf _) zk a ?_;refine mM [AV.str mT] (ws.map .str) .view (by simp[grow]) (by simp[strs]) fY cL hlen ?_;intro S' sd cE;simp[sd,cE,grow];refine oc b2 ?_;simp
def T1(hG:ar GI)(V:List AV)(ws:List (List UInt8))(hb:cW (.agg V)=false)(hf:∀H,fz H (.agg V)=.agg V)(a:AC prog GI 215 [.agg V] (.ret (strs ws)))(hl:ws.length<1000)(hr:(fO nt ws).length<100000):AC prog GI 104 [.iface 153 (.agg V)] (.ret (.str (fO nt ws))):=by
 have pj:=zK hG;have b:=uU (GI:=GI) (nt::ws) [32] (by simp;omega) (by rw[iw];omega);rw[iw]at b;have b2:AC prog GI 121 [.slice .view (AV.str nt::ws.map AV.str),.str [32]] (.ret (.str (fO nt ws))):=b;have cL:aG 1 [AV.str nt]=true:=rfl;have fY:aG 1 (ws.map AV.str)=true:=gl ws
 have hlen:1+(ws.map AV.str).length<1048576:=by simp;omega
 generalize fO nt ws=r at*
 refine cw hG func104 ntmps104 c104 ?_;simp[c104];refine oc pj ?_;simp[cL];refine mS (t:=153) (v:=.agg V) (r:=strs ws) ahi zr hb (hf _) zk a ?_;refine mM [AV.str nt] (ws.map .str) .view (by simp[grow]) (by simp[strs]) fY cL hlen ?_;intro S' sd cE;simp[sd,cE,grow];refine oc b2 ?_;simp
def RQ(hG:ar GI)(V:List AV)(ws:List (List UInt8))(hb:cW (.agg V)=false)(hf:∀H,fz H (.agg V)=.agg V)(a:AC prog GI 216 [.agg V] (.ret (strs ws)))(hl:ws.length<1000)(hr:(fO nw ws).length<100000):AC prog GI 104 [.iface 155 (.agg V)] (.ret (.str (fO nw ws))):=by
 have pj:=zK hG;have b:=uU (GI:=GI) (nw::ws) [32] (by simp;omega) (by rw[iw];omega);rw[iw]at b;have b2:AC prog GI 121 [.slice .view (AV.str nw::ws.map AV.str),.str [32]] (.ret (.str (fO nw ws))):=b;have cL:aG 1 [AV.str nw]=true:=rfl;have fY:aG 1 (ws.map AV.str)=true:=gl ws
 have hlen:1+(ws.map AV.str).length<1048576:=by simp;omega
 generalize fO nw ws=r at*
 refine cw hG func104 ntmps104 c104 ?_;simp[c104];refine oc pj ?_;simp[cL];refine mS (t:=155) (v:=.agg V) (r:=strs ws) ahi zr hb (hf _) zk a ?_;refine mM [AV.str nw] (ws.map .str) .view (by simp[grow]) (by simp[strs]) fY cL hlen ?_;intro S' sd cE;simp[sd,cE,grow];refine oc b2 ?_;simp
def T5(hG:ar GI)(V:List AV)(ws:List (List UInt8))(hb:cW (.agg V)=false)(hf:∀H,fz H (.agg V)=.agg V)(a:AC prog GI 217 [.agg V] (.ret (strs ws)))(hl:ws.length<1000)(hr:(fO mq ws).length<100000):AC prog GI 104 [.iface 157 (.agg V)] (.ret (.str (fO mq ws))):=by
 have pj:=zK hG;have b:=uU (GI:=GI) (mq::ws) [32] (by simp;omega) (by rw[iw];omega);rw[iw]at b;have b2:AC prog GI 121 [.slice .view (AV.str mq::ws.map AV.str),.str [32]] (.ret (.str (fO mq ws))):=b;have cL:aG 1 [AV.str mq]=true:=rfl;have fY:aG 1 (ws.map AV.str)=true:=gl ws
 have hlen:1+(ws.map AV.str).length<1048576:=by simp;omega
 generalize fO mq ws=r at*
 refine cw hG func104 ntmps104 c104 ?_;simp[c104];refine oc pj ?_;simp[cL];refine mS (t:=157) (v:=.agg V) (r:=strs ws) ahi zr hb (hf _) zk a ?_;refine mM [AV.str mq] (ws.map .str) .view (by simp[grow]) (by simp[strs]) fY cL hlen ?_;intro S' sd cE;simp[sd,cE,grow];refine oc b2 ?_;simp
end Go.Proofs.Tryz
namespace Go.Proofs.Tryz
open Go Go.AL Go.RowKit Go.Proofs Go.Proofs.Tram
attribute [local simp] eD fG qe ou eQ d_ ec dE dJ eP dF df ik ig aF aD ev aP.S aP.H bw au aX AL.start AV.cells AV.storable AV.cy bB cd dS cb HR.okB post cM dc de AV.out AV.cg cZ dZ fz gZ AV.vw cW vI int cz aN dk dP iS jN eM dV bG AV.aJ AV.cI
variable{GI:World->Prop}
def xO(p:jY):List AV:=[.int .i64 p.l,.int .i64 p.r,.int .i64 p.lo,.int .i64 p.hi]
def xU(w:Word):List AV:=[vI w.aU,vI w.bU,.bool w.free]
def AB(s:aI):List (Nat×List AV×List UInt8):=[(149,ai s,fF s),(150,ai s,gR s)]++(s.aM.map (λn=>(153,[AV.int .i64 n],gp n))++(s.aL.map (λp=>(155,xO p,jE p))++s.words.map (λw=>(157,xU w,je w))))
def nS(p:jY):Nat×List AV×List UInt8:=(155,xO p,jE p)
def nJ(w:Word):Nat×List AV×List UInt8:=(157,xU w,je w)
def gV(q:Nat×List AV×List UInt8):AV:=.iface q.1 (.agg q.2.1)
def AK(s:aI):(AB s).map (·.2.2)=ez s:=by
 unfold AB ez;simp[Function.comp_def]
def Of(hG:ar GI)(hT:TB GI)(s:aI)(hN:nW s)(hf:MG s):∀q∈AB s,AC prog GI 104 [gV q] (.ret (.str q.2.2)):=by
 have nq:=tq hN hf;rw[<-AK]at nq;intro q hq;have hl:=nq q.2.2 (afr hq);unfold AB at hq;simp only[adT,adm,adF,aeq,agv]at hq
 rcases hq with(rfl|rfl)|⟨n,hn,rfl⟩|⟨p,hp,rfl⟩|⟨w,hw,rfl⟩
 .exact TK hG (ai s) ([s.wide,s.rows].map aW) rfl (λ_=>rfl) (YR hG hT s hN) ahi (afX hl zo)
 .exact Rk hG (ai s) ([s.fI,s.fH,s.ir,s.il,s.bT].map aW) rfl (λ_=>rfl) (Y1 hG hT s hN) ahi (afX hl zo)
 .exact T1 hG [.int .i64 n] ([n].map aW) rfl (λ_=>rfl) (X9 hG hT n (hN.aM n hn)) ahi (afX hl zo)
 .obtain⟨h1,h2,h3,h4⟩:=hN.aL p hp;exact RQ hG (xO p) ([p.l,p.r,p.lo,p.hi].map aW) rfl (λ_=>rfl) (ZB hG hT p h1 h2 h3 h4) ahi (afX hl zo)
 .obtain⟨h1,h2⟩:=hN.words w hw;exact T5 hG (xU w) [iP w.free,fg w.aU,fg w.bU] rfl (λ_=>rfl) (Zd hG hT w h1 h2 (hf.aU w hw) (hf.bU w hw)) ahi (afX hl zo)
def GZ(l:List (Nat×List AV×List UInt8)):aG 1 (l.map gV)=true:=iC λa=>⟨rfl,rfl⟩
def Wp(hG:ar GI)(hT:TB GI)(s:aI)(hN:nW s)(hf:MG s):AC prog GI 45 [cC s] (.ret (.str (iM s))):=by
 have q1:=hf.aM;have q2:=hf.aL;have q3:=hf.words;have UH:=Of hG hT s hN hf;have yh:=AK s;have nq:=tq hN hf
 have wu:(ez s).length<1000:=by unfold ez;simp;omega
 have Wb:iM s=xm (ez s):=rfl;rw[Wb]
 generalize hR:AB s=R at*
 refine cw hG func45 ntmps45 c45 ?_;refine aK (λS H=>S 1=.box 1 0/\H 1=some (ai s)/\S 2=.str []) (by simp[af,ae,cC,ai]) ?_;rintro S H ⟨s1,e1,s2⟩;refine aK (λS H=>S 1=.box 1 0/\H 1=some (ai s)/\S 3=grow 159 ([(149,ai s,fF s),(150,ai s,gR s)].map gV)) ?_ ?_
 .have bX:∀a b:List AV,aG 1 [AV.iface 149 (.agg a),AV.iface 150 (.agg b)]=true:=λ_ _=>rfl
  simp[af,ae,s1,e1,ai,bI,bX,grow,gV]
 clear s1 e1 s2 S H;rintro S H ⟨s1,e1,s3⟩;refine aK (λS H=>S 1=.box 1 0/\H 1=some (ai s)/\S 3=grow 159 (([(149,ai s,fF s),(150,ai s,gR s)]++s.aM.map (λn=>(153,[AV.int .i64 n],gp n))).map gV)) ?_ ?_
 .simp[af,ae,s1,e1,s3];refine bu 26 s.aM.length (λi S H=>S 1=.box 1 0/\H 1=some (ai s)/\S 24=vI s.aM/\S 25=.int .i64 (s.aM.length:Nat)/\S 26=.int .i64 (i:Nat)/\S 3=grow 159 (([(149,ai s,fF s),(150,ai s,gR s)]++(s.aM.take i).map (λn=>(153,[AV.int .i64 n],gp n))).map gV)) (λi S H h=>h.2.2.2.2.1) ⟨by simp[af,ae,s1],by simp[af,ae,e1],by simp[af,ae,ai,s1,e1],by simp[af,ae,ai,s1,e1],by simp[af,ae],by simp[af,ae,s3,grow]⟩ ?_;clear s1 e1 s3 S H;rintro i hi S H ⟨s1,e1,rG,ft,gx,s3⟩
  by_cases aq:i<s.aM.length
  case neg=>
   have di:i=s.aM.length:=zo
   subst di;rw[ado (adl _)]at s3;simp[af,ae,s1,e1,rG,ft,gx,s3]
  have hw:IntKind.i64.wrap ((i:Int)+1)=i+1:=aT zo
  have ht:[(149,ai s,fF s),(150,ai s,gR s)]++(s.aM.take (i+1)).map (λn=>(153,[AV.int .i64 n],gp n))=([(149,ai s,fF s),(150,ai s,gR s)]++(s.aM.take i).map (λn=>(153,[AV.int .i64 n],gp n)))++[(153,[AV.int .i64 s.aM[i]],gp s.aM[i])]:=by
   rw[adp aq,adL,ad2];rfl
  have hlen:([(149,ai s,fF s),(150,ai s,gR s)]++(s.aM.take i).map (λn=>(153,[AV.int .i64 n],gp n))).length<=2000:=by simp;omega
  rw[ht]
  generalize[(149,ai s,fF s),(150,ai s,gR s)]++(s.aM.take i).map (λn=>(153,[AV.int .i64 n],gp n))=B at*
  have cL:aG 1 [AV.iface 153 (.agg [.int .i64 s.aM[i]])]=true:=rfl;simp[s1,e1,rG,ft,gx,s3,aq,bI,cL];refine iA (B.map gV) (.iface 153 (.agg [.int .i64 s.aM[i]])) (.own 159) (by simp[s3,grow]) ahi cL (GZ B) (by rw[adn];omega) ?_;intro S' sd cE;simp[sd,cE,s1,e1,rG,ft,gx,aq,hw,grow,gV]
 clear s1 e1 s3 S H;rintro S H ⟨s1,e1,s3⟩;generalize hA:[(149,ai s,fF s),(150,ai s,gR s)]++s.aM.map (λn=>(153,[AV.int .i64 n],gp n))=A at s3
 have hAl:A.length<=302:=by rw[<-hA];simp;omega
 refine aK (λS H=>S 1=.box 1 0/\H 1=some (ai s)/\S 3=grow 159 ((A++s.aL.map nS).map gV)) ?_ ?_
 .simp[af,ae,s1,e1,s3];refine bu 40 s.aL.length (λi S H=>S 1=.box 1 0/\H 1=some (ai s)/\S 38=.slice .view (s.aL.map dM)/\S 39=.int .i64 (s.aL.length:Nat)/\S 40=.int .i64 (i:Nat)/\S 3=grow 159 ((A++(s.aL.take i).map nS).map gV)) (λi S H h=>h.2.2.2.2.1) ⟨by simp[af,ae,s1],by simp[af,ae,e1],by simp[af,ae,ai,s1,e1],by simp[af,ae,ai,s1,e1],by simp[af,ae],by simp[af,ae,s3,grow]⟩ ?_;clear s1 e1 s3 S H;rintro i hi S H ⟨s1,e1,U2,EH,Oz,s3⟩
  by_cases aq:i<s.aL.length
  case neg=>
   have di:i=s.aL.length:=zo
   subst di;rw[ado (adl _)]at s3;simp[af,ae,s1,e1,U2,EH,Oz,s3]
  have hw:IntKind.i64.wrap ((i:Int)+1)=i+1:=aT zo
  have ht:A++(s.aL.take (i+1)).map nS=(A++(s.aL.take i).map nS)++[nS s.aL[i]]:=by
   rw[adp aq,adL,ad2];rfl
  have hlen:(A++(s.aL.take i).map nS).length<=2000:=by simp;omega
  rw[ht]
  generalize A++(s.aL.take i).map nS=B at*
  have cL:aG 1 [gV (nS s.aL[i])]=true:=rfl;simp[s1,e1,U2,EH,Oz,s3,aq,bI,nS,xO,dM]
  try simp only[nS,xO,dM,gV]at cL
  try simp[s1,e1,U2,EH,Oz,s3,aq,bI,cL]
  refine iA (B.map gV) (gV (nS s.aL[i])) (.own 159) (by simp[s3,grow]) (by simp[gV,nS,xO,dM]) rfl (GZ B) (by rw[adn];omega) ?_;intro S' sd cE;simp[sd,cE,s1,e1,U2,EH,Oz,aq,hw,grow,gV,nS,xO,dM]
 clear s1 e1 s3 S H;rintro S H ⟨s1,e1,s3⟩;generalize hC:A++s.aL.map nS=C at s3
 have hCl:C.length<=602:=by rw[<-hC];simp;omega
 refine aK (λS H=>S 1=.box 1 0/\H 1=some (ai s)/\S 3=grow 159 ((C++s.words.map nJ).map gV)) ?_ ?_
 .simp[af,ae,s1,e1,s3];refine bu 54 s.words.length (λi S H=>S 1=.box 1 0/\H 1=some (ai s)/\S 52=.slice .view (s.words.map cD)/\S 53=.int .i64 (s.words.length:Nat)/\S 54=.int .i64 (i:Nat)/\S 3=grow 159 ((C++(s.words.take i).map nJ).map gV)) (λi S H h=>h.2.2.2.2.1) ⟨by simp[af,ae,s1],by simp[af,ae,e1],by simp[af,ae,ai,s1,e1],by simp[af,ae,ai,s1,e1],by simp[af,ae],by simp[af,ae,s3,grow]⟩ ?_;clear s1 e1 s3 S H;rintro i hi S H ⟨s1,e1,D8,U3,V_,s3⟩
  by_cases aq:i<s.words.length
  case neg=>
   have di:i=s.words.length:=zo
   subst di;rw[ado (adl _)]at s3;simp[af,ae,s1,e1,D8,U3,V_,s3]
  have hw:IntKind.i64.wrap ((i:Int)+1)=i+1:=aT zo
  have ht:C++(s.words.take (i+1)).map nJ=(C++(s.words.take i).map nJ)++[nJ s.words[i]]:=by
   rw[adp aq,adL,ad2];rfl
  have hlen:(C++(s.words.take i).map nJ).length<=2000:=by simp;omega
  rw[ht]
  generalize C++(s.words.take i).map nJ=B at*
  have cL:aG 1 [gV (nJ s.words[i])]=true:=rfl;simp[s1,e1,D8,U3,V_,s3,aq,bI,nJ,xU,cD]
  try simp only[nJ,xU,cD,gV]at cL
  try simp[s1,e1,D8,U3,V_,s3,aq,bI,cL]
  refine iA (B.map gV) (gV (nJ s.words[i])) (.own 159) (by simp[s3,grow]) (by simp[gV,nJ,xU,cD]) rfl (GZ B) (by rw[adn];omega) ?_;intro S' sd cE;simp[sd,cE,s1,e1,D8,U3,V_,aq,hw,grow,gV,nJ,xU,cD]
 clear s1 e1 s3 S H;rintro S H ⟨s1,e1,s3⟩
 have ZA:C++s.words.map nJ=R:=by
  rw[<-hC,<-hA,<-hR];unfold AB;simp
  try rfl
 rw[ZA]at s3;clear s1 e1
 have Nl:R≠[]:=by rw[<-ZA];intro h;rw[<-hC,<-hA]at h;simp at h
 have Xh:R.length=(ez s).length:=by rw[<-yh];simp
 have DA:∀i (h:i<R.length)(h':i<(ez s).length),R[i].2.2=(ez s)[i]:=by
  intro i h h'
  have:(R.map (·.2.2))[i]'(by simpa using h)=(ez s)[i]:=by simp only[yh]
  simpa using this
 clear hA hC ZA hR hAl hCl hN hf q1 q2 q3 yh
 generalize ez s=l at*
 rw[AS]
 have oC:∀i,(dK (l.take i)).length<=10000*1000:=λi=>by
  have:=tm (l:=l.take i) (b:=10000) λx hx=>nq x (adU hx)
  have h2:10000*(l.take i).length<=10000*1000:=afs _ (by rw[adA];omega);omega
 have jP:∀i,0<=ct 0 (l.take i)/\ct 0 (l.take i)<=25500000000000000:=λi=>by
  have:=mB (l.take i) 0 (by rw[adA];omega) λx hx=>by have:=nq x (adU hx);omega
  rw[adA]at this;omega
 refine aK (λS H=>S 3=grow 159 (R.map gV)/\S 10=.str []/\S 11=.int .i64 0) (by simp[af,ae,s3]) ?_;clear s3 S H;rintro S H ⟨s3,bJ,bC⟩;refine aK (λS H=>S 10=.str (dK l)/\S 11=.int .i64 (ct 0 l)) ?_ ?_
 .simp[af,ae,s3,bJ,bC,grow,Nl];refine bu 67 l.length (λi S H=>S 65=.slice .view (R.map gV)/\S 66=.int .i64 (l.length:Nat)/\S 67=.int .i64 (i:Nat)/\S 10=.str (dK (l.take i))/\S 11=.int .i64 (ct 0 (l.take i))) (λi S H h=>h.2.2.1) ⟨by simp[af,ae,s3,grow,Nl],by simp[af,ae,s3,grow,Nl,Xh],by simp[af,ae],by simp[af,ae,bJ,dK],by simp[af,ae,bC,ct]⟩ ?_;clear s3 bJ bC S H;rintro i hi S H ⟨o_,nM,pd,bJ,bC⟩
  by_cases aq:i<l.length
  case neg=>
   have di:i=l.length:=zo
   subst di;rw[ado (adl _)]at bJ bC;simp[af,ae,o_,nM,pd,bJ,bC]
  have Dz:i<R.length:=zo
  have hw:IntKind.i64.wrap ((i:Int)+1)=i+1:=aT zo;have hp:=nq _ (adi aq);have hf:=oC i;have hc:=jP i;have a156:=UH _ (adi Dz);rw[DA i Dz aq]at a156;have a2:AC prog GI 104 [.iface R[i].1 (.agg R[i].2.1)] (.ret (.str l[i])):=a156;have uV:dK (l.take (i+1))=dK (l.take i)++l[i]++[10]:=qZ aq;have vt:=pO aq
  have Dk:∀k,0<=dN 0 (l[i].take k)/\dN 0 (l[i].take k)<=25500000000:=λk=>by
   have:=lW (l[i].take k) 0 (by rw[adA];omega);rw[adA]at this;omega
  rw[uV,vt];clear uV vt a156
  generalize dK (l.take i)=F at*
  generalize ct 0 (l.take i)=c at*
  generalize vv:l[i]=p at*
  refine aK (λS H=>S 65=.slice .view (R.map gV)/\S 66=.int .i64 (l.length:Nat)/\S 67=.int .i64 (i:Nat)/\S 10=.str F/\S 11=.int .i64 c/\S 68=.bool true) (by simp[af,ae,o_,nM,pd,bJ,bC,aq]) ?_;clear o_ nM pd bJ bC S H;rintro S H ⟨o_,nM,pd,bJ,bC,s68⟩;refine aK (λS H=>S 65=.slice .view (R.map gV)/\S 66=.int .i64 (l.length:Nat)/\S 67=.int .i64 (i:Nat)/\S 10=.str F/\S 11=.int .i64 c) (by simp[af,ae,o_,nM,pd,bJ,bC,s68]) ?_;clear o_ nM pd bJ bC s68 S H;rintro S H ⟨o_,nM,pd,bJ,bC⟩;refine aK (λS H=>S 65=.slice .view (R.map gV)/\S 66=.int .i64 (l.length:Nat)/\S 67=.int .i64 (i:Nat)/\S 10=.str (F++p++[10])/\S 11=.int .i64 (c+dN 0 p*(i+1))) ?_ ?_
  .refine mo ?_;refine aK (λS H=>S 65=.slice .view (R.map gV)/\S 66=.int .i64 (l.length:Nat)/\S 67=.int .i64 (i:Nat)/\S 12=.int .i64 (i:Nat)/\S 13=.iface R[i].1 (.agg R[i].2.1)/\S 10=.str F/\S 11=.int .i64 c) (by simp[af,ae,o_,nM,pd,bJ,bC,Dz,gV]) ?_;clear o_ nM pd bJ bC S H;rintro S H ⟨o_,nM,pd,cK,dH,bJ,bC⟩;refine aK (λS H=>S 65=.slice .view (R.map gV)/\S 66=.int .i64 (l.length:Nat)/\S 67=.int .i64 (i:Nat)/\S 12=.int .i64 (i:Nat)/\S 14=.str p/\S 10=.str F/\S 11=.int .i64 c) ?_ ?_
   .simp[af,ae,o_,nM,pd,bJ,bC,cK,dH];refine oc a2 ?_;simp[af,ae,o_,nM,pd,bJ,bC,cK,dH]
   clear o_ nM pd bJ bC cK dH S H;rintro S H ⟨o_,nM,pd,cK,eg,bJ,bC⟩;refine aK (λS H=>S 65=.slice .view (R.map gV)/\S 66=.int .i64 (l.length:Nat)/\S 67=.int .i64 (i:Nat)/\S 14=.str p/\S 10=.str F/\S 11=.int .i64 (c+dN 0 p*(i+1))) ?_ ?_
   .simp[af,ae,o_,nM,pd,cK,eg,bJ,bC];refine bu 76 p.length (λk S H=>S 65=.slice .view (R.map gV)/\S 66=.int .i64 (l.length:Nat)/\S 67=.int .i64 (i:Nat)/\S 12=.int .i64 (i:Nat)/\S 14=.str p/\S 10=.str F/\S 75=.int .i64 (p.length:Nat)/\S 76=.int .i64 (k:Nat)/\S 11=.int .i64 (c+dN 0 (p.take k)*(i+1))) (λi S H h=>h.2.2.2.2.2.2.2.1) ⟨by simp[af,ae,o_],by simp[af,ae,nM],by simp[af,ae,pd],by simp[af,ae,cK],by simp[af,ae,eg],by simp[af,ae,bJ],by simp[af,ae,eg],by simp[af,ae],by simp[af,ae,bC,dN]⟩ ?_;clear o_ nM pd cK eg bJ bC S H;rintro k hk S H ⟨o_,nM,pd,cK,eg,bJ,s75,VN,bC⟩
    by_cases jv:k<p.length
    case neg=>
     have cE:k=p.length:=zo
     subst cE;rw[ado (adl _)]at bC;simp[af,ae,o_,nM,pd,cK,eg,bJ,s75,VN,bC]
    have sF:IntKind.i64.wrap ((k:Int)+1)=k+1:=aT zo;have oH:=Dk k;have HD:=uR p[k];rw[qV jv]
    generalize dN 0 (p.take k)=u at*
    generalize Mp:p[k].toNat=y at*
    have YV:p[k]?=some p[k]:=adh jv;have m1:(y:Int)*(k+1)<=255*10000:=aec zo zo zo zo;have m0:0<=(y:Int)*(k+1):=ad8 zo zo;have m2:(y:Int)*(k+1)*(i+1)<=2550000*1000:=aec zo zo zo zo;have m3:0<=(y:Int)*(k+1)*(i+1):=ad8 zo zo;have m4:u*(i+1)<=25500000000*1000:=aec zo zo zo zo;have m5:0<=u*(i+1):=ad8 zo zo;have w0:IntKind.i64.wrap (y:Int)=y:=aT zo;have w1:IntKind.i64.wrap ((y:Int)*(k+1))=(y:Int)*(k+1):=aT zo;have w2:IntKind.i64.wrap ((y:Int)*(k+1)*(i+1))=(y:Int)*(k+1)*(i+1):=aT zo
    have w3:IntKind.i64.wrap (c+u*(i+1)+(y:Int)*(k+1)*(i+1))=c+(u+(y:Int)*(k+1))*(i+1):=by
     rw[aT zo,agx];omega
    simp[af,ae,o_,nM,pd,cK,eg,bJ,s75,VN,bC,jv,Mp,w0,w1,w2,w3,hw,sF]
   clear o_ nM pd cK eg bJ bC S H;rintro S H ⟨o_,nM,pd,eg,bJ,bC⟩
   have b0:p.length+1<1073741824:=zo
   have b1:F.length+p.length<1073741824:=zo
   have b2:F.length+p.length+1<1073741824:=zo
   have b3:F.length+(p.length+1)<1073741824:=zo
   simp[af,ae,o_,nM,pd,eg,bJ,bC,b0,b1,b2,b3]
  clear o_ nM pd bJ bC S H;rintro S H ⟨o_,nM,pd,bJ,bC⟩;simp[af,ae,o_,nM,pd,bJ,bC,hw,aq]
 clear s3 bJ bC S H;rintro S H ⟨bJ,bC⟩;have hf:=oC l.length;have hc:=jP l.length;rw[ado (adl _)]at hf hc
 generalize dK l=F at*
 obtain⟨c,MV⟩:∃c:Nat,ct 0 l=c:=⟨(ct 0 l).toNat,zo⟩
 rw[MV]at bC⊢
 have hm:(c:Int).tmod 173=((c % 173:Nat):Int):=by rw[ad3 zo];omega
 have uB:(c:Int) % 173=((c % 173:Nat):Int):=zo
 have SY:c % 173<173:=afK _ zo;rw[uB]
 generalize c % 173=r at*
 have n1:dY ((r:Int)/100):=⟨zo,zo⟩
 have n2:dY ((r:Int)/10 % 10):=⟨zo,zo⟩
 have n3:dY ((r:Int) % 10):=⟨zo,zo⟩
 have q1:IntKind.i64.wrap ((r:Int)/100)=(r:Int)/100:=aT zo;have q2:IntKind.i64.wrap ((r:Int)/10)=(r:Int)/10:=aT zo;have t1:(r:Int).tdiv 100=(r:Int)/100:=aea zo;have t2:(r:Int).tdiv 10=(r:Int)/10:=aea zo;have t3:((r:Int)/10).tmod 10=(r:Int)/10 % 10:=ad3 zo;have t4:(r:Int).tmod 10=(r:Int) % 10:=ad3 zo;have a1:=Cm hT n1;have a2:=Cm hT n2;have a3:=Cm hT n3;have d1:=(eB n1).1;have d2:=(eB n2).1;have d3:=(eB n3).1;have hE:kK (r:Int)=[101,110,100,32]++aW ((r:Int)/100)++aW ((r:Int)/10 % 10)++aW ((r:Int) % 10):=rfl;rw[hE]
 generalize aW ((r:Int)/100)=u at*
 generalize aW ((r:Int)/10 % 10)=v at*
 generalize aW ((r:Int) % 10)=w at*
 have e1:F.length+(u.length+1+1+1+1)+v.length<1073741824:=zo
 have e2:F.length+(u.length+v.length+1+1+1+1)+w.length<1073741824:=zo
 have e3:F.length+(u.length+(v.length+w.length)+1+1+1+1)+1<1073741824:=zo
 have e4:F.length+(u.length+v.length+w.length+1+1+1+1)+1<1073741824:=zo
 have b1:F.length+4<1073741824:=zo
 have b2:F.length+(u.length+4)<1073741824:=zo
 have b3:F.length+(v.length+u.length+4)<1073741824:=zo
 have b4:F.length+4+u.length<1073741824:=zo
 have b5:F.length+4+u.length+v.length<1073741824:=zo
 have b6:F.length+4+u.length+v.length+w.length<1073741824:=zo
 have b7:F.length+4+u.length+v.length+w.length+1<1073741824:=zo
 refine aK (λS H=>S 10=.str F/\S 11=.int .i64 r) (by simp[af,ae,bJ,bC,hm]) ?_;clear bJ bC S H;rintro S H ⟨bJ,bC⟩;simp[af,ae,bJ,bC,q1,q2,t1,t2,t3,t4,b1];refine oc a1 ?_;simp[af,ae,bJ,bC,q1,q2,t1,t2,t3,t4,b1,b4];refine oc a2 ?_;simp[af,ae,bJ,bC,q1,q2,t1,t2,t3,t4,b1,b4,b5,e1];refine oc a3 ?_;simp[af,ae,bJ,bC,q1,q2,t1,t2,t3,t4,b1,b4,b5,e1,e2,e3,e4]
end Go.Proofs.Tryz
namespace Go.AL
open Go.RowKit
section
variable{P:Program}{a:Act}{w:World}
def wV{s:ByteArray}{pos:Nat}(h:pos<s.size)(hr:(Utf8.decode s pos).1<128):(Utf8.decode s pos).1=(s[pos]'h).toNat:=by
 by_cases ha:(s[pos]'h).toNat<128
 .rw[ahy s pos h ha]
 .exfalso
  have e:s.get! (pos+0)=s[pos]'h:=by
   show s.get! pos=_;simp[ByteArray.get!,getElem!_pos,h]
   try rfl
  simp only[Utf8.decode,e,ha,adH]at hr;revert hr
  (repeat' split)<;>simp only[Utf8.runeError,Nat.not_lt]<;>rename_i hh<;>try omega
  all_goals (try simp only[adk,adr]at hh;try omega)
def DR {o:Oper} {x:Operand} {b:Nat} {s:ByteArray} {pos r p':Nat} (ho:o.op = .next x true) (hx:a.eval x = .pointer (some ⟨b,0,none⟩)) (hb:w.heap[b]? = some (.stringIter s pos)) (h:pos < s.size) (hr:(Utf8.decode s pos).1=r) (hp:pos+(Utf8.decode s pos).2=p') :
  (execOp a.eval o).run P w=.ok (.value (.tuple #[.bool true,.int .i64 pos,.int .i32 r])) (w.putObj b (.stringIter s p')):=by
 unfold execOp;simp only[ho,hx,Instr.next,getObj,setObj,adq,Sem.run,hb,Result.andThen,h,adS]
 generalize hd:Utf8.decode s pos=d at*
 obtain⟨d1,d2⟩:=d;simp only at hr hp;subst hr;subst hp;simp[goInt,Sem.run,World.putObj]
end
end Go.AL
namespace Go.Proofs.Tryz
open Go Go.AL Go.RowKit Go.Proofs Go.Proofs.Tram
attribute [local simp] eD fG fB eR eQ d_ ec dE dJ eP dF df ik ig aF aD ev aP.S aP.H bw au aX AL.start AV.cells AV.storable AV.cy bB cd dS cb HR.okB post cM dc de AV.out AV.cg cZ dZ fz gZ AV.vw cW vI int cz aN dk dP iS jN eM dV bG AV.aJ AV.cI
variable{GI:World->Prop}
def GR{s:aI}(hs:qE s)(h:bl s=true):MG s:=by
 unfold bl da at h;simp only[adk,adr]at h;obtain⟨⟨⟨⟨⟨h1,h2⟩,h3⟩,h4,h5⟩,_⟩,_⟩:=h;exact⟨zo,zo,zo,hs.aU,hs.bU⟩
def KE(hG:ar GI)(hT:TB GI)(s:aI)(hs:qE s)(h:bl s=true):AC prog GI 11 [cC s] (.ret (.dR [.str (iM s),.int .i64 0])):=by
 have a:=F4 hG s hs;rw[h]at a;have b:=Wp hG hT s (pk h) (GR hs h)
 generalize iM s=t at*
 refine cw hG func11 ntmps11 c11 ?_;refine aK (λS H=>S 1=.box 1 0/\H 1=some (ai s)) (by simp[cC,ai]) ?_;rintro S H ⟨s1,e1⟩;simp[s1,e1,ai];refine⟨_,zk,a,λ_=>rfl,?_⟩;simp[s1,e1,ai];refine oc b ?_;simp
def pI(e:List UInt8):AV:=.iface 192 (.agg [.str e])
def nP:Except (List UInt8) (List Int)->iJ
 |.ok l=>.ret (.slice (if l.isEmpty then .nil else .view) (ints l))
 |.error e=>.panic (pI e)
def A8:∀{ws:List (List UInt8)}{j:Nat}(h:j<ws.length),(ws.take j).all iO=true->iO ws[j]=false->fa ws=.error ws[j]
 |[],j,h,_,_=>by simp at h
 |w::ws,0,_,_,hb=>by
  unfold fa;rw[if_neg (by rw[show(w::ws)[0]=w from rfl]at hb;rw[hb];simp)];rfl
 |w::ws,j+1,h,ha,hb=>by
  rw[List.take_succ_cons,List.all_cons,adk]at ha;unfold fa;rw[if_pos ha.1,A8 (by simpa using h) ha.2 (by simpa using hb)];rfl
def US (hG:ar GI) {ws:List (List UInt8)} (hlen:ws.length≤100000) (hI:∀ w∈ws,w.length≤3→(∀ c∈w,digit c)→AC prog GI 79 [.int .i64 (dp w)] (.ret (.str (aW (dp w))))) :
  AC prog GI 131 [strs ws] (nP (fa ws)):=by
 refine AC.jF func131 rfl ntmps131 ahi λcc w=>?_
 refine dX hG c131.qa (λS' H'=>S' 0=strs ws) ?_ ?_
 .simp[c131,ah.qa,bD,bp,aF,ba,aD,ev,aP.S,aP.H,au,aX,AL.start,AV.aJ,strs,bw,aN]
 rintro S1 H1 s0;refine dX hG c131.qb.qa (λS' H'=>S' 0=strs ws/\S' 3=xW []) ?_ ?_
 .simp[c131,ah.qa,ah.qb,bD,bp,aF,ba,aD,ev,aP.S,aP.H,au,aX,s0,bw,aN,xW,ints]
 rintro S2 H2 ⟨s0,s3⟩;show SW prog GI 55 none (.seq (.seq _ (.block 0 (.loop _))) (.seq _ .ret)) _ _ _ _;refine SW.seq (dX hG c131.qb.qb.qa.qa (iR ws 0) ?_ ?_)
 .simp[c131,ah.qa,ah.qb,bD,bp,aF,ba,aD,ev,aP.S,aP.H,au,aX,s0,s3,iR,strs,AV.aJ,aN]
 intro S3 H3 hF;refine SW.block (SW.loop (λo S' H'=>∃k j,o=oK cc w k/\j<=ws.length/\(ws.take j).all iO=true/\iR ws j S' H') (λS' _=>match S' 11 with|.int _ j=>ws.length-j.toNat|_=>0) ⟨_,0,rfl,ad_ _,rfl,hF⟩ ?_);rintro o S4 H4 ⟨kk,j,rfl,hj,eF,hF⟩;have m11:S4 11=.int .i64 (j:Nat):=hF.2.2.2
 have bW:∀k d,¬(oK cc w k).bx d:=λ_ _ h=>h
 show SW prog GI 55 none (.seq _ (.seq (.cond _ _ _) (.seq (.block 1 (.seq _ (.seq _ (.seq (.seq _ (.block 2 (.loop _))) (.seq _ _))))) _))) _ _ _ _;refine dX hG fu.qa (λS' H'=>S' 12=.bool (decide (j<ws.length))/\iR ws j S' H') ?_ ?_
 .obtain⟨s3,s9,bJ,bC⟩:=hF;simp[c131,fu,ah.qa,ah.qb,bD,bp,aF,ba,aD,aN,ev,aP.S,aP.H,au,aX,iR,s3,s9,bJ,bC,dS]
 rintro S5 H5 ⟨cK,hF⟩
 by_cases aq:j<ws.length
 case neg=>
  refine SW.seq (SW.cond rfl false (by show S5 12=_;rw[cK];simp[aq]) (SW.exit ?_))
  have qC:j=ws.length:=zo
  subst qC;obtain⟨s3,s9,bJ,bC⟩:=hF;rw[aeB]at s3 eF;have kl:=xL eF;rw[kl];show SW prog GI 55 none (.seq _ .ret) _ _ _ _;refine dX hG c131.qb.qb.qb.qa (λS' H'=>S' 2=.slice (if ws.isEmpty then .nil else .view) (ints (ws.map dp))) ?_ ?_
  .cases ws<;>simp[c131,ah.qa,ah.qb,bD,bp,aF,ba,aD,ev,aP.S,aP.H,au,aX,s3,xW,AV.aJ,bw,aN]
  intro S7 H7 s2;refine SW.ret ⟨ep.plain rfl,rfl,_,?_,rfl⟩;show cM prog 55 [.tmp 2] S7 H7=_;simp[cM,dc,de,s2,AV.cg,AV.out]
 case pos=>
  refine SW.seq (SW.cond rfl true (by show S5 12=_;rw[cK];simp[aq]) (SW.skip ?_));show SW prog GI 55 none (.seq (.block 1 (.seq _ (.seq _ (.seq (.seq _ (.block 2 (.loop _))) (.seq _ _))))) _) _ _ _ _;have FT:ws[j]∈ws:=adi aq
  obtain⟨wd,uS⟩:∃wd,ws[j]=wd:=⟨_,rfl⟩
  have EF:=hI _ FT;rw[uS]at EF
  have C6:iO wd=false->fa ws=.error wd:=λh=>by rw[<-uS]at h⊢;exact A8 aq eF h
  refine SW.seq (SW.block (dX hG gC.qa (λS' H'=>S' 5=.str wd/\iR ws j S' H') ?_ ?_))
  .obtain⟨s3,s9,bJ,bC⟩:=hF;simp[c131,fu,gC,ah.qa,ah.qb,bD,bp,aF,ba,aD,aN,ev,aP.S,aP.H,au,aX,iR,s3,s9,bJ,bC,strs,aq,uS,cb,AV.cells,AV.aJ,bw]
  rintro S6 H6 ⟨s5,hF⟩;refine dX hG gC.qb.qa (λS' H'=>S' 6=.int .i64 0/\S' 5=.str wd/\iR ws j S' H') ?_ ?_
  .obtain⟨s3,s9,bJ,bC⟩:=hF;simp[c131,fu,gC,ah.qa,ah.qb,bD,bp,aF,ba,aD,aN,ev,aP.S,aP.H,au,aX,iR,s3,s5,s9,bJ,bC,AV.aJ,bw]
  rintro S7 H7 ⟨s6,s5,hF⟩
  obtain⟨sb,qO⟩:∃sb:ByteArray,sb=⟨wd.toArray⟩:=⟨_,rfl⟩
  refine SW.seq (SW.seq (SW.mid hG (p:=1) (oh:={ dst:=some 16,op := .range 9 (.tmp 15),type:=0,pos := "text.go:133",after:=_,guard:=none }) (kj:=[_]) (nk:=[]) (l2:=[]) rfl rfl rfl rfl zk rfl (bW _) (n9:=(gC.qb.qb.qa.qa.dl).take 1) (np:=[]) zk rfl zk rfl
   (K1:=λS' H'=>S' 15=.str wd/\S' 6=.int .i64 0/\S' 5=.str wd/\iR ws j S' H')
   (K2:=λo S' H'=>∃k b,o=oK cc w k/\k b=some (.stringIter sb 0)/\S' 16=.val (.pointer (some ⟨b,0,none⟩))/\S' 6=.int .i64 0/\S' 5=.str wd/\iR ws j S' H')
   (K3:=λo S' H'=>∃k b,o=oK cc w k/\k b=some (.stringIter sb 0)/\S' 16=.val (.pointer (some ⟨b,0,none⟩))/\S' 6=.int .i64 0/\S' 5=.str wd/\iR ws j S' H') ?_ ?_ ?_ ?_))
  .obtain⟨s3,s9,bJ,bC⟩:=hF;simp[c131,fu,gC,ah.qa,ah.qb,ah.dl,bp,aF,ba,aD,ev,aP.S,aP.H,au,aX,iR,s3,s5,s6,s9,bJ,bC,AV.aJ]
  .rintro w0 g S8 H8 a w8 ho R ⟨ki,s6,s5,s3,s9,bJ,bC⟩;have t15:=R.slot 15 zd (λh=>h);rw[ki]at t15
   have t15:a.eval (.tmp 15)=.string sb:=by rw[qO];exact oR t15
   have fq:prog.underlying 9=some .string:=zk
   have R2:=R.nx (.stringIter sb 0);refine⟨_,_,_,au S8 16 (.val (.pointer (some ⟨w8.heap.size,0,none⟩))),H8,.inl (BA rfl fq t15),R2.put 16 _ _ zd (.data _ _ (.val _ rfl)) trivial,au g.old.aV w8.heap.size (some (.stringIter sb 0)),w8.heap.size,?_,aO _ _ _,by simp[au],by simp[au,s6],by simp[au,s5],by simp[au,s3],by simp[au,s9],by simp[au,bJ],by simp[au,bC]⟩;show({ g.old with aV:=au g.old.aV w8.heap.size _ }:Old)=_;rw[ho];rfl
  .rintro o S8 H8 ⟨k,b,rfl,h⟩;exact⟨bW _,k,b,rfl,h⟩
  .rintro o S8 H8 ⟨k,b,rfl,zX,fP,s6,s5,hF⟩
   refine SW.block (SW.Uw (λo S' H'=>∃k b pos,o=oK cc w k/\k b=some (.stringIter sb pos)/\pos<=wd.length/\(∀c∈wd.take pos,digit c)/\(0<pos->wd.length<=3)/\S' 16=.val (.pointer (some ⟨b,0,none⟩))/\S' 6=.int .i64 (dp (wd.take pos))/\S' 5=.str wd/\iR ws j S' H')
    (λo S' _=>match S' 16 with|.val (.pointer (some a))=>(match o.aV a.block with|some (.stringIter _ p)=>wd.length-p|_=>0)|_=>0) ⟨k,b,0,rfl,zX,ad_ _,ahi,ahi,fP,s6,s5,hF⟩ ?_)
   rintro o S9 H9 ⟨k,b,pos,rfl,zX,iK,Gy,wi,fP,s6,s5,hF⟩;have m16:=fP
   have SQ:∀(S:an)(k:Nat->Option Obj) p,S 16=.val (.pointer (some ⟨b,0,none⟩))->k b=some (.stringIter sb p)->(match S 16 with|.val (.pointer (some a))=>(match(oK cc w k).aV a.block with|some (.stringIter _ p)=>wd.length-p|_=>0)|_=>0)=wd.length-p:=by
    intro S k p h1 h2;rw[h1];show(match k b with|some (.stringIter _ p)=>wd.length-p|_=>0)=_;rw[h2]
   have bj:sb.size=wd.length:=by rw[qO];rfl
   show SW prog GI 55 none (.seq _ (.seq (.cond _ _ _) (.block 3 (.seq _ (.seq _ _))))) _ _ _ _
   by_cases hp:pos<wd.length
   case neg=>
    refine SW.seq (SW.mid hG (p:=0) (oh:={ dst:=some 17,op := .next (.tmp 16) true,type:=0,pos := "text.go:133",after := #[],guard:=none }) (kj:=[]) (nk:=[_]) (l2:=[1]) rfl rfl rfl rfl zk rfl (bW _) (n9:=[]) (np:=(kP.qa.dl).drop 1) rfl zk rfl zk
     (K1:=λS' H'=>S' 16=.val (.pointer (some ⟨b,0,none⟩))/\S' 6=.int .i64 (dp wd)/\S' 5=.str wd/\iR ws j S' H')
     (K2:=λo S' H'=>o=oK cc w k/\S' 17=.dR [.bool false]/\S' 6=.int .i64 (dp wd)/\S' 5=.str wd/\iR ws j S' H')
     (K3:=λo S' H'=>o=oK cc w k/\S' 18=.bool false/\S' 6=.int .i64 (dp wd)/\S' 5=.str wd/\iR ws j S' H') ?_ ?_ ?_ ?_)
    .have:pos=wd.length:=zo
     subst this;rw[aeB]at s6;exact⟨fP,s6,s5,hF⟩
    .rintro w0 g tt xh a Pw ho R ⟨fP,s6,s5,s3,s9,bJ,bC⟩;have t16:=R.slot 16 zd (λh=>h);rw[fP]at t16;have t16:a.eval (.tmp 16)=.pointer (some ⟨b,0,none⟩):=t16.jo
     have hk:g.old.aV b=some (.stringIter sb pos):=by rw[ho];exact zX
     have hb:=(R.kept b _ hk).2.1;refine⟨_,_,_,au tt 17 (.dR [.bool false]),xh,.inl (uO rfl t16 hb zo),R.put 17 _ _ zd (.data _ _ (.dR _ _ rfl λi h h'=>?_)) trivial,ho,aO _ _ _,by simp[au,s6],by simp[au,s5],by simp[au,s3],by simp[au,s9],by simp[au,bJ],by simp[au,bC]⟩
     match i,h with
     |0,_=>exact .bool _
    .rintro o tt xh ⟨rfl,kT,s6,s5,s3,s9,bJ,bC⟩;refine⟨bW _,?_⟩;simp[c131,fu,gC,kP,ah.qa,ah.qb,ah.dl,bp,aF,ba,aD,ev,aP.S,aP.H,au,aX,iR,s3,s5,s6,s9,bJ,bC,kT,AV.aJ]
    .rintro o tt xh ⟨rfl,kV,s6,s5,hF⟩;refine SW.seq (SW.cond rfl false (by show tt 18=_;rw[kV]) (SW.exit ?_));show SW prog GI 55 none (.seq _ _) _ _ _ _
     have vv:pos=wd.length:=zo
     have FK:∀c∈wd,digit c:=by rw[vv,aeB]at Gy;exact Gy
     have Dq:=GB (GI:=GI) hG wd;have Ak:=zh (GI:=GI) hG wd
     have e8:∀H,fz H (.int .i64 (dp wd))=.int .i64 (dp wd):=λH=>rfl
     have e9:∀H,fz H (.str wd)=.str wd:=λH=>rfl
     have jr:∀b H,fz H (.bool b)=.bool b:=λb H=>rfl
     by_cases cP:wd=[]
     .have mL:iO wd=false:=by rw[cP];rfl
      rw[C6 mL]
      have yA:(wd !=[])=false:=by simpa using cP
      refine SW.seq (SW.fN hG db zk (λd _=>bW _ d) (ac:=ah.qa gC.qb.qb.qb) zk ?_);unfold eW.bD;obtain⟨s3,s9,bJ,bC⟩:=hF;simp[c131,fu,gC,ah.qa,ah.qb,ah.dl,bD,bp,aF,ba,aD,aN,dk,ev,aP.S,aP.H,au,aX,iR,s3,s5,s6,s9,bJ,bC,AV.aJ,dS,yA,e8,e9,jr,bw];refine oc Ak ?_;simp[eN,thenS,mG,oa,nP,pI];exact⟨rfl,rfl⟩
     have B4:wd.length<=3:=wi (by rw[vv];exact aew.2 cP);have EF:=EF B4 FK
     have yA:(wd !=[])=true:=by simpa using cP
     have hs:=uI wd FK B4
     by_cases Hc:aW (dp wd)=wd
     case neg=>
      have mL:iO wd=false:=by
       rw[af7];intro h;exact Hc (mY.1 h).2.2.2
      rw[C6 mL]
      have Xq:(aW (dp wd)==wd)=false:=by simpa using Hc
      refine SW.seq (SW.fN hG db zk (λd _=>bW _ d) (ac:=ah.qa gC.qb.qb.qb) zk ?_);unfold eW.bD;obtain⟨s3,s9,bJ,bC⟩:=hF;simp[c131,fu,gC,ah.qa,ah.qb,ah.dl,bD,bp,aF,ba,aD,aN,dk,ev,aP.S,aP.H,au,aX,iR,s3,s5,s6,s9,bJ,bC,AV.aJ,dS,yA,e8,bw];refine oc EF ?_;simp[eN,au,AV.aJ,s3,s5,s6,s9,bJ,bC,dS,e9,jr,Xq];refine oc Ak ?_;simp[eN,thenS,mG,oa,nP,pI];exact⟨rfl,rfl⟩
     have XU:iO wd=true:=mY.2 ⟨cP,B4,FK,Hc⟩
     have Xw:(ws.take (j+1)).all iO=true:=by
      rw[adp aq,List.all_append,eF,uS];simp[XU]
     rw[Hc]at EF;refine pV hG gC.qb.qb.qb.qa (λd _=>bW _ d) (λS' H'=>S' 6=.int .i64 (dp wd)/\iR ws j S' H') ?_ ?_
     .obtain⟨s3,s9,bJ,bC⟩:=hF;simp[c131,fu,gC,ah.qa,ah.qb,ah.dl,bD,bp,aF,ba,aD,aN,ev,aP.S,aP.H,au,aX,iR,s3,s5,s6,s9,bJ,bC,AV.aJ,dS,yA,e8];refine oc EF ?_;simp[eN,au,AV.aJ,s3,s5,s6,s9,bJ,bC,dS,e9,jr];refine oc Dq ?_;simp[eN,au,AV.aJ,s3,s5,s6,s9,bJ,bC]
     rintro S11 H11 ⟨s6,hF⟩
     have VE:(ws.take (j+1)).map dp=(ws.take j).map dp++[dp wd]:=by rw[adp aq,adL,uS];rfl
     have Qy:((ws.take j).map dp).length<=100000:=by simp;omega
     refine SW.mono (Q:=λe o S' H'=>e=.normal/\o=oK cc w k/\S' 3=xW ((ws.take (j+1)).map dp)/\S' 9=strs ws/\S' 10=.int .i64 ws.length/\S' 11=.int .i64 (j:Nat)) ?_ (SW.fN hG db zk (λd _=>bW _ d) (ac:=ah.qb gC.qb.qb.qb) zk ?_)
     .rintro e o S' H' ⟨rfl,rfl,s3,s9,bJ,bC⟩;show SW prog GI 55 none _ _ _ _ _;refine SW.fN hG db zk (λd _=>bW _ d) (ac:=ah.qb fu.qb.qb) zk ?_;have pW:IntKind.i64.wrap ((j:Int)+1)=j+1:=aT zo;simp[c131,fu,ah.qa,ah.qb,bD,bp,aF,ba,aD,ev,aP.S,aP.H,au,aX,s3,s9,bJ,bC,dS,AV.aJ,pW,eW.bD,thenS,iR];refine⟨⟨⟨_,rfl⟩,j+1,zo,adw.1 Xw,rfl,zo⟩,?_⟩;rw[m11];show ws.length-(j+1)<ws.length-(j:Int).toNat;rw[Int.toNat_natCast];omega
     .unfold eW.bD;obtain⟨s3,s9,bJ,bC⟩:=hF;rw[VE];generalize(ws.take j).map dp=L at s3 Qy⊢
      cases L with
      |nil=>simp[c131,fu,gC,ah.qa,ah.qb,ah.dl,bD,bp,aF,ba,aD,ev,aP.S,aP.H,au,aX,s3,s6,s9,bJ,bC,xW,ints,AV.aJ,aG,AV.storable,AV.cells,AV.vw,AV.cI,bw]
      |cons x L=>
       have nq:L.length+1+1<1048576:=by simp at Qy;omega
       simp[c131,fu,gC,ah.qa,ah.qb,ah.dl,bD,bp,aF,ba,aD,ev,aP.S,aP.H,au,aX,s3,s6,s9,bJ,bC,xW,ints,AV.aJ,aG,AV.storable,AV.cells,AV.vw,AV.cI,bw,nq]
   case pos=>
    obtain⟨c,hc⟩:∃c,wd[pos]=c:=⟨_,rfl⟩
    obtain⟨r,hr⟩:∃r:Nat,(Utf8.decode sb pos).1=r:=⟨_,rfl⟩
    obtain⟨p',vl⟩:∃p':Nat,pos+(Utf8.decode sb pos).2=p':=⟨_,rfl⟩
    have CR:sb[pos]' zo=c:=by subst qO;rw[<-hc];rfl
    refine SW.seq (SW.mid hG (p:=0) (oh:={ dst:=some 17,op := .next (.tmp 16) true,type:=0,pos := "text.go:133",after := #[],guard:=none }) (kj:=[]) (nk:=[_]) (l2:=[1]) rfl rfl rfl rfl zk rfl (bW _) (n9:=[]) (np:=(kP.qa.dl).drop 1) rfl zk rfl zk
     (K1:=λS' H'=>S' 16=.val (.pointer (some ⟨b,0,none⟩))/\S' 6=.int .i64 (dp (wd.take pos))/\S' 5=.str wd/\iR ws j S' H')
     (K2:=λo S' H'=>o=oK cc w (au k b (some (.stringIter sb p')))/\S' 16=.val (.pointer (some ⟨b,0,none⟩))/\S' 17=.dR [.bool true,.int .i64 pos,.int .i32 r]/\S' 6=.int .i64 (dp (wd.take pos))/\S' 5=.str wd/\iR ws j S' H')
     (K3:=λo S' H'=>o=oK cc w (au k b (some (.stringIter sb p')))/\S' 16=.val (.pointer (some ⟨b,0,none⟩))/\S' 18=.bool true/\S' 17=.dR [.bool true,.int .i64 pos,.int .i32 r]/\S' 6=.int .i64 (dp (wd.take pos))/\S' 5=.str wd/\iR ws j S' H') ⟨fP,s6,s5,hF⟩ ?_ ?_ ?_)
    .rintro w0 g tt xh a Pw ho R ⟨fP,s6,s5,s3,s9,bJ,bC⟩;have t16:=R.slot 16 zd (λh=>h);rw[fP]at t16;have t16:a.eval (.tmp 16)=.pointer (some ⟨b,0,none⟩):=t16.jo
     have hk:g.old.aV b=some (.stringIter sb pos):=by rw[ho];exact zX
     have hb:=(R.kept b _ hk).2.1;refine⟨_,_,_,au tt 17 (.dR [.bool true,.int .i64 pos,.int .i32 r]),xh,.inl (DR rfl t16 hb zo hr vl),(R.nO hk _).put 17 _ _ zd (.data _ _ (.dR _ _ rfl λi h h'=>?_)) trivial,?_,by simp[au,fP],aO _ _ _,by simp[au,s6],by simp[au,s5],by simp[au,s3],by simp[au,s9],by simp[au,bJ],by simp[au,bC]⟩
     .match i,h with
      |0,_=>exact .bool _
      |1,_=>exact .int _ _
      |2,_=>
       exact .int _ _
     .show({ g.old with aV:=au g.old.aV b _ }:Old)=_;rw[ho];rfl
    .rintro o tt xh ⟨rfl,fP,kT,s6,s5,s3,s9,bJ,bC⟩;refine⟨bW _,?_⟩;simp[c131,fu,gC,kP,ah.qa,ah.qb,ah.dl,bp,aF,ba,aD,ev,aP.S,aP.H,au,aX,iR,s3,s5,s6,s9,bJ,bC,fP,kT,AV.aJ]
    .rintro o tt xh ⟨rfl,fP,kV,kT,s6,s5,hF⟩;refine SW.seq (SW.cond rfl true (by show tt 18=_;rw[kV]) (SW.skip ?_));show SW prog GI 55 none (.block 3 (.seq _ (.seq _ _))) _ _ _ _
     by_cases vd:digit c/\wd.length<=3
     case neg=>
      have mL:iO wd=false:=by
       rw[af7];intro h;obtain⟨_,h2,h3,_⟩:=mY.1 h;exact vd ⟨h3 c (hc▸adi hp),h2⟩
      rw[C6 mL]
      have Xn:¬(48<=(r:Int)/\(r:Int)<=57/\(wd.length:Int)<=3):=by
       rintro⟨g1,g2,g3⟩;refine vd ⟨?_,zo⟩;have:=wV (s:=sb) (pos:=pos) zo (by rw[hr];omega);rw[hr]at this
       have Sy:c.toNat=r:=by rw[<-CR];exact this.symm
       unfold digit;omega
      have Ak:=zh (GI:=GI) hG wd
      have e9:∀H,fz H (.str wd)=.str wd:=λH=>rfl
      have jr:∀b H,fz H (.bool b)=.bool b:=λb H=>rfl
      refine SW.block (SW.fN hG db zk (λd _=>bW _ d) (ac:=ah.qb kP.qb.qb) zk ?_);unfold eW.bD;obtain⟨s3,s9,bJ,bC⟩:=hF
      by_cases g1:(48:Int)<=r
      .by_cases g2:(r:Int)<=57
       .have g3:¬(wd.length:Int)<=3:=λg3=>Xn ⟨g1,g2,g3⟩
        simp[c131,fu,gC,kP,ah.qa,ah.qb,ah.dl,bD,bp,aF,ba,aD,dk,ev,aP.S,aP.H,au,aX,iR,s3,s5,s6,s9,bJ,bC,fP,kT,AV.aJ,dS,g1,g2,g3,e9,jr,bw];refine oc Ak ?_;simp[eN,thenS,mG,oa,nP,pI];exact⟨rfl,rfl⟩
       .simp[c131,fu,gC,kP,ah.qa,ah.qb,ah.dl,bD,bp,aF,ba,aD,dk,ev,aP.S,aP.H,au,aX,iR,s3,s5,s6,s9,bJ,bC,fP,kT,AV.aJ,dS,g1,g2,e9,jr,bw];refine oc Ak ?_;simp[eN,thenS,mG,oa,nP,pI];exact⟨rfl,rfl⟩
      .simp[c131,fu,gC,kP,ah.qa,ah.qb,ah.dl,bD,bp,aF,ba,aD,dk,ev,aP.S,aP.H,au,aX,iR,s3,s5,s6,s9,bJ,bC,fP,kT,AV.aJ,dS,g1,e9,jr,bw];refine oc Ak ?_;simp[eN,thenS,mG,oa,nP,pI];exact⟨rfl,rfl⟩
     obtain⟨RY,B4⟩:=vd;have Uu:=RY;unfold digit at Uu;have Lw:=ahy sb pos zo (by rw[CR];omega)
     have ZN:r=c.toNat:=by rw[<-hr,Lw,CR]
     have BW:p'=pos+1:=by rw[<-vl,Lw]
     subst ZN;subst BW
     have Rm:∀x∈wd.take (pos+1),digit x:=by
      rw[adp hp,hc];intro x hx;rcases adm.1 hx with hx|hx
      .exact Gy x hx
      .rw[adJ]at hx;rw[hx];exact RY
     have qn:wd.take (pos+1)=wd.take pos++[c]:=by rw[adp hp,hc]
     have acn:=uI (wd.take pos) Gy (by simp;omega);refine SW.block (SW.mono (Q:=λe o S' H'=>e=.normal/\o=oK cc w (au k b (some (.stringIter sb (pos+1))))/\S' 16=.val (.pointer (some ⟨b,0,none⟩))/\S' 6=.int .i64 (dp (wd.take (pos+1)))/\S' 5=.str wd/\iR ws j S' H') ?_ (SW.fN hG db zk (λd _=>bW _ d) (ac:=ah.qb kP.qb.qb) zk ?_))
     .rintro e o S' H' ⟨rfl,rfl,fP,s6,s5,hF⟩;refine⟨⟨au k b (some (.stringIter sb (pos+1))),b,pos+1,rfl,aO _ _ _,hp,Rm,λ_=>B4,fP,s6,s5,hF⟩,?_⟩;show(match S' 16 with|.val (.pointer (some a))=>(match(oK cc w (au k b (some (.stringIter sb (pos+1))))).aV a.block with|some (.stringIter _ p)=>wd.length-p|_=>0)|_=>0)<_;rw[SQ S' _ (pos+1) fP (aO _ _ _),SQ S9 k pos m16 zX];omega
     .unfold eW.bD;obtain⟨s3,s9,bJ,bC⟩:=hF;have Dq:=GB (GI:=GI) hG wd
      have g1:(48:Int)<=c.toNat:=zo
      have g2:(c.toNat:Int)<=57:=zo
      have g3:(wd.length:Int)<=3:=zo
      have w1:IntKind.i64.wrap (10*dp (wd.take pos))=10*dp (wd.take pos):=aT zo;have w2:IntKind.i32.wrap ((c.toNat:Int)-48)=(c.toNat:Int)-48:=wrap32 zo;have w3:IntKind.i64.wrap ((c.toNat:Int)-48)=(c.toNat:Int)-48:=aT zo
      have w4:IntKind.i64.wrap (10*dp (wd.take pos)+((c.toNat:Int)-48))=dp (wd.take (pos+1)):=by rw[qn,El,aT zo]
      have e9:∀H,fz H (.str wd)=.str wd:=λH=>rfl
      have jr:∀H,fz H (.bool true)=.bool true:=λH=>rfl
      simp[c131,fu,gC,kP,ah.qa,ah.qb,ah.dl,bD,bp,aF,ba,aD,dk,ev,aP.S,aP.H,au,aX,iR,s3,s5,s6,s9,bJ,bC,fP,kT,AV.aJ,dS,g1,g2,g3,e9,jr,bw];refine oc Dq ?_;simp[eN,au,AV.aJ,s3,s5,s6,s9,bJ,bC,fP,dS,w1,w2,w3,w4,bw]
def Pt(hG:ar GI)(hT:TB GI){ws:List (List UInt8)}(hlen:ws.length<=100000):AC prog GI 131 [strs ws] (nP (fa ws)):=
 US hG hlen λw _ h3 hd=>Cm hT (yZ hd h3)
def O'(hG:ar GI)(hT:TB GI)(pD:ML GI)(w:List UInt8)(hw:w.length<=10000):AC prog GI 132 [.str w] (nP (iI w)):=by
 by_cases h0:w=[45]
 .subst h0;have:iI [45]=.ok []:=rfl;rw[this];refine cw hG func132 ntmps132 c132 ?_;simp[c132]
  try rfl
 have hlE:iI w=fa (aZ 44 w):=by unfold iI;rw[if_neg h0]
 rw[hlE]
 have cP:(w==[45])=false:=by simpa using h0
 have a:=J0 pD w 44 zo
 have DT:(aZ 44 w).length<=100000:=by have:=lq 44 w;omega
 have b:=Pt (ws:=aZ 44 w) hG hT DT
 generalize aZ 44 w=ws at*
 generalize hog:fa ws=o at b⊢;refine cw hG func132 ntmps132 c132 ?_;simp[c132,cP];refine oc a ?_;simp[strs];refine oc ((by simpa[strs]using b)) ?_
 cases o with
 |ok l=>simp[nP]
 |error e=>simp[nP,pI]
def tB:(∀k n,(AV.int k n).aJ=.int k n)/\(∀b,(AV.bool b).aJ=.bool b)/\(∀l,(AV.str l).aJ=.str l)/\(∀l,(AV.slice .view l).aJ=.slice .view l)/\(∀l,(AV.slice .nil l).aJ=.slice .nil l)/\(∀e l,(AV.slice (.own e) l).aJ=.slice .view l)/\(∀cs,(AV.agg cs).aJ=.agg cs)/\(∀cs,(AV.dR cs).aJ=.dR cs)/\(∀cs,(AV.ref cs).aJ=.ref cs)/\(∀i o,(AV.box i o).aJ=.box i o)/\(∀t v,(AV.iface t v).aJ=.iface t v)/\∀v:AV,v.aJ.aJ=v.aJ:=
 ⟨λ_ _=>rfl,λ_=>rfl,λ_=>rfl,λ_=>rfl,λ_=>rfl,λ_ _=>rfl,λ_=>rfl,λ_=>rfl,λ_=>rfl,λ_ _=>rfl,λ_ _=>rfl,AV.idem⟩
def tR:(∀k n,(AV.int k n).cI=.int k n)/\(∀b,(AV.bool b).cI=.bool b)/\(∀l,(AV.str l).cI=.str l)/\(∀o l,(AV.slice o l).cI=.slice .view l)/\(∀cs,(AV.agg cs).cI=.agg cs)/\(∀cs,(AV.dR cs).cI=.dR cs)/\(∀cs,(AV.ref cs).cI=.ref cs)/\∀t v,(AV.iface t v).cI=.iface t v:=
 ⟨λ_ _=>rfl,λ_=>rfl,λ_=>rfl,λ_ _=>rfl,λ_=>rfl,λ_=>rfl,λ_=>rfl,λ_ _=>rfl⟩
def P_(e:Nat)(l:List AV):(grow e l).aJ=.slice (if l=[]then .nil else .view) l:=by
 unfold grow
 by_cases h:l=[]<;>simp[h,AV.aJ]
def jl(e:Nat)(l:List AV):(grow e l).aJ.cI=.slice .view l:=by
 rw[P_];rfl
end Go.Proofs.Tryz
namespace Go.Proofs.Tryz
open Go Go.AL Go.RowKit Go.Proofs Go.Proofs.Tram
attribute [local simp] eD fG qe ou eQ d_ ec dE dJ eP dF df ik ig aF aD ev aP.S aP.H bw au aX AL.start AV.cells AV.storable AV.cy bB cd dS cb HR.okB post cM dc de AV.out AV.cg cZ dZ fz gZ AV.vw cW vI int cz aN dk dP iS jN eM dV bG tB tR jl
variable{GI:World->Prop}
def yI:List (List UInt8):=[mP,mT,nt,nw,mq]
def rH(w:List UInt8):Int:=if w=mP then 0 else if w=mT then 1 else if w=nt then 2 else if w=nw then 3 else if w=mq then 4 else-1
def VZ(hG:ar GI)(w:List UInt8):AC prog GI 130 [strs yI,.str w] (.ret (.int .i64 (rH w))):=by
 unfold rH;split
 .rename_i h;subst h;exact sy hG yI _ zd 0 zd rfl λj hj=>absurd hj (ago _)
 split
 .rename_i h;subst h;exact sy hG yI _ zd 1 zd rfl fun j hj=>by
   match j,hj with
   |0,_=>exact(by decide:mP≠mT)
 split
 .rename_i h;subst h;exact sy hG yI _ zd 2 zd rfl fun j hj=>by
   match j,hj with
   |0,_=>exact(by decide:mP≠nt)
   |1,_=>exact(by decide:mT≠nt)
 split
 .rename_i h;subst h;exact sy hG yI _ zd 3 zd rfl fun j hj=>by
   match j,hj with
   |0,_=>exact(by decide:mP≠nw)
   |1,_=>exact(by decide:mT≠nw)
   |2,_=>exact(by decide:nt≠nw)
 split
 .rename_i h;subst h;exact sy hG yI _ zd 4 zd rfl fun j hj=>by
   match j,hj with
   |0,_=>exact(by decide:mP≠mq)
   |1,_=>exact(by decide:mT≠mq)
   |2,_=>exact(by decide:nt≠mq)
   |3,_=>exact(by decide:nw≠mq)
 rename_i h0 h1 h2 h3 h4
 exact P0 hG yI w zd λj hj=>by
  match j,hj with
  |0,_=>exact λe=>h0 e.symm
  |1,_=>exact λe=>h1 e.symm
  |2,_=>exact λe=>h2 e.symm
  |3,_=>exact λe=>h3 e.symm
  |4,_=>exact λe=>h4 e.symm
def Ty(w:List UInt8):(rH w==0)=decide (w=mP)/\(rH w==1)=decide (w=mT)/\(rH w==2)=decide (w=nt)/\(rH w==3)=decide (w=nw)/\(rH w==4)=decide (w=mq):=by
 unfold rH
 by_cases h0:w=mP
 .subst h0;decide
 by_cases h1:w=mT
 .subst h1;decide
 by_cases h2:w=nt
 .subst h2;decide
 by_cases h3:w=nw
 .subst h3;decide
 by_cases h4:w=mq
 .subst h4;decide
 simp[h0,h1,h2,h3,h4]
def my(x:aI):List AV:=[grow 3 (ints x.aM),grow 141 (x.aL.map dM),.int .i64 x.fI,.int .i64 x.fH,.int .i64 x.ir,.int .i64 x.il,.int .i64 x.bT,grow 48 (x.words.map cD),.int .i64 x.wide,.int .i64 x.rows]
def MQ:Except (List UInt8) aI->iJ
 |.ok x=>.ret (cC x)
 |.error e=>.panic (pI e)
def Qo(l:List Int):aG 1 (ints l)=true:=iC λa=>⟨rfl,rfl⟩
def UM(l:List Int)(m:List AV):(AV.slice (if l=[]then .nil else .view) m).aJ=.slice (if l=[]then .nil else .view) m:=by split<;>rfl
def Pz(l:List jY):aG 4 (l.map dM)=true:=iC λa=>⟨rfl,rfl⟩
def P3(l:List Word):aG 3 (l.map cD)=true:=iC λa=>⟨rfl,rfl⟩
structure sn(t:List UInt8)(L:List (List UInt8))(j:Nat)(x:aI)(S:an)(H:ao):Prop where
 s0:S 0=.str t
 s2:S 2=.box 2 0
 e2:H 2=some (my cG)
 s4:S 4=.box 4 0
 e4:H 4=some (my x)
 s5:S 5=.ref (yI.map AV.str)
 ft:S 25=strs L
 gx:S 26=.int .i64 (L.length:Nat)
 fT:S 27=.int .i64 (j:Nat)
noncomputable def kc:ah:=ah.qb c94.qb.qb.qb.qb.qb.qa.qb.qb
noncomputable def j6:ah:=ah.qb kc.qb.qb.qa
noncomputable def gY:ah:=ah.qb j6.qb.qb.qb
def acH{l:List Int}(h:l.length=2):∃a b,l=[a,b]:=by
 match l,h with
 |[a,b],_=>exact⟨a,b,rfl⟩
def aa'{l:List Int}(h:l.length=5):∃a b c d e,l=[a,b,c,d,e]:=by
 match l,h with
 |[a,b,c,d,e],_=>exact⟨a,b,c,d,e,rfl⟩
def abR{l:List Int}(h:l.length=4):∃a b c d,l=[a,b,c,d]:=by
 match l,h with
 |[a,b,c,d],_=>exact⟨a,b,c,d,rfl⟩
def Br{α:Type}{l:List α}(h:l.length=1):∃a,l=[a]:=by
 match l,h with
 |[a],_=>exact⟨a,rfl⟩
def aaG{α:Type}{l:List α}(h:l.length=3):∃a b c,l=[a,b,c]:=by
 match l,h with
 |[a,b,c],_=>exact⟨a,b,c,rfl⟩
def aak(hG:ar GI)(hT:TB GI)(pD:ML GI)(t:List UInt8)(ht:t.length<=420):AC prog GI 94 [.str t] (MQ (lx t)):=by
 have DT:=lq 10 t
 have Rl:∀p∈aZ 10 t,p.length<=420:=λp hp=>by have:=kz hp;omega
 have yM:=vb 10 t;have a159:=J0 pD t 10 zo
 refine AC.jF func94 rfl ntmps94 ahi λcc w=>?_
 refine dX hG c94.qa (λS' H'=>S' 0=.str t/\S' 2=.box 2 0/\H' 2=some (my cG)) ?_ ?_
 .simp[c94,ah.qa,af,ae,my,cG,grow,ints]
 rintro S H ⟨s0,s2,e2⟩;refine dX hG c94.qb.qa (λS' H'=>S' 0=.str t/\S' 2=.box 2 0/\H' 2=some (my cG)/\S' 3=strs (aZ 10 t)) ?_ ?_
 .simp[c94,ah.qa,ah.qb,af,ae,s0,s2,e2];refine oc a159 ?_;simp[af,ae,s0,s2,e2,strs]
 clear s0 s2 e2 S H;rintro S H ⟨s0,s2,e2,s3⟩
 have MA:lx t=if(aZ 10 t).length<2 then .error t else cN (ee eo cG ((aZ 10 t).take ((aZ 10 t).length-2))) λx=>if iM x=t then .ok x else .error t:=rfl
 rw[MA]
 generalize aZ 10 t=R at*
 by_cases h2:R.length<2
 .rw[if_pos h2]
  have aq:¬(2:Int)<=R.length:=zo
  refine SW.seq (SW.fN hG db zk (λ_ _ h=>h) (ac:=ah.qa c94.qb.qb) zk ?_);unfold eW.bD;simp[c94,ah.qa,ah.qb,af,ae,s0,s3,strs,aq];refine oc (zh hG t) ?_;simp[eN,thenS,oa,MQ,pI]
  first|exact⟨rfl,rfl⟩|exact⟨rfl,rfl,rfl⟩
 rw[if_neg h2]
 have Ae:(2:Int)<=R.length:=zo
 refine dX hG c94.qb.qb.qa (λS' H'=>S' 0=.str t/\S' 2=.box 2 0/\H' 2=some (my cG)/\S' 3=strs R) ?_ ?_
 .simp[c94,ah.qa,ah.qb,af,ae,s0,s2,e2,s3,strs,Ae];refine oc (GB hG t) ?_;simp[af,ae,s0,s2,e2,s3,strs]
 clear s0 s2 e2 s3 S H;rintro S H ⟨s0,s2,e2,s3⟩;refine dX hG c94.qb.qb.qb.qa (λS' H'=>S' 0=.str t/\S' 2=.box 2 0/\H' 2=some (my cG)/\S' 3=strs R/\S' 4=.box 4 0/\H' 4=some (my cG)) ?_ ?_
 .simp[c94,ah.qa,ah.qb,af,ae,s0,s2,e2,s3,strs,my,cG,grow,ints]
 clear s0 s2 e2 s3 S H;rintro S H ⟨s0,s2,e2,s3,s4,e4⟩;refine dX hG c94.qb.qb.qb.qb.qa (λS' H'=>S' 0=.str t/\S' 2=.box 2 0/\H' 2=some (my cG)/\S' 3=strs R/\S' 4=.box 4 0/\H' 4=some (my cG)/\S' 5=.box 5 0/\H' 5=some (yI.map AV.str)) ?_ ?_
 .simp[c94,ah.qa,ah.qb,af,ae,s0,s2,e2,s3,s4,e4,strs];refine oc (zK hG) ?_;simp[af,ae,s0,s2,e2,s3,s4,e4,strs,yI]
 clear s0 s2 e2 s3 s4 e4 S H;rintro S H ⟨s0,s2,e2,s3,s4,e4,s5,e5⟩;refine SW.freeze (i:=5) e5 rfl ?_
 obtain⟨L,hL⟩:∃L,R.take (R.length-2)=L:=⟨_,rfl⟩
 have Qy:L.length=R.length-2:=by rw[<-hL];simp
 rw[hL]
 have We:∀p∈L,p.length<=420:=λp hp=>Rl p (by rw[<-hL]at hp;exact adU hp)
 have hLs:(L.map λp=>p.length+1).sum<=421:=by
  have h1:(R.map λp=>p.length+1).sum=(L.map λp=>p.length+1).sum+((R.drop (R.length-2)).map λp=>p.length+1).sum:=by
   rw[<-hL,<-aeR,<-adL,aeC]
  omega
 have ln:IntKind.i64.wrap ((R.length:Int)-2)=(L.length:Nat):=by rw[aT zo];omega
 have hLn:(L.length:Int)<=R.length:=zo
 show SW prog GI 171 none (.seq (.seq _ (.block 0 (.loop _))) (.seq _ (.seq _ .ret))) _ _ _ _;refine SW.seq (dX hG c94.qb.qb.qb.qb.qb.qa.qa (sn t L 0 cG) ?_ ?_)
 .have hLt:L.length<=R.length:=zo
  have Wr:R.take L.length=L:=by rw[Qy];exact hL
  have OQ:(R.map AV.str).take L.length=L.map AV.str:=by rw[<-ae_,Wr]
  simp[c94,ah.qa,ah.qb,af,ae,s0,s2,e2,s3,s4,e4,s5,strs,wk,ln,hLt,Wr,hLn,bound,gl];exact⟨by simp[af,ae,s0,wk],by simp[af,ae,s2,wk],by simp[af,ae,e2],by simp[af,ae,s4,wk],by simp[af,ae,e4],by simp[af,ae,s5,wk,yI],by simp[af,ae,strs,OQ],by simp[af,ae],by simp[af,ae]⟩
 clear s0 s2 e2 s3 s4 e4 s5 e5 S H;intro S H hI
 have bW:∀d,¬(Old.plain cc w).bx d:=λ_ h=>h
 refine SW.block (SW.loop (λo S' H'=>o=Old.plain cc w/\∃j x,j<=L.length/\ee eo cG (L.take j)=.ok x/\Grown 421 x j/\nW x/\sn t L j x S' H') (λS' _=>match S' 27 with|.int _ j=>L.length-j.toNat|_=>0) ⟨rfl,0,cG,ad_ _,rfl,ry _,GO,hI⟩ ?_);clear hI S H;rintro o S H ⟨rfl,j,x,hj,hf,iD,hN,hI⟩;have m27:=hI.fT;show SW prog GI 171 none (.seq _ (.seq (.cond _ _ _) (.seq (.block 1 _) _))) _ _ _ _;refine pV hG kc.qa (λd _=>bW d) (λS' H'=>S' 28=.bool (decide (j<L.length))/\sn t L j x S' H') ?_ ?_
 .obtain⟨s0,s2,e2,s4,e4,s5,ft,gx,fT⟩:=hI;simp[c94,kc,ah.qa,ah.qb,af,ae,gx,fT];exact⟨by simp[af,ae,s0],by simp[af,ae,s2],e2,by simp[af,ae,s4],e4,by simp[af,ae,s5],by simp[af,ae,ft],by simp[af,ae,gx],by simp[af,ae,fT]⟩
 clear hI;rintro S H ⟨vY,hI⟩
 by_cases aq:j<L.length
 case neg=>
  have qC:j=L.length:=zo
  rw[qC,ado (adl _)]at hf;rw[hf];refine SW.seq (SW.cond rfl false (by show S 28=_;rw[vY];simp[aq]) (SW.exit ?_));show SW prog GI 171 none (.seq _ (.seq _ .ret)) _ _ _ _;obtain⟨L4,h5⟩:=tO (b:=421) (λr hr=>by have:=We r hr;omega) (ry _) hf
  have aah:MG x:=⟨by have:=L4.aM;omega,by have:=L4.aL;omega,by have:=L4.words;omega,λw hw=>by have:=L4.aU w hw;omega,λw hw=>by have:=L4.bU w hw;omega⟩
  have a116:=Wp hG hT x hN aah;obtain⟨s0,s2,e2,s4,e4,s5,ft,gx,fT⟩:=hI
  by_cases UN:iM x=t
  case neg=>
   have hb:(iM x==t)=false:=by simpa using UN
   simp only[cN,if_neg UN];refine SW.seq (SW.fN hG db zk (λd _=>bW d) (ac:=ah.qa c94.qb.qb.qb.qb.qb.qb) zk ?_);unfold eW.bD;simp[c94,ah.qa,ah.qb,af,ae,s0,s4,e4,my,jl];refine oc a116 ?_;simp[af,ae,s0,hb];refine oc (zh hG t) ?_;simp[eN,thenS,oa,MQ,pI]
   first|exact⟨rfl,rfl⟩|exact⟨rfl,rfl,rfl⟩
  have hb:(iM x==t)=true:=by simpa using UN
  simp only[cN,if_pos UN];refine pV hG c94.qb.qb.qb.qb.qb.qb.qa (λd _=>bW d) (λS' H'=>S' 2=.box 2 0/\H' 2=some (my cG)/\S' 4=.box 4 0/\H' 4=some (my x)) ?_ ?_
  .simp[c94,ah.qa,ah.qb,af,ae,s0,s4,e4,my,jl];refine oc a116 ?_;simp[af,ae,s0,hb];refine oc (GB hG t) ?_;simp[af,ae,s2,e2,s4,e4,my]
  clear s0 s2 e2 s4 e4 s5 ft gx fT vY m27 S H;rintro S H ⟨s2,e2,s4,e4⟩;refine pV hG c94.qb.qb.qb.qb.qb.qb.qb.qa (λd _=>bW d) (λS' H'=>S' 2=.box 2 0/\H' 2=some ((my x).map AV.aJ)) ?_ ?_
  .simp[c94,ah.qa,ah.qb,af,ae,s2,e2,s4,e4,my]
  clear s2 e2 s4 e4 S H;rintro S H ⟨s2,e2⟩;obtain⟨i28,r_,sG⟩:=iZ 29 10;obtain⟨fs,fw⟩:=uZ 29;refine SW.ret ⟨ep.plain rfl,rfl,cC x,?_,rfl⟩;show cM prog 171 [.cell 2 29] S H=_;simp[cM,dc,de,s2,e2,r_,fw,sG,cb,ef,my,AV.out,jl,AV.cg,AV.vw,tR,tB,cC,ai,vI]
 case pos=>
  obtain⟨r,hr⟩:∃r,L[j]=r:=⟨_,rfl⟩
  have yh:r.length<=420:=by rw[<-hr];exact We _ (adi aq)
  have SI:=J0 pD r 32 zo;refine SW.seq (SW.cond rfl true (by show S 28=_;rw[vY];simp[aq]) (SW.skip ?_));clear vY;show SW prog GI 171 none (.seq (.block 1 (.seq _ (.seq _ (.seq _ (.block 2 _))))) _) _ _ _ _;refine SW.seq (SW.block (pV hG j6.qa (λd _=>bW d) (λS' H'=>S' 7=.str r/\sn t L j x S' H') ?_ ?_))
  .obtain⟨s0,s2,e2,s4,e4,s5,ft,gx,fT⟩:=hI;simp[c94,kc,j6,ah.qa,ah.qb,af,ae,ft,fT,strs,aq,hr];exact⟨by simp[af,ae,s0],by simp[af,ae,s2],e2,by simp[af,ae,s4],e4,by simp[af,ae,s5],by simp[af,ae,ft],by simp[af,ae,gx],by simp[af,ae,fT]⟩
  clear hI;rintro S H ⟨s7,hI⟩
  obtain⟨nm,tl,Eb⟩:∃nm tl,aZ 32 r=nm::tl:=by
   cases hs:aZ 32 r with
   |nil=>exact absurd hs (sI 32 r)
   |cons a l=>exact⟨a,l,rfl⟩
  have u_:tl.length<=421:=by have:=lq 32 r;rw[Eb]at this;simp at this;omega
  have Ed:∀p∈tl,p.length<=420:=λp hp=>by have:=kz (c:=32) (l:=r) (p:=p) (by rw[Eb];exact adu _ hp);omega
  rw[Eb]at SI;refine pV hG j6.qb.qa (λd _=>bW d) (λS' H'=>S' 7=.str r/\S' 8=strs (nm::tl)/\sn t L j x S' H') ?_ ?_
  .obtain⟨s0,s2,e2,s4,e4,s5,ft,gx,fT⟩:=hI;simp[c94,kc,j6,ah.qa,ah.qb,af,ae,s7];refine oc SI ?_;simp[af,ae,s7,strs];exact⟨by simp[af,ae,s0],by simp[af,ae,s2],e2,by simp[af,ae,s4],e4,by simp[af,ae,s5],by simp[af,ae,ft],by simp[af,ae,gx],by simp[af,ae,fT]⟩
  clear hI s7 S H;rintro S H ⟨s7,s8,hI⟩;refine pV hG j6.qb.qb.qa (λd _=>bW d) (λS' H'=>S' 7=.str r/\S' 8=strs (nm::tl)/\S' 9=.int .i64 (rH nm)/\sn t L j x S' H') ?_ ?_
  .obtain⟨s0,s2,e2,s4,e4,s5,ft,gx,fT⟩:=hI;have a162:=VZ (GI:=GI) hG nm;simp only[strs,yI,ady,adR]at a162;simp[c94,kc,j6,ah.qa,ah.qb,af,ae,s7,s8,s5,strs,yI];refine oc a162 ?_;simp[af,ae,s7,s8,strs];exact⟨by simp[af,ae,s0],by simp[af,ae,s2],e2,by simp[af,ae,s4],e4,by simp[af,ae,s5,yI],by simp[af,ae,ft,strs],by simp[af,ae,gx],by simp[af,ae,fT]⟩
  clear hI s7 s8 S H;rintro S H ⟨s7,s8,s9,hI⟩;refine SW.block (SW.mono (Q:=λe o S' H'=>o=Old.plain cc w/\match e with|.normal=>∃y,eo x r=.ok y/\sn t L j y S' H'|.panic v=>∃er,eo x r=.error er/\v=pI er|_=>False) ?_ ?_)
  .rintro e o S' H' ⟨rfl,h⟩
   cases e with
   |normal=>
    obtain⟨y,hy,hI⟩:=h;have uA:=Bi aq hf;rw[hr,hy]at uA;show SW prog GI 171 none _ _ _ _ _;refine SW.fN hG db zk (λd _=>bW d) (ac:=ah.qb kc.qb.qb) zk ?_;unfold eW.bD;obtain⟨s0,s2,e2,s4,e4,s5,ft,gx,fT⟩:=hI;have pW:IntKind.i64.wrap ((j:Int)+1)=j+1:=aT zo;simp[c94,kc,j6,ah.qa,ah.qb,af,ae,fT,pW,thenS];refine⟨⟨j+1,zo,y,uA,(yE zo iD hy).1,L_ hN hy,by simp[af,ae,s0],by simp[af,ae,s2],e2,by simp[af,ae,s4],e4,by simp[af,ae,s5],by simp[af,ae,ft],by simp[af,ae,gx],by simp[af,ae]⟩,?_⟩;rw[m27];show L.length-((j:Int)+1).toNat<L.length-(j:Int).toNat;omega
   |panic v=>
    obtain⟨er,he,rfl⟩:=h;have eL:=u9 aq hf (by rw[hr];exact he);rw[eL];exact⟨rfl,rfl,rfl⟩
   |exit id=>exact h.elim
   |ret=>exact h.elim
  have acU:∀d∈([]:List Nat),¬(Old.plain cc w).bx d:=λd _=>bW d
  obtain⟨k0,k1,k2,k3,k4⟩:=Ty nm
  have eL:eo x r=(if nm=mP/\tl.length=2 then cN (fa tl) λn=>.ok { x with wide:=at' n 0,rows:=at' n 1 }
   else if nm=mT/\tl.length=5 then cN (fa tl) λn=>.ok { x with fI:=at' n 0,fH:=at' n 1,ir:=at' n 2,il:=at' n 3,bT:=at' n 4 }
   else if nm=nt/\tl.length=1 then cN (fa tl) λn=>.ok { x with aM:=x.aM++n }
   else if nm=nw/\tl.length=4 then cN (fa tl) λn=>.ok { x with aL:=x.aL++[⟨at' n 0,at' n 1,at' n 2,at' n 3⟩] }
   else if nm=mq/\tl.length=3 then cN (iI (tl[1]?.getD [])) λa=>cN (iI (tl[2]?.getD [])) λb=>.ok { x with words:=x.words++[⟨a,b,tl[0]?.getD []==[121,101,115]⟩] }
   else .error r):=by unfold eo;rw[Eb];rfl
  generalize eo x r=st at*
  have qP:=Pt (GI:=GI) hG hT (ws:=tl) zo
  generalize rH nm=kd at*
  have FE:aG 1 (AV.str nm::tl.map AV.str)=true:=gl (nm::tl)
  have oH:(1:Int)<=(tl.length:Int)+1:=zo
  have iY:((tl.length:Int)+1).toNat=tl.length+1:=zo
  have oq:(tl.map AV.str).take tl.length=tl.map AV.str:=ado ahi;show SW prog GI 171 none (.seq _ (.cond _ _ _)) _ _ _ _;refine pV hG gY.qa (λd _=>bW d) (λS' H'=>S' 40=.bool (decide (nm=mP/\tl.length=2))/\S' 7=.str r/\S' 8=strs (nm::tl)/\S' 9=.int .i64 kd/\sn t L j x S' H') ?_ ?_
  .have hl:((tl.length:Int)+1==3)=decide (tl.length=2):=by rw[ad5];simp;omega
   obtain⟨s0,s2,e2,s4,e4,s5,ft,gx,fT⟩:=hI
   by_cases h:nm=mP
   .have hk:kd=0:=by simpa[h]using k0
    simp[c94,kc,j6,gY,ah.qa,ah.qb,af,ae,s7,s8,s9,strs,hk,hl,h];exact⟨by simp[af,ae,s0],by simp[af,ae,s2],e2,by simp[af,ae,s4],e4,by simp[af,ae,s5],by simp[af,ae,ft,strs],by simp[af,ae,gx],by simp[af,ae,fT]⟩
   .have hk:(kd==0)=false:=by rw[k0];simpa using h
    simp[c94,kc,j6,gY,ah.qa,ah.qb,af,ae,s7,s8,s9,strs,hk,h];exact⟨by simp[af,ae,s0],by simp[af,ae,s2],e2,by simp[af,ae,s4],e4,by simp[af,ae,s5],by simp[af,ae,ft,strs],by simp[af,ae,gx],by simp[af,ae,fT]⟩
  clear hI s7 s8 s9;rintro S H ⟨sc,s7,s8,s9,hI⟩
  by_cases h0:nm=mP/\tl.length=2
  case pos=>
   rw[if_pos h0]at eL;refine SW.cond rfl true (by show S 40=_;rw[sc];simp[h0]) ?_;obtain⟨s0,s2,e2,s4,e4,s5,ft,gx,fT⟩:=hI;refine SW.fN hG db zk (λd _=>bW d) (ac:=ah.qa gY.qb) zk ?_;unfold eW.bD
   cases hg:fa tl with
   |error er=>
    rw[hg]at qP eL;simp[c94,kc,j6,gY,ah.qa,ah.qb,af,ae,s8,strs,bound,FE,oH,iY,oq];refine oc qP ?_;simp[eN,nP];exact⟨er,eL,rfl⟩
   |ok l=>
    rw[hg]at qP eL;obtain⟨a,b,rfl⟩:=acH (by rw[mX hg];exact h0.2);simp[c94,kc,j6,gY,ah.qa,ah.qb,af,ae,s8,strs,bound,FE,oH,iY,oq];refine oc qP ?_;simp[af,ae,nP,ints,s4,e4,my];refine⟨_,eL,by simp[af,ae,s0],by simp[af,ae,s2],by simp[af,ae,e2],by simp[af,ae,s4],by simp[af,ae,e4,my,at',ints,grow],by simp[af,ae,s5],by simp[af,ae,ft,strs],by simp[af,ae,gx],by simp[af,ae,fT]⟩
  rw[if_neg h0]at eL;refine SW.cond rfl false (by show S 40=_;rw[sc];simp[h0]) ?_;clear sc;show SW prog GI 171 none (.seq _ (.cond _ _ _)) _ _ _ _;refine pV hG gY.qb.qb.qa (λd _=>bW d) (λS' H'=>S' 59=.bool (decide (nm=mT/\tl.length=5))/\S' 7=.str r/\S' 8=strs (nm::tl)/\S' 9=.int .i64 kd/\sn t L j x S' H') ?_ ?_
  .have hl:((tl.length:Int)+1==6)=decide (tl.length=5):=by rw[ad5];simp;omega
   obtain⟨s0,s2,e2,s4,e4,s5,ft,gx,fT⟩:=hI
   by_cases h:nm=mT
   .have hk:kd=1:=by simpa[h]using k1
    simp[c94,kc,j6,gY,ah.qa,ah.qb,af,ae,s7,s8,s9,strs,hk,hl,h];exact⟨by simp[af,ae,s0],by simp[af,ae,s2],e2,by simp[af,ae,s4],e4,by simp[af,ae,s5],by simp[af,ae,ft,strs],by simp[af,ae,gx],by simp[af,ae,fT]⟩
   .have hk:(kd==1)=false:=by rw[k1];simpa using h
    simp[c94,kc,j6,gY,ah.qa,ah.qb,af,ae,s7,s8,s9,strs,hk,h];exact⟨by simp[af,ae,s0],by simp[af,ae,s2],e2,by simp[af,ae,s4],e4,by simp[af,ae,s5],by simp[af,ae,ft,strs],by simp[af,ae,gx],by simp[af,ae,fT]⟩
  clear hI s7 s8 s9;rintro S H ⟨sc,s7,s8,s9,hI⟩
  by_cases h1:nm=mT/\tl.length=5
  case pos=>
   rw[if_pos h1]at eL;refine SW.cond rfl true (by show S 59=_;rw[sc];simp[h1]) ?_;obtain⟨s0,s2,e2,s4,e4,s5,ft,gx,fT⟩:=hI;refine SW.fN hG db zk (λd _=>bW d) (ac:=ah.qa gY.qb.qb.qb) zk ?_;unfold eW.bD
   cases hg:fa tl with
   |error er=>
    rw[hg]at qP eL;simp[c94,kc,j6,gY,ah.qa,ah.qb,af,ae,s8,strs,bound,FE,oH,iY,oq];refine oc qP ?_;simp[eN,nP];exact⟨er,eL,rfl⟩
   |ok l=>
    rw[hg]at qP eL;obtain⟨a,b,c,d,e,rfl⟩:=aa' (by rw[mX hg];exact h1.2);refine aK (λS' H'=>S' 11=.slice .view [.int .i64 a,.int .i64 b,.int .i64 c,.int .i64 d,.int .i64 e]/\sn t L j x S' H') ?_ ?_
    .simp[c94,kc,j6,gY,ah.qa,ah.qb,af,ae,s8,strs,bound,FE,oH,iY,oq];refine oc qP ?_;simp[af,ae,nP,ints];exact⟨by simp[af,ae,s0],by simp[af,ae,s2],e2,by simp[af,ae,s4],e4,by simp[af,ae,s5],by simp[af,ae,ft,strs],by simp[af,ae,gx],by simp[af,ae,fT]⟩
    clear s0 s2 e2 s4 e4 s5 ft gx fT s7 s8 s9 sc S H;rintro S H ⟨sl,s0,s2,e2,s4,e4,s5,ft,gx,fT⟩;simp[af,ae,sl,s4,e4,my,bI];refine⟨_,eL,by simp[af,ae,s0],by simp[af,ae,s2],by simp[af,ae,e2],by simp[af,ae,s4],by simp[af,ae,e4,my,at',ints,grow],by simp[af,ae,s5],by simp[af,ae,ft,strs],by simp[af,ae,gx],by simp[af,ae,fT]⟩
  rw[if_neg h1]at eL;refine SW.cond rfl false (by show S 59=_;rw[sc];simp[h1]) ?_;clear sc;show SW prog GI 171 none (.seq _ (.cond _ _ _)) _ _ _ _;refine pV hG gY.qb.qb.qb.qb.qa (λd _=>bW d) (λS' H'=>S' 90=.bool (decide (nm=nt/\tl.length=1))/\S' 7=.str r/\S' 8=strs (nm::tl)/\S' 9=.int .i64 kd/\sn t L j x S' H') ?_ ?_
  .have hl:((tl.length:Int)+1==2)=decide (tl.length=1):=by rw[ad5];simp;omega
   obtain⟨s0,s2,e2,s4,e4,s5,ft,gx,fT⟩:=hI
   by_cases h:nm=nt
   .have hk:kd=2:=by simpa[h]using k2
    simp[c94,kc,j6,gY,ah.qa,ah.qb,af,ae,s7,s8,s9,strs,hk,hl,h];exact⟨by simp[af,ae,s0],by simp[af,ae,s2],e2,by simp[af,ae,s4],e4,by simp[af,ae,s5],by simp[af,ae,ft,strs],by simp[af,ae,gx],by simp[af,ae,fT]⟩
   .have hk:(kd==2)=false:=by rw[k2];simpa using h
    simp[c94,kc,j6,gY,ah.qa,ah.qb,af,ae,s7,s8,s9,strs,hk,h];exact⟨by simp[af,ae,s0],by simp[af,ae,s2],e2,by simp[af,ae,s4],e4,by simp[af,ae,s5],by simp[af,ae,ft,strs],by simp[af,ae,gx],by simp[af,ae,fT]⟩
  clear hI s7 s8 s9;rintro S H ⟨sc,s7,s8,s9,hI⟩
  by_cases h2:nm=nt/\tl.length=1
  case pos=>
   rw[if_pos h2]at eL;refine SW.cond rfl true (by show S 90=_;rw[sc];simp[h2]) ?_;obtain⟨s0,s2,e2,s4,e4,s5,ft,gx,fT⟩:=hI;obtain⟨w1,pH⟩:=Br h2.2;have cL:aG 1 [AV.str w1]=true:=rfl;refine SW.Gx hG db [6] [0,1,2,3,4,5,6,7,8,9] zk zk (l:=ah.dl gY.qb.qb.qb.qb.qb.qa) zk (((gY.qb.qb.qb.qb.qb.qa.dl).take 6).map (λo=>(false,o))++((true,⟨some 104,none,.call 131 [.t 103]⟩)::((gY.qb.qb.qb.qb.qb.qa.dl).drop 7).map λo=>(false,o))) zk ?_;refine lv _ ?_;simp[c94,kc,j6,gY,ah.qa,ah.qb,af,ae,ah.dl,s4,e4,s8,pH,strs,my,cL];rw[pH]at qP eL;refine jL (by simp[af,ae]) zk (by simpa[af,ae,strs]using qP) ?_
   cases hg:fa [w1]with
   |error er=>
    rw[hg]at eL;exact⟨er,eL,rfl⟩
   |ok l=>
    rw[hg]at eL;obtain⟨a,rfl⟩:=Br (mX hg);simp only[nP];refine tQ [⟨some 105,none,.append 23 3 1 8 (.t 99) (.t 104)⟩,⟨some 106,none,.fieldAddr 0 (.t 4)⟩,⟨none,none,.store (.box 4) 1 (.t 106) (.t 105)⟩] ?_;simp;refine kR (ints x.aM) (.int .i64 a) .view ahi (by simp[ints]) rfl (Qo x.aM) (by rw[cZ];have:=iD.aM;omega) ?_;intro S' sd cE;simp[sd,cE,s4,e4,my];refine⟨_,eL,by simp[af,ae,cE,s0],by simp[af,ae,cE,s2],by simp[af,ae,e2],by simp[af,ae,cE,s4],by simp[af,ae,e4,my,ints,grow],by simp[af,ae,cE,s5],by simp[af,ae,cE,ft,strs],by simp[af,ae,cE,gx],by simp[af,ae,cE,fT]⟩
  rw[if_neg h2]at eL;refine SW.cond rfl false (by show S 90=_;rw[sc];simp[h2]) ?_;clear sc;show SW prog GI 171 none (.seq _ (.cond _ _ _)) _ _ _ _;refine pV hG gY.qb.qb.qb.qb.qb.qb.qa (λd _=>bW d) (λS' H'=>S' 107=.bool (decide (nm=nw/\tl.length=4))/\S' 7=.str r/\S' 8=strs (nm::tl)/\S' 9=.int .i64 kd/\sn t L j x S' H') ?_ ?_
  .have hl:((tl.length:Int)+1==5)=decide (tl.length=4):=by rw[ad5];simp;omega
   obtain⟨s0,s2,e2,s4,e4,s5,ft,gx,fT⟩:=hI
   by_cases h:nm=nw
   .have hk:kd=3:=by simpa[h]using k3
    simp[c94,kc,j6,gY,ah.qa,ah.qb,af,ae,s7,s8,s9,strs,hk,hl,h];exact⟨by simp[af,ae,s0],by simp[af,ae,s2],e2,by simp[af,ae,s4],e4,by simp[af,ae,s5],by simp[af,ae,ft,strs],by simp[af,ae,gx],by simp[af,ae,fT]⟩
   .have hk:(kd==3)=false:=by rw[k3];simpa using h
    simp[c94,kc,j6,gY,ah.qa,ah.qb,af,ae,s7,s8,s9,strs,hk,h];exact⟨by simp[af,ae,s0],by simp[af,ae,s2],e2,by simp[af,ae,s4],e4,by simp[af,ae,s5],by simp[af,ae,ft,strs],by simp[af,ae,gx],by simp[af,ae,fT]⟩
  clear hI s7 s8 s9;rintro S H ⟨sc,s7,s8,s9,hI⟩
  by_cases h3:nm=nw/\tl.length=4
  case pos=>
   rw[if_pos h3]at eL;refine SW.cond rfl true (by show S 107=_;rw[sc];simp[h3]) ?_;obtain⟨s0,s2,e2,s4,e4,s5,ft,gx,fT⟩:=hI;refine SW.fN hG db zk (λd _=>bW d) (ac:=ah.qa gY.qb.qb.qb.qb.qb.qb.qb) zk ?_;unfold eW.bD
   cases hg:fa tl with
   |error er=>
    rw[hg]at qP eL;simp[c94,kc,j6,gY,ah.qa,ah.qb,af,ae,s8,strs,bound,FE,oH,iY,oq];refine oc qP ?_;simp[eN,nP];exact⟨er,eL,rfl⟩
   |ok l=>
    rw[hg]at qP eL;obtain⟨a,b,c,d,rfl⟩:=abR (by rw[mX hg];exact h3.2);simp[c94,kc,j6,gY,ah.qa,ah.qb,af,ae,s8,strs,bound,FE,oH,iY,oq];refine oc qP ?_;have cL:aG 4 [AV.agg [.int .i64 a,.int .i64 b,.int .i64 c,.int .i64 d]]=true:=rfl;simp[nP,ints,s4,e4,my,bI,cL];refine kR (x.aL.map dM) (.agg [.int .i64 a,.int .i64 b,.int .i64 c,.int .i64 d]) (.own 141) ahi ahi rfl (Pz x.aL) (by rw[adn];have:=iD.aL;omega) ?_;intro S' sd cE;simp[sd,cE,s4,e4,my];refine⟨_,eL,by simp[af,ae,cE,s0],by simp[af,ae,cE,s2],by simp[af,ae,e2],by simp[af,ae,cE,s4],by simp[af,ae,e4,my,at',dM,ints,grow],by simp[af,ae,cE,s5],by simp[af,ae,cE,ft,strs],by simp[af,ae,cE,gx],by simp[af,ae,cE,fT]⟩
  rw[if_neg h3]at eL;refine SW.cond rfl false (by show S 107=_;rw[sc];simp[h3]) ?_;clear sc;show SW prog GI 171 none (.seq _ (.cond _ _ _)) _ _ _ _;refine pV hG gY.qb.qb.qb.qb.qb.qb.qb.qb.qa (λd _=>bW d) (λS' H'=>S' 137=.bool (decide (nm=mq/\tl.length=3))/\S' 7=.str r/\S' 8=strs (nm::tl)/\S' 9=.int .i64 kd/\sn t L j x S' H') ?_ ?_
  .have hl:((tl.length:Int)+1==4)=decide (tl.length=3):=by rw[ad5];simp;omega
   obtain⟨s0,s2,e2,s4,e4,s5,ft,gx,fT⟩:=hI
   by_cases h:nm=mq
   .have hk:kd=4:=by simpa[h]using k4
    simp[c94,kc,j6,gY,ah.qa,ah.qb,af,ae,s7,s8,s9,strs,hk,hl,h];exact⟨by simp[af,ae,s0],by simp[af,ae,s2],e2,by simp[af,ae,s4],e4,by simp[af,ae,s5],by simp[af,ae,ft,strs],by simp[af,ae,gx],by simp[af,ae,fT]⟩
   .have hk:(kd==4)=false:=by rw[k4];simpa using h
    simp[c94,kc,j6,gY,ah.qa,ah.qb,af,ae,s7,s8,s9,strs,hk,h];exact⟨by simp[af,ae,s0],by simp[af,ae,s2],e2,by simp[af,ae,s4],e4,by simp[af,ae,s5],by simp[af,ae,ft,strs],by simp[af,ae,gx],by simp[af,ae,fT]⟩
  clear hI s7 s8 s9;rintro S H ⟨sc,s7,s8,s9,hI⟩
  by_cases h4:nm=mq/\tl.length=3
  case pos=>
   rw[if_pos h4]at eL;refine SW.cond rfl true (by show S 137=_;rw[sc];simp[h4]) ?_;obtain⟨s0,s2,e2,s4,e4,s5,ft,gx,fT⟩:=hI;obtain⟨w1,w2,w3,qI⟩:=aaG h4.2;have ade:w2.length<=420:=Ed w2 (by rw[qI];simp);have acY:w3.length<=420:=Ed w3 (by rw[qI];simp);have a2:=O' (GI:=GI) hG hT pD w2 zo;have a3:=O' (GI:=GI) hG hT pD w3 zo;rw[qI]at eL;refine SW.Gx hG db [5,9] [0,1,2,3,4,6,7,8,10,11,12,13,5,9,14,15,16,17,18] zk zk (l:=ah.dl gY.qb.qb.qb.qb.qb.qb.qb.qb.qb.qa) zk (((gY.qb.qb.qb.qb.qb.qb.qb.qb.qb.qa.dl).take 5++((gY.qb.qb.qb.qb.qb.qb.qb.qb.qb.qa.dl).drop 6).take 3++((gY.qb.qb.qb.qb.qb.qb.qb.qb.qb.qa.dl).drop 10).take 4).map (λo=>(false,o))++((true,⟨some 150,none,.call 132 [.t 149]⟩)::(true,⟨some 154,none,.call 132 [.t 153]⟩)::((gY.qb.qb.qb.qb.qb.qb.qb.qb.qb.qa.dl).drop 14).map λo=>(false,o))) zk ?_;refine lv _ ?_;simp[c94,kc,j6,gY,ah.qa,ah.qb,af,ae,ah.dl,s4,e4,s8,qI,strs,my];refine jL (by simp[af,ae]) zk (by simpa[af,ae]using a2) ?_
   cases nH:iI w2 with
   |error er=>
    have eL:st=.error er:=by rw[eL];simp[nH,cN]
    exact⟨er,eL,rfl⟩
   |ok l2=>
    simp only[nP];refine jL (by simp[af,ae]) zk (by simpa[af,ae]using a3) ?_
    cases Zr:iI w3 with
    |error er=>
     have eL:st=.error er:=by rw[eL];simp[nH,Zr,cN]
     exact⟨er,eL,rfl⟩
    |ok l3=>
     have eL:st=.ok { x with words:=x.words++[⟨l2,l3,w1==[121,101,115]⟩] }:=by rw[eL];simp[nH,Zr,cN]
     simp only[nP];refine tQ [⟨some 159,none,.build [.slice .nil [],.slice .nil [],.bool false] [(0,1,.t 150),(1,1,.t 154),(2,1,.t 158)]⟩,⟨some 160,none,.buildSlice 27 48 3 [.t 159]⟩,⟨some 161,none,.append 27 48 3 56 (.t 146) (.t 160)⟩,⟨some 162,none,.fieldAddr 7 (.t 4)⟩,⟨none,none,.store (.box 4) 1 (.t 162) (.t 161)⟩] ?_;have cL:aG 3 [AV.agg [.slice .view (ints l2),.slice .view (ints l3),.bool (w1==[121,101,115])]]=true:=rfl
     generalize oH:(w1==[121,101,115])=bb at*
     simp[bI,oH,UM,cL];refine kR (x.words.map cD) (cD ⟨l2,l3,bb⟩) (.own 48) ahi (by simp[cD,vI]) rfl (P3 x.words) (by rw[adn];have:=iD.words;omega) ?_;intro S' sd cE;simp[sd,cE,s4,e4,my];refine⟨_,eL,by simp[af,ae,cE,s0],by simp[af,ae,cE,s2],by simp[af,ae,e2],by simp[af,ae,cE,s4],by simp[af,ae,e4,my,cD,vI,ints,grow],by simp[af,ae,cE,s5],by simp[af,ae,cE,ft,strs],by simp[af,ae,cE,gx],by simp[af,ae,cE,fT]⟩
  rw[if_neg h4]at eL;refine SW.cond rfl false (by show S 137=_;rw[sc];simp[h4]) ?_;clear sc;refine SW.fN hG db zk (λd _=>bW d) (ac:=ah.qb gY.qb.qb.qb.qb.qb.qb.qb.qb.qb) zk ?_;unfold eW.bD;simp[c94,kc,j6,gY,ah.qa,ah.qb,af,ae,s7];refine oc (zh hG r) ?_;simp[eN];exact⟨r,eL,rfl⟩
end Go.Proofs.Tryz
namespace Go.Proofs.Tryz
open Go Go.AL Go.RowKit Go.Proofs Go.Proofs.Tram
variable{GI:World->Prop}
def Vb{Pr:Nat->Nat->Prop}{w:World}{e:List UInt8}{c:Value}(h:RD Pr w (pI e) c):c=.iface 192 (.agg #[.string ⟨e.toArray⟩]):=by
 unfold pI at h
 cases h with
 |iface t v c h=>
  cases h with
  |agg cs vs hl h1 hr=>
   have hs:vs.size=1:=by rw[<-hl];rfl
   have h0:=hr 0 ahi zo;simp only[List.getElem_cons_zero]at h0
   have:vs=#[vs[0]]:=by
    apply aeP
    .simpa using hs
    .intro i h1 h2
     have:i=0:=by simp at h2;omega
     subst this;rfl
   rw[this];generalize vs[0]=x at h0;cases h0;rfl
def Q2 (hG:ar GI) {w0:World} {n:Nat} {g:Gh} {S:an} {H:ao} {a:Act} {w:World} {i1 i4:Nat} {s e:List UInt8} {z:List AV} (cq:GI w0) (R:Rel prog w0 n bL g S H a w) (Eg:i1 < n) (Ej:i4 < n)
  (Eh:S i1=.box i1 0) (Di:H i1=some [.str s]) (Az:S i4=.box i4 0) (EI:H i4=some z) (sr:AC prog GI 94 [.str s] (.panic (pI e))):
  Calls prog 93 #[a.tmps.getD i1 undef,a.tmps.getD i4 undef] w λen w2=>en=.panicked [{ v:=.iface 192 (.agg #[.string ⟨e.toArray⟩]),recovered:=false }]/\Below w.heap.size w w2:=by
 have bj:=R.size;have v1:=R.slot i1 Eg id;rw[Eh]at v1;have v4:=R.slot i4 Ej id;rw[Az]at v4
 obtain⟨b1,e1,yn⟩:∃b,a.tmps.getD i1 undef=.pointer (some ⟨b,0,none⟩)/\g.al i1=some b:=by
  generalize a.tmps.getD i1 undef=c at v1
  cases v1 with
  |data _ _ h=>cases h
  |box _ _ b h=>exact⟨b,rfl,h⟩
 obtain⟨b4,e4,acm⟩:∃b,a.tmps.getD i4 undef=.pointer (some ⟨b,0,none⟩)/\g.al i4=some b:=by
  generalize a.tmps.getD i4 undef=c at v4
  cases v4 with
  |data _ _ h=>cases h
  |box _ _ b h=>exact⟨b,rfl,h⟩
 obtain⟨cs,vs,ty,k0,k1,k2,k3,k4,k5,k6,k7,k8⟩:=R.box i1 b1 yn;rw[Di]at k0;cases k0
 have h0:0<vs.size:=by rw[<-k5];exact agY
 have hv:=oR (RV.data (al:=cQ) _ _ (k6 0 ahi h0))
 have eV:w.cell? ⟨b1,0,none⟩=some (.string ⟨s.toArray⟩):=by simp[World.cell?,k2,h0,hv]
 have uw:=R.below;rw[R.base]at uw;have gj:GI w:=hG w0 w cq uw;rw[e1,e4];refine afo func93 rfl ?_;refine(fo (m:=0)).1 ?_;refine hZ (λa=>a.tmps.size=4/\a.defers=[]/\a.tmps.getD 0 undef=.pointer (some ⟨b1,0,none⟩)/\a.tmps.getD 1 undef=.pointer (some ⟨b4,0,none⟩)) ⟨by simp[ntmps93],rfl,cH _ _ 0 ahi,cH _ _ 1 ahi⟩ ?_;rintro aC ⟨zC,dC,t0,t1⟩
 have jK:∀(a:Act)(d:Nat)(c:Value),a.tmps.size=4->d<4->(a.put (some d) c).tmps.getD d undef=c:=λa d c h hd=>by
  simp[Act.put,h,hd]
 refine adP ?_;show wpOpsIn _ _ _ _ _ [0,1,2] aC w;refine bg rfl rfl zr (jV (t:=9) (d:=.string) (b:=b1) (off:=0) rfl t0 zk rfl eV) ?_;show wpOpsIn _ _ _ _ _ [1,2] (aC.put (some 2) (.string ⟨s.toArray⟩)) w
 refine o9 rfl rfl zr (gn (k:=94) (args:=#[.string ⟨s.toArray⟩]) w rfl rfl ?_ zk) (sr w (fC g false) #[.string ⟨s.toArray⟩] gj rfl (λi h h'=>by
  match i,h with
  |0,_=>exact .data _ _ (.str s))) ?_
 .simp only[adV,ady,adR];show #[(aC.put (some 2) _).tmps.getD 2 undef]=_;rw[jK _ _ _ zC zd]
 rintro en w2 ⟨iY,hi,qi,c,rfl,dh⟩;have hc:=Vb dh;subst hc;exact⟨dC,rfl,iY⟩
def Ql (hG:ar GI) {w0:World} {n:Nat} {g:Gh} {S:an} {H:ao} {a:Act} {w:World} {i1 i4:Nat} {s e:List UInt8} {z:List AV} (cq:GI w0) (R:Rel prog w0 n bL g S H a w) (Eg:i1 < n) (Ej:i4 < n)
  (Eh:S i1=.box i1 0) (Di:H i1=some [.str s]) (Az:S i4=.box i4 0) (EI:H i4=some z) (sr:AC prog GI 94 [.str s] (.panic (pI e))):
  Calls prog 92 #[.func (.func 93) #[] #[a.tmps.getD i1 undef,a.tmps.getD i4 undef]] w λen w2=>en=.returned (.int .i64 4)/\∃g',g'.old=g.old/\Rel prog w0 n bL g' S H a w2:=by
 have R1:=R.nx (.cells #[.int .i64 0] 34)
 have zl:g.old.aV w.heap.size=none:=by
  cases h:g.old.aV w.heap.size with
  |none=>rfl
  |some o=>
   have:=(adj.1 (R.kept _ o h).2.1).1;omega
 refine qA zk (Q2 hG cq R1 Eg Ej Eh Di Az EI sr) ?_;rintro en w2 ⟨rfl,iY⟩;have R2:=R1.jU iY;have hk:au g.old.aV w.heap.size (some (.cells #[.int .i64 0] 34)) w.heap.size=some (.cells #[.int .i64 0] 34):=aO _ _ _;have kB:=(R2.kept _ _ hk).2.1;have aq:=(adj.1 kB).1;refine⟨aq,⟨_,_,kB⟩,.inr (.inr ⟨e,rfl,λw3 oq=>⟨rfl,?_⟩⟩)⟩;have R3:=R2.jU oq;have C3:=(R3.kept _ _ hk).2.1;have R4:=R3.nO hk (.cells #[.int .i64 4] 34);rw[nK w3 C3];refine⟨_,?_,tJ R4 w.heap.size⟩
 have:au (au (au g.old.aV w.heap.size (some (.cells #[.int .i64 0] 34))) w.heap.size (some (.cells #[.int .i64 4] 34))) w.heap.size none=g.old.aV:=by
  funext b
  by_cases hb:b=w.heap.size
  .subst hb;simp[au,zl]
  .simp[au,hb]
 show({ g.old with aV:=au (au (au g.old.aV w.heap.size (some (.cells #[.int .i64 0] 34))) w.heap.size (some (.cells #[.int .i64 4] 34))) w.heap.size none }:Old)=_;rw[this]
end Go.Proofs.Tryz
namespace Go.Proofs.Tryz
open Go Go.AL Go.RowKit Go.Proofs Go.Proofs.Tram
attribute [local simp] eD fG fB eR eQ d_ ec dE dJ eP dF df ik ig aF aD ev aP.S aP.H bw au aX AL.start AV.cells AV.storable AV.cy bB cd dS cb HR.okB post cM dc de AV.out AV.cg cZ dZ fz gZ AV.vw cW vI int cz aN dk dP iS jN eM dV bG AV.aJ AV.cI
variable{GI:World->Prop}
def Ah:List AV:=[.slice .nil [],.slice .nil [],.int .i64 0,.int .i64 0,.int .i64 0,.int .i64 0,.int .i64 0,.slice .nil [],.int .i64 0,.int .i64 0]
def X'(hG:ar GI){s e:List UInt8}(hs:s.length<=320)(sr:AC prog GI 94 [.str s] (.panic (pI e))):AC prog GI 43 [.str s] (.ret (.dR [cC cG,.int .i64 4])):=by
 refine AC.jF func43 rfl ntmps43 ahi λcc w=>?_
 refine dX hG c43.qa (λS' H'=>S' 1=.box 1 0/\S' 2=.box 2 0/\H' 1=some [.str s]/\∃z,H' 2=some z/\z.length=10) ?_ ?_
 .simp[c43,ah.qa,bD,bp,aF,ba,aD,ev,aP.S,aP.H,au,aX,AL.start,AV.aJ,AV.cells,AV.storable,cd,bw,aN]
 rintro S1 H1 ⟨s1,s2,h1,z2,h2,RS⟩;refine SW.seq (dX hG c43.qb.qa.qa (λS' H'=>S' 1=.box 1 0/\S' 2=.box 2 0/\H' 1=some [.str s]/\H' 2=some z2/\S' 8=.bool false) ?_ ?_)
 .have Sc:¬(320:Int)<s.length:=zo
  simp[c43,ah.qa,ah.qb,bD,bp,aF,ba,aD,ev,aP.S,aP.H,au,aX,s1,s2,h1,h2,cb,HR.okB,AV.aJ,dS,Sc,aN]
 rintro S2 H2 ⟨s1,s2,h1,h2,s8⟩;refine SW.cond rfl false (by show S2 8=_;rw[s8]) (SW.skip ?_);show SW prog GI 21 none (.seq _ (.seq (.seq _ (.seq _ (.cond _ _ _))) (.seq (.seq _ (.cond _ _ _)) (.seq _ .ret)))) _ _ _ _;refine dX hG c43.qb.qb.qa (λS' H'=>S' 1=.box 1 0/\S' 2=.box 2 0/\S' 4=.box 4 0/\H' 1=some [.str s]/\H' 2=some z2/\∃z,H' 4=some z/\z.length=10) ?_ ?_
 .simp[c43,ah.qa,ah.qb,bD,bp,aF,ba,au,cd,s1,s2,h1,h2,aN]
 rintro S3 H3 ⟨s1,s2,s4,h1,h2,z4,h4,Qt⟩
 refine SW.seq (SW.seq (SW.hand hG (p:=0) (lm:=[0,1]) (l2:=[2]) (kj:=[]) (oh:=[_,_]) (nk:=[_]) rfl rfl rfl rfl zk (λ_ h=>h) (n9:=[]) (np:=(c43.qb.qb.qb.qa.qa.dl).drop 2) rfl zk rfl zk
  (K1:=λS' H'=>S' 1=.box 1 0/\S' 2=.box 2 0/\S' 4=.box 4 0/\H' 1=some [.str s]/\H' 2=some z2/\H' 4=some z4)
  (K2:=λo S' H'=>o=Old.plain cc w/\S' 2=.box 2 0/\S' 4=.box 4 0/\S' 11=.int .i64 4/\H' 2=some z2/\H' 4=some z4)
  (K3:=λo S' H'=>o=Old.plain cc w/\S' 2=.box 2 0/\S' 4=.box 4 0/\S' 5=.int .i64 4/\H' 2=some z2/\H' 4=some z4) ⟨s1,s2,s4,h1,h2,h4⟩ ?_ ?_ ?_))
 .rintro w0 g S5 H5 a w5 m cq ho R ⟨s1,s2,s4,h1,h2,h4⟩;have bj:=R.size;refine bg rfl rfl zr (mr (fn:=.func 93) (c:=#[.tmp 1,.tmp 4]) rfl) ?_
  obtain⟨fv,lZ⟩:∃fv:Value,fv=.func (.func 93) #[] (#[Operand.tmp 1,.tmp 4].map a.eval):=⟨_,rfl⟩
  show wpOpsIn _ _ _ _ _ [1] (a.put (some 10) (.func (.func 93) #[] (#[Operand.tmp 1,.tmp 4].map a.eval))) w5;rw[<-lZ];have R1:=R.put 10 .bo fv zd (.bo _) trivial
  obtain⟨a1,nu⟩:∃a1,a.put (some 10) fv=a1:=⟨_,rfl⟩
  rw[nu]at R1⊢
  have vf:fv=.func (.func 93) #[] #[a1.tmps.getD 1 undef,a1.tmps.getD 4 undef]:=by
   have e1:=ck a 10 1 fv zo;have e4:=ck a 10 4 fv zo;rw[if_neg zd,nu]at e1 e4;have yp:a1.tmps.getD 1 undef=a.eval (.tmp 1):=e1;have Cj:a1.tmps.getD 4 undef=a.eval (.tmp 4):=e4;rw[yp,Cj,lZ];simp only[adV,ady,adR]
  have jr:a1.eval (.tmp 10)=fv:=by rw[<-nu,ck _ _ _ _ zo,if_pos rfl]
  refine gk rfl rfl zr (gn (k:=92) (args:=#[.func (.func 93) #[] #[a1.tmps.getD 1 undef,a1.tmps.getD 4 undef]]) w5 rfl rfl ?_ zk) (Ql hG cq R1 (i1:=1) (i4:=4) zd zd (by simp[au,s1]) h1 (by simp[au,s4]) h4 sr) ?_
  .simp only[adV,ady,adR,jr,<-vf]
  .rintro e w6 ⟨rfl,g',oV,R2⟩;refine⟨_,rfl,?_⟩;have R3:=R2.put 11 (.int .i64 4) (.int .i64 4) zd (.data _ _ (.int _ _)) trivial;refine⟨g',_,H5,R3,oV.trans ho,?_,?_,aO _ _ _,h2,h4⟩
   .simp[au,s2]
   .simp[au,s4]
 .rintro o S5 H5 ⟨rfl,s2,s4,bC,h2,h4⟩;refine⟨λ_ h=>h,?_⟩;simp[c43,ah.qa,ah.qb,ah.dl,bp,aF,ba,aD,ev,aP.S,aP.H,au,aX,s2,s4,bC,h2,h4,AV.aJ,bw]
 .rintro o S5 H5 ⟨rfl,s2,s4,s5,h2,h4⟩;refine dX hG c43.qb.qb.qb.qa.qb.qa (λS' H'=>S' 2=.box 2 0/\S' 5=.int .i64 4/\S' 13=.bool true/\H' 2=some z2) ?_ ?_
  .simp[c43,ah.qa,ah.qb,bD,bp,aF,ba,aD,ev,aP.S,aP.H,au,aX,s2,s4,s5,h2,h4,AV.aJ,dS,aN]
  rintro S6 H6 ⟨s2,s5,dH,h2⟩;refine SW.cond rfl true (by show S6 13=_;rw[dH]) ?_;show SW prog GI 21 none (.seq _ .ret) _ _ _ _;have Mq:List.drop 10 z2=[]:=aey zo;refine dX hG c43.qb.qb.qb.qa.qb.qb.qa.qa (λS' H'=>S' 2=.box 2 0/\S' 3=.int .i64 4/\H' 2=some Ah) ?_ ?_
  .simp[c43,ah.qa,ah.qb,s2,s5,h2,bI,Ah,RS,Mq]
  rintro S8 H8 ⟨s2,s3,h2⟩;obtain⟨i28,r_,sG⟩:=iZ 29 10;obtain⟨fs,fw⟩:=uZ 29;refine SW.ret ⟨ep.plain rfl,rfl,_,?_,rfl⟩;show cM prog 21 [.cell 2 29,.tmp 3] S8 H8=_;simp[cM,dc,de,s2,s3,h2,r_,fw,sG,cb,ef,AV.out,Ah,AV.aJ,AV.cg,AV.vw,AV.cI,cC,ai,cG,vI,ints]
def Z1 (hG:ar GI) {s:List UInt8} {x:List AV} (hs:s.length≤320) (hx:x.length=10) (sr:AC prog GI 94 [.str s] (.ret (.agg x))) (Ro:AC prog GI 44 [.agg (x.map AV.cI)] (.ret (.bool false))) :
  AC prog GI 43 [.str s] (.ret (.dR [cC cG,.int .i64 2])):=by
 refine AC.jF func43 rfl ntmps43 ahi λcc w=>?_
 refine dX hG c43.qa (λS' H'=>S' 1=.box 1 0/\S' 2=.box 2 0/\H' 1=some [.str s]/\∃z,H' 2=some z/\z.length=10) ?_ ?_
 .simp[c43,ah.qa,bD,bp,aF,ba,aD,ev,aP.S,aP.H,au,aX,AL.start,AV.aJ,AV.cells,AV.storable,cd,bw,aN]
 rintro S1 H1 ⟨s1,s2,h1,z2,h2,RS⟩;refine SW.seq (dX hG c43.qb.qa.qa (λS' H'=>S' 1=.box 1 0/\S' 2=.box 2 0/\H' 1=some [.str s]/\H' 2=some z2/\S' 8=.bool false) ?_ ?_)
 .have Sc:¬(320:Int)<s.length:=zo
  simp[c43,ah.qa,ah.qb,bD,bp,aF,ba,aD,ev,aP.S,aP.H,au,aX,s1,s2,h1,h2,cb,HR.okB,AV.aJ,dS,Sc,aN]
 rintro S2 H2 ⟨s1,s2,h1,h2,s8⟩;refine SW.cond rfl false (by show S2 8=_;rw[s8]) (SW.skip ?_);show SW prog GI 21 none (.seq _ (.seq (.seq _ (.seq _ (.cond _ _ _))) (.seq (.seq _ (.cond _ _ _)) (.seq _ .ret)))) _ _ _ _;refine dX hG c43.qb.qb.qa (λS' H'=>S' 1=.box 1 0/\S' 2=.box 2 0/\S' 4=.box 4 0/\H' 1=some [.str s]/\H' 2=some z2/\∃z,H' 4=some z/\z.length=10) ?_ ?_
 .simp[c43,ah.qa,ah.qb,bD,bp,aF,ba,au,cd,s1,s2,h1,h2,aN]
 rintro S3 H3 ⟨s1,s2,s4,h1,h2,z4,h4,Qt⟩
 refine SW.seq (SW.seq (SW.hand hG (p:=0) (lm:=[0,1]) (l2:=[2]) (kj:=[]) (oh:=[_,_]) (nk:=[_]) rfl rfl rfl rfl zk (λ_ h=>h) (n9:=[]) (np:=(c43.qb.qb.qb.qa.qa.dl).drop 2) rfl zk rfl zk
  (K1:=λS' H'=>S' 1=.box 1 0/\S' 2=.box 2 0/\S' 4=.box 4 0/\H' 1=some [.str s]/\H' 2=some z2/\H' 4=some z4)
  (K2:=λo S' H'=>o=Old.plain cc w/\S' 2=.box 2 0/\S' 4=.box 4 0/\S' 11=.int .i64 0/\H' 2=some z2/\H' 4=some (x.map AV.aJ))
  (K3:=λo S' H'=>o=Old.plain cc w/\S' 2=.box 2 0/\S' 4=.box 4 0/\S' 5=.int .i64 0/\H' 2=some z2/\H' 4=some (x.map AV.aJ)) ⟨s1,s2,s4,h1,h2,h4⟩ ?_ ?_ ?_))
 .rintro w0 g S5 H5 a w5 m cq ho R ⟨s1,s2,s4,h1,h2,h4⟩;have bj:=R.size;refine bg rfl rfl zr (mr (fn:=.func 93) (c:=#[.tmp 1,.tmp 4]) rfl) ?_
  obtain⟨fv,lZ⟩:∃fv:Value,fv=.func (.func 93) #[] (#[Operand.tmp 1,.tmp 4].map a.eval):=⟨_,rfl⟩
  show wpOpsIn _ _ _ _ _ [1] (a.put (some 10) (.func (.func 93) #[] (#[Operand.tmp 1,.tmp 4].map a.eval))) w5;rw[<-lZ];have R1:=R.put 10 .bo fv zd (.bo _) trivial
  obtain⟨a1,nu⟩:∃a1,a.put (some 10) fv=a1:=⟨_,rfl⟩
  rw[nu]at R1⊢
  have vf:fv=.func (.func 93) #[] #[a1.tmps.getD 1 undef,a1.tmps.getD 4 undef]:=by
   have e1:=ck a 10 1 fv zo;have e4:=ck a 10 4 fv zo;rw[if_neg zd,nu]at e1 e4;have yp:a1.tmps.getD 1 undef=a.eval (.tmp 1):=e1;have Cj:a1.tmps.getD 4 undef=a.eval (.tmp 4):=e4;rw[yp,Cj,lZ];simp only[adV,ady,adR]
  have jr:a1.eval (.tmp 10)=fv:=by rw[<-nu,ck _ _ _ _ zo,if_pos rfl]
  refine gk rfl rfl zr (gn (k:=92) (args:=#[.func (.func 93) #[] #[a1.tmps.getD 1 undef,a1.tmps.getD 4 undef]]) w5 rfl rfl ?_ zk) (I7 hG cq R1 (d:=11) (i1:=1) (i4:=4) zd zd zd zd (by simp[au,s1]) h1 (by simp[au,s4]) h4 Qt hx sr) ?_
  .simp only[adV,ady,adR,jr,<-vf]
  .rintro e w6 ⟨rfl,c,g',S',H',oV,R2,qN,ur⟩;refine⟨_,rfl,?_⟩;have R3:=R2.put 11 (.int .i64 0) (.int .i64 0) zd (.data _ _ (.int _ _)) trivial;rw[zj]at R3;refine⟨g',_,H',R3,oV.trans ho,?_,?_,aO _ _ _,?_,?_⟩
   .show au S' 11 _ 2=_;rw[aQ _ _ zd,qN 2 zd];simp[au,s2]
   .show au S' 11 _ 4=_;rw[aQ _ _ zd,qN 4 zd];simp[au,s4]
   .rw[ur,aQ _ _ zd];exact h2
   .rw[ur];exact aO _ _ _
 .rintro o S5 H5 ⟨rfl,s2,s4,bC,h2,h4⟩;refine⟨λ_ h=>h,?_⟩;simp[c43,ah.qa,ah.qb,ah.dl,bp,aF,ba,aD,ev,aP.S,aP.H,au,aX,s2,s4,bC,h2,h4,AV.aJ,bw]
 .rintro o S5 H5 ⟨rfl,s2,s4,s5,h2,h4⟩;refine dX hG c43.qb.qb.qb.qa.qb.qa (λS' H'=>S' 2=.box 2 0/\S' 4=.box 4 0/\S' 13=.bool false/\H' 2=some z2/\H' 4=some (x.map AV.aJ)) ?_ ?_
  .simp[c43,ah.qa,ah.qb,bD,bp,aF,ba,aD,ev,aP.S,aP.H,au,aX,s2,s4,s5,h2,h4,AV.aJ,dS,aN]
  rintro S6 H6 ⟨s2,s4,dH,h2,h4⟩;refine SW.cond rfl false (by show S6 13=_;rw[dH]) (SW.skip ?_);have Bc:List.take 10 (x.map AV.aJ)=x.map AV.aJ:=ado (by simp;omega)
  have e7:∀(l:List AV) H,fz H (.agg (l.map AV.aJ))=.agg (l.map AV.cI):=λl H=>by simp only[fz,gZ,AV.vw,aeu,oX]
  refine SW.seq (dX hG c43.qb.qb.qb.qb.qa.qa (λS' H'=>S' 2=.box 2 0/\S' 18=.bool true/\H' 2=some z2) ?_ ?_)
  .simp[c43,ah.qa,ah.qb,bD,bp,aF,ba,aD,ev,aP.S,aP.H,au,aX,s2,s4,h2,h4,cb,HR.okB,hx,iH,Bc,e7,aN,-fz];refine oc Ro ?_;simp[eN,au,s2,s4,h2,h4]
  rintro S7 H7 ⟨s2,kV,h2⟩;refine SW.cond rfl true (by show S7 18=_;rw[kV]) ?_;show SW prog GI 21 none (.seq _ .ret) _ _ _ _;have Mq:List.drop 10 z2=[]:=aey zo;refine dX hG c43.qb.qb.qb.qb.qa.qb.qa.qa (λS' H'=>S' 2=.box 2 0/\S' 3=.int .i64 2/\H' 2=some Ah) ?_ ?_
  .simp[c43,ah.qa,ah.qb,s2,h2,bI,Ah,RS,Mq]
  rintro S8 H8 ⟨s2,s3,h2⟩;obtain⟨i28,r_,sG⟩:=iZ 29 10;obtain⟨fs,fw⟩:=uZ 29;refine SW.ret ⟨ep.plain rfl,rfl,_,?_,rfl⟩;show cM prog 21 [.cell 2 29,.tmp 3] S8 H8=_;simp[cM,dc,de,s2,s3,h2,r_,fw,sG,cb,ef,AV.out,Ah,AV.aJ,AV.cg,AV.vw,AV.cI,cC,ai,cG,vI,ints]
def HN(t:List UInt8):AV:=if 320<t.length then .dR [cC cG,.int .i64 3]else match lx t with
 |.error _=>.dR [cC cG,.int .i64 4]
 |.ok x=>if bl x then .dR [cC x,.int .i64 0]else .dR [cC cG,.int .i64 2]
def wH{t:List UInt8}(ht:t.length<=420){x:aI}(h:lx t=.ok x):qE x:=by
 have MA:lx t=if(aZ 10 t).length<2 then .error t else cN (ee eo cG ((aZ 10 t).take ((aZ 10 t).length-2))) λx=>if iM x=t then .ok x else .error t:=rfl
 rw[MA]at h;split at h
 .cases h
 obtain⟨y,hy,h⟩:=gP h;split at h
 case isFalse=>cases h
 cases h;have hl:=lq 10 t;obtain⟨hg,_⟩:=tO (b:=421) (λr hr=>by have:=kz (c:=10) (adU hr);omega) (ry _) hy
 have hL:((aZ 10 t).take ((aZ 10 t).length-2)).length<=421:=by rw[adA];omega
 exact⟨by have:=hg.aM;omega,by have:=hg.aL;omega,by have:=hg.words;omega,λw hw=>by have:=hg.aU w hw;omega,λw hw=>by have:=hg.bU w hw;omega⟩
def uG(x:aI):(ai x).map AV.cI=ai x:=rfl
def YP(hG:ar GI)(hT:TB GI)(pD:ML GI)(t:List UInt8)(ht:t.length<=420):AC prog GI 43 [.str t] (.ret (HN t)):=by
 unfold HN
 by_cases hl:320<t.length
 .rw[if_pos hl]
  have N_:(320:Int)<t.length:=zo
  obtain⟨i28,r_,sG⟩:=iZ 29 10;obtain⟨fs,fw⟩:=uZ 29;refine cw hG func43 ntmps43 c43 ?_;simp[c43,N_,bI,r_,fw,sG,ef,cC,ai,cG,ints]
 rw[if_neg hl];have a119:=aak hG hT pD t ht
 cases hp:lx t with
 |error e=>
  rw[hp]at a119;exact X' hG zo a119
 |ok x=>
  rw[hp]at a119;have hs:=wH ht hp;have VR:=F4 hG x hs;simp only
  cases fE:bl x with
  |true=>
   rw[fE]at VR;have:=aa1 hG (s:=t) (x:=ai x) zo rfl a119 (by rw[uG];exact VR);rw[uG]at this;exact this
  |false=>
   rw[fE]at VR;exact Z1 hG zo (x:=ai x) rfl a119 (by rw[uG];exact VR)
end Go.Proofs.Tryz
namespace Go.Proofs.Tryz
open Go.AL
variable{s:aI}{x y:List End}
def gL(s:aI):List End->List End->Bool:=L' List.length (Al s [])
end Go.Proofs.Tryz
namespace Go.Proofs.Tryz
open Go Go.AL Go.RowKit Go.Proofs Go.Proofs.Tram
attribute [local simp] eD fG fB eR eQ d_ ec dE dJ eP dF df ik ig aF aD ev aP.S aP.H bw au aX AL.start AV.cells AV.storable AV.cy bB cd dS cb HR.okB post cM dc de AV.out AV.cg cZ dZ fz gZ AV.vw cW vI int cz aN dk dP iS jN eM dV bG AV.aJ AV.cI
variable{GI:World->Prop}
def DI(s:aI):(a_ s).map AV.cI=a_ s:=by
 simp[a_,ai,cn,vI,ints,AV.cI]
def BM(s:aI):(a_ s).length=11:=rfl
def HF(s:aI):AV.agg ((a_ s).take 10|>.map AV.cI)=cC s:=by
 simp[a_,ai,cC,vI,ints,AV.cI]
def JZ{s:aI}(h:bl s=true):qE s:=by
 have hF:=gE h;refine⟨by have:=hF.JX;omega,by have:=hF.R_;omega,by have:=hF.words;omega,λw hw=>?_,λw hw=>?_⟩
 .have:=(mU h hw).y3;omega
 .have f:=mU h hw;have:=tD f.bU (by have:=f.Br;omega);have:=f.y3;omega
def VP(hG:ar GI)(s:aI)(fE:bl s=true)(out:List Int)(ho:out.length<=1000):xn prog GI 165 [.ref (a_ s),.ref [vI out]] ((C7 s out s.rows.toNat).map (bq out)):=by
 have hr:=(gE fE).rows;have he:=CB fE out;refine Zi hG (oE:=.view) (all:=me s out) (rows:=s.rows.toNat) zo zo ho (BM s) ?_ ?_ ?_
 .intro x hx;simp[a_,ai]at hx
  rcases hx with rfl|rfl|rfl|rfl|rfl|rfl|rfl|rfl|rfl|rfl<;>exact⟨rfl,rfl,rfl⟩
 .show some (AV.int .i64 s.rows)=some (.int .i64 (s.rows.toNat:Nat));rw[ahm zo]
 .rw[HF];exact Zf hG s (JZ fE) out zo
def Db{s:aI}(fE:bl s=true){out:List Int}(kl:gX s out=true){es:List End}(h:es∈C7 s out s.rows.toNat):mA s out es=true/\es.length<=3:=by
 have hr:=(gE fE).rows;obtain⟨h1,h2⟩:=(Gl fE kl).1 h;exact⟨h1,zo⟩
def UW(hG:ar GI)(s:aI)(fE:bl s=true)(out:List Int)(ho:out.length<=1000)(kl:gX s out=true){es:List End}(h:es∈C7 s out s.rows.toNat):AC prog GI 153 [.agg ((a_ s).map AV.cI),bq out es,.int .i64 0] (.ret (.bool (ld s out es 0))):=by
 obtain⟨h1,h2⟩:=Db fE kl h;rw[DI];exact TF hG s fE out zo es zo (yq fE h1) zo zo
def OS(hG:ar GI)(s:aI)(fE:bl s=true)(out:List Int)(ho:out.length<=1000)(kl:gX s out=true):AC prog GI 140 [iz s,vI out] (.ret (.slice .view ((lD s out).map (bq out)))):=by
 have hr:=(gE fE).rows;have hl:=FJ fE out (m:=s.rows.toNat) zo;refine AC.nz (o:=if(lD s out).isEmpty then .nil else .view) ?_
 exact X7 hG (BM s) (by
  intro x hx;simp[a_,ai]at hx
  rcases hx with rfl|rfl|rfl|rfl|rfl|rfl|rfl|rfl|rfl|rfl|rfl<;>rfl) zo (λes h=>by have:=(Db fE kl h).2;omega) (by rw[DI];exact VP hG s fE out ho) (λes h=>UW hG s fE out ho kl h)
def XD(hG:ar GI)(s:aI)(fE:bl s=true){a b:List End}(ha:mA s [] a=true)(hb:mA s [] b=true)(jC:a.length<=10)(mm:b.length<=10):AC prog GI 142 [bq [] a,bq [] b,.ref (a_ s)] (.ret (.bool (gL s a b))):=by
 have ga:=Od hG s fE [] ahi a zo (yq fE ha);have gb:=Od hG s fE [] ahi b zo (yq fE hb);refine cw hG func142 ntmps142 c142 ?_;refine aK (λS H=>S 2=.ref (a_ s)/\S 3=.box 3 0/\S 4=.box 4 0/\H 3=some [vI [],.slice .view (a.map b_)]/\H 4=some [vI [],.slice .view (b.map b_)]) (by simp[bq,aY]) ?_;rintro S H ⟨s2,s3,s4,e3,e4⟩;refine aK (λS H=>S 2=.ref (a_ s)/\S 3=.box 3 0/\S 4=.box 4 0/\H 3=some [vI [],.slice .view (a.map b_)]/\H 4=some [vI [],.slice .view (b.map b_)]/\S 6=.int .i64 a.length/\S 7=.int .i64 b.length) (by simp[s2,s3,s4,e3,e4]) ?_;clear s2 s3 s4 e3 e4 S H;rintro S H ⟨s2,s3,s4,e3,e4,s6,s7⟩;unfold gL L'
 by_cases aq:a.length<b.length
 .have ng:(a.length:Int)<b.length:=zo
  simp[s2,s3,s4,e3,e4,s6,s7,aq,ng]
 by_cases he:a.length=b.length
 case neg=>
  have ng:¬(a.length:Int)<b.length:=zo
  have oA:((a.length:Int)==b.length)=false:=by simp;omega
  have Io:(a.length==b.length)=false:=by simpa using he
  simp[s2,s3,s4,e3,e4,s6,s7,aq,ng,oA,Io]
 simp[s2,s3,s4,e3,e4,s6,s7,he,a_,ai,cn];refine oc ga ?_;simp[s2,s3,s4,e3,e4,s6,s7,he,a_,ai,cn];refine oc gb ?_;simp[s2,s3,s4,e3,e4,s6,s7,he,a_,ai,cn]
def Up(l:List (List End)):aG 2 (l.map (bq []))=true:=iC λa=>⟨rfl,rfl⟩
def Jq{α:Type}(better:α->α->Bool)(x:α){l:List α}{i:Nat}(h:i<l.length):kF better x (l.take (i+1))=if better l[i] (kF better x (l.take i))then l[i]else kF better x (l.take i):=by
 unfold kF;rw[adp h,aem];rfl
def tf{α:Type}(better:α->α->Bool):∀(l:List α)(x:α),kF better x l∈x::l
 |[],x=>adx
 |a::l,x=>by
  show kF better (if better a x then a else x) l∈_;have:=tf better l (if better a x then a else x);rcases adT.1 this with e|h
  .rw[e];split<;>simp
  .exact adu _ (adu _ h)
def Z2(hG:ar GI)(s:aI)(fE:bl s=true)(x:List End)(l:List (List End))(hl:l.length<100000)(h:∀a∈x::l,mA s [] a=true/\a.length<=10):AC prog GI 141 [.slice .view ((x::l).map (bq [])),.func (.func 142) [] [.ref (a_ s)]] (.ret (bq [] (kF (gL s) x l))):=by
 have bX:=Up (x::l);obtain⟨it,hit,bj⟩:=iZ 176 2;have hT:List.take l.length (l.map (bq []))=l.map (bq []):=ado ahi;have hm:(x::l).map (bq [])=bq [] x::l.map (bq []):=rfl
 have JH:∀d,kE d (.ref (a_ s))=false:=λd=>rfl
 have Dd:∀a,bq [] a=.agg [vI [],.slice .view (a.map b_)]:=λ_=>rfl
 refine cw hG func141 ntmps141 c141 ?_;refine aK (λS H=>S 4=.box 4 0/\S 0=.slice .view (bq [] x::l.map (bq []))/\S 1=.func (.func 142) [] [.ref (a_ s)]/\H 4=some [.slice .nil [],.slice .nil []]) (by simp[JH]) ?_;rintro S H ⟨s4,s0,s1,e4⟩;refine aK (λS H=>S 4=.box 4 0/\S 0=.slice .view (bq [] x::l.map (bq []))/\S 1=.func (.func 142) [] [.ref (a_ s)]/\H 4=some [.slice .nil [],.slice .nil []]/\S 5=.box 5 0/\H 5=some [vI [],.slice .view (x.map b_)]) (by simp[s4,s0,s1,e4,Dd,JH]) ?_;clear s4 s0 s1 e4 S H;rintro S H ⟨s4,s0,s1,e4,s5,e5⟩;rw[hm]at bX;refine aK (λS H=>S 4=.box 4 0/\H 4=some [.slice .nil [],.slice .nil []]/\S 5=.box 5 0/\H 5=some [vI [],.slice .view ((kF (gL s) x l).map b_)]) ?_ ?_
 .have h1:(1:Int)<=l.length+1:=zo
  simp[s4,s0,s1,e4,s5,e5,bound,bX,h1];refine bu 14 l.length (λi S H=>S 1=.func (.func 142) [] [.ref (a_ s)]/\S 4=.box 4 0/\H 4=some [.slice .nil [],.slice .nil []]/\S 5=.box 5 0/\H 5=some [vI [],.slice .view ((kF (gL s) x (l.take i)).map b_)]/\S 12=.slice .view (l.map (bq []))/\S 13=.int .i64 l.length/\S 14=.int .i64 (i:Nat)) (λi S H h=>h.2.2.2.2.2.2.2) ⟨by simp[s1],by simp[s4],by simp[e4],by simp[s5],by simp[e5,kF],by simp[hT],ahi,ahi⟩ ?_;clear s4 s0 s1 e4 s5 e5 S H;rintro i hi S H ⟨s1,s4,e4,s5,e5,cK,dH,eg⟩
  by_cases aq:i<l.length
  case neg=>
   have di:i=l.length:=zo
   subst di;rw[ado (adl _)]at e5;simp[s1,s4,e4,s5,e5,cK,dH,eg]
  have hw:IntKind.i64.wrap ((i:Int)+1)=i+1:=aT zo;have FT:=tf (gL s) (l.take i) x
  have hb:=h (kF (gL s) x (l.take i)) (by
   rcases adT.1 FT with e|e
   .rw[e];exact adx
   .exact adu _ (adU e))
  have dv:=h l[i] (adu _ (adi aq));have a99:=XD hG s fE dv.1 hb.1 dv.2 hb.2;rw[Jq _ _ aq];generalize kF (gL s) x (l.take i)=o at e5 a99⊢;simp[s1,s4,e4,s5,e5,cK,dH,eg,aq,Dd,JH];refine oc a99 ?_;cases gL s l[i] o
  .simp[s1,s4,e4,s5,e5,cK,dH,eg,aq,Dd,JH,hw]
  .simp[s1,s4,e4,s5,e5,cK,dH,eg,aq,Dd,JH,hw]
 clear s4 s0 s1 e4 s5 e5 S H;rintro S H ⟨s4,e4,s5,e5⟩;simp[s4,e4,s5,e5,Dd,hit,bj,ef]
def y7(s:aI):List AV:=if bl s then match lD s []with
 |[]=>[bq [] [],.int .i64 0,.int .i64 5]
 |x::l=>[bq [] (kF (gL s) x l),.int .i64 (Al s [] (kF (gL s) x l)),.int .i64 0]
 else[bq [] [],.int .i64 0,.int .i64 2]
def Ld{s:aI}(fE:bl s=true){a:List End}(h:a∈lD s []):mA s [] a=true/\a.length<=3/\ld s [] a 0=true:=by
 have hr:=(gE fE).rows;obtain⟨h1,h2⟩:=(xE fE (Ac fE)).1 h;refine⟨h1,?_,h2⟩;unfold ld at h2;simp only[adk,adr]at h2;omega
def Fl(hG:ar GI)(s:aI)(hs:qE s)(iq:bl s=false\/lD s []=[]):AC prog GI 117 [cC s] (.ret (.dR (y7 s))):=by
 obtain⟨it,hit,bj⟩:=iZ 176 2
 have Dd:∀a,bq [] a=.agg [vI [],.slice .view (a.map b_)]:=λ_=>rfl
 refine cw hG func117 ntmps117 c117 ?_;refine aK (λS H=>S 1=.box 1 0/\S 2=.box 2 0/\H 1=some (ai s)/\H 2=some [.slice .nil [],.slice .nil []]) (by simp[cC,ai]) ?_;rintro S H ⟨s1,s2,e1,e2⟩;unfold y7;cases fE:bl s
 .simp[s1,s2,e1,e2,ai];refine⟨_,zk,F4 hG s hs,λ_=>rfl,?_⟩;rw[fE];simp[s1,s2,e1,e2,ai,hit,bj,ef,Dd,bI,ints]
 have hg:lD s []=[]:=by
  rcases iq with h|h
  .rw[h]at fE;cases fE
  .exact h
 simp[s1,s2,e1,e2,ai];refine⟨_,zk,F4 hG s hs,λ_=>rfl,?_⟩;rw[fE];simp[s1,s2,e1,e2,ai];refine oc (OR hG s fE) ?_;simp[s1,s2,e1,e2,iz,a_,ai,cn];refine oc (OS hG s fE [] ahi (Ac fE)) ?_;rw[hg];simp[s1,s2,e1,e2,hit,bj,ef,Dd,bI,ints]
def Rp(hG:ar GI)(s:aI)(hs:qE s):AC prog GI 117 [cC s] (.ret (.dR (y7 s))):=by
 cases fE:bl s with
 |false=>exact Fl hG s hs (.inl fE)
 |true=>
 cases hg:lD s []with
 |nil=>exact Fl hG s hs (.inr hg)
 |cons x l=>
 obtain⟨it,hit,bj⟩:=iZ 176 2
 have Dd:∀a,bq [] a=.agg [vI [],.slice .view (a.map b_)]:=λ_=>rfl
 have hl:=Nb fE [];rw[hg]at hl;simp at hl
 have eF:∀a∈x::l,mA s [] a=true/\a.length<=10:=λa ha=>by
  have:=Ld fE (a:=a) (by rw[hg];exact ha);exact⟨this.1,zo⟩
 have a98:=Z2 hG s fE x l zo eF;have hb:=eF _ (tf (gL s) l x);have a87:=Od hG s fE [] ahi (kF (gL s) x l) zo (yq fE hb.1)
 have uv:((l.length:Int)+1==0)=false:=by simp;omega
 have ho:y7 s=[bq [] (kF (gL s) x l),.int .i64 (Al s [] (kF (gL s) x l)),.int .i64 0]:=by
  unfold y7;rw[fE,if_pos rfl,hg]
 rw[ho];refine AC.PN hG db 5 5 func117 rfl ntmps117 ahi (ac:=c117) zk ?_;refine vB (λS H=>S 1=.box 1 0/\S 2=.box 2 0/\H 1=some (ai s)/\H 2=some [.slice .nil [],.slice .nil []]) (by simp[cC,ai]) ?_;rintro S H ⟨s1,s2,e1,e2⟩;refine vB (λS H=>S 1=.box 1 0/\S 2=.box 2 0/\H 1=some (ai s)/\H 2=some [.slice .nil [],.slice .nil []]) ?_ ?_
 .simp[s1,s2,e1,e2,ai];refine⟨_,zk,F4 hG s hs,λ_=>rfl,?_⟩;rw[fE];simp[s1,s2,e1,e2,ai]
 clear s1 s2 e1 e2 S H;rintro S H ⟨s1,s2,e1,e2⟩;refine vB (λS H=>S 2=.box 2 0/\H 2=some [.slice .nil [],.slice .nil []]/\S 5=.box 5 0/\H 5=some (a_ s)) ?_ ?_
 .simp[s1,s2,e1,e2,ai];refine oc (OR hG s fE) ?_;simp[s1,s2,e1,e2,iz,a_,ai,cn]
 clear s1 s2 e1 e2 S H;rintro S H ⟨s2,e2,s5,e5⟩;refine vB (λS H=>S 2=.box 2 0/\H 2=some [.slice .nil [],.slice .nil []]/\S 5=.box 5 0/\H 5=some (a_ s)/\S 6=.slice .view ((x::l).map (bq []))) ?_ ?_
 .have a97:=OS hG s fE [] ahi (Ac fE);rw[hg]at a97;simp[s2,e2,s5,e5,a_,ai,cn];refine oc a97 ?_;simp[s2,e2,s5,e5,a_,ai,cn]
 clear s2 e2 s5 e5 S H;rintro S H ⟨s2,e2,s5,e5,s6⟩;refine vB (λS H=>S 2=.box 2 0/\H 2=some [.slice .nil [],.slice .nil []]/\S 5=.box 5 0/\H 5=some (a_ s)/\S 6=.slice .view ((x::l).map (bq []))) (by simp[s2,e2,s5,e5,s6,uv]) ?_;clear s2 e2 s5 e5 s6 S H;rintro S H ⟨s2,e2,s5,e5,s6⟩;refine Ns (a_ s) (λS H=>S 2=.box 2 0/\H 2=some [.slice .nil [],.slice .nil []]/\S 5=.ref (a_ s)/\S 6=.slice .view ((x::l).map (bq []))) e5 ⟨by simp[s2,wk],by simp[au,e2],by simp[s5,wk,a_,ai,cn,AV.aJ,vI],by simp[s6,wk,cd]⟩ ?_;clear s2 e2 s5 e5 s6 S H;rintro S H ⟨s2,e2,s5,s6⟩;refine aK (λS H=>S 2=.box 2 0/\H 2=some [.slice .nil [],.slice .nil []]/\S 5=.ref (a_ s)/\S 7=.box 7 0/\H 7=some [vI [],.slice .view ((kF (gL s) x l).map b_)]) ?_ ?_
 .simp[s2,e2,s5,s6];refine⟨_,zk,a98,by simp[cW,rE],?_⟩;simp[s2,e2,s5,s6,Dd]
 clear s2 e2 s5 s6 S H;rintro S H ⟨s2,e2,s5,s7,e7⟩;simp[s2,e2,s5,s7,e7,a_,ai,cn];refine oc a87 ?_;simp[s2,e2,s5,s7,e7,hit,bj,ef,Dd]
def j9(s:aI):Option (List End):=match lD s []with
 |[]=>none
 |x::l=>some (kF (gL s) x l)
def ph(es:List End)(i n:Nat):Nat:=es.countP λe=>decide (e.1=((i:Nat):Int))&&decide (e.2<((n:Nat):Int))
def zM(s:az)(es:List End)(i:Nat):Int:=s.eX*ea s.name i+s.dQ*ph es i (ea s.name i)
def bZ(s:az)(es:List End):List Int:=(List.range s.name.words.length).map (zM s es)
def br(s:az)(aw:List Int):List AV:=av s++[vI aw]
def dO(s:az)(aw:List Int):AV:=.agg (br s aw)
def qS(n:Int):AV:=.iface 131 (.agg [.int .i64 n])
structure iL(s:az):Prop where
 cells:1<=s.cells.length/\s.cells.length<=12
 AG:∀c∈s.cells,1<=c.lo/\c.lo<=c.hi/\c.hi<=20
 pos:1<=s.pos/\s.pos<=s.cells.length
 reach:1<=s.reach/\s.reach<=12
 eX:1<=s.eX/\s.eX<=9
 dQ:0<=s.dQ/\s.dQ<=9
 name:bl s.name=true
def gQ{s:az}(h:dn s=true):iL s:=by
 simp only[dn,adk,da,adr,aeh,aeg]at h;obtain⟨⟨⟨⟨⟨⟨⟨h1,h2⟩,h3⟩,h4,h5⟩,h6,h7⟩,h8,h9⟩,pB,Tn⟩,h12⟩:=h;refine⟨⟨zo,zo⟩,λc hc=>?_,⟨h4,h5⟩,⟨h6,h7⟩,⟨h8,h9⟩,⟨pB,Tn⟩,h12⟩;have:=h3 c hc;simp[j3,da]at this;omega
def kf{s:aI}(fE:bl s=true){es:List End}(h:j9 s=some es):es.length<=3:=by
 unfold j9 at h
 cases hg:lD s []with
 |nil=>rw[hg]at h;cases h
 |cons x l=>
  rw[hg]at h;cases h;exact(Ld fE (by rw[hg];exact tf (gL s) l x)).2.1
def O1(es:List End)(i n:Nat):ph es i n<=es.length:=List.countP_le_length
def A2{s:az}(h:iL s){es:List End}(he:es.length<=3){i:Nat}(hi:ea s.name i<=6):0<=zM s es i/\zM s es i<=81:=by
 have h1:=O1 es i (ea s.name i);have hp:=h.eX;have ht:=h.dQ;unfold zM;have a1:0<=s.eX*(ea s.name i:Int):=ad8 zo zo;have a2:s.eX*(ea s.name i:Int)<=9*6:=aec zo zo zo zo;have a3:0<=s.dQ*(ph es i (ea s.name i):Int):=ad8 zo zo;have a4:s.dQ*(ph es i (ea s.name i):Int)<=9*3:=aec zo zo zo zo;omega
def Ms(s:az)(es:List End)(i:Nat)(S:an)(H:ao):Prop:=
 S 1=.box 1 0/\H 1=some (av s)/\S 2=.box 2 0/\(∃z,H 2=some z/\z.length=16)/\S 3=.box 3 0/\H 3=some [vI [],.slice .view (es.map b_)]/\S 6=.box 6 0/\H 6=some (av s++[grow 3 (ints ((bZ s es).take i))])/\
 S 31=.slice .view (s.name.words.map cD)/\S 32=.int .i64 s.name.words.length/\S 33=.int .i64 (i:Nat)
def LM(hG:ar GI)(s:az)(hs:fW s)(h:iL s)(iq:j9 s.name=none):AC prog GI 69 [bm s] (.panic (qS s.name.words.length)):=by
 have RB:=Rp hG s.name hs.name
 have gI:y7 s.name=[bq [] [],.int .i64 0,.int .i64 5]:=by
  unfold j9 at iq;unfold y7;rw[if_pos h.name];split at iq
  .rename_i hg;first|rw[hg]|rfl
  .cases iq
 rw[gI]at RB;refine cw hG func69 ntmps69 c69 ?_;simp[c69,bm,av,ai];refine oc RB ?_;simp[bq,aY,qS,bI,bp,ba]
def UA(hG:ar GI)(s:az)(hs:fW s)(h:iL s){es:List End}(nV:j9 s.name=some es):AC prog GI 69 [bm s] (.ret (dO s (bZ s es))):=by
 have RB:=Rp hG s.name hs.name
 have gI:∃m:Int,y7 s.name=[bq [] es,.int .i64 m,.int .i64 0]:=by
  unfold j9 at nV;unfold y7;rw[if_pos h.name];split at nV
  .cases nV
  .rename_i x l hg;cases nV;(try rw[hg]);exact⟨_,rfl⟩
 obtain⟨m,gI⟩:=gI;rw[gI]at RB;have hle:=kf h.name nV;have hF:=gE h.name
 have hlen:∀i,ea s.name i<=6:=λi=>by
  unfold ea;split
  .rename_i x hx;obtain⟨aq,rfl⟩:=adG.1 hx;exact(mU h.name (adi aq)).y3
  .omega
 obtain⟨i100,xQ,xr⟩:=iZ 87 16;obtain⟨fs,fw⟩:=uZ 87;refine cw hG func69 ntmps69 c69 ?_;refine aK (λS H=>S 1=.box 1 0/\H 1=some (av s)/\S 2=.box 2 0/\∃z,H 2=some z/\z.length=16) (by simp[bm,av,ai]) ?_;rintro S H ⟨s1,h1,s2,z,h2,hz⟩;refine aK (λS H=>S 1=.box 1 0/\H 1=some (av s)/\S 2=.box 2 0/\(∃z,H 2=some z/\z.length=16)/\S 3=.box 3 0/\H 3=some [vI [],.slice .view (es.map b_)]/\S 5=.int .i64 0) ?_ ?_
 .simp[av,ai,s1,h1,s2,h2,hz];refine oc RB ?_;simp[bq,aY,bI,s1,h1,s2,h2,hz]
  try rfl
 clear s1 h1 s2 h2 hz z S H;rintro S H ⟨s1,h1,s2,⟨z,h2,hz⟩,s3,h3,s5⟩;refine aK (λS H=>S 1=.box 1 0/\H 1=some (av s)/\S 2=.box 2 0/\(∃z,H 2=some z/\z.length=16)/\S 3=.box 3 0/\H 3=some [vI [],.slice .view (es.map b_)]) ?_ ?_
 .simp[av,ai,s1,h1,s2,h2,hz,s3,h3,s5]
  try rfl
 clear s1 h1 s2 h2 hz z s3 h3 s5 S H;rintro S H ⟨s1,h1,s2,⟨z,h2,hz⟩,s3,h3⟩;refine aK (λS H=>S 1=.box 1 0/\H 1=some (av s)/\S 2=.box 2 0/\(∃z,H 2=some z/\z.length=16)/\S 3=.box 3 0/\H 3=some [vI [],.slice .view (es.map b_)]/\S 6=.box 6 0/\H 6=some (av s++[.slice .nil []])) ?_ ?_
 .simp[av,ai,s1,h1,s2,h2,hz,s3,h3,bI]
  try rfl
 clear s1 h1 s2 h2 hz z s3 h3 S H;rintro S H ⟨s1,h1,s2,⟨z,h2,hz⟩,s3,h3,s6,h6⟩
 have VL:(bZ s es).length=s.name.words.length:=by simp[bZ]
 have u_:=hF.words;refine aK (Ms s es s.name.words.length) ?_ ?_
 .refine aK (Ms s es 0) ?_ ?_
  .have hg:grow 3 (ints ([]:List Int))=.slice .nil []:=rfl;simp[av,ai,s1,h1,s2,h2,hz,s3,h3,s6,h6,Ms,hg]
   try rfl
  clear s1 h1 s2 h2 hz z s3 h3 s6 h6 S H;intro S H hF0;refine bu 33 s.name.words.length (Ms s es) (λi S H h=>h.2.2.2.2.2.2.2.2.2.2) hF0 ?_;clear hF0 S H;rintro i hi S H ⟨s1,h1,s2,⟨z,h2,hz⟩,s3,h3,s6,h6,jJ,kA,xz⟩
  by_cases aq:i<s.name.words.length
  case neg=>
   have di:i=s.name.words.length:=zo
   subst di;simp[s1,h1,s2,h2,hz,s3,h3,s6,h6,jJ,kA,xz,Ms]
  have hw:IntKind.i64.wrap ((i:Int)+1)=i+1:=aT zo;simp[s1,h1,s2,h2,hz,s3,h3,s6,h6,jJ,kA,xz,aq,av,ai,cD,bI];have Md:=hlen i
  have adb:s.name.words[i].aU.length<=6:=by rw[<-kI aq];exact Md
  have hp:=h.eX;have ht:=h.dQ;have Z4:0<=s.eX*(s.name.words[i].aU.length:Int):=ad8 zo zo;have Xv:s.eX*(s.name.words[i].aU.length:Int)<=9*6:=aec zo zo zo zo;have Sj:IntKind.i64.wrap (s.eX*(s.name.words[i].aU.length:Int))=s.eX*(s.name.words[i].aU.length:Int):=aT zo
  refine bu 47 es.length (λj S H=>S 1=.box 1 0/\H 1=some (av s)/\S 2=.box 2 0/\(∃z,H 2=some z/\z.length=16)/\S 3=.box 3 0/\H 3=some [vI [],.slice .view (es.map b_)]/\S 6=.box 6 0/\H 6=some (av s++[grow 3 (ints ((bZ s es).take i))])/\
   S 31=.slice .view (s.name.words.map cD)/\S 32=.int .i64 s.name.words.length/\S 33=.int .i64 (i:Nat)/\S 7=.int .i64 (i:Nat)/\S 8=.box 8 0/\H 8=some [vI s.name.words[i].aU,vI s.name.words[i].bU,.bool s.name.words[i].free]/\
   S 9=.int .i64 (s.eX*(s.name.words[i].aU.length:Int)+s.dQ*(ph (es.take j) i s.name.words[i].aU.length:Int))/\S 45=.slice .view (es.map b_)/\S 46=.int .i64 es.length/\S 47=.int .i64 (j:Nat)) (λj S H h=>h.2.2.2.2.2.2.2.2.2.2.2.2.2.2.2.2.2) ?_ ?_
  .simp[s1,h1,s2,h2,hz,s3,h3,s6,h6,jJ,kA,xz,av,ai,Sj,ph]
  clear s1 h1 s2 h2 hz z s3 h3 s6 h6 jJ kA xz S H;rintro j hj S H ⟨s1,h1,s2,⟨z,h2,hz⟩,s3,h3,s6,h6,jJ,kA,xz,s7,s8,h8,s9,J8,Rj,zS⟩;have P4:=O1 (es.take j) i s.name.words[i].aU.length
  have hc4:(es.take j).length<=3:=by simp;omega
  have UJ:0<=s.dQ*(ph (es.take j) i s.name.words[i].aU.length:Int):=ad8 zo zo;have T7:s.dQ*(ph (es.take j) i s.name.words[i].aU.length:Int)<=9*3:=aec zo zo zo zo
  by_cases qC:j<es.length
  case pos=>
   have ln:IntKind.i64.wrap ((j:Int)+1)=j+1:=aT zo;have qI:IntKind.i64.wrap (s.eX*(s.name.words[i].aU.length:Int)+s.dQ*(ph (es.take j) i s.name.words[i].aU.length:Int)+s.dQ)=s.eX*(s.name.words[i].aU.length:Int)+s.dQ*(ph (es.take j) i s.name.words[i].aU.length:Int)+s.dQ:=aT zo
   have mb:ph (es.take (j+1)) i s.name.words[i].aU.length=ph (es.take j) i s.name.words[i].aU.length+if es[j].1=((i:Nat):Int)/\es[j].2<((s.name.words[i].aU.length:Nat):Int)then 1 else 0:=by
    rw[af3,adh qC];unfold ph;rw[Option.toList_some,List.countP_append,List.countP_singleton]
    by_cases q1:es[j].1=((i:Nat):Int)<;>by_cases q2:es[j].2<((s.name.words[i].aU.length:Nat):Int)<;>simp[q1,q2]
   by_cases c1:es[j].1=((i:Nat):Int)
   .by_cases c2:es[j].2<((s.name.words[i].aU.length:Nat):Int)
    .rw[if_pos ⟨c1,c2⟩]at mb;simp[s1,h1,s2,h2,hz,s3,h3,s6,h6,jJ,kA,xz,s7,s8,h8,s9,J8,Rj,zS,qC,av,ai,b_,bI,ln,qI,c1,c2,mb];rw[Int.mul_add,Int.mul_one,Int.add_assoc]
    .rw[if_neg (λh=>c2 h.2)]at mb;simp[s1,h1,s2,h2,hz,s3,h3,s6,h6,jJ,kA,xz,s7,s8,h8,s9,J8,Rj,zS,qC,av,ai,b_,bI,ln,qI,c1,c2,mb]
   .rw[if_neg (λh=>c1 h.1)]at mb
    have c1':(es[j].1==((i:Nat):Int))=false:=by simpa using c1
    simp[s1,h1,s2,h2,hz,s3,h3,s6,h6,jJ,kA,xz,s7,s8,h8,s9,J8,Rj,zS,qC,av,ai,b_,bI,ln,qI,c1,c1',mb]
  case neg=>
   have aa4:j=es.length:=zo
   subst aa4;have hT:es.take es.length=es:=ado (adl _);rw[hT]at s9
   have VE:(bZ s es).take (i+1)=(bZ s es).take i++[s.eX*(s.name.words[i].aU.length:Int)+s.dQ*(ph es i s.name.words[i].aU.length:Int)]:=by
    rw[af3,adh (by rw[VL];exact aq)];simp[bZ,zM,kI aq]
   have bX:aG 1 (ints ((bZ s es).take i))=true:=qF _
   have jZ:ints ((bZ s es).take i)++[.int .i64 (s.eX*(s.name.words[i].aU.length:Int)+s.dQ*(ph es i s.name.words[i].aU.length:Int))]=ints ((bZ s es).take (i+1)):=by rw[VE];simp[ints]
   have cP:ints ((bZ s es).take (i+1))≠[]:=by rw[<-jZ];simp
   have wg:grow 3 (ints ((bZ s es).take (i+1)))=.slice (.own 3) (ints ((bZ s es).take (i+1))):=by unfold grow;rw[if_neg cP]
   have cL:aG 1 [.int .i64 (s.eX*(s.name.words[i].aU.length:Int)+s.dQ*(ph es i s.name.words[i].aU.length:Int))]=true:=rfl
   have Ul:min i (bZ s es).length+1<1048576:=zo
   by_cases h0:ints ((bZ s es).take i)=[]
   .have Hb:grow 3 (ints ((bZ s es).take i))=.slice .nil []:=by unfold grow;rw[if_pos h0,h0]
    rw[Hb]at h6;rw[h0,List.nil_append]at jZ;simp[s1,h1,s2,h2,hz,s3,h3,s6,h6,jJ,kA,xz,s7,s8,h8,s9,J8,Rj,zS,av,ai,hw,cL,Ms,wg,<-jZ];rw[jZ];exact wg.symm
   .have Hb:grow 3 (ints ((bZ s es).take i))=.slice (.own 3) (ints ((bZ s es).take i)):=by unfold grow;rw[if_neg h0]
    rw[Hb]at h6;simp[s1,h1,s2,h2,hz,s3,h3,s6,h6,jJ,kA,xz,s7,s8,h8,s9,J8,Rj,zS,av,ai,hw,cL,bX,Ul,Ms,wg,<-jZ];rw[jZ];exact wg.symm
 clear s1 h1 s2 h2 hz z s3 h3 s6 h6 S H;rintro S H ⟨s1,h1,s2,⟨z,h2,hz⟩,s3,h3,s6,h6,jJ,kA,xz⟩;have hT:(bZ s es).take s.name.words.length=bZ s es:=ado zo;rw[hT]at h6
 have iD:∃o,grow 3 (ints (bZ s es))=.slice o (ints (bZ s es)):=⟨_,rfl⟩
 obtain⟨o,iD⟩:=iD;rw[iD]at h6
 have l8:bB z 0 (av s++[.slice .view (ints (bZ s es))])=av s++[.slice .view (ints (bZ s es))]:=by simp[bB,hz,av,ai]
 simp[s1,h1,s2,h2,hz,s3,h3,s6,h6,jJ,kA,xz,xQ,xr,fw,av,ai,dO,br,ef]
 cases o<;>rfl
end Go.Proofs.Tryz
