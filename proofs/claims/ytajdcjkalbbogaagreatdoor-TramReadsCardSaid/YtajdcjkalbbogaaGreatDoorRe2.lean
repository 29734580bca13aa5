/- A part of the proof. -/
import Derived.Test.YtajdcjkalbbogaaGreatDoorRe1
set_option maxRecDepth 100000
set_option maxHeartbeats 8000000
set_option linter.all false
namespace Go.Proofs.Tryz
open Go Go.AL Go.RowKit Go.Proofs Go.Proofs.Tram
attribute [local simp] aU bB fT fu aV aJ aK av az aW aw ao bO bP an ar ev aM.S aM.H bj aF bl AL.start AV.cells AV.storable AV.aZ aP bt bV bu HR.okB post bQ bG bH AV.out AV.aX aG aL fz cL AV.vw bT vI int a_ aq bD bq cd cj bZ bI aI AV.bC AV.dE
variable{GI:World->Prop}
def sI(l:List End):AV:=grow 180 (l.map dz)
def SO{s:bw}{out:List Int}{n:Nat}(h:n<s.words.length)(hc:out.contains (n:Int)=false):kQ s out n=(s.words[n].dq.map λk=>((n:Int),k))++[((n:Int),(s.words[n].cb.length:Int))]:=by
 unfold kQ;rw[hc,ad_ h]
 rfl
def Po{s:bw}{out:List Int}{n:Nat}(hc:out.contains (n:Int)=true):kQ s out n=[]:=by
 unfold kQ;rw[hc]
 rfl
def ua(s:bw)(out:List Int)(i:Nat):List End:=(List.range i).flatMap (kQ s out)
def Lb(s:bw)(out:List Int)(i:Nat):ua s out (i+1)=ua s out i++kQ s out i:=by unfold ua;rw[afs,afO,agx]
def aag(hG:aQ GI)(s:bw)(hs:ss s)(out:List Int)(ho:out.length<1000000):AC prog GI 166 [dj s,vI out] (.ret (.slice .view (ct (nn s out)))):=by
 have q3:=hs.words;refine AC.nB (o:=if nn s out=[]then .nil else .view) ?_;refine dF hG func166 ntmps166 c166 ?_;simp[c166,af,ae,dj,ai];refine cK 12 s.words.length (λi S H=>S 1=vI out/\S 2=.box 2 0/\H 2=some (ai s)/\S 11=.int .i64 s.words.length/\S 12=.int .i64 (i:Nat)/\S 5=sI (ua s out i)/\(ua s out i).length<=1001*i) (λi S H h=>h.2.2.2.2.1) ⟨by simp[af,ae],by simp[af,ae],by simp[af,ae,ai],by simp[af,ae],by simp[af,ae],by simp[af,ae,sI,ua,grow],by simp[ua]⟩ ?_;rintro i hi S H ⟨s1,s2,e2,cG,dN,s5,hl⟩
 by_cases aN:i<s.words.length
 case neg=>
  have dV:i=s.words.length:=zo
  subst dV;have s5:S 5=sI (nn s out):=s5
  by_cases h0:nn s out=[]
  .rw[h0]at s5
   have rm:S 5=.slice .nil []:=by rw[s5];simp[sI,grow]
   simp[af,ae,s1,s2,e2,cG,dN,rm,h0,ct]
  .have rm:S 5=.slice (.own 180) ((nn s out).map dz):=by rw[s5];simp[sI,grow,h0]
   simp[af,ae,s1,s2,e2,cG,dN,rm,h0,ct]
 have hw:IntKind.i64.wrap ((i:Int)+1)=i+1:=bU zo;have GZ:=hs.dq _ (ad2 aN);have hr:=Lb s out i;generalize hL:ua s out i=L at s5 hl hr;simp[af,ae,s1,s2,e2,cG,dN,aN];refine⟨_,zk,P5 hG out ho i,λ_=>rfl,?_⟩;cases hc:out.contains (i:Int)
 case true=>
  have jV:ua s out (i+1)=L:=by rw[hr,Po hc,afe]
  rw[jV];simp[af,ae,s1,s2,e2,cG,dN,s5,hw,aN];omega
 have hew:=SO aN hc;simp[af,ae,s1,s2,e2,cG,dN,aN,ai,dP];refine cK 25 s.words[i].dq.length (λj S H=>S 1=vI out/\S 2=.box 2 0/\H 2=some (ai s)/\S 11=.int .i64 s.words.length/\S 12=.int .i64 (i:Nat)/\S 6=.int .i64 (i:Nat)/\S 23=vI s.words[i].dq/\S 24=.int .i64 s.words[i].dq.length/\S 25=.int .i64 (j:Nat)/\S 5=sI (L++(s.words[i].dq.take j).map λk=>((i:Int),k))) (λi S H h=>h.2.2.2.2.2.2.2.2.1) ⟨by simp[af,ae,s1],by simp[af,ae,s2],by simp[af,ae,e2,ai],by simp[af,ae,cG],by simp[af,ae,dN],by simp[af,ae],by simp[af,ae],by simp[af,ae],by simp[af,ae],by simp[af,ae,s5]⟩ ?_;clear s1 s2 e2 cG dN s5 S H;rintro j hj S H ⟨s1,s2,e2,cG,dN,s6,jU,sX,gn,s5⟩
 by_cases ZE:j<s.words[i].dq.length
 .have hwj:IntKind.i64.wrap ((j:Int)+1)=j+1:=bU zo;have qp:s.words[i].dq.take (j+1)=s.words[i].dq.take j++[s.words[i].dq[j]]:=aec ZE
  have hlen:(L++(s.words[i].dq.take j).map λk=>((i:Int),k)).length<1040000:=by
   simp only[aeu,aef,aes];omega
  rw[qp,aeB,<-aeU];generalize(L++(s.words[i].dq.take j).map λk=>((i:Int),k))=M at s5 hlen⊢;have dG:br 2 [AV.agg [AV.int .i64 (i:Nat),AV.int .i64 s.words[i].dq[j]]]=true:=rfl;simp[s1,s2,e2,cG,dN,s6,jU,sX,gn,ZE,dG];refine gv (M.map dz) (dz ((i:Int),s.words[i].dq[j])) (.own 180) (by simp[s5,sI]) (by simp[dz]) rfl (GG _) (by rw[aef];omega) ?_;intro S' sd hk;simp[sd,hk,s1,s2,e2,cG,dN,s6,jU,sX,gn,hwj,ZE,sI]
 .have rD:j=s.words[i].dq.length:=zo
  subst rD;rw[afu]at s5
  have hlen:(L++s.words[i].dq.map λk=>((i:Int),k)).length<=1001*i+1000:=by
   simp only[aeu,aef];omega
  rw[hr,hew,<-aeU];generalize(L++s.words[i].dq.map λk=>((i:Int),k))=M at s5 hlen⊢;have dG:br 2 [AV.agg [AV.int .i64 (i:Nat),AV.int .i64 s.words[i].cb.length]]=true:=rfl;simp[s1,s2,e2,cG,dN,s6,jU,sX,gn,aN,dG,ai,dP];refine gv (M.map dz) (dz ((i:Int),(s.words[i].cb.length:Int))) (.own 180) (by simp[s5,sI]) (by simp[dz]) rfl (GG _) (by rw[aef];omega) ?_;intro S' sd hk;simp[sd,hk,s1,s2,e2,cG,dN,hw,aN,sI,ai];omega
def xi{s:bw}(hs:cN s=true){g:Nat×Nat}(h:P8 s g):N8 s (dk s g):=U7 hs h
def aaz(hG:aQ GI)(s:bw)(hs:cN s=true){l:List (Nat×Nat)}(hl:l.length<10000)(oC:∀g∈l,P8 s g)(cut:Bool)(x:Int):AC prog GI 184 [jf s,O7 l cut,.int .i64 x] (.ret (.int .i64 (kS s (l.map (dk s)) l.length+(if cut then s.dc else 0)))):=by
 have hF:=ja hs;have yt:=hF.TE
 have hb:∀x∈(l.map λg=>nS s (dk s g)),0<=x/\x<=1000:=by
  intro x hx;obtain⟨g,hg,rfl⟩:=aew.1 hx;have:=CD hF (xi hs (oC g hg));omega
 have xE:kS s (l.map (dk s)) l.length=(l.map λg=>nS s (dk s g)).sum:=by
  have:=CI s (l.map (dk s)) l.length ah7;rw[this,aee ah7,aft];rfl
 have Og:(l.map λg=>nS s (dk s g)).length<10000:=by rw[aef];exact hl
 rw[xE];refine dF hG func184 ntmps184 c184 ?_;refine aY (λS H=>S 3=.box 3 0/\S 4=.box 4 0/\H 3=some (cw s)/\H 4=some [.slice .view (l.map gA),.bool cut]) (by simp[af,ae,jf,cw,O7,JX,ai,dL]) ?_;rintro S H ⟨s3,s4,e3,e4⟩;refine aY (λS H=>S 3=.box 3 0/\S 4=.box 4 0/\H 3=some (cw s)/\H 4=some [.slice .view (l.map gA),.bool cut]/\S 7=ke []) (by simp[af,ae,s3,s4,e3,e4,ke,grow]) ?_;clear s3 s4 e3 e4 S H;rintro S H ⟨s3,s4,e3,e4,s7⟩;refine aY (λS H=>S 3=.box 3 0/\S 4=.box 4 0/\H 3=some (cw s)/\H 4=some [.slice .view (l.map gA),.bool cut]/\S 7=ke (l.map λg=>nS s (dk s g))) ?_ ?_
 .simp[af,ae,s3,s4,e3,e4];refine cK 13 l.length (λi S H=>S 3=.box 3 0/\S 4=.box 4 0/\H 3=some (cw s)/\H 4=some [.slice .view (l.map gA),.bool cut]/\S 11=.slice .view (l.map gA)/\S 12=.int .i64 l.length/\S 13=.int .i64 (i:Nat)/\S 7=ke ((l.take i).map λg=>nS s (dk s g))) (λi S H h=>h.2.2.2.2.2.2.1) ⟨by simp[af,ae,s3],by simp[af,ae,s4],by simp[af,ae,e3],by simp[af,ae,e4],by simp[af,ae],by simp[af,ae],by simp[af,ae],by simp[af,ae,s7]⟩ ?_;clear s3 s4 e3 e4 s7 S H;rintro i hi S H ⟨s3,s4,e3,e4,cG,dN,dY,s7⟩
  by_cases aN:i<l.length
  case neg=>
   have dV:i=l.length:=zo
   subst dV;rw[afu]at s7;simp[af,ae,s3,s4,e3,e4,cG,dN,dY,s7]
  have hw:IntKind.i64.wrap ((i:Int)+1)=i+1:=bU zo
  obtain⟨k,hk⟩:∃k:Nat,(dk s l[i]).2=k:=⟨(dk s l[i]).2.toNat,by have:=(xi hs (oC _ (ad2 aN))).1;omega⟩
  have jW:k<s.bJ.length:=by have:=(xi hs (oC _ (ad2 aN))).2;omega
  have wq:nS s (dk s l[i])=s.bJ[k]:=by
   unfold nS;rw[hk,if_neg zo,Int.toNat_natCast,ad_ jW];rfl
  rw[aec aN,aeB,List.map_singleton,wq]
  have hlen:((l.take i).map λg=>nS s (dk s g)).length<1000000:=by
   rw[aef,aes];omega
  generalize((l.take i).map λg=>nS s (dk s g))=L at s7 hlen⊢;simp[s3,s4,e3,e4,cG,dN,dY,s7,aN,gA,cw,ai,dL];refine oc (Oi hG s (oC _ (ad2 aN))) ?_;have dG:br 1 [AV.int .i64 s.bJ[k]]=true:=rfl;simp[s3,s4,e3,e4,cG,dN,dY,s7,aN,cw,ai,dL,hk,jW,dG];refine jG (L.map (AV.int .i64)) (AV.int .i64 s.bJ[k]) (.own 3) (by simp[s7,ke,grow]) ah7 rfl (w_ _) (by rw[aef];omega) ?_;intro S' sd dp;simp[sd,dp,s3,s4,e3,e4,cG,dN,dY,aN,hw,ke,cw,ai,dL]
 clear s3 s4 e3 e4 s7 S H;rintro S H ⟨s3,s4,e3,e4,s7⟩;refine aY (λS H=>S 7=ke ((l.map λg=>nS s (dk s g))++if cut then[s.dc]else[])) ?_ ?_
 .cases cut with
  |false=>simp[af,ae,s3,s4,e3,e4,s7]
  |true=>
   have dG:br 1 [AV.int .i64 s.dc]=true:=rfl;generalize(l.map λg=>nS s (dk s g))=L at s7 Og⊢;simp[s3,s4,e3,e4,s7,cw,ai,dL,dG];refine gv (L.map (AV.int .i64)) (AV.int .i64 s.dc) (.own 3) (by simp[ke]) ah7 rfl (w_ _) (by rw[aef];omega) ?_;intro S' sd dp;simp[sd,dp,ke]
 clear s3 s4 e3 e4 s7 S H;rintro S H s7;have hh:=hF.dc
 have jo:∀x∈((l.map λg=>nS s (dk s g))++if cut then[s.dc]else[]),0<=x/\x<=1000:=by
  intro x hx;rcases aeg.1 hx with hx|hx
  .exact hb x hx
  .cases cut with
   |false=>simp at hx
   |true=>simp at hx;omega
 have NY:((l.map λg=>nS s (dk s g))++if cut then[s.dc]else[]).sum=(l.map λg=>nS s (dk s g)).sum+if cut then s.dc else 0:=by
  rw[afz]
  cases cut<;>simp
 have tq:((l.map λg=>nS s (dk s g))++if cut then[s.dc]else[]).length<100000:=by
  rw[aeu]
  cases cut<;>simp<;>omega
 rw[<-NY];generalize((l.map λg=>nS s (dk s g))++if cut then[s.dc]else[])=L at s7 jo tq⊢;rcases B9 L with⟨hg,rfl⟩|hg
 .rw[hg]at s7;simp[af,ae,s7];refine oc (I_ hG [] tq jo) ?_;simp[af,ae]
 .rw[hg]at s7;simp[af,ae,s7];refine oc (I_ hG L tq jo) ?_;simp[af,ae]
def aaH(hG:aQ GI)(s:bw)(hs:cN s=true){l:List (Nat×Nat)}(dR:l≠[])(hl:l.length<10000)(oC:∀g∈l,P8 s g)(cut:Bool){st:Int}(h0:0<=st)(h1:st<=10):AC prog GI 185 [jf s,O7 l cut,.int .i64 st] (.ret (.int .i64 (kN s st (l.map (dk s)) (l.length-1)+(if cut then oa s.fV s.fU st else 0)))):=by
 have hF:=ja hs;have ky:=afi.2 dR
 have xE:kN s st (l.map (dk s)) (l.length-1)=(kX s st (l.map (dk s)) l.length).sum:=by
  have:=GW (s:=s) (st:=st) (l:=l.map (dk s)) (l.length-1) (by rw[aef];omega);rw[show l.length-1+1=l.length by omega]at this;exact this.symm
 rw[xE];refine dF hG func185 ntmps185 c185 ?_;refine aY (λS H=>S 2=.int .i64 st/\S 3=.box 3 0/\S 4=.box 4 0/\H 3=some (cw s)/\H 4=some [.slice .view (l.map gA),.bool cut]) (by simp[af,ae,jf,cw,O7,JX,ai,dL]) ?_;rintro S H ⟨s2,s3,s4,e3,e4⟩;refine aY (λS H=>S 2=.int .i64 st/\S 3=.box 3 0/\S 4=.box 4 0/\H 3=some (cw s)/\H 4=some [.slice .view (l.map gA),.bool cut]/\S 7=ke []) (by simp[af,ae,s2,s3,s4,e3,e4,ke,grow]) ?_;clear s2 s3 s4 e3 e4 S H;rintro S H ⟨s2,s3,s4,e3,e4,s7⟩;refine aY (λS H=>S 2=.int .i64 st/\S 3=.box 3 0/\S 4=.box 4 0/\H 3=some (cw s)/\H 4=some [.slice .view (l.map gA),.bool cut]/\S 7=ke (kX s st (l.map (dk s)) l.length)) ?_ ?_
 .simp[af,ae,s2,s3,s4,e3,e4];refine cK 13 l.length (λi S H=>S 2=.int .i64 st/\S 3=.box 3 0/\S 4=.box 4 0/\H 3=some (cw s)/\H 4=some [.slice .view (l.map gA),.bool cut]/\S 11=.slice .view (l.map gA)/\S 12=.int .i64 l.length/\S 13=.int .i64 (i:Nat)/\S 7=ke (kX s st (l.map (dk s)) i)) (λi S H h=>h.2.2.2.2.2.2.2.1) ⟨by simp[af,ae,s2],by simp[af,ae,s3],by simp[af,ae,s4],by simp[af,ae,e3],by simp[af,ae,e4],by simp[af,ae],by simp[af,ae],by simp[af,ae],by simp[af,ae,s7,kX]⟩ ?_;clear s2 s3 s4 e3 e4 s7 S H;rintro i hi S H ⟨s2,s3,s4,e3,e4,cG,dN,dY,s7⟩
  by_cases aN:i<l.length
  case neg=>
   have dV:i=l.length:=zo
   subst dV;simp[af,ae,s2,s3,s4,e3,e4,cG,dN,dY,s7]
  have hw:IntKind.i64.wrap ((i:Int)+1)=i+1:=bU zo
  cases i with
  |zero=>
   have s7':S 7=.slice .nil []:=by rw[s7];rfl
   simp[af,ae,s2,s3,s4,e3,e4,cG,dN,dY,s7',aN,gA];exact⟨bU zo,by simp[kX,ke,grow]⟩
  |succ m=>
   have UF:m<l.length:=zo
   have hgl:kX s st (l.map (dk s)) (m+1+1)=kX s st (l.map (dk s)) (m+1)++[qC s st (dk s l[m]) (dk s l[m+1])]:=by
    rw[Ea (by simpa using aN)];simp
   have hlen:(kX s st (l.map (dk s)) (m+1)).length<1000000:=by have:=Bd (s:=s) (st:=st) (l:=l.map (dk s)) (m+1);omega
   rw[hgl];have U6:IntKind.i64.wrap (m:Int)=m:=bU zo;have mg:IntKind.i64.wrap ((m:Int)+1+1)=m+1+1:=bU zo
   have V9:(0:Int)<(m:Int)+1:=zo
   have abL:(0:Int)<=(m:Int)+1:=zo
   have od:(m:Int)+1<l.length:=zo
   generalize kX s st (l.map (dk s)) (m+1)=L at s7 hlen⊢;have dG:br 1 [AV.int .i64 (qC s st (dk s l[m]) (dk s l[m+1]))]=true:=rfl;simp[s2,s3,s4,e3,e4,cG,dN,dY,s7,aN,gA,cw,ai,dL,U6,V9,abL,UF,od];refine oc (aau hG s hF (oC _ (ad2 UF)) (oC _ (ad2 aN)) h0 h1) ?_;simp[s2,s3,s4,e3,e4,cG,dN,dY,s7,dG];refine jG (L.map (AV.int .i64)) (AV.int .i64 (qC s st (dk s l[m]) (dk s l[m+1]))) (.own 3) (by simp[s7,ke,grow]) ah7 rfl (w_ _) (by rw[aef];omega) ?_;intro S' sd dp;simp[sd,dp,s2,s3,s4,e3,e4,cG,dN,dY,aN,od,mg,ke,cw,ai,dL]
 clear s2 s3 s4 e3 e4 s7 S H;rintro S H ⟨s2,s3,s4,e3,e4,s7⟩;have Wq:=oZ hF.o.2.1 h0 h1
 have Og:(kX s st (l.map (dk s)) l.length).length<10000:=by have:=Bd (s:=s) (st:=st) (l:=l.map (dk s)) l.length;omega
 have hb:∀x∈kX s st (l.map (dk s)) l.length,0<=x/\x<=1000:=λx hx=>by have:=HO hF h0 h1 _ x hx;omega
 refine aY (λS H=>S 7=ke (kX s st (l.map (dk s)) l.length++if cut then[oa s.fV s.fU st]else[])) ?_ ?_
 .cases cut with
  |false=>simp[af,ae,s2,s3,s4,e3,e4,s7]
  |true=>
   have dG:br 1 [AV.int .i64 (oa s.fV s.fU st)]=true:=rfl;generalize kX s st (l.map (dk s)) l.length=L at s7 Og⊢;simp[s2,s3,s4,e3,e4,s7,cw,ai,dL];refine oc (Jk hG hF.o.1 hF.o.2.1 (by have:=hF.o.2.2;omega) h0 h1) ?_;simp[dG];refine gv (L.map (AV.int .i64)) (AV.int .i64 (oa s.fV s.fU st)) (.own 3) (by simp[ke]) ah7 rfl (w_ _) (by rw[aef];omega) ?_;intro S' sd dp;simp[sd,dp,ke]
 clear s2 s3 s4 e3 e4 s7 S H;rintro S H s7;have ho:=hF.o
 have jo:∀x∈(kX s st (l.map (dk s)) l.length++if cut then[oa s.fV s.fU st]else[]),0<=x/\x<=1000:=by
  intro x hx;rcases aeg.1 hx with hx|hx
  .exact hb x hx
  .cases cut with
   |false=>simp at hx
   |true=>simp at hx;omega
 have NY:(kX s st (l.map (dk s)) l.length++if cut then[oa s.fV s.fU st]else[]).sum=(kX s st (l.map (dk s)) l.length).sum+if cut then oa s.fV s.fU st else 0:=by
  rw[afz]
  cases cut<;>simp
 have tq:(kX s st (l.map (dk s)) l.length++if cut then[oa s.fV s.fU st]else[]).length<100000:=by
  rw[aeu]
  cases cut<;>simp<;>omega
 rw[<-NY];generalize(kX s st (l.map (dk s)) l.length++if cut then[oa s.fV s.fU st]else[])=L at s7 jo tq⊢;rcases B9 L with⟨hg,rfl⟩|hg
 .rw[hg]at s7;simp[af,ae,s7];refine oc (I_ hG [] tq jo) ?_;simp[af,ae]
 .rw[hg]at s7;simp[af,ae,s7];refine oc (I_ hG L tq jo) ?_;simp[af,ae]
def ZF(hG:aQ GI)(s:bw)(hs:cN s=true){l:List (Nat×Nat)}(dR:l≠[])(hl:l.length<=24)(oC:∀g∈l,P8 s g)(cut:Bool){st:Int}(h0:0<=st)(h1:st<=10):AC prog GI 171 [jf s,O7 l cut,.int .i64 st] (.ret (.int .i64 (mu s st (l.map (dk s)) cut))):=by
 have hF:=ja hs
 have df:∀a∈l.map (dk s),N8 s a:=λa ha=>by
  obtain⟨g,hg,rfl⟩:=aew.1 ha;exact xi hs (oC g hg)
 have ac5:l.map (dk s)≠[]:=by simpa using dR
 have hb:=Gu hF h0 h1 ac5 df (by simpa using hl) cut;have ky:=afi.2 dR;have hg:=sN hF h0 h1 (l:=l.map (dk s)) (i:=l.length-1) (by rw[aef];omega);have Xm:=sH hF df (i:=l.length) ah7;have Wq:=oZ hF.o.2.1 h0 h1;have ho:=hF.o;have hh:=hF.dc;have a1:=aaz hG s hs (by omega:l.length<10000) oC cut st;have a2:=aaH hG s hs dR zo oC cut h0 h1
 have Ec:mu s st (l.map (dk s)) cut=(kS s (l.map (dk s)) l.length+(if cut then s.dc else 0))+(kN s st (l.map (dk s)) (l.length-1)+(if cut then oa s.fV s.fU st else 0)):=by
  unfold mu;rw[aef]
 rw[Ec]at hb⊢
 have ph:0<=kS s (l.map (dk s)) l.length+(if cut then s.dc else 0):=by cases cut<;>simp<;>omega
 have nx:0<=kN s st (l.map (dk s)) (l.length-1)+(if cut then oa s.fV s.fU st else 0):=by cases cut<;>simp<;>omega
 generalize kS s (l.map (dk s)) l.length+(if cut then s.dc else 0)=X at a1 ph hb⊢;generalize kN s st (l.map (dk s)) (l.length-1)+(if cut then oa s.fV s.fU st else 0)=Y at a2 nx hb⊢;have w1:IntKind.i64.wrap X=X:=bU zo;have w2:IntKind.i64.wrap (X+Y)=X+Y:=bU zo;refine dF hG func171 ntmps171 c171 ?_;refine aY (λS H=>S 2=.int .i64 st/\S 3=.box 3 0/\S 4=.box 4 0/\H 3=some (cw s)/\H 4=some [.slice .view (l.map gA),.bool cut]) (by simp[af,ae,jf,cw,O7,JX,ai,dL]) ?_;rintro S H ⟨s2,s3,s4,e3,e4⟩;simp[af,ae,s2,s3,s4,e3,e4];refine cK 11 2 (λi S H=>S 2=.int .i64 st/\S 3=.box 3 0/\S 4=.box 4 0/\H 3=some (cw s)/\H 4=some [.slice .view (l.map gA),.bool cut]/\S 10=.iH [.func (.func 184) [] [],.func (.func 185) [] []]/\S 11=.int .i64 (i:Nat)/\S 7=.int .i64 (if i=0 then 0 else if i=1 then X else X+Y)) (λi S H h=>h.2.2.2.2.2.2.1) ⟨by simp[af,ae,s2],by simp[af,ae,s3],by simp[af,ae,s4],by simp[af,ae,e3],by simp[af,ae,e4],by simp[af,ae],by simp[af,ae],by simp[af,ae]⟩ ?_;clear s2 s3 s4 e3 e4 S H;rintro i hi S H ⟨s2,s3,s4,e3,e4,cE,cG,s7⟩
 match i,hi with
 |0,_=>
  simp[af,ae,s2,s3,s4,e3,e4,cE,cG,s7,cw,ai,dL,CX];refine oc a1 ?_;simp[af,ae,s2,s3,s4,e3,e4,cE,cG,s7,cw,ai,dL,w1];exact bU zo
 |1,_=>
  simp[af,ae,s2,s3,s4,e3,e4,cE,cG,s7,cw,ai,dL,CX];refine oc a2 ?_;simp[af,ae,s2,s3,s4,e3,e4,cE,cG,s7,cw,ai,dL,w2];exact bU zo
 |2,_=>
  simp[af,ae,s2,s3,s4,e3,e4,cE,cG,s7]
def XA(s:bw)(out:List Int)(es:List End)(i:Nat):AV:=O7 (lj s out es i) (mG s es i)
def iR(s:bw)(out:List Int)(es:List End)(n:Nat):List AV:=(List.range n).map (XA s out es)
def II(s:bw)(out:List Int)(es:List End)(n:Nat):iR s out es (n+1)=iR s out es n++[XA s out es n]:=by
 unfold iR;rw[afs,aeB];rfl
def N9(s:bw)(out:List Int)(es:List End)(n:Nat):br 2 (iR s out es n)=true:=iJ λa=>⟨rfl,rfl⟩
def Xj(l:List (Nat×Nat)):br 2 (l.map gA)=true:=iJ λa=>⟨rfl,rfl⟩
def Cm(s:bw)(out:List Int)(es:List End)(n:Nat):(iR s out es n).length=n:=by unfold iR;simp
def SF(a:Nat)(S:au)(_:aD):Nat:=match S 6,S 7 with
 |.int _ w,.int _ f=>((a-w)*1000+(1000-f)).toNat
 |_,_=>0
def I81(s:bw)(out:List Int)(es:List End)(i a b:Nat)(S:au)(H:aD):Prop:=S 2=.box 2 0/\S 3=.box 3 0/\H 2=some (cw s)/\H 3=some [vI out,.slice .view (es.map dz)]/\S 12=.slice .view (es.map dz)/\S 13=.int .i64 es.length/\S 14=.int .i64 (i:Nat)/\S 5=grow 249 (iR s out es i)/\S 9=.box 9 0/\H 9=some [.int .i64 a,.int .i64 b]/\S 10=.box 10 0/\∃(w f:Nat)(D:List (Nat×Nat)),H 10=some [grow 261 (D.map gA),.bool (mG s es i)]/\S 6=.int .i64 w/\S 7=.int .i64 f/\D++mZ s out (w,f) (a,b)=lj s out es i/\w<=a/\(w=a->f<=b)/\(w<a->f<=eT s w)
def aaK(hG:aQ GI)(s:bw)(hs:cN s=true)(out:List Int)(ho:out.length<1000000)(es:List End)(he:es.length<100000)(g:Good s out es):AC prog GI 170 [jf s,cU out es] (.ret (.slice .view (iR s out es es.length))):=by
 have hF:=ja hs;refine AC.nB (o:=if iR s out es es.length=[]then .nil else .view) ?_;refine dF hG func170 ntmps170 c170 ?_;refine aY (λS H=>S 2=.box 2 0/\S 3=.box 3 0/\H 2=some (cw s)/\H 3=some [vI out,.slice .view (es.map dz)]) (by simp[af,ae,jf,cw,ai,dL,cU,ct]) ?_;rintro S H ⟨s2,s3,e2,e3⟩;simp[af,ae,s2,s3,e2,e3];refine cK 14 es.length (λi S H=>S 2=.box 2 0/\S 3=.box 3 0/\H 2=some (cw s)/\H 3=some [vI out,.slice .view (es.map dz)]/\S 12=.slice .view (es.map dz)/\S 13=.int .i64 es.length/\S 14=.int .i64 (i:Nat)/\S 5=grow 249 (iR s out es i)/\S 6=.int .i64 (oB es i).1/\S 7=.int .i64 (oB es i).2) (λi S H h=>h.2.2.2.2.2.2.1) ⟨by simp[af,ae,s2],by simp[af,ae,s3],by simp[af,ae,e2],by simp[af,ae,e3],by simp[af,ae],by simp[af,ae],by simp[af,ae],by simp[af,ae,grow,iR],by simp[af,ae,oB],by simp[af,ae,oB]⟩ ?_;clear s2 s3 e2 e3 S H;rintro i hi S H ⟨s2,s3,e2,e3,dN,dY,eQ,s5,s6,s7⟩
 by_cases aN:i<es.length
 case neg=>
  have dV:i=es.length:=zo
  subst dV
  by_cases h0:iR s out es es.length=[]
  .have rm:S 5=.slice .nil []:=by rw[s5,h0];rfl
   simp[af,ae,s2,s3,e2,e3,dN,dY,eQ,rm,h0]
  .have rm:S 5=.slice (.own 249) (iR s out es es.length):=by rw[s5];simp[grow,h0]
   simp[af,ae,s2,s3,e2,e3,dN,dY,eQ,rm,h0]
 obtain⟨g1,g2,g3,g4,g5⟩:=g.one i aN
 obtain⟨a,ha⟩:∃a:Nat,es[i].1=a:=⟨es[i].1.toNat,zo⟩
 obtain⟨b,hb⟩:∃b:Nat,es[i].2=b:=⟨es[i].2.toNat,zo⟩
 have hE:es[i]=((a:Int),(b:Int)):=Prod.ext ha hb
 have Zf:nE es[i]=(a,b):=by rw[hE];rfl
 have j9:a<s.words.length:=zo
 have GZ:mG s es i=decide (b<s.words[a].cb.length):=by
  rw[D8 aN,hE];show decide ((b:Int)<(eT s (a:Int).toNat:Int))=_;rw[Int.toNat_natCast,lS j9,decide_eq_decide];omega
 rw[ha]at g3 g5;rw[hb]at g4 g5
 have g5:b<=s.words[a].cb.length:=by rw[Int.toNat_natCast,lS j9]at g5;omega
 have E8:lj s out es i=mZ s out (oB es i) (a,b):=by rw[tG aN,Zf]
 have xl:=Hg hs g i;have hw:IntKind.i64.wrap ((i:Int)+1)=i+1:=bU zo
 have acr:oB es (i+1)=(a,b):=by
  show(match es[i]? with|some e=>nE e|none=>(0,0))=_;rw[ad_ aN];exact Zf
 have adv:=IW g aN;rw[Zf]at adv;simp[af,ae,s2,s3,e2,e3,dN,dY,eQ,aN,hE,dz,cw,ai,dL,j9,dP,cD];refine⟨I81 s out es i a b,SF a,⟨by simp[af,ae,s2],by simp[af,ae,s3],by simp[af,ae,e2,cw,ai,dL],by simp[af,ae,e3],by simp[af,ae,dN],by simp[af,ae,dY],by simp[af,ae,eQ],by simp[af,ae,s5,grow],by simp[af,ae],by simp[af,ae],by simp[af,ae],(oB es i).1,(oB es i).2,[],by simp[af,ae,grow,GZ],by simp[af,ae,s6],by simp[af,ae,s7],by rw[E8];rfl,zo,zo,?_⟩,?_⟩
 .intro _
  cases i with
  |zero=>exact ae2 _
  |succ j=>
   have hj:=g.one j zo
   have:oB es (j+1)=nE es[j]:=by show(match es[j]? with|some e=>nE e|none=>(0,0))=_;rw[ad_ zo]
   rw[this];show es[j].2.toNat<=eT s es[j].1.toNat;omega
 clear s2 s3 e2 e3 dN dY eQ s5 s6 s7 S H;rintro S H ⟨s2,s3,e2,e3,dN,dY,eQ,s5,s9,e9,cE,w,f,D,jZ,s6,s7,hD,hwa,hfb,pJ⟩
 have hDl:D.length<=24:=by
  have:=congrArg List.length hD;rw[aeu]at this;omega
 have hl6:=(yW hs (out:=out) w).2;have ads:=(yW hs (out:=out) a).2;rw[lS j9]at ads
 have hf6:f<=6:=by
  by_cases h:w<a
  .have:=pJ h;omega
  .have:=hfb zo;omega
 by_cases sL:w<a\/w=a/\f<b
 case neg=>
  obtain rfl:w=a:=by omega
  obtain rfl:f=b:=by have:=hfb rfl;omega
  rw[Qh (aed _),afe]at hD
  have abm:D≠[]:=by rw[hD];exact Nt g aN
  have hg:grow 261 (D.map gA)=.slice (.own 261) (D.map gA):=by simp[grow,abm]
  rw[hg]at jZ
  have KE:XA s out es i=.agg [.slice .view (D.map gA),.bool (mG s es i)]:=by rw[hD];rfl
  have dG:br 2 [AV.agg [AV.slice .view (D.map gA),AV.bool (mG s es i)]]=true:=rfl;simp[s2,s3,e2,e3,dN,dY,eQ,s5,s9,e9,cE,jZ,s6,s7,dG];refine gv (iR s out es i) (XA s out es i) (.own 249) (by simp[s5,grow]) (by rw[KE];simp) (by rw[KE];rfl) (N9 _ _ _ _) (by rw[Cm];omega) ?_;intro S' sd dp;simp[sd,dp,s2,s3,e2,e3,dN,dY,eQ,s6,s7,hw,aN,acr,II,grow,cw,ai,dL]
 have yt:w<s.words.length:=zo
 have hlw:=lS yt;refine aY (λS H=>S 2=.box 2 0/\S 3=.box 3 0/\H 2=some (cw s)/\H 3=some [vI out,.slice .view (es.map dz)]/\S 12=.slice .view (es.map dz)/\S 13=.int .i64 es.length/\S 14=.int .i64 (i:Nat)/\S 5=grow 249 (iR s out es i)/\S 9=.box 9 0/\H 9=some [.int .i64 a,.int .i64 b]/\S 10=.box 10 0/\H 10=some [grow 261 (D.map gA),.bool (mG s es i)]/\S 6=.int .i64 w/\S 7=.int .i64 f) ?_ ?_
 .rcases sL with Nf|⟨rfl,abt⟩
  .have nv:(w:Int)<a:=zo
   simp[af,ae,s2,s3,e2,e3,dN,dY,eQ,s5,s9,e9,cE,jZ,s6,s7,nv,Nf]
  .have hfi:(f:Int)<b:=zo
   simp[af,ae,s2,s3,e2,e3,dN,dY,eQ,s5,s9,e9,cE,jZ,s6,s7,hfi,abt]
 have O0:SF a S H=(a-w)*1000+(1000-f):=by unfold SF;rw[s6,s7];simp only;omega
 rw[O0];clear s2 s3 e2 e3 dN dY eQ s5 s9 e9 cE jZ s6 s7 O0 S H;rintro S H ⟨s2,s3,e2,e3,dN,dY,eQ,s5,s9,e9,cE,jZ,s6,s7⟩;simp[s2,s3,e2,e3,dN,dY,eQ,s5,s9,e9,cE,jZ,s6,s7];refine⟨_,zk,P5 hG out ho w,λ_=>rfl,?_⟩;have oz:=hF.words.2;have qk:IntKind.i64.wrap ((w:Int)+1)=w+1:=bU zo;have hf1:IntKind.i64.wrap ((f:Int)+1)=f+1:=bU zo;have Vy:IntKind.i64.wrap 0=0:=bU zo;cases FJ:out.contains (w:Int)
 case true=>
  have Nf:w<a:=by
   rcases sL with h|⟨rfl,_⟩
   .exact h
   .rw[FJ]at g3;cases g3
  simp[s2,s3,e2,e3,dN,dY,eQ,s5,s9,e9,cE,jZ,s6,s7,qk,Vy];refine⟨⟨by simp[af,ae,s2],by simp[af,ae,s3],e2,e3,by simp[af,ae,dN],by simp[af,ae,dY],by simp[af,ae,eQ],by simp[af,ae,s5,grow],by simp[af,ae,s9],e9,by simp[af,ae,cE],w+1,0,D,jZ,by simp[af,ae],by simp[af,ae],by rw[<-hD,Tk Nf FJ],zo,λ_=>ae2 _,λ_=>ae2 _⟩,?_⟩;simp[SF,aF];omega
 have hlen:(((w:Nat):Int))<s.words.length:=zo
 cases Da:((f:Int)==s.words[w].cb.length)
 case true=>
  have YW:eT s w<=f:=by rw[hlw];simp at Da;omega
  have Nf:w<a:=by
   rcases sL with h|⟨rfl,h⟩
   .exact h
   .rw[hlw]at YW;omega
  simp[s2,s3,e2,e3,dN,dY,eQ,s5,s9,e9,cE,jZ,s6,s7,qk,Vy,cw,ai,dL,dP,yt,Da];refine⟨⟨by simp[af,ae,s2],by simp[af,ae,s3],e2,e3,by simp[af,ae,dN],by simp[af,ae,dY],by simp[af,ae,eQ],by simp[af,ae,s5,grow],by simp[af,ae,s9],e9,by simp[af,ae,cE],w+1,0,D,jZ,by simp[af,ae],by simp[af,ae],by rw[<-hD,Pv Nf YW],zo,λ_=>ae2 _,λ_=>ae2 _⟩,?_⟩;simp[SF,aF];omega
 have dR:f≠s.words[w].cb.length:=by simp at Da;omega
 have hfw:f<eT s w:=by
  rcases sL with h|⟨rfl,h⟩
  .have:=pJ h;omega
  .omega
 have dG:br 2 [AV.agg [AV.int .i64 (w:Nat),AV.int .i64 (f:Nat)]]=true:=rfl;simp[s2,s3,e2,e3,dN,dY,eQ,s5,s9,e9,cE,jZ,s6,s7,cw,ai,dL,dP,yt,Da,cD,dG];refine gv (D.map gA) (gA (w,f)) (.own 261) (by simp[grow]) (by simp[gA]) rfl (Xj _) (by rw[aef];omega) ?_;intro S' sd dp;simp[sd,dp,s2,s3,e2,e3,dN,dY,eQ,s5,s9,e9,cE,s6,s7,hf1,grow];refine⟨⟨by simp[af,ae,dp,s2],by simp[af,ae,dp,s3],?_,?_,by simp[af,ae,dp,dN],by simp[af,ae,dp,dY],by simp[af,ae,dp,eQ],by simp[af,ae,dp,s5,grow],by simp[af,ae,dp,s9],?_,by simp[af,ae,dp,cE],w,f+1,D++[(w,f)],?_,by simp[af,ae,dp,s6],by simp[af,ae],?_,hwa,?_,?_⟩,?_⟩
 .simp[af,ae,e2,cw,ai,dL]
 .simp[af,ae,e3]
 .simp[af,ae,e9]
 .simp[af,ae,grow]
 .have iz:mZ s out (w,f) (a,b)=(w,f)::mZ s out (w,f+1) (a,b):=UB (by
   rcases sL with h|h
   .exact .inl ⟨h,FJ,hfw⟩
   .exact .inr h)
  rw[<-hD,iz];simp
 .intro h;rcases sL with h'|h'<;>omega
 .intro _;omega
 .simp[SF,aF,dp,s6];omega
end Go.Proofs.Tryz
namespace Go.Proofs.Tryz
open Go Go.AL Go.RowKit Go.Proofs Go.Proofs.Tram
def XM {Pr:Nat→Nat→Prop} {w:World} {b:Nat} {ty:TypeId} {cells:Array Value} {es:List AV} {size:Nat} (hb:w.heap[b]? = some (.cells cells ty (0,0))) (hs:cells.size=es.length * size) (cM:∀ e∈es,e.cells.length=size∧∀ c∈e.cells,c.one=true)
  (hP:∀k,k<cells.size->Pr b k) (hr:∀i (h:i<es.length) j (hj:j<(es[i]).cells.length),RD Pr w ((es[i]).cells[j]) (cells.getD (i*size+j) undef)):RD Pr w (.slice .view es) (.slice (some ⟨b,0,none⟩) es.length es.length):=by
 refine .slice .view es b 0 es.length size (λk=>cells.getD k undef) (aed _) (λh=>by cases h) (λi h=>(cM _ (ad2 h)).1) (λi h j hj=>(cM _ (ad2 h)).2 _ (ad2 hj)) (λk hk=>?_) hr;rw[<-hs]at hk;refine⟨by rw[aeP];exact hP k hk,?_⟩;simp[World.cell?,hb,hk]
variable{GI:World->Prop}
end Go.Proofs.Tryz
namespace Go.Proofs.Tryz
open Go Go.AL Go.RowKit Go.Proofs Go.Proofs.Tram
def JH {bE:Nat} {u:Value} {ty:TypeId} (w:World) (hE:w.heap[bE]? = some (.cells #[u] ty (0,0))) (n:Int) :
    CallsD prog 85 #[.pointer (some ⟨bE,0,none⟩)] (.panicking [{ v := .iface 131 (.agg #[.int .i64 n]),recovered:=false }]) w fun e u' w' =>
      e=.returned (.tuple #[])/\u'=.panicking [{ v:=.iface 131 (.agg #[.int .i64 n]),recovered:=true }]/\∃w1,Below w.heap.size w w1/\w'=w1.setRow bE #[.int .i64 7]:=by
  refine agJ func85 rfl λDQ cs hu=>?_
  apply ahW;apply ahg;simp[wpOpsS,go_sem,recoverD,hu,ntmps85,Exit.thenS];refine ahq ?_;refine(gl (m:=0)).1 ?_;refine iS (λa=>a.tmps.size=14/\a.defers=[]/\a.tmps.getD 0 undef=.pointer (some ⟨bE,0,none⟩)/\a.tmps.getD 5 undef=.iface 131 (.agg #[.int .i64 n])) ⟨ah7,rfl,ah7,ah7⟩ ?_;rintro a ⟨cM,fq,h0,h5⟩;have aN:=(aea.1 hE).1;refine afD (aeq (aeG ?_));show wpOpsIn _ _ _ _ _ [0] a w;refine cI rfl rfl zr (tV (x:=.tmp 5) w rfl h5) ?_;show Code.wpIn _ _ _ _ _ (a.put (some 7) (.bool false)) w
  have h7:(a.put (some 7) (.bool false)).tmps.getD 7 undef=.bool false:=by simp[Act.put,cM]
  refine ae7 (t:=false) h7 ?_;simp only[aek,aeA];refine iS (λa=>a.tmps.size=14/\a.defers=[]/\a.tmps.getD 0 undef=.pointer (some ⟨bE,0,none⟩)/\a.tmps.getD 5 undef=.iface 131 (.agg #[.int .i64 n])) ⟨by simp[Act.put,cM],fq,by simpa[Act.put,aem]using h0,by simpa[Act.put,aem]using h5⟩ ?_;clear h7 h5 h0 fq cM a;rintro a ⟨cM,fq,h0,h5⟩
  have hS:∀ (a:Act) (w:World),a.tmps.getD 5 undef = .iface 131 (.agg #[.int .i64 n])→∀ t,t < 14→((fun t=>if t=5 then AV.iface 131 (.agg [.int .i64 n]) else AV.cT:au) t).bC=(fun t=>if t=5 then AV.iface 131 (.agg [.int .i64 n]) else AV.cT:au) t ∧
      RV (λ_ _=>True) dW w ((λt=>if t=5 then AV.iface 131 (.agg [.int .i64 n])else AV.cT:au) t) (a.tmps.getD t undef):=by
    intro a w h5 t ht
    by_cases h:t=5
    . subst h
      rw[h5];refine⟨rfl,.data _ _ (.iface _ _ _ (.agg _ _ rfl (λi hi=>?_) (λi hi eJ=>?_)))⟩
      . have:i=0:=by simpa using hi
        subst this;rfl
      . have:i=0:=by simpa using hi
        subst this;exact .int _ _
    . simp only[h,aeA];exact⟨rfl,.cT _⟩
  refine aeq ?_;refine dS (GI:=λ_=>True) (λ_ _ _ _=>trivial) d_ (ac:=ah.qa c85.qb.qb.qb.qb) (W:=λt=>decide (8<=t)) zk zk zk trivial (λ_ _=>True) _ cM fq (hS a w h5) (K:=λS' _=>S' 9=.bool true/\S' 10=.agg [.int .i64 n]) ?_ ?_
  . simp[c85,ah.qa,ah.qb,cW,cQ,an,cy,ar,aq,aM.S,aM.H,ev,aF,bl,AV.bC]
  rintro g S' H' a' w' hg R1 ⟨h9,oL⟩ cP;have t9:=R1.slot 9 zd (λh=>h);rw[h9]at t9;have t9:=t9.gK;have t10:=R1.slot 10 zd (λh=>h);rw[oL]at t10
  have b1:Below w.heap.size w w':=by have:=R1.below;rwa [R1.base]at this
  show Code.wpIn _ _ _ _ _ a' w';refine ae7 (t:=true) t9 ?_;simp only[aeH];refine aeq ?_;refine ku R1 (GI:=λ_=>True) (λ_ _ _ _=>trivial) trivial d_ (ac:=ah.qa c85.qb.qb.qb.qb.qb.qa) (W:=λt=>decide (1<=t)) zk zk zk (by rw[hg];exact λ_ h=>h) (K:=λ_ _=>True) ?_ ?_
  . simp[c85,ah.qa,ah.qb,cW,cQ,an,cy,ar,aq,aM.S,aM.H,ev,aF,bl,AV.bC,oL,bt,HR.okB,AV.cells,AV.storable,aP,AV.aZ,bj]
  rintro g2 S2 H2 a2 w2 oN R2 _ lG
  have b2:Below w.heap.size w w2:=by have:=R2.below;rwa [R2.base]at this
  have e0:a2.tmps.getD 0 undef=.pointer (some ⟨bE,0,none⟩):=(lG 0 rfl).trans ((cP 0 rfl).trans h0);have JF:w2.heap[bE]?=some (.cells #[u] ty (0,0)):=(b2.block bE aN).trans hE;obtain⟨i36,tt,tx⟩:=iZ 34 1;show Code.wpIn _ _ _ _ _ a2 w2;refine aeG ?_;show wpOpsIn _ _ _ _ _ [0] a2 w2;refine fD rfl rfl zr (jC (x:=.tmp 0) (y:=.const (.int .i64 7)) (v:=.int .i64 7) rfl e0 tt tx JF rfl rfl) ?_;refine⟨by show a2.defers=[];rw[R2.defers,oN,hg];rfl,_,rfl,.tuple #[],?_,rfl,rfl,w2,b2,rfl⟩;simp[results,results85]
def JA {bE:Nat} {u:Value} {ty:TypeId} (w:World) (hE:w.heap[bE]? = some (.cells #[u] ty (0,0))) (n:List UInt8) :
    CallsD prog 85 #[.pointer (some ⟨bE,0,none⟩)] (.panicking [{ v := .iface 133 (.agg #[.string ⟨n.toArray⟩]),recovered:=false }]) w fun e u' w' =>
      e=.returned (.tuple #[])/\u'=.panicking [{ v:=.iface 133 (.agg #[.string ⟨n.toArray⟩]),recovered:=true }]/\∃w1,Below w.heap.size w w1/\w'=w1.setRow bE #[.int .i64 4]:=by
  refine agJ func85 rfl λDQ cs hu=>?_
  apply ahW;apply ahg;simp[wpOpsS,go_sem,recoverD,hu,ntmps85,Exit.thenS];refine ahq ?_;refine(gl (m:=0)).1 ?_;refine iS (λa=>a.tmps.size=14/\a.defers=[]/\a.tmps.getD 0 undef=.pointer (some ⟨bE,0,none⟩)/\a.tmps.getD 5 undef=.iface 133 (.agg #[.string ⟨n.toArray⟩])) ⟨ah7,rfl,ah7,ah7⟩ ?_;rintro a ⟨cM,fq,h0,h5⟩;have aN:=(aea.1 hE).1;refine afD (aeq (aeG ?_));show wpOpsIn _ _ _ _ _ [0] a w;refine cI rfl rfl zr (tV (x:=.tmp 5) w rfl h5) ?_;show Code.wpIn _ _ _ _ _ (a.put (some 7) (.bool false)) w
  have h7:(a.put (some 7) (.bool false)).tmps.getD 7 undef=.bool false:=by simp[Act.put,cM]
  refine ae7 (t:=false) h7 ?_;simp only[aek,aeA];refine iS (λa=>a.tmps.size=14/\a.defers=[]/\a.tmps.getD 0 undef=.pointer (some ⟨bE,0,none⟩)/\a.tmps.getD 5 undef=.iface 133 (.agg #[.string ⟨n.toArray⟩])) ⟨by simp[Act.put,cM],fq,by simpa[Act.put,aem]using h0,by simpa[Act.put,aem]using h5⟩ ?_;clear h7 h5 h0 fq cM a;rintro a ⟨cM,fq,h0,h5⟩
  have hS:∀ (a:Act) (w:World),a.tmps.getD 5 undef = .iface 133 (.agg #[.string ⟨n.toArray⟩])→∀ t,t < 14→((fun t=>if t=5 then AV.iface 133 (.agg [.str n]) else AV.cT:au) t).bC=(fun t=>if t=5 then AV.iface 133 (.agg [.str n]) else AV.cT:au) t ∧
      RV (λ_ _=>True) dW w ((λt=>if t=5 then AV.iface 133 (.agg [.str n])else AV.cT:au) t) (a.tmps.getD t undef):=by
    intro a w h5 t ht
    by_cases h:t=5
    . subst h
      rw[h5];refine⟨rfl,.data _ _ (.iface _ _ _ (.agg _ _ rfl (λi hi=>?_) (λi hi eJ=>?_)))⟩
      . have:i=0:=by simpa using hi
        subst this;rfl
      . have:i=0:=by simpa using hi
        subst this;exact .str _
    . simp only[h,aeA];exact⟨rfl,.cT _⟩
  refine aeq ?_;refine dS (GI:=λ_=>True) (λ_ _ _ _=>trivial) d_ (ac:=ah.qa c85.qb.qb.qb.qb) (W:=λt=>decide (8<=t)) zk zk zk trivial (λ_ _=>True) _ cM fq (hS a w h5) (K:=λS' _=>S' 9=.bool false/\S' 5=.iface 133 (.agg [.str n])) ?_ ?_
  . simp[c85,ah.qa,ah.qb,cW,cQ,an,cy,ar,aq,aM.S,aM.H,ev,aF,bl,AV.bC]
  rintro g0 S0 H0 a0 ZU JE R0 ⟨MD,ZX⟩ JQ;have t90:=R0.slot 9 zd (λh=>h);rw[MD]at t90;have t90:=t90.gK;show Code.wpIn _ _ _ _ _ a0 ZU;refine ae7 (t:=false) t90 ?_;simp only[aek,aeA];refine aeq ?_;refine ku R0 (GI:=λ_=>True) (λ_ _ _ _=>trivial) trivial d_ (ac:=ah.qa c85.qb.qb.qb.qb.qb.qb) (W:=λt=>decide (8<=t)) zk zk zk (by rw[JE];exact λ_ h=>h) (K:=λS' _=>S' 12=.bool true/\S' 13=.agg [.str n]) ?_ ?_
  . simp[c85,ah.qa,ah.qb,cW,cQ,an,cy,ar,aq,aM.S,aM.H,ev,aF,bl,AV.bC,ZX]
  rintro g S' H' a' w' hg R1 ⟨h9,oL⟩ J';have cP:=JQ.trans J';rw[JE]at hg;have t9:=R1.slot 12 zd (λh=>h);rw[h9]at t9;have t9:=t9.gK;have t10:=R1.slot 13 zd (λh=>h);rw[oL]at t10
  have b1:Below w.heap.size w w':=by have:=R1.below;rwa [R1.base]at this
  show Code.wpIn _ _ _ _ _ a' w';refine ae7 (t:=true) t9 ?_;simp only[aeH];refine aeq ?_;refine ku R1 (GI:=λ_=>True) (λ_ _ _ _=>trivial) trivial d_ (ac:=ah.qa c85.qb.qb.qb.qb.qb.qb.qb.qa) (W:=λt=>decide (1<=t)) zk zk zk (by rw[hg];exact λ_ h=>h) (K:=λ_ _=>True) ?_ ?_
  . simp[c85,ah.qa,ah.qb,cW,cQ,an,cy,ar,aq,aM.S,aM.H,ev,aF,bl,AV.bC,oL,bt,HR.okB,AV.cells,AV.storable,aP,AV.aZ,bj]
  rintro g2 S2 H2 a2 w2 oN R2 _ lG
  have b2:Below w.heap.size w w2:=by have:=R2.below;rwa [R2.base]at this
  have e0:a2.tmps.getD 0 undef=.pointer (some ⟨bE,0,none⟩):=(lG 0 rfl).trans ((cP 0 rfl).trans h0);have JF:w2.heap[bE]?=some (.cells #[u] ty (0,0)):=(b2.block bE aN).trans hE;obtain⟨i36,tt,tx⟩:=iZ 34 1;show Code.wpIn _ _ _ _ _ a2 w2;refine aeG ?_;show wpOpsIn _ _ _ _ _ [0] a2 w2;refine fD rfl rfl zr (jC (x:=.tmp 0) (y:=.const (.int .i64 4)) (v:=.int .i64 4) rfl e0 tt tx JF rfl rfl) ?_;refine⟨by show a2.defers=[];rw[R2.defers,oN,hg];rfl,_,rfl,.tuple #[],?_,rfl,rfl,w2,b2,rfl⟩;simp[results,results85]
def Kv (p:Addr) (w:World) :
    CallsD prog 85 #[.pointer (some p)] .returning w λe u' w'=>e=.returned (.tuple #[])/\u'=.returning/\w'=w:=by
  refine agJ func85 rfl λDQ cs hu=>?_
  apply ahW;apply ahg;simp[wpOpsS,go_sem,recoverD,hu,ntmps85,Exit.thenS];refine ahq ?_
  go_wp2
  cases DQ
  simp_all[bodyPostS,results,results85]
def Q9 {a:Act} {w:World} {b:Nat} {v:Value} {ty:TypeId} (h2:a.tmps.getD 2 undef = .pointer (some ⟨b,0,none⟩)) (h:w.heap[b]? = some (.cells #[v] ty (0,0))):(results f40 a.tmps).run prog w = .ok v w:=by
  obtain⟨d,Gd,vQ⟩:=vZ 34
  have lP:(isAgg 34).run prog w = .ok false w:=by
    unfold isAgg;rw[ael,aet Gd w]
    cases d<;>simp_all[ef]
  have hl:(loadVar 34 ⟨b,0,none⟩).run prog w = .ok v w:=by
    simp[loadVar,ael,lP,World.cell?,h]
  have hr:f40.results=#[.cell 2 34]:=rfl
  have C2:a.tmps[2]?.getD undef=.pointer (some ⟨b,0,none⟩):=by rw[<-h2];simp
  simp[results,hr,C2,asAddr,hl]
def nH {k:Nat} {us:Array Value} {w:World} {R1 R:Ending→World→Prop} (km:eU prog k=true) (hc:Calls prog k us (w.alloc (.cells #[.int .i64 0] 34)) R1)
    (h:∀ e w2,R1 e w2→w.heap.size < w2.heap.size∧(∃ u ty,w2.heap[w.heap.size]? = some (.cells #[u] ty (0,0))) ∧
      ((∃c,e=.returned c/\R (.returned (.int .i64 0)) (w2.setRow w.heap.size #[.int .i64 0]))\/
       (∃n,e=.panicked [{ v:=.iface 131 (.agg #[.int .i64 n]),recovered:=false }]/\∀w3,Below w2.heap.size w2 w3->R (.returned (.int .i64 7)) (w3.setRow w.heap.size #[.int .i64 7]))\/
       (∃s:List UInt8,e=.panicked [{ v:=.iface 133 (.agg #[.string ⟨s.toArray⟩]),recovered:=false }]/\∀w3,Below w2.heap.size w2 w3->R (.returned (.int .i64 4)) (w3.setRow w.heap.size #[.int .i64 4])))):
    Calls prog 40 #[.func (.func k) #[] us] w R:=by
  refine calls_of_wp_defers func40 rfl ?_;refine(gl (m:=0)).1 ?_;refine iS (λa=>a.tmps.size=6/\a.defers=[]/\a.tmps.getD 0 undef=.func (.func k) #[] us) ⟨by simp[ntmps40],rfl,dQ _ _ 0 ah7⟩ ?_;rintro a ⟨cM,fq,h0⟩
  obtain⟨bE,P6⟩:∃bE,w.heap.size=bE:=⟨_,rfl⟩
  have f_:∀ (a:Act) (d t:Nat) (c:Value),t≠d→(a.put (some d) c).tmps.getD t undef=a.tmps.getD t undef:=fun a d t c h=>by
    simp[Act.put,aem (ae0 h)]
  have jj:∀ (a:Act) (d:Nat) (c:Value),a.tmps.size=6→d < 6→(a.put (some d) c).tmps.getD d undef=c:=fun a d c h hd=>by
    simp[Act.put,h,hd]
  have ld:∀(a:Act)(d:Option Nat)(c:Value),(a.put d c).tmps.size=a.tmps.size:=λa d c=>by cases d<;>simp[Act.put]
  refine aeq (aeG ?_);show wpOpsIn _ _ _ _ _ [0] a w;refine cI rfl rfl zr (mz (t:=34) (z:=.int .i64 0) rfl zk) ?_;show Code.wpIn _ _ _ _ _ (a.put (some 2) (.pointer (some ⟨w.heap.size,0,none⟩))) (w.alloc (.cells #[.int .i64 0] 34));rw[P6]at h;simp only[P6]
  obtain⟨w1,qk⟩:∃w1,w.alloc (.cells #[.int .i64 0] 34)=w1:=⟨_,rfl⟩
  rw[qk]at hc⊢;refine iS (λa=>a.tmps.size=6/\a.defers=[]/\a.tmps.getD 0 undef=.func (.func k) #[] us/\a.tmps.getD 2 undef=.pointer (some ⟨bE,0,none⟩)) ⟨by rw[ld];exact cM,fq,by rw[f_ _ _ _ _ zd];exact h0,jj _ _ _ cM zd⟩ ?_;clear h0 fq cM a;rintro a ⟨cM,fq,h0,h2⟩;refine aeq (aeG ?_);show wpOpsIn _ _ _ _ _ [0,1] a w1;refine cI rfl rfl zr (nt (fn:=.func 85) (c:=#[.tmp 2]) rfl) ?_
  have gq:(#[Operand.tmp 2].map a.eval) = #[.pointer (some ⟨bE,0,none⟩)]:=by
    simp only[aeN,aer,aeF,Act.eval];rw[h2]
  rw[gq];show wpOpsIn _ _ _ _ _ [1] (a.put (some 3) (.func (.func 85) #[] #[.pointer (some ⟨bE,0,none⟩)])) w1
  obtain⟨a2,j_⟩:∃a2,a.put (some 3) (.func (.func 85) #[] #[.pointer (some ⟨bE,0,none⟩)])=a2:=⟨_,rfl⟩
  rw[j_]
  have z2:a2.tmps.size=6:=by rw[<-j_,ld];exact cM
  have u3:a2.tmps.getD 3 undef=.func (.func 85) #[] #[.pointer (some ⟨bE,0,none⟩)]:=by rw[<-j_];exact jj _ _ _ cM zd
  have u0:a2.tmps.getD 0 undef=.func (.func k) #[] us:=by rw[<-j_,f_ _ _ _ _ zd];exact h0
  have u2:a2.tmps.getD 2 undef=.pointer (some ⟨bE,0,none⟩):=by rw[<-j_,f_ _ _ _ _ zd];exact h2
  have ud:a2.defers=[]:=by rw[<-j_];exact fq
  refine Cf rfl rfl (d:={ target:=.fn (.func 85) #[.pointer (some ⟨bE,0,none⟩)],args:=#[] }) (w':=w1) ?_ ?_
  . unfold execOp
    simp[fQ,Deferred.ofValue,Act.eval,u3]
  have Vv:∀ (w:World),(invoke (.fn (.func 85) #[.pointer (some ⟨bE,0,none⟩)]) #[]).run prog w = .ok (.enter 85 #[.pointer (some ⟨bE,0,none⟩)]) w:=fun w=>by
    simp[invoke,hZ (P:=prog) (f:=85) zk]
  show Code.wpIn _ _ _ _ _ { a2 with defers:={ target:=.fn (.func 85) #[.pointer (some ⟨bE,0,none⟩)],args:=#[] }::a2.defers } w1;refine iS (λa=>a.tmps.size=6/\a.defers=[{ target:=.fn (.func 85) #[.pointer (some ⟨bE,0,none⟩)],args:=#[] }]/\a.tmps.getD 0 undef=.func (.func k) #[] us/\a.tmps.getD 2 undef=.pointer (some ⟨bE,0,none⟩)) ⟨z2,by show _::a2.defers=_;rw[ud],u0,u2⟩ ?_;clear u0 u2 u3 ud z2 j_ a2 h0 h2 fq cM gq a;rintro a ⟨cM,fq,h0,h2⟩;refine aeq (aeG ?_);show wpOpsIn _ _ _ _ _ [0,1] a w1;refine cI rfl rfl zr (run_move (x:=.tmp 0) w1 rfl) ?_;have e0:a.eval (.tmp 0)=.func (.func k) #[] us:=h0;rw[e0];show wpOpsIn _ _ _ _ _ [1] (a.put (some 4) (.func (.func k) #[] us)) w1
  obtain⟨a2,j_⟩:∃a2,a.put (some 4) (.func (.func k) #[] us)=a2:=⟨_,rfl⟩
  rw[j_]
  have z2:a2.tmps.size=6:=by rw[<-j_,ld];exact cM
  have u4:a2.eval (.tmp 4)=.func (.func k) #[] us:=by show a2.tmps.getD 4 undef=_;rw[<-j_];exact jj _ _ _ cM zd
  have u2:a2.tmps.getD 2 undef=.pointer (some ⟨bE,0,none⟩):=by rw[<-j_,f_ _ _ _ _ zd];exact h2
  have ud:a2.defers=[{ target:=.fn (.func 85) #[.pointer (some ⟨bE,0,none⟩)],args:=#[] }]:=by rw[<-j_];exact fq
  refine p7 rfl rfl zr (CC (f:=.tmp 4) w1 rfl rfl rfl u4 km) hc ?_;intro e w2 he;obtain⟨aN,⟨uE,tyE,hE⟩,uj⟩:=h e w2 he
  have FT:∀ {args:Array Value} {u:FrameMode} {w:World} {R R':Ending→FrameMode→World→Prop},CallsD prog 85 args u w R→(∀ e u w,R e u w→R' e u w)→CallsD prog 85 args u w R':=fun h hr c cs hu =>
    let⟨e,u',w',fr,r,rest⟩:=h c cs hu;⟨e,u',w',fr,hr _ _ _ r,rest⟩
  have zZ:∀ (p:PanicEntry) (v:Value) (hv:CallsD prog 85 #[.pointer (some ⟨bE,0,none⟩)] (.panicking [p]) w2 fun e u' w'=>e = .returned (.tuple #[])∧u' = .panicking [{ p with recovered:=true }]∧∃ w1,Below w2.heap.size w2 w1∧w'=w1.setRow bE #[v]),
      p.goexit=false->(∀w3,Below w2.heap.size w2 w3->R (.returned v) (w3.setRow bE #[v]))->Leaves prog f40 a2.tmps R a2.defers (.panicking [p]) w2:=by
    intro p v hv sL hR;rw[ud];refine ahS ah7 (Vv w2) (FT hv ?_);rintro e u' w' ⟨rfl,rfl,w3,pK,rfl⟩;have hE3:w3.heap[bE]?=some (.cells #[uE] tyE (0,0)):=(pK.block bE aN).trans hE;show Leaves prog f40 a2.tmps R [] .returning (w3.setRow bE #[v]);exact⟨v,Q9 u2 (Dt hE3),hR w3 pK⟩
  rcases uj with⟨c,rfl,hR⟩|⟨n,rfl,hR⟩|⟨s,rfl,hR⟩
  . show Code.wpIn _ _ _ _ _ (a2.put (some 5) c) w2
    have Ug:(a2.put (some 5) c).tmps.getD 2 undef=.pointer (some ⟨bE,0,none⟩):=by rw[f_ _ _ _ _ zd];exact u2
    refine aeq (aeG ?_);show wpOpsIn _ _ _ _ _ [0] (a2.put (some 5) c) w2;obtain⟨i36,tt,tx⟩:=iZ 34 1;refine fD rfl rfl zr (jC (x:=.tmp 2) (y:=.const (.int .i64 0)) (v:=.int .i64 0) rfl Ug tt tx hE rfl rfl) ?_;show Code.wpIn _ _ _ _ _ (a2.put (some 5) c) (w2.setRow bE #[.int .i64 0]);refine aga ?_;show Leaves prog f40 (a2.put (some 5) c).tmps R a2.defers .returning (w2.setRow bE #[.int .i64 0]);rw[ud];refine ahS ah7 (Vv _) (FT (Kv _ _) ?_);rintro e u' w' ⟨rfl,rfl,rfl⟩;exact⟨_,Q9 Ug (Dt hE),hR⟩
  . exact zZ _ _ (JH w2 hE n) rfl hR
  . exact zZ _ _ (JA w2 hE s) rfl hR
def Q_(s:bw):List (List Int):=(List.range s.words.length).flatMap λd=>xJ s d []
def RH{s:bw}(h:0<s.words.length):iP s []=true:=by simp[iP,iD,oD,h]
def lO(out:List Int):Nat->List Word->List Word
 |_,[]=>[]
 |i,w::l=>if out.contains (i:Int)then lO out (i+1) l else w::lO out (i+1) l
def HE(out:List Int):∀(a b:List Word)(k:Nat),lO out k (a++b)=lO out k a++lO out (k+a.length) b
 |[],b,k=>by simp[lO]
 |x::a,b,k=>by
  have ih:=HE out a b (k+1)
  have e:k+1+a.length=k+(x::a).length:=by simp;omega
  rw[e]at ih;show(if out.contains (k:Int)then lO out (k+1) (a++b)else x::lO out (k+1) (a++b))=(if out.contains (k:Int)then lO out (k+1) a else x::lO out (k+1) a)++_;rw[ih]
  split<;>rfl
def OD(out:List Int){l:List Word}{i:Nat}(h:i<l.length):lO out 0 (l.take (i+1))=lO out 0 (l.take i)++if out.contains (i:Int)then[]else[l[i]]:=by
 rw[aec h,HE,aes,aeP,ahd zo]
 rfl
def tJ{out:List Int}:∀{l:List Word}{k:Nat}{w:Word},w∈lO out k l->w∈l
 |[],_,_,h=>by cases h
 |x::l,k,w,h=>by
  unfold lO at h;split at h
  .exact aei _ (tJ h)
  .rcases aeD.1 h with h|h
   .rw[h];simp
   .exact aei _ (tJ h)
def xb(out:List Int):∀(l:List Word)(k:Nat),(lO out k l).length<=l.length
 |[],_=>aed _
 |x::l,k=>by
  have:=xb out l (k+1);unfold lO
  split<;>simp<;>omega
def GY{out:List Int}:∀{l:List Word}{k:Nat},lO out k l=[]->∀i,i<l.length->((k+i:Nat):Int)∈out
 |[],_,_,i,hi=>by simp at hi
 |x::l,k,h,i,hi=>by
  unfold lO at h;split at h
  case isFalse=>cases h
  rename_i hc
  match i with
  |0=>simpa using hc
  |i+1=>
   have:=GY h i (by simpa using hi);rw[show k+(i+1)=k+1+i by omega];exact this
def count_le:∀(n:Nat)(out:List Int),(∀i,i<n->(i:Int)∈out)->n<=out.length
 |0,_,_=>ae2 _
 |n+1,out,h=>by
  have hn:=h n zo
  have:=count_le n (out.erase (n:Int)) λi hi=>(ah2 zo).2 (h i zo)
  rw[ahH hn]at this;have:0<out.length:=ahU hn;omega
def HC(s:bw)(out:List Int):bw:={ s with words:=lO out 0 s.words }
def Vn{s:bw}{l:List Int}(ho:iP s l=true):1<=(HC s l).words.length:=by
 have h1:=LS ho;rcases af6 (HC s l).words.length with h|h
 .have h0:lO l 0 s.words=[]:=aeT h
  have:=count_le s.words.length l λi hi=>by
   have:=GY h0 i hi;simpa using this
  omega
 .exact h
def KN{s:bw}(hs:cN s=true){l:List Int}(ho:iP s l=true):cN (HC s l)=true:=by
 have hn:=Vn ho;have hl:=xb l s.words 0;unfold cN u_ at hs⊢;simp only[aeb,ae_]at hs⊢;obtain⟨⟨⟨⟨h1,h2⟩,h3⟩,h4⟩,⟨⟨⟨⟨⟨⟨e1,e2⟩,e3⟩,e4⟩,e5⟩,e6⟩,e7⟩⟩:=hs;refine⟨⟨⟨⟨h1,h2⟩,?_⟩,h4⟩,⟨⟨⟨⟨⟨⟨e1,e2⟩,e3⟩,e4⟩,?_⟩,e6⟩,e7⟩⟩
 .unfold ee at h3⊢;simp only[aeb,aej]at h3⊢;have:(HC s l).words.length<=s.words.length:=hl;omega
 .rw[ae9]at e5⊢;intro w hw;exact e5 w (tJ hw)
end Go.Proofs.Tryz
namespace Go.Proofs.Tryz
open Go Go.AL Go.RowKit Go.Proofs Go.Proofs.Tram
variable{GI:World->Prop}
def pP{Pr:Nat->Nat->Prop}{al:Nat->Option Nat}{w:World}{l:List UInt8}{c:Value}(h:RV Pr al w (.str l) c):c=.string ⟨l.toArray⟩:=by
 cases h with
 |data _ _ h=>cases h;rfl
def strs(ls:List (List UInt8)):AV:=.slice .view (ls.map .str)
def La(qD:∀w,GI w->∃m,w.cell? ⟨1,0,none⟩=some (.int .i64 m))(s:List UInt8)(c:UInt8)(hs:s.length<4294967281):AC prog GI 86 [.str s,.str [c]] (.ret (strs (bL c s))):=by
 intro w old dn hG hl hr
 obtain⟨v1,v2,rfl⟩:∃v1 v2,dn=#[v1,v2]:=by
  have h2:dn.size=2:=hl.symm;refine⟨dn[0],dn[1],?_⟩;apply afH
  .simp[h2]
  .intro i h h'
   match i,h' with
   |0,_=>rfl
   |1,_=>rfl
 have e1:=pP (hr 0 ah7 ah7);have e2:=pP (hr 1 ah7 ah7);simp only[List.getElem_toArray,List.getElem_cons_zero,List.getElem_cons_succ]at e1 e2;subst e1 e2;obtain⟨m,hm⟩:=qD w hG;refine(Tryz.strings_Split ⟨s.toArray⟩ ⟨[c].toArray⟩ m w hs hm (aed _)).mono ?_;rintro e w' ⟨rfl,rfl⟩;have G_:Lib.countB ⟨s.toArray⟩ ⟨[c].toArray⟩=s.count c:=Lib.count_one c s;have Ht:=Lib.splitB_data ⟨[c].toArray⟩ 0 (s.count c) ⟨s.toArray⟩;have Ht:(Lib.splitB ⟨[c].toArray⟩ 0 (s.count c) ⟨s.toArray⟩).map (·.data.toList)=bL c s:=Ht.trans (By c s);have eu:=Lib.splitB_all ⟨[c].toArray⟩ (aed _) 0 (s.count c) ⟨s.toArray⟩ G_;rw[G_];generalize Lib.splitB ⟨[c].toArray⟩ 0 (s.count c) ⟨s.toArray⟩=ps at Ht eu;rw[<-eu]
 have PC:ps.length=((bL c s).map AV.str).length:=by rw[<-Ht];simp
 refine⟨(afb _ w).alloc (aed _) _,λb=>if b=w.heap.size then ps.length else 0,λb hb=>?_,_,rfl,.data _ _ ?_,trivial⟩
 .show(if b=w.heap.size then ps.length else 0)=0;rw[World.size_alloc]at hb;rw[if_neg zo]
 .unfold strs;rw[PC];refine XM (es:=(bL c s).map AV.str) (size:=1) (ae8 w _) (by simp;rw[<-Ht];simp) (λe he=>?_) (λk hk=>.inr ⟨aed _,?_⟩) (λi h j hj=>?_)
  .obtain⟨x,_,rfl⟩:=aew.1 he;exact⟨rfl,λc hc=>by simp only[AV.cells,aev]at hc;subst hc;rfl⟩
  .show k<(if w.heap.size=w.heap.size then((bL c s).map AV.str).length else 0);rw[if_pos rfl,<-PC];simpa using hk
  .have hi:i<ps.length:=by rw[PC];exact h
   have hx:((bL c s).map AV.str)[i]=.str ps[i].data.toList:=by simp[<-Ht]
   have DH:j=0:=by
    have:(((bL c s).map AV.str)[i]).cells.length=1:=by rw[hx];rfl
    omega
   subst DH
   have hc:(((bL c s).map AV.str)[i]).cells[0]=.str ps[i].data.toList:=by simp only[hx];rfl
   rw[hc]
   have:((ps.map Value.string).toArray.getD (i*1+0) undef)=.string ps[i]:=by simp[hi]
   rw[this];exact .str _
def Tx{n:Nat}{dn:Array Value}(hl:n=dn.size)(h:n=1):∃v,dn=#[v]:=by
 refine⟨dn[0]' zo,?_⟩;apply afH
 .simp;omega
 .intro i hi h'
  match i,h' with
  |0,_=>rfl
def Y9{n:Nat}{dn:Array Value}(hl:n=dn.size)(h:n=2):∃v1 v2,dn=#[v1,v2]:=by
 refine⟨dn[0]' zo,dn[1]' zo,?_⟩;apply afH
 .simp;omega
 .intro i hi h'
  match i,h' with
  |0,_=>rfl
  |1,_=>rfl
def v_:Nat->Nat->List UInt8
 |0,_=>[]
 |f+1,u=>if u<10 then[UInt8.ofNat (48+u)]else v_ f (u/10)++[UInt8.ofNat (48+u % 10)]
def D6:∀(f u:Nat),0<f->u<10^f->Lib.decDigits u=v_ f u
 |0,_,h,_=>zo
 |f+1,u,_,h=>by
  rw[Lib.decDigits,v_];split
  .rfl
  .rename_i oL
   cases f with
   |zero=>simp at h;omega
   |succ f=>rw[D6 (f+1) (u/10) zo (by rw[Nat.pow_succ]at h;exact Nat.div_lt_of_lt_mul (by rw[agk];exact h))]
def wx(ls:List (List UInt8))(sep:List UInt8)(hn:ls.length<=100000)(hlen:(Lib.join ls sep).length<=140737488355328):AC prog GI 121 [strs ls,.str sep] (.ret (.str (Lib.join ls sep))):=by
 intro w old dn hG hl hr;obtain⟨v1,v2,rfl⟩:=Y9 hl rfl;have e1:=(hr 0 ah7 ah7).eP rfl;have e2:=pP (hr 1 ah7 ah7);simp only[List.getElem_toArray,List.getElem_cons_zero,List.getElem_cons_succ]at e1 e2;subst e2;unfold strs at e1;generalize oI:ls.map AV.str=es at e1
 have hle:es.length=ls.length:=by rw[<-oI];simp
 have fin:∀{w':World}{l:List UInt8},Below w.heap.size w w'->l=Lib.join ls sep->AL.Ends prog old w (.ret (.str (Lib.join ls sep))) (.returned (.string ⟨l.toArray⟩)) w':=by
  rintro w' l hb rfl;exact⟨hb,λ_=>0,λ_ _=>rfl,_,rfl,.data _ _ (.str _),trivial⟩
 have emp:∀(a:Option Addr)(c:Nat),ls=[]->Calls prog 121 #[.slice a 0 c,.string ⟨sep.toArray⟩] w (AL.Ends prog old w (.ret (.str (Lib.join ls sep)))):=by
  rintro a c rfl;refine(Tryz.strings_Join_none a c ⟨sep.toArray⟩ w).mono ?_;rintro e w' ⟨rfl,rfl⟩;exact fin (l:=[]) (afb _ _) rfl
 cases e1 with
 |jm=>exact emp none 0 (aeT (by rw[<-hle];rfl))
 |kj _ a0=>exact emp (some a0) 0 (aeT (by rw[<-hle];rfl))
 |slice _ _ b off cap size cs gq vC cM h1 hc jV=>
  by_cases h0:ls=[]
  .have Gj:es.length=0:=by rw[hle,h0];rfl
   rw[Gj];exact emp _ _ h0
  .have ky:0<ls.length:=afi.2 h0
   have jL:∀j (h:j<es.length),es[j]=.str (ls[j]' zo):=λj h=>by simp[<-oI]
   have yf:size=1:=by rw[<-cM 0 zo,jL];rfl
   subst yf
   have gr:∀j (h:j<ls.length),w.cell? ⟨b,off+j,none⟩=some (.string ⟨ls[j].toArray⟩):=λj h=>by
    rw[(hc j zo).2]
    have hz:0<(es[j]' zo).cells.length:=by rw[cM j zo];omega
    have h2:=jV j zo 0 hz
    have h3:((es[j]' zo).cells[0]'hz)=.str ls[j]:=by simp only[jL j zo];rfl
    rw[h3]at h2;have e:=pP (RV.data (al:=dW) _ _ h2);simp only[afW,Nat.add_zero]at e;rw[e]
   have hb:b<w.heap.size:=ago _ _ (gr 0 ky)
   have QK:(ls.map λl=>(⟨l.toArray⟩:ByteArray)).map (·.data.toList)=ls:=by rw[aft];simp[Function.comp_def]
   have YI:=Tryz.strings_Join b off cap (ls.map λl=>(⟨l.toArray⟩:ByteArray)) ⟨sep.toArray⟩ w (λj x hx=>by
    simp only[aeK,aeo]at hx;obtain⟨l,AP,rfl⟩:=hx;obtain⟨hj,rfl⟩:=aey.1 AP
    exact gr j hj) hb (by simp;omega) (by simp;omega) (by rw[QK];exact hlen)
   rw[QK,aef]at YI;rw[hle];refine YI.mono ?_;rintro e w' ⟨rfl,hb⟩;exact fin hb rfl
def I9(hG:aQ GI)(s:List UInt8):AC prog GI 128 [.bool true,.str s] (.ret (.ea [])):=by
 refine dF hG func128 ntmps128 c128 ?_;simp[c128,cW,cQ,an,cy,ar,ev,aM.S,aM.H,bj,bD,aF,bl,AL.start,AV.bC,bV,post,bQ,bG,bH,AV.out,AV.aX]
def wrap32{n:Int}(h: -2147483648<=n/\n<2147483648):IntKind.i32.wrap n=n:=by
 have key:∀m:Int,m=n % 4294967296->(if decide (m>=2147483648)=true then m-4294967296 else m)=n:=by
  intro m hm;split
  .rename_i hd;have:=agb hd;omega
  .rename_i hd
   have Z_:¬m>=2147483648:=λhh=>hd (agX hh)
   omega
 exact key _ rfl
def da(w:List UInt8):Int:=w.foldl (λn c=>10*n+((c.toNat:Int)-48)) 0
def digit(c:UInt8):Prop:=48<=c.toNat/\c.toNat<=57
def uD(w:List UInt8)(c:UInt8):da (w++[c])=10*da w+((c.toNat:Int)-48):=by simp[da,aff]
def iy:∀(w:List UInt8),(∀c∈w,digit c)->w.length<=3->0<=da w/\da w<1000
 |[],_,_=>by simp[da]
 |[a],h,_=>by have:=h a ah7;unfold digit at this;simp[da];omega
 |[a,b],h,_=>by have h1:=h a ah7;have h2:=h b ah7;unfold digit at h1 h2;simp[da];omega
 |[a,b,c],h,_=>by have h1:=h a ah7;have h2:=h b ah7;have h3:=h c ah7;unfold digit at h1 h2 h3;simp[da];omega
 |_::_::_::_::_,_,h=>by simp at h
def oK(cc:Nat->Nat->Prop)(w:World)(k:Nat->Option Obj):Old:={ Old.plain cc w with cg:=k }
def yz(l:List Int):AV:=.slice (if l.isEmpty then .nil else .own 3) (ints l)
def jE(ws:List (List UInt8))(j:Nat)(S:au)(_:aD):Prop:=
 S 3=yz ((ws.take j).map da)/\S 9=strs ws/\S 10=.int .i64 ws.length/\S 11=.int .i64 (j:Nat)
noncomputable def gu:ah:=ah.qb c131.qb.qb.qa.qb.qb
noncomputable def iE:ah:=ah.qb gu.qb.qb.qa
noncomputable def lV:ah:=ah.qb iE.qb.qb.qa.qb.qb
def zW(a:Act)(d:Nat)(c c':Value):(a.put (some d) c).put (some d) c'=a.put (some d) c':=by
 simp[Act.put]
def UG (hG:aQ GI) {w0:World} {n:Nat} {g:Gh} {S:au} {H:aD} {a:Act} {w:World} {d i1 i4:Nat} {s:List UInt8} {z x:List AV} (dI:GI w0) (R:Rel prog w0 n dh g S H a w) (hd:d < n) (Ff:i1 < n) (Es:i4 < n) (Pf:d≠i4)
  (FA:S i1=.box i1 0) (Ey:H i1=some [.str s]) (Bi:S i4=.box i4 0) (Ge:H i4=some z) (hz:z.length=10) (hx:x.length=10) (te:AC prog GI 94 [.str s] (.ret (.agg x))):
  Calls prog 93 #[a.tmps.getD i1 undef,a.tmps.getD i4 undef] w λe w2=>e=.returned (.tuple #[])/\∃(c:Value)(g':Gh)(S':au)(H':aD),g'.old=g.old/\Rel prog w0 n dh g' S' H' (a.put (some d) c) w2/\(∀t,t≠d->S' t=S t)/\H'=aF H i4 (some (x.map AV.bC)):=by
 have cM:=R.size;have v1:=R.slot i1 Ff id;rw[FA]at v1;have v4:=R.slot i4 Es id;rw[Bi]at v4
 obtain⟨b1,e1,zj⟩:∃b,a.tmps.getD i1 undef=.pointer (some ⟨b,0,none⟩)/\g.al i1=some b:=by
  generalize a.tmps.getD i1 undef=c at v1
  cases v1 with
  |data _ _ h=>cases h
  |box _ _ b h=>exact⟨b,rfl,h⟩
 obtain⟨b4,e4,ab'⟩:∃b,a.tmps.getD i4 undef=.pointer (some ⟨b,0,none⟩)/\g.al i4=some b:=by
  generalize a.tmps.getD i4 undef=c at v4
  cases v4 with
  |data _ _ h=>cases h
  |box _ _ b h=>exact⟨b,rfl,h⟩
 obtain⟨cs,vs,ty,k0,k1,k2,k3,k4,k5,k6,k7,k8⟩:=R.box i1 b1 zj;rw[Ey]at k0;cases k0
 have h0:0<vs.size:=by rw[<-k5];exact ahN
 have hv:=pP (RV.data (al:=dW) _ _ (k6 0 ah7 h0))
 have gr:w.cell? ⟨b1,0,none⟩=some (.string ⟨s.toArray⟩):=by simp[World.cell?,k2,h0,hv]
 have vB:=R.below
 have hle:g.base<=w.heap.size:=by rw[R.base];exact R.below.size
 rw[R.base]at vB;have ib:GI w:=hG w0 w dI vB;rw[e1,e4];refine agi func93 rfl ?_;refine(gl (m:=0)).1 ?_;refine iS (λa=>a.tmps.size=4/\a.defers=[]/\a.tmps.getD 0 undef=.pointer (some ⟨b1,0,none⟩)/\a.tmps.getD 1 undef=.pointer (some ⟨b4,0,none⟩)) ⟨by simp[ntmps93],rfl,dQ _ _ 0 ah7,dQ _ _ 1 ah7⟩ ?_;rintro aC ⟨zC,dC,t0,t1⟩
 have f_:∀(a:Act)(d t:Nat)(c:Value),t≠d->(a.put (some d) c).tmps.getD t undef=a.tmps.getD t undef:=λa d t c h=>by
  simp[Act.put,aem (ae0 h)]
 have jj:∀(a:Act)(d:Nat)(c:Value),a.tmps.size=4->d<4->(a.put (some d) c).tmps.getD d undef=c:=λa d c h hd=>by
  simp[Act.put,h,hd]
 refine aeG ?_;show wpOpsIn _ _ _ _ _ [0,1,2] aC w;refine cI rfl rfl zr (kA (t:=9) (d:=.string) (b:=b1) (off:=0) rfl t0 zk rfl gr) ?_;show wpOpsIn _ _ _ _ _ [1,2] (aC.put (some 2) (.string ⟨s.toArray⟩)) w
 refine il rfl rfl zr (ia (k:=94) (args:=#[.string ⟨s.toArray⟩]) w rfl rfl ?_ zk) (te w (gz g false) #[.string ⟨s.toArray⟩] ib rfl (λi h h'=>by
  match i,h with
  |0,_=>exact .data _ _ (.str s))) ?_
 .simp only[aeN,aer,aeF];show #[(aC.put (some 2) _).tmps.getD 2 undef]=_;rw[jj _ _ _ zC zd]
 rintro e w2 ⟨jo,hi,rI,c,rfl,Qr,dX⟩;refine⟨c,rfl,?_⟩;obtain⟨g',nL,sL,R2⟩:=R.call (some d) (λt ht=>by cases ht;exact⟨hd,id⟩) false jo rI Qr dX (λh=>by cases h);obtain⟨i28,mV,m_⟩:=iZ 29 10
 let oS:Oper:={ dst:=none,op := .store 29 (.tmp i4) (.tmp d),type:=0,pos := "",after := #[],guard:=none }
 have pc:aP z 0 (x.map AV.bC)=x.map AV.bC:=by simp[aP,hz,hx]
 have kI:ar (AL.bl S (some d) (.agg x)) H (.store .any i28.size (.t i4) (.t d))=some { v:=a_,dm:=some d,hw:=some (i4,x.map AV.bC) }:=by
  simp[ar,AL.bl,ev,aF,ae0 Pf,Bi,Ge,HR.okB,AV.cells,AV.storable,AV.aZ,m_,hx,hz,bj,pc]
 obtain⟨c2,w3,g3,eA,UA,FO,R3⟩:=nW R2 (o:=oS) (x1:=.tmp i4) (x2:=.tmp d) (y1:=.t i4) (y2:=.t d) (hr:=.any) rfl rfl mV (by simp[ep,Es]) (by simp[ep,hd]) (λ_ _=>id) (λ_ _=>id) kI;show wpOpsIn _ _ _ _ _ [2] ((aC.put (some 2) (.string ⟨s.toArray⟩)).put (some 3) c) w2
 obtain⟨a3,Uh⟩:∃a3,(aC.put (some 2) (.string ⟨s.toArray⟩)).put (some 3) c=a3:=⟨_,rfl⟩
 rw[Uh]
 have z3:a3.tmps.size=4:=by rw[<-Uh,mJ,mJ];exact zC
 have d3:a3.defers=[]:=by rw[<-Uh];exact dC
 have e31:a3.eval (.tmp 1)=.pointer (some ⟨b4,0,none⟩):=by
  rw[<-Uh,dJ _ _ _ _ (by rw[mJ];omega),if_neg zd,dJ _ _ _ _ zo,if_neg zd];exact t1
 have e33:a3.eval (.tmp 3)=c:=by rw[<-Uh,dJ _ _ _ _ (by rw[mJ];omega),if_pos rfl]
 have f4:(a.put (some d) c).eval (.tmp i4)=.pointer (some ⟨b4,0,none⟩):=by rw[dJ _ _ _ _ zo,if_neg (ae0 Pf)];exact e4
 have fd:(a.put (some d) c).eval (.tmp d)=c:=by rw[dJ _ _ _ _ zo,if_pos rfl]
 have cP:∀o:Oper,o.op=.store 29 (.tmp 1) (.tmp 3)->(execOp a3.eval o).run prog w2=(execOp (a.put (some d) c).eval oS).run prog w2:=by
  intro o ho;unfold execOp;simp only[ho,e31,e33,oS,f4,fd]
 have fin:∀ops,wpOpsIn (FR none) 0 prog ops (bodyPost prog f93 λe w2=>e=.returned (.tuple #[])/\∃(c:Value)(g':Gh)(S':au)(H':aD),g'.old=g.old/\Rel prog w0 n dh g' S' H' (a.put (some d) c) w2/\(∀t,t≠d->S' t=S t)/\H'=aF H i4 (some (x.map AV.bC))) [] a3 w3:=by
  intro ops;refine⟨d3,.tuple #[],?_,rfl,c,g3,_,_,by rw[FO,sL],R3,λt ht=>?_,rfl⟩
  .simp[results,results93]
  .simp[aM.S,AL.bl,aF,ht,oS]
 rcases eA with eA|⟨eA,rfl⟩
 .refine cI rfl rfl zr ((cP _ rfl).trans eA) (fin _)
 .refine fD rfl rfl zr ((cP _ rfl).trans eA) (fin _)
def uM{P:Program}{w0:World}{n:Nat}{g:Gh}{S:au}{H:aD}{a:Act}{w:World}(R:Rel P w0 n dh g S H a w)(b:Nat):Rel P w0 n dh { g with old:={ g.old with cg:=aF g.old.cg b none } } S H a w:={
 size:=R.size
 defers:=R.defers
 facts:=R.facts
 slot:=R.slot
 own t ht hu:=(R.own t ht hu).cg rfl λb hb=>⟨rfl,rfl,hb⟩
 box i c hi:=by
  obtain⟨cs,vs,ty,h1,h2,h3,h4,h5,h6,h7,h8,h9⟩:=R.box i c hi;exact⟨cs,vs,ty,h1,h2,h3,h4,h5,h6,h7,λj hj eX=>(h8 j hj eX).cg rfl λb hb=>⟨rfl,rfl,hb⟩,h9⟩
 kF:=R.kF
 kE:=R.kE
 inj:=R.inj
 base:=R.base
 below:=R.below
 fresh:=R.fresh
 still:=R.still
 grown:=R.grown
 kept c o h:=by
  have hc:c≠b:=by rintro rfl;simp[aF]at h
  exact R.kept c o (by simpa[aF,hc]using h) }
def MT (hG:aQ GI) {w0:World} {n:Nat} {g:Gh} {S:au} {H:aD} {a:Act} {w:World} {d i1 i4:Nat} {s:List UInt8} {z x:List AV} (dI:GI w0) (R:Rel prog w0 n dh g S H a w) (hd:d < n) (Ff:i1 < n) (Es:i4 < n) (Pf:d≠i4)
  (FA:S i1=.box i1 0) (Ey:H i1=some [.str s]) (Bi:S i4=.box i4 0) (Ge:H i4=some z) (hz:z.length=10) (hx:x.length=10) (te:AC prog GI 94 [.str s] (.ret (.agg x))):
  Calls prog 92 #[.func (.func 93) #[] #[a.tmps.getD i1 undef,a.tmps.getD i4 undef]] w λe w2=>e=.returned (.int .i64 0)/\∃(c:Value)(g':Gh)(S':au)(H':aD),g'.old=g.old/\Rel prog w0 n dh g' S' H' (a.put (some d) c) w2/\(∀t,t≠d->S' t=S t)/\H'=aF H i4 (some (x.map AV.bC)):=by
 have R1:=R.o9 (.cells #[.int .i64 0] 34)
 have zv:g.old.cg w.heap.size=none:=by
  cases h:g.old.cg w.heap.size with
  |none=>rfl
  |some o=>
   have:=(aea.1 (R.kept _ o h).2.1).1;omega
 refine rC zk (UG hG dI R1 hd Ff Es Pf FA Ey Bi Ge hz hx te) ?_;rintro e w2 ⟨rfl,c,g',S',H',ho,R2,rX,vz⟩
 have hk:g'.old.cg w.heap.size=some (.cells #[.int .i64 0] 34):=by rw[ho];exact bX _ _ _
 have lI:=(R2.kept _ _ hk).2.1;have aN:=(aea.1 lI).1;refine⟨aN,⟨_,_,lI⟩,.inl ⟨_,rfl,rfl,c,_,S',H',?_,(uM R2 w.heap.size).kG ?_,rX,vz⟩⟩
 .show({ g'.old with cg:=aF g'.old.cg w.heap.size none }:Old)=_;rw[ho]
  have:aF (aF g.old.cg w.heap.size (some (.cells #[.int .i64 0] 34))) w.heap.size none=g.old.cg:=by
   funext b
   by_cases hb:b=w.heap.size
   .subst hb;simp[aF,zv]
   .simp[aF,hb]
  show({ g.old with cg:=aF (aF g.old.cg w.heap.size (some (.cells #[.int .i64 0] 34))) w.heap.size none }:Old)=_;rw[this]
 .refine⟨rfl,rfl,rfl,ah7,λk dp=>?_⟩
  by_cases hb:k=w.heap.size
  .subst hb;rw[afV w2 _ _ _ _ _ lI,lI]
  .exact afm w2 _ k _ hb
def abV (hG:aQ GI) {s:List UInt8} {x:List AV} (hs:s.length≤320) (hx:x.length=10) (te:AC prog GI 94 [.str s] (.ret (.agg x))) (TQ:AC prog GI 44 [.agg (x.map AV.dE)] (.ret (.bool true))) :
  AC prog GI 43 [.str s] (.ret (.ea [.agg (x.map AV.dE),.int .i64 0])):=by
 refine AC.j7 func43 rfl ntmps43 ah7 λcc w=>?_
 refine eR hG c43.qa (λS' H'=>S' 1=.box 1 0/\S' 2=.box 2 0/\H' 1=some [.str s]/\∃z,H' 2=some z/\z.length=10) ?_ ?_
 .simp[c43,ah.qa,cW,cQ,an,cy,ar,ev,aM.S,aM.H,aF,bl,AL.start,AV.bC,AV.cells,AV.storable,bt,bj,aq]
 rintro S1 H1 ⟨s1,s2,h1,z2,h2,JD⟩;refine SW.seq (eR hG c43.qb.qa.qa (λS' H'=>S' 1=.box 1 0/\S' 2=.box 2 0/\H' 1=some [.str s]/\H' 2=some z2/\S' 8=.bool false) ?_ ?_)
 .have Uv:¬(320:Int)<s.length:=zo
  simp[c43,ah.qa,ah.qb,cW,cQ,an,cy,ar,ev,aM.S,aM.H,aF,bl,s1,s2,h1,h2,bu,HR.okB,AV.bC,bV,Uv,aq]
 rintro S2 H2 ⟨s1,s2,h1,h2,s8⟩;refine SW.cond rfl false (by show S2 8=_;rw[s8]) (SW.skip ?_);show SW prog GI 21 none (.seq _ (.seq (.seq _ (.seq _ (.cond _ _ _))) (.seq (.seq _ (.cond _ _ _)) (.seq _ .ret)))) _ _ _ _;refine eR hG c43.qb.qb.qa (λS' H'=>S' 1=.box 1 0/\S' 2=.box 2 0/\S' 4=.box 4 0/\H' 1=some [.str s]/\H' 2=some z2/\∃z,H' 4=some z/\z.length=10) ?_ ?_
 .simp[c43,ah.qa,ah.qb,cW,cQ,an,cy,aF,bt,s1,s2,h1,h2,aq]
 rintro S3 H3 ⟨s1,s2,s4,h1,h2,z4,h4,SG⟩
 refine SW.seq (SW.seq (SW.hand hG (p:=0) (lm:=[0,1]) (l2:=[2]) (lh:=[]) (oh:=[_,_]) (oA:=[_]) rfl rfl rfl rfl zk (λ_ h=>h) (po:=[]) (ox:=(c43.qb.qb.qb.qa.qa.dl).drop 2) rfl zk rfl zk
  (K1:=λS' H'=>S' 1=.box 1 0/\S' 2=.box 2 0/\S' 4=.box 4 0/\H' 1=some [.str s]/\H' 2=some z2/\H' 4=some z4)
  (K2:=λo S' H'=>o=Old.plain cc w/\S' 2=.box 2 0/\S' 4=.box 4 0/\S' 11=.int .i64 0/\H' 2=some z2/\H' 4=some (x.map AV.bC))
  (K3:=λo S' H'=>o=Old.plain cc w/\S' 2=.box 2 0/\S' 4=.box 4 0/\S' 5=.int .i64 0/\H' 2=some z2/\H' 4=some (x.map AV.bC)) ⟨s1,s2,s4,h1,h2,h4⟩ ?_ ?_ ?_))
 .rintro w0 g S5 H5 a w5 m dI ho R ⟨s1,s2,s4,h1,h2,h4⟩;have cM:=R.size;refine cI rfl rfl zr (nt (fn:=.func 93) (c:=#[.tmp 1,.tmp 4]) rfl) ?_
  obtain⟨fv,mK⟩:∃fv:Value,fv=.func (.func 93) #[] (#[Operand.tmp 1,.tmp 4].map a.eval):=⟨_,rfl⟩
  show wpOpsIn _ _ _ _ _ [1] (a.put (some 10) (.func (.func 93) #[] (#[Operand.tmp 1,.tmp 4].map a.eval))) w5;rw[<-mK];have R1:=R.put 10 .cT fv zd (.cT _) trivial
  obtain⟨a1,ov⟩:∃a1,a.put (some 10) fv=a1:=⟨_,rfl⟩
  rw[ov]at R1⊢
  have vS:fv=.func (.func 93) #[] #[a1.tmps.getD 1 undef,a1.tmps.getD 4 undef]:=by
   have e1:=dJ a 10 1 fv zo;have e4:=dJ a 10 4 fv zo;rw[if_neg zd,ov]at e1 e4;have Ar:a1.tmps.getD 1 undef=a.eval (.tmp 1):=e1;have Fz:a1.tmps.getD 4 undef=a.eval (.tmp 4):=e4;rw[Ar,Fz,mK];simp only[aeN,aer,aeF]
  have jZ:a1.eval (.tmp 10)=fv:=by rw[<-ov,dJ _ _ _ _ zo,if_pos rfl]
  refine il rfl rfl zr (ia (k:=92) (args:=#[.func (.func 93) #[] #[a1.tmps.getD 1 undef,a1.tmps.getD 4 undef]]) w5 rfl rfl ?_ zk) (MT hG dI R1 (d:=11) (i1:=1) (i4:=4) zd zd zd zd (by simp[aF,s1]) h1 (by simp[aF,s4]) h4 SG hx te) ?_
  .simp only[aeN,aer,aeF,jZ,<-vS]
  .rintro e w6 ⟨rfl,c,g',S',H',qh,R2,rX,vz⟩;refine⟨_,rfl,?_⟩;have R3:=R2.put 11 (.int .i64 0) (.int .i64 0) zd (.data _ _ (.int _ _)) trivial;rw[zW]at R3;refine⟨g',_,H',R3,qh.trans ho,?_,?_,bX _ _ _,?_,?_⟩
   .show aF S' 11 _ 2=_;rw[b_ _ _ zd,rX 2 zd];simp[aF,s2]
   .show aF S' 11 _ 4=_;rw[b_ _ _ zd,rX 4 zd];simp[aF,s4]
   .rw[vz,b_ _ _ zd];exact h2
   .rw[vz];exact bX _ _ _
 .rintro o S5 H5 ⟨rfl,s2,s4,cG,h2,h4⟩;refine⟨λ_ h=>h,?_⟩;simp[c43,ah.qa,ah.qb,ah.dl,cQ,an,cy,ar,ev,aM.S,aM.H,aF,bl,s2,s4,cG,h2,h4,AV.bC,bj]
 .rintro o S5 H5 ⟨rfl,s2,s4,s5,h2,h4⟩;refine eR hG c43.qb.qb.qb.qa.qb.qa (λS' H'=>S' 2=.box 2 0/\S' 4=.box 4 0/\S' 13=.bool false/\H' 2=some z2/\H' 4=some (x.map AV.bC)) ?_ ?_
  .simp[c43,ah.qa,ah.qb,cW,cQ,an,cy,ar,ev,aM.S,aM.H,aF,bl,s2,s4,s5,h2,h4,AV.bC,bV,aq]
  rintro S6 H6 ⟨s2,s4,dY,h2,h4⟩;refine SW.cond rfl false (by show S6 13=_;rw[dY]) (SW.skip ?_);have BV:List.take 10 (x.map AV.bC)=x.map AV.bC:=aee (by simp;omega)
  have e7:∀(l:List AV) H,fz H (.agg (l.map AV.bC))=.agg (l.map AV.dE):=λl H=>by simp only[fz,cL,AV.vw,aft,p9]
  refine SW.seq (eR hG c43.qb.qb.qb.qb.qa.qa (λS' H'=>S' 2=.box 2 0/\S' 4=.box 4 0/\S' 18=.bool false/\H' 2=some z2/\H' 4=some (x.map AV.bC)) ?_ ?_)
  .simp[c43,ah.qa,ah.qb,cW,cQ,an,cy,ar,ev,aM.S,aM.H,aF,bl,s2,s4,h2,h4,bu,HR.okB,hx,js,BV,e7,aq];refine oc TQ ?_;simp[fB,aF,s2,s4,h2,h4]
  rintro S7 H7 ⟨s2,s4,kJ,h2,h4⟩;refine SW.cond rfl false (by show S7 18=_;rw[kJ]) (SW.skip ?_);refine eR hG c43.qb.qb.qb.qb.qb.qa (λS' H'=>S' 2=.box 2 0/\S' 3=.int .i64 0/\H' 2=some (x.map AV.bC)) ?_ ?_
  .have Pn:List.drop 10 z2=[]:=afj zo;simp[c43,ah.qa,ah.qb,cW,cQ,an,cy,ar,ev,aM.S,aM.H,aF,bl,s2,s4,h2,h4,bu,HR.okB,hx,js,BV,AV.cells,AV.storable,AV.aZ,aP,bj,JD,Pn,aq,AV.bC]
  rintro S8 H8 ⟨s2,s3,h2⟩;obtain⟨i28,mV,m_⟩:=iZ 29 10;obtain⟨fs,fw⟩:=uZ 29;refine SW.ret ⟨e_.plain rfl,rfl,_,?_,rfl⟩;show bQ prog 21 [.cell 2 29,.tmp 3] S8 H8=_;simp[bQ,bG,bH,s2,s3,h2,mV,fw,m_,bu,ef,hx,AV.out,js,p9,BV,AV.aX,AV.vw,AV.dE,aft]
end Go.Proofs.Tryz
namespace Go.Proofs.Tryz
open Go.AL
def fL(c:UInt8):List (List UInt8)->List UInt8
 |[]=>[]
 |[p]=>p
 |p::q::r=>p++c::fL c (q::r)
def iw(c:UInt8)(p:List UInt8){l:List (List UInt8)}(h:l≠[]):fL c (p::l)=p++c::fL c l:=by
 cases l with
 |nil=>exact absurd rfl h
 |cons a l=>rfl
def qf{c:UInt8}:∀{p l:List UInt8},¬c∈p->bL c (p++c::l)=p::bL c l
 |[],l,_=>by
  show(if c=c then[]::bL c l else _)=_;rw[if_pos rfl]
 |b::p,l,h=>by
  have hb:b≠c:=λe=>h (e▸aen)
  show(if b=c then[]::bL c (p++c::l)else match bL c (p++c::l)with|[]=>[[b]]|p::ps=>(b::p)::ps)=_;rw[if_neg hb,qf (λe=>h (aei _ e))]
def vX{c:UInt8}:∀{p:List UInt8},¬c∈p->bL c p=[p]
 |[],_=>rfl
 |b::p,h=>by
  have hb:b≠c:=λe=>h (e▸aen)
  show(if b=c then[]::bL c p else match bL c p with|[]=>[[b]]|p::ps=>(b::p)::ps)=_;rw[if_neg hb,vX (λe=>h (aei _ e))]
def CR(c:UInt8):∀l:List UInt8,fL c (bL c l)=l
 |[]=>rfl
 |b::l=>by
  have ih:=CR c l;show fL c (if b=c then[]::bL c l else match bL c l with|[]=>[[b]]|p::ps=>(b::p)::ps)=_;have hn:=mD c l;split
  .rename_i h;rw[iw c _ hn,ih,h];rfl
  .cases hs:bL c l with
   |nil=>exact absurd hs hn
   |cons p ps=>
    rw[hs]at ih;simp only
    cases ps with
    |nil=>exact congrArg (b::·) ih
    |cons q ps=>exact congrArg (b::·) ih
def bW(n:Int):List UInt8:=v_ 20 n.toNat
def dg(n:Nat):UInt8:=UInt8.ofNat (48+n)
def sD{n:Nat}(h:n<10):(dg n).toNat=48+n:=by
 unfold dg;simp;omega
def zx{n:Nat}(h:n<10):v_ 20 n=[dg n]:=by
 show(if n<10 then[UInt8.ofNat (48+n)]else _)=_;rw[if_pos h];rfl
def zO{n:Nat}(h0:10<=n)(h:n<100):v_ 20 n=[dg (n/10),dg (n % 10)]:=by
 show(if n<10 then _ else v_ 19 (n/10)++[UInt8.ofNat (48+n % 10)])=_;rw[if_neg zo];show(if n/10<10 then[UInt8.ofNat (48+n/10)]else _)++_=_;rw[if_pos zo];rfl
def yD{n:Nat}(h0:100<=n)(h:n<1000):v_ 20 n=[dg (n/100),dg (n/10 % 10),dg (n % 10)]:=by
 show(if n<10 then _ else v_ 19 (n/10)++[UInt8.ofNat (48+n % 10)])=_;rw[if_neg zo];show(if n/10<10 then _ else v_ 18 (n/10/10)++[UInt8.ofNat (48+n/10 % 10)])++_=_;rw[if_neg zo];show((if n/10/10<10 then[UInt8.ofNat (48+n/10/10)]else _)++_)++_=_;rw[if_pos zo,show n/10/10=n/100 by omega];rfl
def eE(n:Int):Prop:=0<=n/\n<=999
def zG:∀{w:List UInt8},(∀c∈w,digit c)->w.length<=3->eE (da w)
 |[],_,_=>by simp[da,eE]
 |[a],h,_=>by
  have h1:=h a ah7;unfold digit at h1;simp only[da,List.foldl,eE];omega
 |[a,b],h,_=>by
  have h1:=h a ah7;have h2:=h b ah7;unfold digit at h1 h2;simp only[da,List.foldl,eE];omega
 |[a,b,c],h,_=>by
  have h1:=h a ah7;have h2:=h b ah7;have h3:=h c ah7;unfold digit at h1 h2 h3;simp only[da,List.foldl,eE];omega
 |_::_::_::_::_,_,h=>by simp at h
def ot:List UInt8:=[102,114,111,110,116]
def ou:List UInt8:=[115,112,97,99,101,115]
def pg:List UInt8:=[115,105,103,110]
def oV:List UInt8:=[112,97,105,114]
def lg:List UInt8:=[119,111,114,100]
def gQ(nm:List UInt8)(l:List (List UInt8)):List UInt8:=fL 32 (nm::l)
def gh(l:List Int):List UInt8:=if l=[]then[45]else fL 44 (l.map bW)
def jy(b:Bool):List UInt8:=if b then[121,101,115]else[110,111]
def iV(w:Word):List UInt8:=gQ lg [jy w.free,gh w.cb,gh w.dq]
def ji(p:k_):List UInt8:=gQ oV [bW p.l,bW p.r,bW p.lo,bW p.hi]
def gG(n:Int):List UInt8:=gQ pg [bW n]
def fW(s:bw):List UInt8:=gQ ot [bW s.wide,bW s.rows]
def h_(s:bw):List UInt8:=gQ ou [bW s.fV,bW s.fU,bW s.ir,bW s.iu,bW s.dc]
def fF(s:bw):List (List UInt8):=fW s::h_ s::(s.bJ.map gG++(s.bK.map ji++s.words.map iV))
def eN:Nat->List UInt8->Int
 |_,[]=>0
 |k,b::l=>(b.toNat:Int)*(k+1)+eN (k+1) l
def dM:Nat->List (List UInt8)->Int
 |_,[]=>0
 |i,r::rs=>eN 0 r*(i+1)+dM (i+1) rs
def nc(c:Int):List UInt8:=[101,110,100,32]++bW (c/100)++bW (c/10 % 10)++bW (c % 10)
def AT(l:List (List UInt8)):List UInt8:=fL 10 (l++[nc (dM 0 l % 173),[]])
def fb(s:bw):List UInt8:=AT (fF s)
def fP(w:List UInt8):Bool:=!w.isEmpty&&decide (w.length<=3)&&(w.all λc=>decide (48<=c.toNat)&&decide (c.toNat<=57))&&bW (da w)==w
def kq{w:List UInt8}:fP w=true↔w≠[]/\w.length<=3/\(∀c∈w,digit c)/\bW (da w)=w:=by
 unfold fP digit;simp[and_assoc]
def Ct{w:List UInt8}(h:fP w=true):eE (da w):=by
 obtain⟨_,h2,h3,_⟩:=kq.1 h;exact zG h3 h2
def fJ:List (List UInt8)->Except (List UInt8) (List Int)
 |[]=>.ok []
 |w::ws=>if fP w then(match fJ ws with|.ok l=>.ok (da w::l)|.error e=>.error e)else .error w
def yB:∀{ws:List (List UInt8)},ws.all fP=true->fJ ws=.ok (ws.map da)
 |[],_=>rfl
 |w::ws,h=>by
  rw[List.all_cons,aeb]at h;unfold fJ;rw[if_pos h.1,yB h.2];rfl
def se:∀{ws:List (List UInt8)}{l:List Int},fJ ws=.ok l->ws.all fP=true/\l=ws.map da
 |[],l,h=>by cases h;exact⟨rfl,rfl⟩
 |w::ws,l,h=>by
  unfold fJ at h;split at h
  .rename_i hw
   cases hg:fJ ws with
   |error e=>rw[hg]at h;cases h
   |ok r=>
    rw[hg]at h;cases h;obtain⟨h1,rfl⟩:=se hg;exact⟨by rw[List.all_cons,hw,h1];rfl,rfl⟩
  .cases h
def fS(l:List Int):Prop:=∀n∈l,eE n
def fK:fS []:=λ_ h=>(ae1 h).elim
def cz{a:Int}{l:List Int}(h:eE a)(hl:fS l):fS (a::l):=by
 intro n hn;rcases aeD.1 hn with rfl|hn
 .exact h
 .exact hl n hn
def nX{ws:List (List UInt8)}(h:ws.all fP=true):fS (ws.map da):=by
 intro n hn;obtain⟨w,hw,rfl⟩:=aew.1 hn;exact Ct (aeh.1 h w hw)
def jn(w:List UInt8):Except (List UInt8) (List Int):=if w=[45]then .ok []else fJ (bL 44 w)
def x9{w:List UInt8}{l:List Int}(h:jn w=.ok l):fS l:=by
 unfold jn at h;split at h
 .cases h;intro n hn;cases hn
 .obtain⟨h1,rfl⟩:=se h;exact nX h1
def c_{α β:Type}(x:Except (List UInt8) α)(f:α->Except (List UInt8) β):Except (List UInt8) β:=match x with
 |.ok a=>f a
 |.error e=>.error e
def dO{α β:Type}(f:α->β->Except (List UInt8) α):α->List β->Except (List UInt8) α
 |a,[]=>.ok a
 |a,b::l=>c_ (f a b) λa'=>dO f a' l
def pE{α β:Type}{f:α->β->Except (List UInt8) α}:∀{l r:List β}{a b:α},dO f a l=.ok b->dO f a (l++r)=dO f b r
 |[],r,a,b,h=>by cases h;rfl
 |x::l,r,a,b,h=>by
  show c_ (f a x) (λa'=>dO f a' (l++r))=_;have h:c_ (f a x) (λa'=>dO f a' l)=.ok b:=h
  cases hx:f a x with
  |error e=>rw[hx]at h;cases h
  |ok a'=>
   rw[hx]at h;exact pE (l:=l) h
def at'(l:List Int)(i:Nat):Int:=l[i]?.getD 0
def eY(x:bw)(r:List UInt8):Except (List UInt8) bw:=
 let nm:=(bL 32 r).headD []
 let ws:=(bL 32 r).tail
 if nm=ot/\ws.length=2 then c_ (fJ ws) λn=>.ok { x with wide:=at' n 0,rows:=at' n 1 }
 else if nm=ou/\ws.length=5 then c_ (fJ ws) λn=>.ok { x with fV:=at' n 0,fU:=at' n 1,ir:=at' n 2,iu:=at' n 3,dc:=at' n 4 }
 else if nm=pg/\ws.length=1 then c_ (fJ ws) λn=>.ok { x with bJ:=x.bJ++n }
 else if nm=oV/\ws.length=4 then c_ (fJ ws) λn=>.ok { x with bK:=x.bK++[⟨at' n 0,at' n 1,at' n 2,at' n 3⟩] }
 else if nm=lg/\ws.length=3 then c_ (jn (ws[1]?.getD [])) λa=>c_ (jn (ws[2]?.getD [])) λb=>.ok { x with words:=x.words++[⟨a,b,ws[0]?.getD []==[121,101,115]⟩] }
 else .error r
def cn:bw:=⟨[],[],0,0,0,0,0,[],0,0⟩
def jq(t:List UInt8):Except (List UInt8) bw:=
 if(bL 10 t).length<2 then .error t
 else c_ (dO eY cn ((bL 10 t).take ((bL 10 t).length-2))) λx=>if fb x=t then .ok x else .error t
structure j4(s:bw):Prop where
 bJ:fS s.bJ
 bK:∀p∈s.bK,eE p.l/\eE p.r/\eE p.lo/\eE p.hi
 fV:eE s.fV
 fU:eE s.fU
 ir:eE s.ir
 iu:eE s.iu
 dc:eE s.dc
 words:∀w∈s.words,fS w.cb/\fS w.dq
 wide:eE s.wide
 rows:eE s.rows
def eW{l:List Int}(h:fS l)(i:Nat):eE (at' l i):=by
 unfold at'
 cases e:l[i]? with
 |none=>exact⟨zd,zd⟩
 |some n=>exact h n (afk e)
def eO{α β:Type}{x:Except (List UInt8) α}{f:α->Except (List UInt8) β}{b:β}(h:c_ x f=.ok b):∃a,x=.ok a/\f a=.ok b:=by
 cases x with
 |error e=>cases h
 |ok a=>exact⟨a,rfl,h⟩
def qQ{ws:List (List UInt8)}{l:List Int}(h:fJ ws=.ok l):fS l:=by
 obtain⟨h1,rfl⟩:=se h;exact nX h1
def CO{x y:bw}{r:List UInt8}(hx:j4 x)(h:eY x r=.ok y):j4 y:=by
 unfold eY at h;simp only at h
 repeat' split at h
 .obtain⟨n,hn,h⟩:=eO h;cases h;have hn:=qQ hn;exact{ hx with wide:=eW hn 0,rows:=eW hn 1 }
 .obtain⟨n,hn,h⟩:=eO h;cases h;have hn:=qQ hn;exact{ hx with fV:=eW hn 0,fU:=eW hn 1,ir:=eW hn 2,iu:=eW hn 3,dc:=eW hn 4 }
 .obtain⟨n,hn,h⟩:=eO h;cases h;have hn:=qQ hn;refine{ hx with bJ:=λk hk=>?_ };rcases aeg.1 hk with hk|hk
  .exact hx.bJ k hk
  .exact hn k hk
 .obtain⟨n,hn,h⟩:=eO h;cases h;have hn:=qQ hn;refine{ hx with bK:=λk hk=>?_ };rcases aeg.1 hk with hk|hk
  .exact hx.bK k hk
  .rw[aev]at hk;subst hk;exact⟨eW hn 0,eW hn 1,eW hn 2,eW hn 3⟩
 .obtain⟨a,ha,h⟩:=eO h;obtain⟨b,hb,h⟩:=eO h;cases h;refine{ hx with words:=λk hk=>?_ };rcases aeg.1 hk with hk|hk
  .exact hx.words k hk
  .rw[aev]at hk;subst hk;exact⟨x9 ha,x9 hb⟩
 .cases h
def qW:j4 cn:=by
 have z:eE 0:=⟨zd,zd⟩
 exact⟨λ_ h=>(ae1 h).elim,λ_ h=>(ae1 h).elim,z,z,z,z,z,λ_ h=>(ae1 h).elim,z,z⟩
def kP(ws:List (List UInt8))(many:Nat):Except (List UInt8) (List Int):=if ws.all fP/\ws.length=many then .ok (ws.map da)else .error []
def lM(w:List UInt8):Except (List UInt8) (List Int):=if w=[45]then .ok []else if(bL 44 w).all fP then .ok ((bL 44 w).map da)else .error []
def fY(x:bw)(r:List UInt8):Except (List UInt8) bw:=
 let w:=bL 32 r
 if w.headD []=lg/\w.length=4 then c_ (lM (w[2]?.getD [])) λa=>c_ (lM (w[3]?.getD [])) λb=>.ok { x with words:=x.words++[⟨a,b,w[1]?.getD []==[121,101,115]⟩] }
 else match kP w.tail 1 with
  |.ok n=>.ok { x with bJ:=x.bJ++[at' n 0] }
  |.error _=>c_ (kP w.tail 4) λn=>.ok { x with bK:=x.bK++[⟨at' n 0,at' n 1,at' n 2,at' n 3⟩] }
def lr(t:List UInt8):Except (List UInt8) bw:=
 let rows:=bL 10 t
 if rows.length<4 then .error []
 else c_ (kP (bL 32 (rows[0]?.getD [])).tail 2) λn=>c_ (kP (bL 32 (rows[1]?.getD [])).tail 5) λm=>
  c_ (dO fY { cn with wide:=at' n 0,rows:=at' n 1,fV:=at' m 0,fU:=at' m 1,ir:=at' m 2,iu:=at' m 3,dc:=at' m 4 } ((rows.drop 2).take (rows.length-4)))
   λx=>if fb x=t then .ok x else .error []
def uN{ws:List (List UInt8)}{many:Nat}{l:List Int}(h:kP ws many=.ok l):fS l:=by
 unfold kP at h;split at h
 .rename_i hw;cases h;exact nX hw.1
 .cases h
def Af{w:List UInt8}{l:List Int}(h:lM w=.ok l):fS l:=by
 unfold lM at h;split at h
 .cases h;exact fK
 .split at h
  .rename_i hw;cases h;exact nX hw
  .cases h
def BX{x y:bw}{r:List UInt8}(hx:j4 x)(h:fY x r=.ok y):j4 y:=by
 unfold fY at h;simp only at h;split at h
 .obtain⟨a,ha,h⟩:=eO h;obtain⟨b,hb,h⟩:=eO h;cases h;refine{ hx with words:=λk hk=>?_ };rcases aeg.1 hk with hk|hk
  .exact hx.words k hk
  .rw[aev]at hk;subst hk;exact⟨Af ha,Af hb⟩
 .split at h
  .rename_i n hn;cases h;refine{ hx with bJ:=λk hk=>?_ };rcases aeg.1 hk with hk|hk
   .exact hx.bJ k hk
   .rw[aev]at hk;subst hk;exact eW (uN hn) 0
  .obtain⟨n,hn,h⟩:=eO h;cases h;have hn:=uN hn;refine{ hx with bK:=λk hk=>?_ };rcases aeg.1 hk with hk|hk
   .exact hx.bK k hk
   .rw[aev]at hk;subst hk;exact⟨eW hn 0,eW hn 1,eW hn 2,eW hn 3⟩
def yQ(c:UInt8):∀{l:List (List UInt8)},l≠[]->(fL c l).length+1=(l.map λp=>p.length+1).sum
 |[],h=>absurd rfl h
 |[p],_=>by simp[fL]
 |p::q::r,_=>by
  have ih:=yQ c (l:=q::r) ah7;rw[iw c p ah7,aer,List.sum_cons,<-ih];simp;omega
def fO{n:Int}(h:eE n):(bW n).length<=3/\(n<100->(bW n).length<=2)/\(n<10->(bW n).length=1):=by
 obtain⟨m,rfl⟩:∃m:Nat,n=m:=⟨n.toNat,by have:=h.1;omega⟩
 have hm:m<1000:=by have:=h.2;omega
 unfold bW;rw[Int.toNat_natCast]
 by_cases h1:m<10
 .rw[zx h1];simp
 by_cases h2:m<100
 .rw[zO zo h2];simp;omega
 .rw[yD zo hm];simp;omega
def Q4{α:Type}(f:α->Nat)(b:Nat):∀{l:List α},(∀x∈l,f x<=b)->(l.map f).sum<=b*l.length
 |[],_=>ah7
 |a::l,h=>by
  have ih:=Q4 f b (l:=l) (λx hx=>h x (aei _ hx));have ha:=h a aen;rw[aer,List.sum_cons,List.length_cons,aio];omega
def Cg{s:bw}(hs:cN s=true):j4 s:=by
 have hF:=ja hs
 have hi:∀{n a b:Int},0<=a->b<=999->a<=n/\n<=b->eE n:=λh0 h1 h=>⟨zo,zo⟩
 have ho:=hF.o;have hg:=hF.g;have hh:=hF.dc;have hw:=hF.wide;have hr:=hF.rows
 have Kq:∀p∈s.bK,p.l<s.bJ.length/\p.r<s.bJ.length:=by
  unfold cN at hs;simp only[aeb]at hs;intro p hp;have h:=(iN.1 hs.1.2).1 p hp;unfold kR kf ee at h;simp only[aeb,aej]at h;omega
 have yt:=hF.TE;refine{ bJ:=λn hn=>?_,bK:=λp hp=>?_,fV:=⟨zo,zo⟩,fU:=⟨zo,zo⟩,ir:=⟨zo,zo⟩,iu:=⟨zo,zo⟩,dc:=⟨zo,zo⟩,words:=λw hw=>⟨λn hn=>?_,λn hn=>?_⟩,wide:=⟨zo,zo⟩,rows:=⟨zo,zo⟩ }
 .have:=hF.bJ n hn;exact⟨zo,zo⟩
 .have h1:=hF.bK p hp;have h2:=Kq p hp;exact⟨⟨zo,zo⟩,⟨zo,zo⟩,⟨zo,zo⟩,⟨zo,zo⟩⟩
 .have:=(o7 hs hw).sign n hn;exact⟨zo,zo⟩
 .have hc:=(o7 hs hw).dq;have h6:=(o7 hs hw).Ck;unfold iD at hc;have:=(iN.1 hc).1 n hn;unfold ee at this;simp only[aeb,aej]at this;exact⟨zo,zo⟩
def ql(l:List Int):List UInt8:=l.flatMap λn=>32::bW n
def FF(c:UInt8):∀(p:List UInt8)(l:List (List UInt8)),fL c (p::l)=p++l.flatMap λq=>c::q
 |p,[]=>by simp[fL]
 |p,q::l=>by
  rw[iw c p ah7,FF c q l,afx];simp
def Fe(nm:List UInt8)(l:List Int):gQ nm (l.map bW)=nm++ql l:=by
 unfold gQ ql;rw[FF,List.flatMap_map]
def NN{l:List Int}{i:Nat}(h:i<l.length):ql (l.take (i+1))=ql (l.take i)++32::bW l[i]:=by
 unfold ql;rw[aec h,afO];simp
def Fw{l:List Int}(h:fS l):(ql l).length<=4*l.length:=by
 induction l with
 |nil=>simp[ql]
 |cons n l ih=>
  have ih:=ih λx hx=>h x (aei _ hx)
  have:=(fO (h n aen)).1;unfold ql at ih⊢;rw[afx,aeu,List.length_cons,List.length_cons];omega
def B1(c:UInt8)(p:List UInt8):∀{l:List (List UInt8)},l≠[]->fL c (l++[p])=fL c l++c::p
 |[],h=>absurd rfl h
 |[q],_=>by simp[fL]
 |q::r::l,_=>by
  rw[List.cons_append,iw c q ah7,B1 c p (l:=r::l) ah7,iw c q ah7];simp
def oH(l:List Int)(i:Nat):List UInt8:=fL 44 ((l.take i).map bW)
def LX{l:List Int}{i:Nat}(h:i<l.length):oH l (i+1)=(if 0<i then oH l i++[44]else oH l i)++bW l[i]:=by
 unfold oH;rw[aec h,aeB]
 cases i with
 |zero=>simp[fL]
 |succ i=>
  rw[show[l[i+1]].map bW=[bW l[i+1]]from rfl,B1]
  .simp
  .simp;intro e;rw[e]at h;simp at h
def yE{l:List Int}(h:fS l)(i:Nat):(oH l i).length<=4*l.length:=by
 unfold oH
 by_cases h0:(l.take i).map bW=[]
 .rw[h0];simp[fL]
 .have:=yQ 44 h0;rw[aft]at this
  have h2:((l.take i).map ((λp=>p.length+1)∘bW)).sum<=4*(l.take i).length:=Q4 _ 4 λn hn=>by
   have:=(fO (h n (aeL hn))).1;show(bW n).length+1<=4;omega
  rw[aes]at h2;omega
def eL(l:List (List UInt8)):List UInt8:=l.flatMap λp=>p++[10]
def sB{l:List (List UInt8)}{i:Nat}(h:i<l.length):eL (l.take (i+1))=eL (l.take i)++l[i]++[10]:=by
 unfold eL;rw[aec h,afO];simp
def uu{l:List (List UInt8)}{b:Nat}(h:∀p∈l,p.length<b):(eL l).length<=b*l.length:=by
 induction l with
 |nil=>simp[eL]
 |cons p l ih=>
  have ih:=ih λx hx=>h x (aei _ hx)
  have:=h p aen;unfold eL at ih⊢;rw[afx,aeu,aeu,List.length_singleton,List.length_cons,aio];omega
def Cy(l:List (List UInt8)):AT l=eL l++nc (dM 0 l % 173)++[10]:=by
 have:∀(l:List (List UInt8))(e:List UInt8),fL 10 (l++[e,[]])=eL l++e++[10]:=by
  intro l
  induction l with
  |nil=>intro e;simp[fL,eL]
  |cons p l ih=>
   intro e;rw[List.cons_append,iw 10 p ah7,ih e];unfold eL;simp
 exact this l _
def Fa:∀(l r:List UInt8)(k:Nat),eN k (l++r)=eN k l+eN (k+l.length) r
 |[],r,k=>by simp[eN]
 |b::l,r,k=>by
  show(b.toNat:Int)*(k+1)+eN (k+1) (l++r)=(b.toNat:Int)*(k+1)+eN (k+1) l+_;rw[Fa l r (k+1),List.length_cons,show k+1+l.length=k+(l.length+1) by omega];omega
def sf{l:List UInt8}{k:Nat}(h:k<l.length):eN 0 (l.take (k+1))=eN 0 (l.take k)+(l[k].toNat:Int)*(k+1):=by
 rw[aec h,Fa];simp[eN,aes,ahd (ahh h)]
def CP:∀(l r:List (List UInt8))(k:Nat),dM k (l++r)=dM k l+dM (k+l.length) r
 |[],r,k=>by simp[dM]
 |b::l,r,k=>by
  show eN 0 b*(k+1)+dM (k+1) (l++r)=eN 0 b*(k+1)+dM (k+1) l+_;rw[CP l r (k+1),List.length_cons,show k+1+l.length=k+(l.length+1) by omega];omega
def q_{l:List (List UInt8)}{k:Nat}(h:k<l.length):dM 0 (l.take (k+1))=dM 0 (l.take k)+eN 0 l[k]*(k+1):=by
 rw[aec h,CP];simp[dM,aes,ahd (ahh h)]
def wh(b:UInt8):b.toNat<=255:=by have:=UInt8.toNat_lt b;omega
def mN:∀(l:List UInt8)(k:Nat),k+l.length<=10000->0<=eN k l/\eN k l<=2550000*l.length
 |[],k,_=>by simp[eN]
 |b::l,k,h=>by
  have ih:=mN l (k+1) (by simp at h;omega);have hb:=wh b;have h1:(b.toNat:Int)*(k+1)<=255*10000:=ae6 zo (by simp at h;omega) zo zo;have h2:0<=(b.toNat:Int)*(k+1):=ae3 zo zo;show 0<=(b.toNat:Int)*(k+1)+eN (k+1) l/\(b.toNat:Int)*(k+1)+eN (k+1) l<=_;rw[List.length_cons];omega
def nA:∀(l:List (List UInt8))(k:Nat),k+l.length<=1000->(∀p∈l,p.length<=10000)->0<=dM k l/\dM k l<=25500000000000*l.length
 |[],k,_,_=>by simp[dM]
 |b::l,k,h,hp=>by
  have ih:=nA l (k+1) (by simp at h;omega) λx hx=>hp x (aei _ hx)
  have hb:=hp b aen;have hl:=mN b 0 zo;have h1:eN 0 b*(k+1)<=25500000000*1000:=ae6 zo (by simp at h;omega) zo zo;have h2:0<=eN 0 b*(k+1):=ae3 zo zo;show 0<=eN 0 b*(k+1)+dM (k+1) l/\eN 0 b*(k+1)+dM (k+1) l<=_;rw[List.length_cons];omega
def Dn(c:UInt8):∀l:List (List UInt8),Lib.join l [c]=fL c l
 |[]=>rfl
 |[p]=>by rw[Lib.join_one];rfl
 |p::q::r=>by
  rw[iw c p ah7,<-Dn c (q::r),Lib.join_cons,Lib.join_cons];simp[Lib.joinTail]
def og(c:UInt8)(l:List UInt8):((bL c l).map λp=>p.length+1).sum=l.length+1:=by
 have h:=yQ c (mD c l);rw[CR]at h;exact h.symm
def B0:∀L:List (List UInt8),L.length<=(L.map λp=>p.length+1).sum
 |[]=>ah7
 |p::L=>by
  have:=B0 L;rw[aer,List.sum_cons,List.length_cons];omega
def CW:∀{L:List (List UInt8)}{p:List UInt8},p∈L->p.length+1<=(L.map λp=>p.length+1).sum
 |q::L,p,h=>by
  rw[aer,List.sum_cons];rcases aeD.1 h with rfl|h
  .omega
  .have:=CW h;omega
def fZ(c:UInt8)(l:List UInt8):(bL c l).length<=l.length+1:=by
 have:=B0 (bL c l);rw[og]at this;exact this
def fc{c:UInt8}{l p:List UInt8}(h:p∈bL c l):p.length<=l.length:=by
 have:=CW h;rw[og]at this;omega
def n9{ws:List (List UInt8)}{l:List Int}(h:fJ ws=.ok l):l.length=ws.length:=by
 rw[(se h).2,aef]
def zH{w:List UInt8}{l:List Int}(h:jn w=.ok l):l.length<=w.length+1:=by
 unfold jn at h;split at h
 .cases h;simp
 .rw[n9 h];exact fZ 44 w
def zn{L:List (List UInt8)}{b:Nat}(h:∀p∈L,p.length<=b)(i:Nat):(L[i]?.getD []).length<=b:=by
 cases e:L[i]? with
 |none=>simp
 |some p=>exact h p (afk e)
structure Grown(b:Nat)(x:bw)(k:Nat):Prop where
 bJ:x.bJ.length<=k
 bK:x.bK.length<=k
 words:x.words.length<=k
 cb:∀w∈x.words,w.cb.length<=b
 dq:∀w∈x.words,w.dq.length<=b
def Grown.mono{b k k':Nat}{x:bw}(h:Grown b x k)(hk:k<=k'):Grown b x k':=⟨by have:=h.bJ;omega,by have:=h.bK;omega,by have:=h.words;omega,h.cb,h.dq⟩
def Aj{x y:bw}{r:List UInt8}{b k:Nat}(hr:r.length+1<=b)(hx:Grown b x k)(h:eY x r=.ok y):Grown b y (k+1)/\4<=r.length:=by
 have hp:∀p∈(bL 32 r).tail,p.length<=r.length:=λp hp=>fc (List.mem_of_mem_tail hp)
 have xC:((bL 32 r).headD []).length<=r.length:=by
  cases e:bL 32 r with
  |nil=>exact absurd e (mD 32 r)
  |cons p l=>exact fc (c:=32) (by rw[e];exact aen)
 have hm:=hx.mono (Nat.le_succ k);unfold eY at h;simp only at h;split at h
 .rename_i hc;rw[hc.1]at xC;obtain⟨n,hn,h⟩:=eO h;cases h;exact⟨⟨hm.bJ,hm.bK,hm.words,hm.cb,hm.dq⟩,by simp[ot]at xC;omega⟩
 split at h
 .rename_i hc;rw[hc.1]at xC;obtain⟨n,hn,h⟩:=eO h;cases h;exact⟨⟨hm.bJ,hm.bK,hm.words,hm.cb,hm.dq⟩,by simp[ou]at xC;omega⟩
 split at h
 .rename_i hc;rw[hc.1]at xC;obtain⟨n,hn,h⟩:=eO h;cases h;have h1:=n9 hn;have h2:=hx.bJ;exact⟨⟨by simp;omega,hm.bK,hm.words,hm.cb,hm.dq⟩,by simp[pg]at xC;omega⟩
 split at h
 .rename_i hc;rw[hc.1]at xC;obtain⟨n,hn,h⟩:=eO h;cases h;have h2:=hx.bK;exact⟨⟨hm.bJ,by simp;omega,hm.words,hm.cb,hm.dq⟩,by simp[oV]at xC;omega⟩
 split at h
 .rename_i hc;rw[hc.1]at xC;obtain⟨a,ha,h⟩:=eO h;obtain⟨c,j6,h⟩:=eO h;cases h;have h2:=hx.words;have h3:=zH ha;have h4:=zH j6;have h5:=zn hp 1;have h6:=zn hp 2;refine⟨⟨hm.bJ,hm.bK,by simp;omega,?_,?_⟩,by simp[lg]at xC;omega⟩
  .intro w hw;rcases aeg.1 hw with hw|hw
   .exact hx.cb w hw
   .rw[aev]at hw;subst hw;show a.length<=b;omega
  .intro w hw;rcases aeg.1 hw with hw|hw
   .exact hx.dq w hw
   .rw[aev]at hw;subst hw;show c.length<=b;omega
 .cases h
def qV{b:Nat}:∀{L:List (List UInt8)}{x y:bw}{k:Nat},(∀r∈L,r.length+1<=b)->Grown b x k->dO eY x L=.ok y->Grown b y (k+L.length)/\5*L.length<=(L.map λp=>p.length+1).sum
 |[],x,y,k,_,hx,h=>by cases h;exact⟨hx,ah7⟩
 |r::L,x,y,k,hr,hx,h=>by
  have h:c_ (eY x r) (λa=>dO eY a L)=.ok y:=h;obtain⟨a,ha,h⟩:=eO h;obtain⟨h1,h2⟩:=Aj (hr r aen) hx ha;obtain⟨h3,h4⟩:=qV (λq hq=>hr q (aei _ hq)) h1 h;rw[aer,List.sum_cons,List.length_cons];exact⟨h3.mono zo,zo⟩
def iU(b:Nat):Grown b cn 0:=⟨aed _,aed _,aed _,λ_ h=>(ae1 h).elim,λ_ h=>(ae1 h).elim⟩
def wO{α β:Type}{f:α->β->Except (List UInt8) α}{x:α}{L:List β}{i:Nat}(hi:i<L.length){y:α}(h:dO f x (L.take i)=.ok y):dO f x (L.take (i+1))=f y L[i]:=by
 rw[aec hi,pE h];show c_ (f y L[i]) (λa=>.ok a)=_
 cases f y L[i]<;>rfl
def si{α β:Type}{f:α->β->Except (List UInt8) α}:∀{L:List β}{x y:α}{i:Nat}(hi:i<L.length){e:List UInt8},dO f x (L.take i)=.ok y->f y L[i]=.error e->dO f x L=.error e
 |[],x,y,i,hi,_,_,_=>by simp at hi
 |b::L,x,y,0,_,e,h,he=>by
  cases h;show c_ (f x b) (λa=>dO f a L)=_;rw[show(b::L)[0]=b from rfl]at he;rw[he];rfl
 |b::L,x,y,i+1,hi,e,h,he=>by
  rw[List.take_succ_cons]at h;have h:c_ (f x b) (λa=>dO f a (L.take i))=.ok y:=h;obtain⟨a,ha,h⟩:=eO h;show c_ (f x b) (λa=>dO f a L)=_;rw[ha];exact si (L:=L) (by simpa using hi) h (by simpa using he)
def sq{c:UInt8}:∀{l:List (List UInt8)},l≠[]->(∀p∈l,¬c∈p)->bL c (fL c l)=l
 |[],h,_=>absurd rfl h
 |[p],_,h=>vX (h p aen)
 |p::q::r,_,h=>by
  rw[iw c p ah7,qf (h p aen),sq ah7 (λx hx=>h x (aei _ hx))]
def om{n:Int}(h:eE n):bW n≠[]/\(bW n).length<=3/\(∀c∈bW n,digit c)/\da (bW n)=n:=by
 obtain⟨m,rfl⟩:∃m:Nat,n=m:=⟨n.toNat,by have:=h.1;omega⟩
 have hm:m<1000:=by have:=h.2;omega
 unfold bW;rw[Int.toNat_natCast]
 by_cases h1:m<10
 .rw[zx h1];have e:=sD h1;refine⟨ah7,ah7,?_,?_⟩
  .intro c hc;rw[aev]at hc;subst hc;unfold digit;omega
  .simp[da,e];omega
 by_cases h2:m<100
 .rw[zO zo h2];have e1:=sD (n:=m/10) zo;have e2:=sD (n:=m % 10) zo;refine⟨ah7,ah7,?_,?_⟩
  .intro c hc;simp only[aeD,ae1,agF]at hc
   rcases hc with rfl|rfl<;>unfold digit<;>omega
  .simp[da,e1,e2];omega
 .rw[yD zo hm];have e1:=sD (n:=m/100) zo;have e2:=sD (n:=m/10 % 10) zo;have e3:=sD (n:=m % 10) zo;refine⟨ah7,ah7,?_,?_⟩
  .intro c hc;simp only[aeD,ae1,agF]at hc
   rcases hc with rfl|rfl|rfl<;>unfold digit<;>omega
  .simp[da,e1,e2,e3];omega
def J4{n:Int}(h:eE n){c:UInt8}(hc:¬digit c):¬c∈bW n:=λhm=>hc ((om h).2.2.1 c hm)
def G2{ws:List (List UInt8)}{m:Nat}{l:List Int}(h:kP ws m=.ok l):ws.all fP=true/\ws.length=m/\l=ws.map da:=by
 unfold kP at h;split at h
 .rename_i hc;cases h;exact⟨hc.1,hc.2,rfl⟩
 .cases h
def zN{w:List UInt8}{l:List Int}(h:lM w=.ok l):l.length<=w.length+1:=by
 unfold lM at h;split at h
 .cases h;simp
 .split at h
  .cases h;rw[aef];exact fZ 44 w
  .cases h
def E_{r:List UInt8}{ws:List (List UInt8)}(hw:ws=(bL 32 r).tail)(hg:ws.all fP=true)(h1:1<=ws.length):2<=r.length:=by
 have hs:=og 32 r
 cases e:bL 32 r with
 |nil=>exact absurd e (mD 32 r)
 |cons nm tl=>
  rw[e]at hs hw;rw[List.tail_cons]at hw;subst hw
  match ws,h1,hg,hs with
  |w::tl,_,hg,hs=>
   rw[List.all_cons,aeb]at hg;have dR:=(kq.1 hg.1).1;have hl:=afi.2 dR;simp only[aer,List.sum_cons]at hs;omega
def zF{x y:bw}{r:List UInt8}{b k:Nat}(hr:r.length+1<=b)(hx:Grown b x k)(h:fY x r=.ok y):Grown b y (k+1)/\2<=r.length:=by
 have hp:∀p∈bL 32 r,p.length<=r.length:=λp hp=>fc hp
 have hm:=hx.mono (Nat.le_succ k);unfold fY at h;simp only at h;split at h
 .rename_i hc;obtain⟨a,ha,h⟩:=eO h;obtain⟨c,j6,h⟩:=eO h;cases h;have h2:=hx.words;have h3:=zN ha;have h4:=zN j6;have h5:=zn hp 2;have h6:=zn hp 3
  have xC:((bL 32 r).headD []).length<=r.length:=by
   cases e:bL 32 r with
   |nil=>exact absurd e (mD 32 r)
   |cons p l=>exact fc (c:=32) (by rw[e];exact aen)
  rw[hc.1]at xC;refine⟨⟨hm.bJ,hm.bK,by simp;omega,?_,?_⟩,by simp[lg]at xC;omega⟩
  .intro w hw;rcases aeg.1 hw with hw|hw
   .exact hx.cb w hw
   .rw[aev]at hw;subst hw;show a.length<=b;omega
  .intro w hw;rcases aeg.1 hw with hw|hw
   .exact hx.dq w hw
   .rw[aev]at hw;subst hw;show c.length<=b;omega
 .split at h
  .rename_i n hn;cases h;obtain⟨h1,h2,h3⟩:=G2 hn;have h4:=hx.bJ;exact⟨⟨by simp;omega,hm.bK,hm.words,hm.cb,hm.dq⟩,E_ rfl h1 zo⟩
  .obtain⟨n,hn,h⟩:=eO h;cases h;obtain⟨h1,h2,h3⟩:=G2 hn;have h4:=hx.bK;exact⟨⟨hm.bJ,by simp;omega,hm.words,hm.cb,hm.dq⟩,E_ rfl h1 zo⟩
def Ac{b:Nat}:∀{L:List (List UInt8)}{x y:bw}{k:Nat},(∀r∈L,r.length+1<=b)->Grown b x k->dO fY x L=.ok y->Grown b y (k+L.length)/\3*L.length<=(L.map λp=>p.length+1).sum
 |[],x,y,k,_,hx,h=>by cases h;exact⟨hx,ah7⟩
 |r::L,x,y,k,hr,hx,h=>by
  have h:c_ (fY x r) (λa=>dO fY a L)=.ok y:=h;obtain⟨a,ha,h⟩:=eO h;obtain⟨h1,h2⟩:=zF (hr r aen) hx ha;obtain⟨h3,h4⟩:=Ac (λq hq=>hr q (aei _ hq)) h1 h;rw[aer,List.sum_cons,List.length_cons];exact⟨h3.mono zo,zo⟩
def y_{α β:Type}{f:α->β->Except (List UInt8) α}{I:α->Prop}(hf:∀a b a',I a->f a b=.ok a'->I a'):∀{l:List β}{a b:α},I a->dO f a l=.ok b->I b
 |[],a,b,h,e=>by cases e;exact h
 |x::l,a,b,h,e=>by
  obtain⟨a',h1,h2⟩:=eO (show c_ (f a x) (λa'=>dO f a' l)=.ok b from e);exact y_ hf (hf a x a' h h1) h2
def P_{t:List UInt8}{x:bw}(h:jq t=.ok x):fb x=t/\j4 x:=by
 unfold jq at h;split at h
 .cases h
 .obtain⟨y,hy,h⟩:=eO h;split at h
  .rename_i ht;cases h;exact⟨ht,y_ (I:=j4) (λa b a' ha uT=>CO ha uT) qW hy⟩
  .cases h
end Go.Proofs.Tryz
namespace Go.Proofs.Tryz
open Go Go.AL Go.RowKit Go.Proofs Go.Proofs.Tram
attribute [local simp] aU bB bm aO aV aJ aK av az aW aw ao bO bP an ar ev aM.S aM.H bj aF bl AL.start AV.cells AV.storable AV.aZ aP bt bV bu HR.okB post bQ bG bH AV.out AV.aX aG aL fz cL AV.vw bT vI int a_ aq bD bq cd cj bZ bI aI AV.bC AV.dE
variable{GI:World->Prop}
def ny(s:bw)(out:List Int)(es:List End)(st:Int):Int:=firstT (λn=>decide (s.wide<n)) (gj s out es st)
def Sb{s:bw}{out:List Int}{es:List End}{st:Int}:((gj s out es st).all λn=>decide (n<=s.wide))=decide (ny s out es st<0):=by
 have h:=oq (p:=λn=>decide (s.wide<n)) (l:=gj s out es st)
 have e:((gj s out es st).all λn=>decide (n<=s.wide))=!((gj s out es st).any λn=>decide (s.wide<n)):=by
  rw[aeW];simp
 rw[e,<-h];unfold ny
 by_cases hz:0<=firstT (λn=>decide (s.wide<n)) (gj s out es st)
 .have:¬firstT (λn=>decide (s.wide<n)) (gj s out es st)<0:=zo
  simp[hz,this]
 .have:firstT (λn=>decide (s.wide<n)) (gj s out es st)<0:=zo
  simp[hz,this]
def Dr(s:bw)(out:List Int)(es:List End)(st:Int):jr:=if ny s out es st<0 then .ret (.ea [])else .panic (.iface 190 (.agg [.int .i64 (ny s out es st)]))
def Zi(hG:aQ GI)(s:bw)(gC:cN s=true)(out:List Int)(ho:out.length<1000000)(es:List End)(he:es.length<100000)(g:Good s out es){st:Int}(h0:0<=st)(h1:st<=10):AC prog GI 169 [.ref (cw s),.ref [vI out,.slice .view (es.map dz)],.ref [.int .i64 st]] (Dr s out es st):=by
 have hlw:=JC s out es st;refine dF hG func169 ntmps169 c169 ?_;refine aY (λS H=>S 0=.ref (cw s)/\S 2=.ref [.int .i64 st]/\S 7=.slice .view (iR s out es es.length)/\S 8=.int .i64 es.length/\S 9=.int .i64 0) ?_ ?_
 .simp[cw,ai,dL];refine oc (aaK hG s gC out ho es he g) ?_;simp[Cm]
 rintro S H ⟨s0,s2,s7,s8,s9⟩;simp[s0,s2,s7,s8,s9];refine cK 9 es.length (λi S H=>S 0=.ref (cw s)/\S 2=.ref [.int .i64 st]/\S 7=.slice .view (iR s out es es.length)/\S 8=.int .i64 es.length/\S 9=.int .i64 (i:Nat)/\∀j (hj:j<(gj s out es st).length),j<i->decide (s.wide<(gj s out es st)[j])=false) (λi S H h=>h.2.2.2.2.1) ⟨by simp[s0],by simp[s2],by simp[s7],by simp[s8],by simp[s9],λj _ hj=>absurd hj (ahi _)⟩ ?_;clear s0 s2 s7 s8 s9 S H;rintro i hi S H ⟨s0,s2,s7,s8,s9,hb⟩
 by_cases aN:i<es.length
 case neg=>
  have hn:ny s out es st<0:=by
   unfold ny;rw[lC λj hj=>hb j hj zo];decide
  unfold Dr;rw[if_pos hn];simp[s0,s2,s7,s8,s9,aN]
 have hw:IntKind.i64.wrap ((i:Int)+1)=i+1:=bU zo
 have KE:(iR s out es es.length)[i]?=some (.agg [.slice .view ((lj s out es i).map gA),.bool (mG s es i)]):=by
  unfold iR;rw[aeK,ah8 aN];rfl
 have nv:(gj s out es st)[i]' zo=sY s out es st i:=by unfold gj;simp
 refine aY (λS H=>S 0=.ref (cw s)/\S 2=.ref [.int .i64 st]/\S 7=.slice .view (iR s out es es.length)/\S 8=.int .i64 es.length/\S 9=.int .i64 (i:Nat)/\S 10=.bool true) (by simp[s0,s2,s7,s8,s9,aN]) ?_;clear s0 s2 s7 s8 s9 S H;rintro S H ⟨s0,s2,s7,s8,s9,cE⟩;refine AJ (by simp[cE]) ?_;refine zi ?_;refine aY (λS H=>S 0=.ref (cw s)/\S 2=.ref [.int .i64 st]/\S 7=.slice .view (iR s out es es.length)/\S 8=.int .i64 es.length/\S 9=.int .i64 (i:Nat)/\S 3=.int .i64 (i:Nat)/\S 4=.box 4 0/\H 4=some [.slice .view ((lj s out es i).map gA),.bool (mG s es i)]) (by simp[s0,s2,s7,s8,s9,aN,KE]) ?_;clear s0 s2 s7 s8 s9 cE S H;rintro S H ⟨s0,s2,s7,s8,s9,s3,s4,e4⟩;have a84:=ZF hG s gC (Nt g aN) (Hg gC g i) (λx hx=>Tj g hx) (mG s es i) h0 h1
 have WI:s.wide<sY s out es st i->ny s out es st=i:=λh=>by
  unfold ny;exact nP (i:=i) zo (by rw[nv];simpa using h) hb
 simp[s0,s2,s7,s8,s9,s3,s4,e4,cw,ai,dL];refine oc a84 ?_
 by_cases yc:s.wide<sY s out es st i
 .have Kf:s.wide<mu s st ((lj s out es i).map (dk s)) (mG s es i):=yc;have hf:=WI yc;unfold Dr;rw[if_neg zo,hf];simp[s0,s2,s7,s8,s9,s3,s4,e4,cw,ai,dL,Kf,EW,cD]
 .have Kf:¬s.wide<mu s st ((lj s out es i).map (dk s)) (mG s es i):=yc;simp[s0,s2,s7,s8,s9,s3,s4,e4,cw,ai,dL,Kf,hw,aN];intro j hj gL
  by_cases e:j=i
  .subst e;rw[nv];omega
  .have:=hb j hj zo;simpa using this
def TC(hG:aQ GI)(s:bw)(gC:cN s=true)(out:List Int)(ho:out.length<1000000)(es:List End)(he:es.length<100000)(g:Good s out es){st:Int}(h0:0<=st)(h1:st<=10):AC prog GI 153 [jf s,cU out es,.int .i64 st] (.ret (.bool (mc s out es st))):=by
 have a:=Zi hG s gC out ho es he g h0 h1
 have e:mc s out es st=(decide ((es.length:Int)<=s.rows)&&decide (ny s out es st<0)):=by unfold mc;rw[Sb]
 rw[e];refine dF hG func153 ntmps153 c153 ?_;refine aY (λS H=>S 3=.box 3 0/\S 4=.box 4 0/\S 5=.box 5 0/\H 3=some (cw s)/\H 4=some [vI out,.slice .view (es.map dz)]/\H 5=some [.int .i64 st]) (by simp[jf,cw,ai,dL,cU,ct]) ?_;rintro S H ⟨s3,s4,s5,e3,e4,e5⟩
 by_cases hr:(es.length:Int)<=s.rows
 case neg=>simp[s3,s4,s5,e3,e4,e5,cw,ai,dL,hr]
 unfold Dr at a
 by_cases hw:ny s out es st<0
 .rw[if_pos hw]at a;have b:=X6 hG (k:=169) zk a (.inl ⟨_,rfl,rfl⟩);simp[s3,s4,s5,e3,e4,e5,cw,ai,dL,hr];refine⟨_,zk,b,λ_=>rfl,?_⟩;simp[hw]
 .rw[if_neg hw]at a;have b:=X6 hG (k:=169) zk a (.inr (.inl ⟨_,rfl,rfl⟩));simp[s3,s4,s5,e3,e4,e5,cw,ai,dL,hr];refine⟨_,zk,b,λ_=>rfl,?_⟩;simp[hw]
def Cz{p:Int->Bool}:∀{n i:Nat},i<=n->(∀k:Nat,i<=k->k<n->p k=false)->BH p n=BH p i
 |0,i,h,_=>by rw[show i=0 by omega]
 |n+1,i,h,hp=>by
  by_cases e:i=n+1
  .rw[e]
  .rw[BH,hp n zo zo]
   exact Cz zo λk h1 h2=>hp k h1 zo
def P2(hG:aQ GI)(s:bw)(gC:cN s=true)(out:List Int)(ho:out.length<1000000)(es:List End)(he:es.length<100000)(g:Good s out es):AC prog GI 143 [jf s,cU out es] (.ret (.int .i64 (BM s out es))):=by
 refine dF hG func143 ntmps143 c143 ?_;refine aY (λS H=>S 2=.box 2 0/\S 3=.box 3 0/\H 2=some (cw s)/\H 3=some [vI out,.slice .view (es.map dz)]) (by simp[jf,cw,ai,dL,cU,ct]) ?_;rintro S H ⟨s2,s3,e2,e3⟩;simp[s2,s3,e2,e3];refine NU 5 11 (λi S H=>i<=11/\S 2=.box 2 0/\S 3=.box 3 0/\H 2=some (cw s)/\H 3=some [vI out,.slice .view (es.map dz)]/\S 5=.int .i64 ((i:Nat)-1)/\∀k:Nat,i<=k->k<11->mc s out es k=false) (λi S H h=>h.2.2.2.2.2.1) ⟨zo,by simp[s2],by simp[s3],by simp[e2],by simp[e3],ah7,λk h1 h2=>zo⟩ ?_;clear s2 s3 e2 e3 S H;rintro i hi S H ⟨_,s2,s3,e2,e3,s5,hb⟩;have hm:=Cz (p:=mc s out es) hi hb
 cases i with
 |zero=>
  have hm:BM s out es= -1:=hm;simp[s2,s3,e2,e3,s5,hm]
 |succ m=>
  have hm:BM s out es=if mc s out es m then(m:Int)else BH (mc s out es) m:=hm
  have rm:S 5=.int .i64 (m:Nat):=by rw[s5];congr 1;omega
  have U6:IntKind.i64.wrap ((m:Int)-1)=m-1:=bU zo;simp[s2,s3,e2,e3,rm,cw,ai,dL];refine oc (TC hG s gC out ho es he g zo zo) ?_;cases hf:mc s out es m
  .simp[s2,s3,e2,e3,rm,cw,ai,dL,U6];refine⟨zo,λk h1 h2=>?_⟩
   by_cases e:k=m
   .subst e;exact hf
   .exact hb k zo h2
  .rw[hf]at hm;simp at hm;simp[s2,s3,e2,e3,rm,cw,ai,dL,hm]
def yb{n:Int}(h:0<=n/\n<256):IntKind.u8.wrap n=n:=by
 unfold IntKind.wrap;simp[IntKind.bits,IntKind.signed];omega
def Ty{d:Nat}(h:d<10):bytesOf [AV.int .u8 (48+(d:Int))]=some [dg d]:=by
 have:(48+(d:Int))=((dg d).toNat:Int):=by rw[sD h];omega
 rw[this]
 have hb:((dg d).toNat:Int)<256:=by have:=sD h;omega
 simp[bytesOf,hb]
def qJ(n:Int):List UInt8:=if n<0 then 45::bW (-n)else bW n
def Br{n:Nat}(h:n<10):bW n=[dg n]:=by unfold bW;rw[Int.toNat_natCast,zx h]
def Em{n:Nat}(h0:10<=n):bW n=bW ((n/10:Nat):Int)++[dg (n % 10)]\/1000<=n:=by
 unfold bW;rw[Int.toNat_natCast,Int.toNat_natCast]
 by_cases h1:n<100
 .rw[zO h0 h1,zx zo];exact .inl rfl
 .by_cases h2:n<1000
  .rw[yD zo h2,zO zo zo];left;simp;rw[show n/10/10=n/100 by omega]
  .exact .inr zo
def WQ(hG:aQ GI):∀(d n:Nat),n<1000->n<10^d->AC prog GI 137 [.int .i64 (n:Nat)] (.ret (.str (bW n))):=by
 intro d
 induction d with
 |zero=>
  intro n hn h
  have:n=0:=by simp at h;omega
  subst this;rw[Br zo];have hd:=Ty (d:=0) zo;have hw:IntKind.i64.wrap 48=48:=bU zo;have h8:IntKind.u8.wrap 48=48:=yb zo;simp at hd;have df:br 1 [AV.int .u8 48]=true:=rfl;refine dF hG func137 ntmps137 c137 ?_;simp[c137,hw,h8,hd,df]
 |succ d ih=>
  intro n hn h
  have e1:(-10:Int)<n:=zo
  have e2:¬(n:Int)<0:=zo
  by_cases oL:n<10
  .have V8:(n:Int)<10:=zo
   rw[Br oL];have hd:=Ty oL;have hw:IntKind.i64.wrap (48+(n:Int))=48+n:=bU zo;have h8:IntKind.u8.wrap (48+(n:Int))=48+n:=yb zo;have df:br 1 [AV.int .u8 (48+(n:Int))]=true:=rfl;refine dF hG func137 ntmps137 c137 ?_;simp[c137,e1,e2,oL,V8,hw,h8,hd,df]
  .have V8:¬(n:Int)<10:=zo
   have hm:bW n=bW ((n/10:Nat):Int)++[dg (n % 10)]:=by
    rcases Em (n:=n) zo with h|h
    .exact h
    .omega
   have a:=ih (n/10) zo (by rw[Nat.pow_succ]at h;omega)
   have hq:IntKind.i64.wrap ((n:Int).tdiv 10)=((n/10:Nat):Int):=by
    rw[bU]
    .rw[aeZ zo];omega
    .rw[aeZ zo];omega
   have hr:(n:Int).tmod 10=((n % 10:Nat):Int):=by
    rw[aeR zo];omega
   have hd:=Ty (d:=n % 10) zo;have hw:IntKind.i64.wrap (48+((n % 10:Nat):Int))=48+((n % 10:Nat):Int):=bU zo;have h8:IntKind.u8.wrap (48+((n % 10:Nat):Int))=48+((n % 10:Nat):Int):=yb zo;have hl:(bW ((n/10:Nat):Int)).length<=3:=(fO ⟨zo,zo⟩).1
   have pk:(bW ((n/10:Nat):Int)).length+1<1073741824:=zo
   have Jb:IntKind.i64.wrap ((n:Int)/10)=((n/10:Nat):Int):=by rw[bU zo];omega
   have hr2:(n:Int) % 10=((n % 10:Nat):Int):=zo
   have df:br 1 [AV.int .u8 (48+((n % 10:Nat):Int))]=true:=rfl;rw[hm]
   generalize bW ((n/10:Nat):Int)=u at*
   generalize hz:((n % 10:Nat):Int)=z at*
   generalize hy:((n/10:Nat):Int)=y at*
   generalize dg (n % 10)=g at*
   refine dF hG func137 ntmps137 c137 ?_;simp[c137,e1,e2,oL,V8,hq,Jb];refine oc a ?_;simp[hr,hr2,hw,h8,hd,pk,df]
def tM(hG:aQ GI){n:Int}(h:eE n):AC prog GI 137 [.int .i64 n] (.ret (.str (bW n))):=by
 obtain⟨m,rfl⟩:∃m:Nat,n=m:=⟨n.toNat,by have:=h.1;omega⟩
 exact WQ hG 3 m (by have:=h.2;omega) (by have:=h.2;omega)
def Be(hG:aQ GI)(nm:List UInt8)(l:List Int)(hn:nm.length<1000)(hl:l.length<1000)(h:fS l):AC prog GI 105 [.str nm,vI l] (.ret (.str (gQ nm (l.map bW)))):=by
 rw[Fe]
 have AE:∀i,(ql (l.take i)).length<=4*1000:=λi=>by
  have:=Fw (l:=l.take i) λx hx=>h x (aeL hx)
  rw[aes]at this;omega
 refine dF hG func105 ntmps105 c105 ?_;simp[c105];refine cK 5 l.length (λi S H=>S 1=vI l/\S 5=.int .i64 (i:Nat)/\S 0=.str (nm++ql (l.take i))) (λi S H h=>h.2.1) ⟨ah7,ah7,by simp[ql]⟩ ?_;rintro i hi S H ⟨s1,s5,s0⟩
 by_cases aN:i<l.length
 case neg=>
  have dV:i=l.length:=zo
  subst dV;rw[aee (aed _)]at s0;simp[s1,s5,s0]
 have hw:IntKind.i64.wrap ((i:Int)+1)=i+1:=bU zo;have hN:=h _ (ad2 aN);have G4:=tM hG hN;have O6:=(fO hN).1;have ht:=AE i;rw[NN aN]
 generalize ql (l.take i)=t at*
 generalize bW l[i]=d at*
 have c1:nm.length+(t.length+1)<1073741824:=zo
 have c2:nm.length+(t.length+(1+d.length))<1073741824:=zo
 have c2':nm.length+(t.length+(d.length+1))<1073741824:=zo
 have c3:nm.length+t.length+1<1073741824:=zo
 have c4:nm.length+t.length+1+d.length<1073741824:=zo
 have c5:nm.length+(t.length+1)+d.length<1073741824:=zo
 simp[s1,s5,s0,aN,c1,c3];refine oc G4 ?_;simp[s1,s5,s0,aN,hw,c1,c2,c2',c3,c4,c5]
def Uo(hG:aQ GI)(l:List Int)(hl:l.length<1000)(h:fS l):AC prog GI 107 [vI l] (.ret (.str (gh l))):=by
 by_cases h0:l=[]
 .subst h0;have:gh []=[45]:=rfl;rw[this];refine dF hG func107 ntmps107 c107 ?_;simp[c107]
 have vC:((l.length:Int)==0)=false:=by have:=afi.2 h0;simp;omega
 have hT:gh l=oH l l.length:=by unfold gh oH;rw[if_neg h0,aee (aed _)]
 rw[hT];refine dF hG func107 ntmps107 c107 ?_;simp[c107,vC,h0];refine cK 4 l.length (λi S H=>S 0=vI l/\S 4=.int .i64 (i:Nat)/\S 3=.str (oH l i)) (λi S H h=>h.2.1) ⟨ah7,ah7,by simp[oH,fL]⟩ ?_;rintro i hi S H ⟨s0,s4,s3⟩
 by_cases aN:i<l.length
 case neg=>
  have dV:i=l.length:=zo
  subst dV;simp[s0,s4,s3]
 have hw:IntKind.i64.wrap ((i:Int)+1)=i+1:=bU zo;have hN:=h _ (ad2 aN);have G4:=tM hG hN;have O6:=(fO hN).1;have ht:=yE h i;rw[LX aN]
 generalize oH l i=t at*
 generalize bW l[i]=d at*
 by_cases hp:0<i
 .have wu:(0:Int)<i:=zo
  have c1:t.length+1<1073741824:=zo
  have c2:t.length+1+d.length<1073741824:=zo
  have c3:t.length+(d.length+1)<1073741824:=zo
  simp[s0,s4,s3,aN,hp,c1];refine oc G4 ?_;simp[s0,s4,s3,aN,hw,hp,c1,c2,c3]
 .have wu:i=0:=zo
  subst wu
  have c2:t.length+d.length<1073741824:=zo
  have qk:IntKind.i64.wrap 1=1:=bU zo;simp[s0,s4,s3,aN];refine oc G4 ?_;simp[s0,s4,s3,aN,hw,qk,c2]
def aaA(hG:aQ GI)(l:List (List UInt8))(hl:l.length<1000)(h:∀p∈l,p.length<10000):AC prog GI 106 [strs l,.int .i64 173] (.ret (.str (AT l))):=by
 rw[Cy]
 have pJ:∀i,(eL (l.take i)).length<=10000*1000:=λi=>by
  have:=uu (l:=l.take i) (b:=10000) λx hx=>h x (aeL hx)
  have h2:10000*(l.take i).length<=10000*1000:=agn _ (by rw[aes];omega);omega
 have km:∀i,0<=dM 0 (l.take i)/\dM 0 (l.take i)<=25500000000000000:=λi=>by
  have:=nA (l.take i) 0 (by rw[aes];omega) λx hx=>by have:=h x (aeL hx);omega
  rw[aes]at this;omega
 refine dF hG func106 ntmps106 c106 ?_;simp[c106];refine cK 7 l.length (λi S H=>S 0=strs l/\S 1=.int .i64 173/\S 7=.int .i64 (i:Nat)/\S 5=.str (eL (l.take i))/\S 6=.int .i64 (dM 0 (l.take i))) (λi S H h=>h.2.2.1) ⟨by simp[strs],ah7,ah7,by simp[eL],by simp[dM]⟩ ?_;rintro i hi S H ⟨s0,s1,s7,s5,s6⟩
 by_cases aN:i<l.length
 case neg=>
  have dV:i=l.length:=zo
  subst dV;rw[aee (aed _)]at s5 s6;have hf:=pJ l.length;have hc:=km l.length;rw[aee (aed _)]at hf hc
  generalize eL l=F at*
  obtain⟨c,P4⟩:∃c:Nat,dM 0 l=c:=⟨(dM 0 l).toNat,zo⟩
  rw[P4]at s6⊢
  have hm:(c:Int).tmod 173=((c % 173:Nat):Int):=by rw[aeR zo];omega
  have vy:(c:Int) % 173=((c % 173:Nat):Int):=zo
  have Ul:c % 173<173:=agT _ zo;rw[vy]
  generalize c % 173=r at*
  have n1:eE ((r:Int)/100):=⟨zo,zo⟩
  have n2:eE ((r:Int)/10 % 10):=⟨zo,zo⟩
  have n3:eE ((r:Int) % 10):=⟨zo,zo⟩
  have q1:IntKind.i64.wrap ((r:Int)/100)=(r:Int)/100:=bU zo;have q2:IntKind.i64.wrap ((r:Int)/10)=(r:Int)/10:=bU zo;have t1:(r:Int).tdiv 100=(r:Int)/100:=aeZ zo;have t2:(r:Int).tdiv 10=(r:Int)/10:=aeZ zo;have t3:((r:Int)/10).tmod 10=(r:Int)/10 % 10:=aeR zo;have t4:(r:Int).tmod 10=(r:Int) % 10:=aeR zo;have a1:=tM hG n1;have a2:=tM hG n2;have a3:=tM hG n3;have d1:=(fO n1).1;have d2:=(fO n2).1;have d3:=(fO n3).1;have hE:nc (r:Int)=[101,110,100,32]++bW ((r:Int)/100)++bW ((r:Int)/10 % 10)++bW ((r:Int) % 10):=rfl;rw[hE]
  generalize bW ((r:Int)/100)=u at*
  generalize bW ((r:Int)/10 % 10)=v at*
  generalize bW ((r:Int) % 10)=w at*
  have e1:F.length+(u.length+1+1+1+1)+v.length<1073741824:=zo
  have e2:F.length+(u.length+v.length+1+1+1+1)+w.length<1073741824:=zo
  have e3:F.length+(u.length+(v.length+w.length)+1+1+1+1)+1<1073741824:=zo
  have e4:F.length+(u.length+v.length+w.length+1+1+1+1)+1<1073741824:=zo
  have b1:F.length+4<1073741824:=zo
  have b2:F.length+(u.length+4)<1073741824:=zo
  have b3:F.length+(v.length+u.length+4)<1073741824:=zo
  have b4:F.length+4+u.length<1073741824:=zo
  have b5:F.length+4+u.length+v.length<1073741824:=zo
  have b6:F.length+4+u.length+v.length+w.length<1073741824:=zo
  have b7:F.length+4+u.length+v.length+w.length+1<1073741824:=zo
  simp[s0,s1,s7,s5,s6,strs,hm,vy,q1,q2,t1,t2,t3,t4,b1];refine oc a1 ?_;simp[s0,s1,s7,s5,s6,strs,hm,vy,q1,q2,t1,t2,t3,t4,b1,b4];refine oc a2 ?_;simp[s0,s1,s7,s5,s6,strs,hm,vy,q1,q2,t1,t2,t3,t4,b1,b4,b5,e1];refine oc a3 ?_;simp[s0,s1,s7,s5,s6,strs,hm,vy,q1,q2,t1,t2,t3,t4,b1,b4,b5,e1,e2,e3,e4]
 have hw:IntKind.i64.wrap ((i:Int)+1)=i+1:=bU zo;have hp:=h _ (ad2 aN);have hf:=pJ i;have hc:=km i;have vV:eL (l.take (i+1))=eL (l.take i)++l[i]++[10]:=sB aN;have wM:=q_ aN
 have Fc:∀k,0<=eN 0 (l[i].take k)/\eN 0 (l[i].take k)<=25500000000:=λk=>by
  have:=mN (l[i].take k) 0 (by rw[aes];omega);rw[aes]at this;omega
 rw[vV,wM];clear vV wM
 generalize eL (l.take i)=F at*
 generalize dM 0 (l.take i)=c at*
 have jL:(l.map AV.str)[i]?=some (.str l[i]):=by rw[aeK,ad_ aN];rfl
 generalize tr:l[i]=p at*
 refine aY (λS H=>S 0=strs l/\S 1=.int .i64 173/\S 7=.int .i64 (i:Nat)/\S 5=.str F/\S 6=.int .i64 c) (by simp[s0,s1,s7,s5,s6,strs,aN]) ?_;clear s0 s1 s7 s5 s6 S H;rintro S H ⟨s0,s1,s7,s5,s6⟩;refine aY (λS H=>S 0=strs l/\S 1=.int .i64 173/\S 7=.int .i64 (i:Nat)/\S 5=.str (F++p++[10])/\S 6=.int .i64 (c+eN 0 p*(i+1))) ?_ ?_
 .refine kC ?_;refine aY (λS H=>S 0=strs l/\S 1=.int .i64 173/\S 7=.int .i64 (i:Nat)/\S 5=.str F/\S 6=.int .i64 (c+eN 0 p*(i+1))) ?_ ?_
  .simp[s0,s1,s7,s5,s6];refine cK 8 p.length (λk S H=>S 0=strs l/\S 1=.int .i64 173/\S 7=.int .i64 (i:Nat)/\S 5=.str F/\S 8=.int .i64 (k:Nat)/\S 6=.int .i64 (c+eN 0 (p.take k)*(i+1))) (λi S H h=>h.2.2.2.2.1) ⟨by simp[s0],by simp[s1],by simp[s7],by simp[s5],ah7,by simp[s6,eN]⟩ ?_;clear s0 s1 s7 s5 s6 S H;rintro k hk S H ⟨s0,s1,s7,s5,s8,s6⟩
   by_cases jW:k<p.length
   case neg=>
    have dp:k=p.length:=zo
    subst dp;rw[aee (aed _)]at s6;simp[s0,s1,s7,s5,s8,s6,strs,aN,tr]
   have tF:IntKind.i64.wrap ((k:Int)+1)=k+1:=bU zo;have pn:=Fc k;have IE:=wh p[k];rw[sf jW]
   generalize eN 0 (p.take k)=u at*
   generalize Qd:p[k].toNat=y at*
   have Z0:p[k]?=some p[k]:=ad_ jW;have m1:(y:Int)*(k+1)<=255*10000:=ae6 zo zo zo zo;have m0:0<=(y:Int)*(k+1):=ae3 zo zo;have m2:(y:Int)*(k+1)*(i+1)<=2550000*1000:=ae6 zo zo zo zo;have m3:0<=(y:Int)*(k+1)*(i+1):=ae3 zo zo;have m4:u*(i+1)<=25500000000*1000:=ae6 zo zo zo zo;have m5:0<=u*(i+1):=ae3 zo zo;have w0:IntKind.i64.wrap (y:Int)=y:=bU zo;have w1:IntKind.i64.wrap ((y:Int)*(k+1))=(y:Int)*(k+1):=bU zo;have w2:IntKind.i64.wrap ((y:Int)*(k+1)*(i+1))=(y:Int)*(k+1)*(i+1):=bU zo
   have w3:IntKind.i64.wrap (c+u*(i+1)+(y:Int)*(k+1)*(i+1))=c+(u+(y:Int)*(k+1))*(i+1):=by
    rw[bU zo,ahp];omega
   simp[s0,s1,s7,s5,s8,s6,strs,aN,tr,jW,Qd,w0,w1,w2,w3,hw,tF]
  clear s0 s1 s7 s5 s6 S H;rintro S H ⟨s0,s1,s7,s5,s6⟩
  have b1:F.length+p.length<1073741824:=zo
  have b2:F.length+p.length+1<1073741824:=zo
  have b3:F.length+(p.length+1)<1073741824:=zo
  simp[s0,s1,s7,s5,s6,strs,aN,tr,b1,b2,b3]
 clear s0 s1 s7 s5 s6 S H;rintro S H ⟨s0,s1,s7,s5,s6⟩;simp[s0,s1,s7,s5,s6,strs,hw,aN]
def tc(hG:aQ GI)(l:List (List UInt8))(w:List UInt8)(hl:l.length<1000000)(k:Nat)(hk:k<l.length)(he:l[k]=w)(dR:∀j (h:j<k),l[j]≠w):AC prog GI 130 [strs l,.str w] (.ret (.int .i64 k)):=by
 refine dF hG func130 ntmps130 c130 ?_;refine aY (λS H=>S 0=strs l/\S 1=.str w) (by simp[strs]) ?_;rintro S H ⟨s0,s1⟩;simp[s0,s1,strs];refine cK 8 l.length (λi S H=>i<=k/\S 0=strs l/\S 1=.str w/\S 7=.int .i64 (l.length:Nat)/\S 8=.int .i64 (i:Nat)) (λi S H h=>h.2.2.2.2) ⟨ae2 _,by simp[s0,strs],by simp[s1],ah7,ah7⟩ ?_;clear s0 s1 S H;rintro i hi S H ⟨hik,s0,s1,s7,s8⟩
 have aN:i<l.length:=zo
 have hw:IntKind.i64.wrap ((i:Int)+1)=i+1:=bU zo
 by_cases hc:i=k
 .subst hc;simp[s0,s1,s7,s8,strs,aN,he]
 .have hn:(w==l[i])=false:=by
   rw[aeO]
   exact λe=>dR i zo e.symm
  have hle:i+1<=k:=zo
  simp[s0,s1,s7,s8,strs,aN,hn,hw,hle]
def Ri(hG:aQ GI)(l:List (List UInt8))(w:List UInt8)(hl:l.length<1000000)(dR:∀j (h:j<l.length),l[j]≠w):AC prog GI 130 [strs l,.str w] (.ret (.int .i64 (-1))):=by
 refine dF hG func130 ntmps130 c130 ?_;refine aY (λS H=>S 0=strs l/\S 1=.str w) (by simp[strs]) ?_;rintro S H ⟨s0,s1⟩;refine aY (λS H=>True) ?_ ah7;simp[s0,s1,strs];refine cK 8 l.length (λi S H=>S 0=strs l/\S 1=.str w/\S 7=.int .i64 (l.length:Nat)/\S 8=.int .i64 (i:Nat)) (λi S H h=>h.2.2.2) ⟨by simp[s0,strs],by simp[s1],ah7,ah7⟩ ?_;clear s0 s1 S H;rintro i hi S H ⟨s0,s1,s7,s8⟩
 by_cases aN:i<l.length
 case neg=>
  simp[s0,s1,s7,s8,strs,aN]
 have hw:IntKind.i64.wrap ((i:Int)+1)=i+1:=bU zo
 have hn:(w==l[i])=false:=by
  rw[aeO]
  exact λe=>dR i aN e.symm
 simp[s0,s1,s7,s8,strs,aN,hn,hw]
end Go.Proofs.Tryz
namespace Go.Proofs.Tryz
open Go Go.AL Go.RowKit Go.Proofs Go.Proofs.Tram
attribute [local simp] aU bB fT fu aV aJ aK av az aW aw ao bO bP an ar ev aM.S aM.H bj aF bl AL.start AV.cells AV.storable AV.aZ aP bt bV bu HR.okB post bQ bG bH AV.out AV.aX aG aL fz cL AV.vw bT vI int a_ aq bD bq cd cj bZ bI aI AV.bC AV.dE
variable{GI:World->Prop}
def fN(l:List (List UInt8)):br 1 (l.map AV.str)=true:=iJ λa=>⟨rfl,rfl⟩
def G7(w:Word):iV w=((((([119,111,114,100,32]++jy w.free)++[32])++gh w.cb)++[32])++gh w.dq):=by
 unfold iV gQ;simp[fL,lg]
def qZ{l:List Int}(h:fS l)(hl:l.length<1000):(gh l).length<=4000:=by
 by_cases h0:l=[]
 .subst h0;simp[gh]
 .have:=yE h l.length
  have e:gh l=oH l l.length:=by unfold gh oH;rw[if_neg h0,aee (aed _)]
  rw[e];omega
structure F'(s:bw):Prop where
 bJ:s.bJ.length<=300
 bK:s.bK.length<=300
 words:s.words.length<=300
 cb:∀w∈s.words,w.cb.length<1000
 dq:∀w∈s.words,w.dq.length<1000
def qc{nm:List UInt8}{l:List Int}(hn:nm.length<=10)(h:fS l)(hl:l.length<=5):(gQ nm (l.map bW)).length<10000:=by
 rw[Fe,aeu];have:=Fw h;omega
def uc{s:bw}(hN:j4 s)(hf:F' s):∀p∈fF s,p.length<10000:=by
 intro p hp;unfold fF at hp;simp only[aeD,aeg,aew]at hp
 rcases hp with rfl|rfl|⟨n,hn,rfl⟩|⟨q,hq,rfl⟩|⟨w,hw,rfl⟩
 .exact qc (l:=[s.wide,s.rows]) zd (cz hN.wide (cz hN.rows fK)) ah7
 .exact qc (l:=[s.fV,s.fU,s.ir,s.iu,s.dc]) zd (cz hN.fV (cz hN.fU (cz hN.ir (cz hN.iu (cz hN.dc fK))))) ah7
 .exact qc (l:=[n]) zd (cz (hN.bJ n hn) fK) ah7
 .obtain⟨h1,h2,h3,h4⟩:=hN.bK q hq;exact qc (l:=[q.l,q.r,q.lo,q.hi]) zd (cz h1 (cz h2 (cz h3 (cz h4 fK)))) ah7
 .obtain⟨h1,h2⟩:=hN.words w hw;have a:=qZ h1 (hf.cb w hw);have b:=qZ h2 (hf.dq w hw)
  have c:(jy w.free).length<=3:=by cases w.free<;>decide
  rw[G7];simp;omega
def YL(hG:aQ GI)(s:bw)(hN:j4 s)(hf:F' s):AC prog GI 47 [dj s] (.ret (.str (fb s))):=by
 have q1:=hf.bJ;have q2:=hf.bK;have q3:=hf.words
 have xr:(fF s).length<1000:=by unfold fF;simp;omega
 have DJ:=aaA hG (fF s) xr (uc hN hf);have a1:AC prog GI 105 [.str ot,vI [s.wide,s.rows]] (.ret (.str (fW s))):=Be hG ot [s.wide,s.rows] zd ah7 (cz hN.wide (cz hN.rows fK));have a2:AC prog GI 105 [.str ou,vI [s.fV,s.fU,s.ir,s.iu,s.dc]] (.ret (.str (h_ s))):=Be hG ou [s.fV,s.fU,s.ir,s.iu,s.dc] zd ah7 (cz hN.fV (cz hN.fU (cz hN.ir (cz hN.iu (cz hN.dc fK)))));have hT:fb s=AT (fF s):=rfl;rw[hT];refine dF hG func47 ntmps47 c47 ?_;refine aY (λS H=>S 1=.box 1 0/\H 1=some (ai s)) (by simp[af,ae,dj,ai]) ?_;rintro S H ⟨s1,e1⟩;refine aY (λS H=>S 1=.box 1 0/\H 1=some (ai s)/\S 3=grow 9 ([fW s,h_ s].map AV.str)) ?_ ?_
 .have df:br 1 [AV.str (fW s),AV.str (h_ s)]=true:=rfl;have gZ:br 1 [AV.int .i64 s.wide,AV.int .i64 s.rows]=true:=rfl;have Hf:br 1 [AV.int .i64 s.fV,AV.int .i64 s.fU,AV.int .i64 s.ir,AV.int .i64 s.iu,AV.int .i64 s.dc]=true:=rfl;simp[af,ae,s1,e1,ai,gZ];refine oc a1 ?_;simp[af,ae,s1,e1,ai,Hf];refine oc a2 ?_;simp[af,ae,s1,e1,ai,df,grow]
 clear s1 e1 S H;rintro S H ⟨s1,e1,s3⟩;refine aY (λS H=>S 1=.box 1 0/\H 1=some (ai s)/\S 3=grow 9 (([fW s,h_ s]++s.bJ.map gG).map AV.str)) ?_ ?_
 .simp[af,ae,s1,e1,s3];refine cK 4 s.bJ.length (λi S H=>S 1=.box 1 0/\H 1=some (ai s)/\S 4=.int .i64 (i:Nat)/\S 3=grow 9 (([fW s,h_ s]++(s.bJ.take i).map gG).map AV.str)) (λi S H h=>h.2.2.1) ⟨by simp[af,ae,s1],by simp[af,ae,e1],by simp[af,ae],by simp[af,ae,s3,grow]⟩ ?_;clear s1 e1 s3 S H;rintro i hi S H ⟨s1,e1,s4,s3⟩
  by_cases aN:i<s.bJ.length
  case neg=>
   have dV:i=s.bJ.length:=zo
   subst dV;rw[aee (aed _)]at s3;simp[af,ae,s1,e1,s4,s3,ai]
  have hw:IntKind.i64.wrap ((i:Int)+1)=i+1:=bU zo;have a3:AC prog GI 105 [.str pg,vI [s.bJ[i]]] (.ret (.str (gG s.bJ[i]))):=Be hG pg [s.bJ[i]] zd ah7 (cz (hN.bJ _ (ad2 aN)) fK)
  have ht:[fW s,h_ s]++(s.bJ.take (i+1)).map gG=([fW s,h_ s]++(s.bJ.take i).map gG)++[gG s.bJ[i]]:=by
   rw[aec aN,aeB,aeU];rfl
  have hlen:([fW s,h_ s]++(s.bJ.take i).map gG).length<=2000:=by simp;omega
  rw[ht]
  generalize[fW s,h_ s]++(s.bJ.take i).map gG=B at*
  generalize gG s.bJ[i]=t at*
  have gZ:br 1 [AV.int .i64 s.bJ[i]]=true:=rfl;have dG:br 1 [AV.str t]=true:=rfl;simp[s1,e1,s4,s3,ai,aN,gZ];refine oc a3 ?_;simp[s1,e1,s4,s3,dG];refine gv (B.map AV.str) (AV.str t) (.own 9) (by simp[s3,grow]) ah7 dG (fN B) (by rw[aef];omega) ?_;intro S' sd dp;simp[sd,dp,s1,e1,s4,aN,hw,ai,grow]
 clear s1 e1 s3 S H;rintro S H ⟨s1,e1,s3⟩;generalize hA:[fW s,h_ s]++s.bJ.map gG=A at s3
 have hAl:A.length<=302:=by rw[<-hA];simp;omega
 refine aY (λS H=>S 1=.box 1 0/\H 1=some (ai s)/\S 3=grow 9 ((A++s.bK.map ji).map AV.str)) ?_ ?_
 .simp[af,ae,s1,e1,s3];refine cK 5 s.bK.length (λi S H=>S 1=.box 1 0/\H 1=some (ai s)/\S 5=.int .i64 (i:Nat)/\S 3=grow 9 ((A++(s.bK.take i).map ji).map AV.str)) (λi S H h=>h.2.2.1) ⟨by simp[af,ae,s1],by simp[af,ae,e1],by simp[af,ae],by simp[af,ae,s3,grow]⟩ ?_;clear s1 e1 s3 S H;rintro i hi S H ⟨s1,e1,s5,s3⟩
  by_cases aN:i<s.bK.length
  case neg=>
   have dV:i=s.bK.length:=zo
   subst dV;rw[aee (aed _)]at s3;simp[af,ae,s1,e1,s5,s3,ai]
  have hw:IntKind.i64.wrap ((i:Int)+1)=i+1:=bU zo;obtain⟨n1,n2,n3,n4⟩:=hN.bK _ (ad2 aN);have a3:AC prog GI 105 [.str oV,vI [s.bK[i].l,s.bK[i].r,s.bK[i].lo,s.bK[i].hi]] (.ret (.str (ji s.bK[i]))):=Be hG oV [s.bK[i].l,s.bK[i].r,s.bK[i].lo,s.bK[i].hi] zd ah7 (cz n1 (cz n2 (cz n3 (cz n4 fK))))
  have ht:A++(s.bK.take (i+1)).map ji=(A++(s.bK.take i).map ji)++[ji s.bK[i]]:=by
   rw[aec aN,aeB,aeU];rfl
  have hlen:(A++(s.bK.take i).map ji).length<=2000:=by simp;omega
  rw[ht]
  generalize A++(s.bK.take i).map ji=B at*
  generalize ji s.bK[i]=t at*
  have gZ:br 1 [AV.int .i64 s.bK[i].l,AV.int .i64 s.bK[i].r,AV.int .i64 s.bK[i].lo,AV.int .i64 s.bK[i].hi]=true:=rfl;have dG:br 1 [AV.str t]=true:=rfl;simp[s1,e1,s5,s3,ai,aN,gZ,eH];refine oc a3 ?_;simp[s1,e1,s5,s3,dG];refine gv (B.map AV.str) (AV.str t) (.own 9) (by simp[s3,grow]) ah7 dG (fN B) (by rw[aef];omega) ?_;intro S' sd dp;simp[sd,dp,s1,e1,s5,aN,hw,ai,grow]
 clear s1 e1 s3 S H;rintro S H ⟨s1,e1,s3⟩;generalize hC:A++s.bK.map ji=C at s3
 have hCl:C.length<=602:=by rw[<-hC];simp;omega
 have hLT:fF s=C++s.words.map iV:=by
  rw[<-hC,<-hA];unfold fF;simp
 refine aY (λS H=>S 3=grow 9 ((C++s.words.map iV).map AV.str)) ?_ ?_
 .simp[af,ae,s1,e1,s3];refine cK 7 s.words.length (λi S H=>S 1=.box 1 0/\H 1=some (ai s)/\S 7=.int .i64 (i:Nat)/\S 3=grow 9 ((C++(s.words.take i).map iV).map AV.str)) (λi S H h=>h.2.2.1) ⟨by simp[af,ae,s1],by simp[af,ae,e1],by simp[af,ae],by simp[af,ae,s3,grow]⟩ ?_;clear s1 e1 s3 S H;rintro i hi S H ⟨s1,e1,s7,s3⟩
  by_cases aN:i<s.words.length
  case neg=>
   have dV:i=s.words.length:=zo
   subst dV;rw[aee (aed _)]at s3;simp[af,ae,s1,e1,s7,s3,ai]
  have hw:IntKind.i64.wrap ((i:Int)+1)=i+1:=bU zo;obtain⟨n1,n2⟩:=hN.words _ (ad2 aN);have f1:=hf.cb _ (ad2 aN);have f2:=hf.dq _ (ad2 aN);have a3:=Uo hG s.words[i].cb f1 n1;have a4:=Uo hG s.words[i].dq f2 n2;have l1:=qZ n1 f1;have l2:=qZ n2 f2;have Ve:=G7 s.words[i]
  have ht:C++(s.words.take (i+1)).map iV=(C++(s.words.take i).map iV)++[iV s.words[i]]:=by
   rw[aec aN,aeB,aeU];rfl
  have hlen:(C++(s.words.take i).map iV).length<=2000:=by simp;omega
  rw[ht]
  generalize C++(s.words.take i).map iV=B at*
  generalize iV s.words[i]=t at*
  have dG:br 1 [AV.str t]=true:=rfl
  have nR:∃fr:List UInt8,jy s.words[i].free=fr/\fr.length<=3/\((s.words[i].free=true/\fr=[121,101,115])\/(s.words[i].free=false/\fr=[110,111])):=by
   cases s.words[i].free
   .exact⟨_,rfl,zd,.inr ⟨rfl,rfl⟩⟩
   .exact⟨_,rfl,zd,.inl ⟨rfl,rfl⟩⟩
  obtain⟨fr,rI,pJ,uj⟩:=nR;rw[rI]at Ve
  generalize gh s.words[i].cb=u at*
  generalize gh s.words[i].dq=v at*
  have b0:5+fr.length<1073741824:=zo
  rcases uj with⟨hb,rfl⟩|⟨hb,rfl⟩
  .simp at Ve
   have c1:u.length+9<1073741824:=zo
   have c2:9+u.length<1073741824:=zo
   have c3:u.length+9+1<1073741824:=zo
   have L9:br 1 [AV.str (119::111::114::100::32::121::101::115::32::(u++32::v))]=true:=rfl;simp[s1,e1,s7,s3,ai,aN,dP,hb];refine oc a3 ?_;simp[s1,e1,s7,s3,ai,aN,dP,hb,c1,c2,c3];refine oc a4 ?_
   have c4:u.length+1+1+1+1+1+1+1+1+1+1+v.length<1073741824:=zo
   have c5:u.length+10+v.length<1073741824:=zo
   simp[s1,e1,s7,s3,ai,aN,dP,hb,c1,c2,c3,c4,c5,L9];refine jG (B.map AV.str) (AV.str t) (.own 9) (by simp[s3,grow]) (by simp[Ve]) dG (fN B) (by rw[aef];omega) ?_;intro S' sd dp;simp[sd,dp,s1,e1,s7,aN,hw,ai,grow]
  .simp at Ve
   have c1:u.length+8<1073741824:=zo
   have c2:8+u.length<1073741824:=zo
   have c3:u.length+8+1<1073741824:=zo
   have L9:br 1 [AV.str (119::111::114::100::32::110::111::32::(u++32::v))]=true:=rfl;simp[s1,e1,s7,s3,ai,aN,dP,hb];refine oc a3 ?_;simp[s1,e1,s7,s3,ai,aN,dP,hb,c1,c2,c3];refine oc a4 ?_
   have c4:u.length+1+1+1+1+1+1+1+1+1+v.length<1073741824:=zo
   have c5:u.length+9+v.length<1073741824:=zo
   simp[s1,e1,s7,s3,ai,aN,dP,hb,c1,c2,c3,c4,c5,L9];refine jG (B.map AV.str) (AV.str t) (.own 9) (by simp[s3,grow]) (by simp[Ve]) dG (fN B) (by rw[aef];omega) ?_;intro S' sd dp;simp[sd,dp,s1,e1,s7,aN,hw,ai,grow]
 clear s1 e1 s3 S H;rintro S H s3;rw[<-hLT]at s3
 have W0:S 3=.slice (.own 9) ((fF s).map AV.str):=by rw[s3];simp[grow,fF]
 simp[af,ae,W0];refine oc DJ ?_;simp[af,ae]
def TB (GI:World->Prop):Prop:=∀ w,GI w->Lib.TabIs prog w "internal/strconv.uint64pow10" .u64 Lib.pow10Tab
def E2(hT:TB GI){n:Int}(h:eE n):AC prog GI 79 [.int .i64 n] (.ret (.str (bW n))):=by
 intro w old dn hG hl hr;obtain⟨v,rfl⟩:=Tx hl rfl;have e1:=(hr 0 ah7 ah7).int_eq;simp only[List.getElem_toArray,List.getElem_cons_zero]at e1;subst e1;obtain⟨h0,h1⟩:=h;refine(Tryz.strconv_Itoa n zo zo w (hT w hG)).mono ?_;rintro e w' ⟨rfl,k,os,rfl⟩;refine⟨Lib.below_grow _ w (aed _) k os,λ_=>0,λ_ _=>rfl,_,rfl,.data _ _ ?_,trivial⟩
 have hi:Lib.itoa n=bW n:=by
  unfold Lib.itoa bW;rw[if_neg zo,D6 20 n.toNat zo zo]
 rw[hi];exact .str _
def E0(hG:aQ GI)(hT:TB GI)(l:List Int)(h0:l≠[])(hl:l.length<1000)(h:fS l):AC prog GI 213 [vI l] (.ret (strs (l.map bW))):=by
 have e0:strs (l.map bW)=.slice .view ((l.map bW).map .str):=rfl;rw[e0];refine dF hG func213 ntmps213 c213 ?_;simp[c213,af,ae];refine cK 8 l.length (λi S H=>S 6=vI l/\S 7=.int .i64 (l.length:Nat)/\S 8=.int .i64 (i:Nat)/\S 3=grow 9 (((l.take i).map bW).map AV.str)) (λi S H h=>h.2.2.1) ⟨by simp[af,ae],by simp[af,ae],by simp[af,ae],by simp[af,ae,grow]⟩ ?_;rintro i hi S H ⟨s6,s7,s8,s3⟩
 by_cases aN:i<l.length
 case neg=>
  have dV:i=l.length:=zo
  subst dV;rw[aee (aed _)]at s3;simp[af,ae,s6,s7,s8,s3,grow,h0]
 have hw:IntKind.i64.wrap ((i:Int)+1)=i+1:=bU zo;have a157:=E2 hT (h _ (ad2 aN))
 have ht:(l.take (i+1)).map bW=(l.take i).map bW++[bW l[i]]:=by
  rw[aec aN,aeB];rfl
 have hlen:((l.take i).map bW).length<=1000:=by simp;omega
 rw[ht]
 generalize(l.take i).map bW=B at*
 generalize bW l[i]=t at*
 have dG:br 1 [AV.str t]=true:=rfl;simp[s6,s7,s8,s3,aN];refine oc a157 ?_;simp[s6,s7,s8,s3,dG];refine gv (B.map AV.str) (AV.str t) (.own 9) (by simp[s3,grow]) ah7 dG (fN B) (by rw[aef];omega) ?_;intro S' sd dp;simp[sd,dp,s6,s7,s8,aN,hw,grow]
structure A3(c:UInt8)(s:List UInt8)(i:Nat)(P:List (List UInt8))(st:Nat):Prop where
 le:st<=i
 Oc:P.length<=st
 no:¬c∈(s.take i).drop st
 eq:bL c s=P++bL c (s.drop st)
def A3.zero(c:UInt8)(s:List UInt8):A3 c s 0 [] 0:=⟨aed _,aed _,ah7,rfl⟩
def A3.skip{c:UInt8}{s:List UInt8}{i:Nat}{P:List (List UInt8)}{st:Nat}(h:A3 c s i P st)(hi:i<s.length)(hc:s[i]≠c):A3 c s (i+1) P st:=by
 obtain⟨h1,h2,h3,h4⟩:=h;refine⟨zo,h2,?_,h4⟩;rw[aec hi,af2 (by rw[aes];omega)];intro hm;rcases aeg.1 hm with hm|hm
 .exact h3 hm
 .rw[aev]at hm;exact hc hm.symm
def A3.cut{c:UInt8}{s:List UInt8}{i:Nat}{P:List (List UInt8)}{st:Nat}(h:A3 c s i P st)(hi:i<s.length)(hc:s[i]=c):A3 c s (i+1) (P++[(s.take i).drop st]) (i+1):=by
 obtain⟨h1,h2,h3,h4⟩:=h;refine⟨aed _,by simp;omega,ah7,?_⟩;rw[h4,aeU]
 congr 1
 have e:s.drop st=(s.take i).drop st++c::s.drop (i+1):=by
  have e1:s=s.take i++s[i]::s.drop (i+1):=by
   rw[List.getElem_cons_drop,afa]
  conv=>lhs;rw[e1]
  rw[af2 (by rw[aes];omega),hc]
 rw[e,qf h3]
 rfl
def A3.stop{c:UInt8}{s:List UInt8}{P:List (List UInt8)}{st:Nat}(h:A3 c s s.length P st):bL c s=P++[s.drop st]:=by
 obtain⟨h1,h2,h3,h4⟩:=h;rw[aee (aed _)]at h3;rw[h4,vX h3]
def CZ(hG:aQ GI)(s:List UInt8)(c:UInt8)(hs:s.length<1000000):AC prog GI 49 [.str s,.int .u8 c.toNat] (.ret (strs (bL c s))):=by
 have e0:strs (bL c s)=.slice .view ((bL c s).map .str):=rfl;rw[e0];refine AC.nB (o:=.own 9) ?_;refine dF hG func49 ntmps49 c49 ?_;refine aY (λS H=>S 0=.str s/\S 1=.int .u8 c.toNat) (by simp[af,ae]) ?_;rintro S H ⟨s0,s1⟩;refine aY (λS H=>S 0=.str s/\S 1=.int .u8 c.toNat/\S 5=grow 9 []) (by simp[af,ae,s0,s1,grow]) ?_;clear s0 s1 S H;rintro S H ⟨s0,s1,s5⟩;refine aY (λS H=>S 0=.str s/\S 1=.int .u8 c.toNat/\S 5=grow 9 []/\S 6=.int .i64 0) (by simp[af,ae,s0,s1,s5]) ?_;clear s0 s1 s5 S H;rintro S H ⟨s0,s1,s5,s6⟩;refine aY (λS H=>∃P st,A3 c s s.length P st/\S 0=.str s/\S 5=grow 9 (P.map AV.str)/\S 6=.int .i64 (st:Nat)) ?_ ?_
 .simp[af,ae,s0,s1,s5,s6];refine cK 7 s.length (λi S H=>S 0=.str s/\S 1=.int .u8 c.toNat/\S 7=.int .i64 (i:Nat)/\∃P st,A3 c s i P st/\S 5=grow 9 (P.map AV.str)/\S 6=.int .i64 (st:Nat)) (λi S H h=>h.2.2.1) ⟨by simp[af,ae,s0],by simp[af,ae,s1],by simp[af,ae],[],0,A3.zero c s,by simp[af,ae,s5],by simp[af,ae,s6]⟩ ?_;clear s0 s1 s5 s6 S H;rintro i hi S H ⟨s0,s1,s7,P,st,hP,s5,s6⟩
  by_cases aN:i<s.length
  case neg=>
   have dV:i=s.length:=zo
   subst dV;simp[af,ae,s0,s1,s7,s5,s6];exact⟨P,st,hP,rfl,rfl⟩
  have hw:IntKind.i64.wrap ((i:Int)+1)=i+1:=bU zo;have h1:=hP.le;have h2:=hP.Oc
  have Lp:(st:Int)<=i:=zo
  have Pg:(i:Int)<=s.length:=zo
  by_cases hc:s[i]=c
  .have hP2:=hP.cut aN hc
   generalize hp:(s.take i).drop st=p at*
   have dG:br 1 [AV.str p]=true:=rfl;simp[s0,s1,s7,s5,s6,aN,hc,h1,Lp,Pg,hp,dG,bound];refine gv (P.map AV.str) (AV.str p) (.own 9) (by simp[s5,grow]) ah7 dG (fN P) (by rw[aef];omega) ?_;intro S' sd dp;simp[sd,dp,s0,s1,s7,aN,hw,grow];exact⟨P++[p],i+1,hP2,ah7,ah7⟩
  .have hP2:=hP.skip aN hc
   have C5:((s[i].toNat:Int)==(c.toNat:Int))=false:=by
    rw[aeO]
    exact λe=>hc (UInt8.toNat_inj.1 zo)
   simp[s0,s1,s7,s5,s6,aN,hc,C5,hw];exact⟨P,st,hP2,rfl,rfl⟩
 clear s0 s1 s5 s6 S H;rintro S H ⟨P,st,hP,s0,s5,s6⟩;have h1:=hP.le;have h2:=hP.Oc
 have Lp:(st:Int)<=s.length:=zo
 rw[hP.stop]
 generalize hp:s.drop st=p at*
 have dG:br 1 [AV.str p]=true:=rfl;simp[s0,s5,s6,h1,Lp,bound,hp,dG];refine gv (P.map AV.str) (AV.str p) (.own 9) (by simp[s5,grow]) ah7 dG (fN P) (by rw[aef];omega) ?_;intro S' sd dp;simp[sd,dp,grow]
end Go.Proofs.Tryz
namespace Go.Proofs.Tryz
open Go Go.AL Go.RowKit Go.Proofs Go.Proofs.Tram
attribute [local simp] aU bB bm aO aV aJ aK av az aW aw ao bO bP an ar ev aM.S aM.H bj aF bl AL.start AV.cells AV.storable AV.aZ aP bt bV bu HR.okB post bQ bG bH AV.out AV.aX aG aL fz cL AV.vw bT vI int a_ aq bD bq cd cj bZ bI aI AV.bC AV.dE
variable{GI:World->Prop}
def ZT(hG:aQ GI)(hT:TB GI)(s:bw)(hN:j4 s):AC prog GI 212 [dj s] (.ret (strs ([s.wide,s.rows].map bW))):=by
 have a:=E0 hG hT [s.wide,s.rows] ah7 ah7 (cz hN.wide (cz hN.rows fK));have gZ:br 1 [AV.int .i64 s.wide,AV.int .i64 s.rows]=true:=rfl
 generalize ho:strs ([s.wide,s.rows].map bW)=o at*
 have hs:o.storable=true:=by rw[<-ho];rfl
 have hv:o.vw=o:=by rw[<-ho];rfl
 refine dF hG func212 ntmps212 c212 ?_;simp[c212,dj,ai,gZ];refine oc a ?_;subst ho;simp[strs]
def Zx(hG:aQ GI)(hT:TB GI)(s:bw)(hN:j4 s):AC prog GI 214 [dj s] (.ret (strs ([s.fV,s.fU,s.ir,s.iu,s.dc].map bW))):=by
 have a:=E0 hG hT [s.fV,s.fU,s.ir,s.iu,s.dc] ah7 ah7 (cz hN.fV (cz hN.fU (cz hN.ir (cz hN.iu (cz hN.dc fK)))));have gZ:br 1 [AV.int .i64 s.fV,AV.int .i64 s.fU,AV.int .i64 s.ir,AV.int .i64 s.iu,AV.int .i64 s.dc]=true:=rfl
 generalize ho:strs ([s.fV,s.fU,s.ir,s.iu,s.dc].map bW)=o at*
 refine dF hG func214 ntmps214 c214 ?_;simp[c214,dj,ai,gZ];refine oc a ?_;subst ho;simp[strs]
def Zq(hG:aQ GI)(hT:TB GI)(n:Int)(h:eE n):AC prog GI 215 [.agg [.int .i64 n]] (.ret (strs ([n].map bW))):=by
 have a:=E0 hG hT [n] ah7 ah7 (cz h fK);have gZ:br 1 [AV.int .i64 n]=true:=rfl
 generalize ho:strs ([n].map bW)=o at*
 refine dF hG func215 ntmps215 c215 ?_;simp[c215,gZ];refine oc a ?_;subst ho;simp[strs]
def aaF(hG:aQ GI)(hT:TB GI)(p:k_)(n1:eE p.l)(n2:eE p.r)(n3:eE p.lo)(n4:eE p.hi):AC prog GI 216 [eH p] (.ret (strs ([p.l,p.r,p.lo,p.hi].map bW))):=by
 have a:=E0 hG hT [p.l,p.r,p.lo,p.hi] ah7 ah7 (cz n1 (cz n2 (cz n3 (cz n4 fK))));have gZ:br 1 [AV.int .i64 p.l,AV.int .i64 p.r,AV.int .i64 p.lo,AV.int .i64 p.hi]=true:=rfl
 generalize ho:strs ([p.l,p.r,p.lo,p.hi].map bW)=o at*
 refine dF hG func216 ntmps216 c216 ?_;simp[c216,eH,gZ];refine oc a ?_;subst ho;simp[strs]
def O3{l:List Int}(h:fS l):(fL 44 (l.map bW)).length<=4*l.length:=by
 have:=yE h l.length;unfold oH at this;rwa [aee (aed _)]at this
def Ue(hG:aQ GI)(hT:TB GI)(l:List Int)(hl:l.length<1000)(h:fS l):AC prog GI 218 [vI l] (.ret (.str (gh l))):=by
 by_cases h0:l=[]
 .subst h0;have:gh []=[45]:=rfl;rw[this];refine dF hG func218 ntmps218 c218 ?_;simp[c218]
 have vC:((l.length:Int)==0)=false:=by have:=afi.2 h0;simp;omega
 have a:=E0 hG hT l h0 hl h;have hj:=O3 h;have b:=wx (GI:=GI) (l.map bW) [44] (by simp;omega) (by rw[Dn];omega);rw[Dn]at b
 have hT:gh l=fL 44 (l.map bW):=by unfold gh;rw[if_neg h0]
 rw[hT]
 have b2:AC prog GI 121 [.slice .view (l.map (AV.str∘bW)),.str [44]] (.ret (.str (fL 44 (l.map bW)))):=by
  have e:l.map (AV.str∘bW)=(l.map bW).map AV.str:=by rw[aft]
  rw[e];exact b
 generalize fL 44 (l.map bW)=r at*
 generalize ho:strs (l.map bW)=o at*
 refine dF hG func218 ntmps218 c218 ?_;simp[c218,vC,h0];refine oc a ?_;subst ho;simp[strs];refine oc b2 ?_;simp[strs]
def aa5(hG:aQ GI)(hT:TB GI)(w:Word)(h1:fS w.cb)(h2:fS w.dq)(f1:w.cb.length<1000)(f2:w.dq.length<1000):AC prog GI 217 [dP w] (.ret (strs [jy w.free,gh w.cb,gh w.dq])):=by
 have a:=Ue hG hT w.cb f1 h1;have b:=Ue hG hT w.dq f2 h2
 have Hf:∀x y z:List UInt8,br 1 [AV.str x,AV.str y,AV.str z]=true:=λ_ _ _=>rfl
 generalize gh w.cb=u at*
 generalize gh w.dq=v at*
 have e0:strs [jy w.free,u,v]=.slice .view [.str (jy w.free),.str u,.str v]:=rfl;rw[e0];refine AC.nB (o:=.own 9) ?_;refine dF hG func217 ntmps217 c217 ?_;cases hf:w.free
 all_goals
  simp[c217,dP,hf,jy];refine oc a ?_;simp;refine oc b ?_;simp[Hf,strs]
def AZ(hG:aQ GI):AC prog GI 129 [] (.ret (.agg [.str ot,.str ou,.str pg,.str oV,.str lg])):=by
 obtain⟨it,hit,cM⟩:=iZ 193 5;refine dF hG func129 ntmps129 c129 ?_;simp[c129,ot,ou,pg,oV,lg,hit,cM,ef,cD]
def Y3(hG:aQ GI)(s:bw)(hs:ss s):AC prog GI 48 [dj s,dj s] (.ret (.bool true)):=by
 have q0:=hs.bJ;have q1:=hs.bK;have q2:=hs.words
 have Mo:=λl hl=>Uf (GI:=GI) hG l l hl
 simp only[beq_self_eq_true]at Mo;refine dF hG func48 ntmps48 c48 ?_;refine aY (λS H=>S 2=.box 2 0/\S 3=.box 3 0/\H 2=some (ai s)/\H 3=some (ai s)) (by simp[dj,ai]) ?_;rintro S H ⟨s2,s3,e2,e3⟩;refine aY (λS H=>S 2=.box 2 0/\S 3=.box 3 0/\H 2=some (ai s)/\H 3=some (ai s)) ?_ ?_
 .simp[s2,s3,e2,e3,ai];refine⟨_,zk,Mo s.bJ zo,λ_=>rfl,?_⟩;simp[s2,s3,e2,e3,ai,lv]
 clear s2 s3 e2 e3 S H;rintro S H ⟨s2,s3,e2,e3⟩;refine aY (λS H=>S 2=.box 2 0/\S 3=.box 3 0/\H 2=some (ai s)/\H 3=some (ai s)) ?_ ?_
 .simp[s2,s3,e2,e3];refine cK 5 s.bK.length (λi S H=>S 2=.box 2 0/\S 3=.box 3 0/\H 2=some (ai s)/\H 3=some (ai s)/\S 5=.int .i64 (i:Nat)) (λi S H h=>h.2.2.2.2) ⟨by simp[s2],by simp[s3],by simp[e2],by simp[e3],ah7⟩ ?_;clear s2 s3 e2 e3 S H;rintro i hi S H ⟨s2,s3,e2,e3,s5⟩
  by_cases aN:i<s.bK.length
  case neg=>
   have dV:i=s.bK.length:=zo
   subst dV;simp[s2,s3,e2,e3,s5,ai]
  have hw:IntKind.i64.wrap ((i:Int)+1)=i+1:=bU zo;simp[s2,s3,e2,e3,s5,ai,aN,hw,eH,lv]
 clear s2 s3 e2 e3 S H;rintro S H ⟨s2,s3,e2,e3⟩;refine aY (λS H=>True) ?_ ah7;simp[s2,s3,e2,e3];refine cK 6 s.words.length (λi S H=>S 2=.box 2 0/\S 3=.box 3 0/\H 2=some (ai s)/\H 3=some (ai s)/\S 6=.int .i64 (i:Nat)) (λi S H h=>h.2.2.2.2) ⟨by simp[s2],by simp[s3],by simp[e2],by simp[e3],ah7⟩ ?_;clear s2 s3 e2 e3 S H;rintro i hi S H ⟨s2,s3,e2,e3,s6⟩
 by_cases aN:i<s.words.length
 case neg=>
  have dV:i=s.words.length:=zo
  subst dV;simp[s2,s3,e2,e3,s6,ai]
 have hw:IntKind.i64.wrap ((i:Int)+1)=i+1:=bU zo;have f1:=hs.cb _ (ad2 aN);have f2:=hs.dq _ (ad2 aN);simp[s2,s3,e2,e3,s6,ai,aN,hw,dP];refine⟨_,zk,Mo s.words[i].cb zo,λ_=>rfl,?_⟩;simp[s2,s3,e2,e3,s6,ai,aN,hw,dP];refine⟨_,zk,Mo s.words[i].dq zo,λ_=>rfl,?_⟩;simp[s2,s3,e2,e3,s6,ai,aN,hw,dP]
def XT(hG:aQ GI):∀(d n:Nat),1<=n->n<1000->n<10^d->AC prog GI 137 [.int .i64 (-(n:Int))] (.ret (.str (45::bW n))):=by
 intro d
 induction d with
 |zero=>intro n h1 hn h;simp at h;omega
 |succ d ih=>
  intro n h1 hn h
  have e2: -(n:Int)<0:=zo
  by_cases oL:n<10
  .have e1:(-10:Int)< -(n:Int):=zo
   rw[Br oL];have hd:=Ty oL
   have hs:(48:Int)- -(n:Int)=48+n:=zo
   have hw:IntKind.i64.wrap (48+(n:Int))=48+n:=bU zo;have h8:IntKind.u8.wrap (48+(n:Int))=48+n:=yb zo;have df:br 1 [AV.int .u8 (48+(n:Int))]=true:=rfl
   generalize dg n=g at*
   generalize hz: -(n:Int)=z at*
   refine dF hG func137 ntmps137 c137 ?_;simp[c137,e1,e2,hs,hw,h8,hd,df]
  .have e1:¬(-10:Int)< -(n:Int):=zo
   have hm:bW n=bW ((n/10:Nat):Int)++[dg (n % 10)]:=by
    rcases Em (n:=n) zo with h|h
    .exact h
    .omega
   have a:=ih (n/10) zo zo (by rw[Nat.pow_succ]at h;omega)
   have hq:IntKind.i64.wrap ((-(n:Int)).tdiv 10)= -((n/10:Nat):Int):=by
    rw[Int.neg_tdiv,aeZ zo,bU zo];omega
   have hr:(-(n:Int)).tmod 10= -((n % 10:Nat):Int):=by
    rw[Int.neg_tmod,aeR zo];omega
   have hd:=Ty (d:=n % 10) zo
   have hs:(48:Int)- -((n % 10:Nat):Int)=48+((n % 10:Nat):Int):=zo
   have hw:IntKind.i64.wrap (48+((n % 10:Nat):Int))=48+((n % 10:Nat):Int):=bU zo;have h8:IntKind.u8.wrap (48+((n % 10:Nat):Int))=48+((n % 10:Nat):Int):=yb zo;have hl:(bW ((n/10:Nat):Int)).length<=3:=(fO ⟨zo,zo⟩).1
   have pk:(bW ((n/10:Nat):Int)).length+1<1073741824:=zo
   have tq:(bW ((n/10:Nat):Int)).length+1+1<1073741824:=zo
   have df:br 1 [AV.int .u8 (48+((n % 10:Nat):Int))]=true:=rfl;rw[hm]
   generalize bW ((n/10:Nat):Int)=u at*
   generalize Xl: -((n % 10:Nat):Int)=zz at*
   generalize hz:((n % 10:Nat):Int)=z at*
   generalize hy: -((n/10:Nat):Int)=y at*
   generalize dg (n % 10)=g at*
   generalize hx: -(n:Int)=x at*
   refine dF hG func137 ntmps137 c137 ?_;simp[c137,e1,e2,oL,hq];refine oc a ?_;simp[hr,hs,hw,h8,hd,pk,tq,df]
def QL(hG:aQ GI){z:Int}(h1: -999<=z)(h2:z<=999):AC prog GI 137 [.int .i64 z] (.ret (.str (qJ z))):=by
 unfold qJ
 by_cases h:z<0
 .rw[if_pos h];have a:=XT (GI:=GI) hG 3 (-z).toNat zo zo zo
  have e: -(((-z).toNat:Nat):Int)=z:=zo
  have e2:(((-z).toNat:Nat):Int)= -z:=zo
  rw[e,e2]at a;exact a
 .rw[if_neg h];exact tM hG ⟨zo,h2⟩
def eV(w:List UInt8):List UInt8:=match w with
 |b::l=>if b=45 then l else b::l
 |[]=>[]
def mf(w:List UInt8):Int:=match w with
 |b::_=>if b=45 then-1 else 1
 |[]=>1
def mX(c:UInt8):Bool:=!(decide ((c.toNat:Int)<48)||decide ((c.toNat:Int)>57))
def jz(w:List UInt8):Int×Bool:=
 if(eV w).length<1\/(eV w).length>3 then(0,false)
 else if(eV w).all mX then(mf w*da (eV w),qJ (mf w*da (eV w))==w)
 else(0,false)
def lU{c:UInt8}:mX c=true↔digit c:=by unfold mX digit;simp;omega
def aaT(hG:aQ GI)(w:List UInt8)(hw:w.length<1000000):AC prog GI 138 [.str w,.int .i64 3] (.ret (.ea [.int .i64 (jz w).1,.bool (jz w).2])):=by
 refine dF hG func138 ntmps138 c138 ?_;refine aY (λS H=>S 0=.str w/\S 1=.int .i64 3) ah7 ?_;rintro S H ⟨s0,s1⟩;refine aY (λS H=>S 0=.str w/\S 1=.int .i64 3/\S 6=.int .i64 1/\S 7=.str w) (by simp[s0,s1]) ?_;clear s0 s1 S H;rintro S H ⟨s0,s1,s6,s7⟩;refine aY (λS H=>S 0=.str w/\S 1=.int .i64 3/\S 6=.int .i64 (mf w)/\S 7=.str (eV w)) ?_ ?_
 .cases w with
  |nil=>simp[s0,s1,s6,s7,eV,mf]
  |cons b l=>
   have hl:(0:Int)<l.length+1:=zo
   have AP:(1:Int)<=l.length+1:=zo
   have pk:((l.length:Int)+1>0):=zo
   by_cases hb:b=45
   .subst hb;simp[s0,s1,s6,s7,eV,mf,hl,pk,AP,bound]
   .have D2:((b.toNat:Int)==45)=false:=by
     rw[aeO]
     exact λe=>hb (UInt8.toNat_inj.1 (by simpa using(by omega:b.toNat=45)))
    simp[s0,s1,s6,s7,eV,mf,hl,pk,hb,D2]
 clear s0 s1 s6 s7 S H;rintro S H ⟨s0,s1,s6,s7⟩
 have Ud:mf w=1\/mf w= -1:=by
  unfold mf
  cases w with
  |nil=>exact .inl rfl
  |cons b l=>by_cases hb:b=45<;>simp[hb]
 unfold jz
 generalize eV w=r at*
 generalize mf w=sg at*
 by_cases hlen:r.length<1\/r.length>3
 .rw[if_pos hlen];rcases hlen with h|h
  .have h':(r.length:Int)<1:=zo
   simp[s0,s1,s6,s7,h,h']
  .have h':¬(r.length:Int)<1:=zo
   have h2:(3:Int)<r.length:=zo
   have h3:((r.length:Int)>3):=zo
   simp[s0,s1,s6,s7,h',h2,h3]
 rw[if_neg hlen]
 obtain⟨o,ho⟩:∃o,(if r.all mX=true then(sg*da r,qJ (sg*da r)==w)else((0:Int),false))=o:=⟨_,rfl⟩
 rw[ho]
 have h1:¬(r.length:Int)<1:=zo
 have h2:¬(3:Int)<r.length:=zo
 have h3:¬((r.length:Int)>3):=zo
 refine aY (λS H=>S 0=.str w/\S 1=.int .i64 3/\S 6=.int .i64 sg/\S 7=.str r) (by simp[s0,s1,s6,s7,h1,h2,h3]) ?_;clear s0 s1 s6 s7 S H;rintro S H ⟨s0,s1,s6,s7⟩;refine aY (λS H=>S 0=.str w/\S 6=.int .i64 sg/\S 7=.str r/\S 8=.int .i64 0) (by simp[s0,s1,s6,s7]) ?_;clear s0 s1 s6 s7 S H;rintro S H ⟨s0,s6,s7,s8⟩;simp[s0,s6,s7,s8];refine cK 9 r.length (λi S H=>S 0=.str w/\S 6=.int .i64 sg/\S 7=.str r/\S 9=.int .i64 (i:Nat)/\S 8=.int .i64 (da (r.take i))/\(r.take i).all mX=true) (λi S H h=>h.2.2.2.1) ⟨by simp[s0],by simp[s6],by simp[s7],ah7,by simp[s8,da],ah7⟩ ?_;clear s0 s6 s7 s8 S H;rintro i hi S H ⟨s0,s6,s7,s9,s8,eu⟩
 by_cases aN:i<r.length
 case neg=>
  have dV:i=r.length:=zo
  subst dV;rw[aee (aed _)]at s8 eu;have hv:=iy r (λc hc=>lU.1 (aeh.1 eu c hc)) zo;rw[if_pos eu]at ho
  generalize da r=v at*
  have I2: -999<=sg*v:=by rcases Ud with rfl|rfl<;>omega
  have JD:sg*v<=999:=by rcases Ud with rfl|rfl<;>omega
  have Zd:IntKind.i64.wrap (sg*v)=sg*v:=bU zo;have a:=QL (GI:=GI) hG I2 JD;subst ho;simp[s0,s6,s7,s8,s9,Zd];refine oc a ?_;simp[s0,s6,s7,s8,s9]
 have nv:IntKind.i64.wrap ((i:Int)+1)=i+1:=bU zo
 by_cases hd:mX r[i]=true
 .obtain⟨d1,d2⟩:=lU.1 hd
  have pG:(r.take (i+1)).all mX=true:=by
   rw[aec aN,List.all_append,eu];simp[hd]
  have hv:=iy (r.take i) (λc hc=>lU.1 (aeh.1 eu c hc)) (by rw[aes];omega)
  have uf:da (r.take (i+1))=10*da (r.take i)+((r[i].toNat:Int)-48):=by
   rw[aec aN,uD]
  rw[uf]
  generalize da (r.take i)=v at*
  generalize hy:r[i].toNat=y at*
  have e1:¬(y:Int)<48:=zo
  have e2:¬(57:Int)<y:=zo
  have e3:IntKind.u8.wrap ((y:Int)-48)=y-48:=yb zo;have e4:IntKind.i64.wrap ((y:Int)-48)=y-48:=bU zo;have e5:IntKind.i64.wrap (10*v)=10*v:=bU zo;have e6:IntKind.i64.wrap (10*v+((y:Int)-48))=10*v+(y-48):=bU zo;simp only[aeh]at pG;simp[s0,s6,s7,s8,s9,aN,nv,hy,e1,e2,e3,e4,e5,e6];exact pG
 .have JT:r.all mX=false:=by
   rw[<-afd]
   exact λh=>hd (aeh.1 h _ (ad2 aN))
  rw[JT]at ho
  have ho:o=(0,false):=by simpa using ho.symm
  subst ho
  have hd:mX r[i]=false:=by simpa using hd
  unfold mX at hd
  by_cases hq:(r[i].toNat:Int)<48
  .have yK:r[i].toNat<48:=zo
   simp[s0,s6,s7,s8,s9,aN,hq,yK]
  .have Jb:(57:Int)<r[i].toNat:=by simp at hd;omega
   have yK:¬r[i].toNat<48:=zo
   have GA:57<r[i].toNat:=zo
   simp[s0,s6,s7,s8,s9,aN,hq,yK,Jb,GA]
end Go.Proofs.Tryz
namespace Go.Proofs.Tryz
open Go Go.AL Go.RowKit Go.Proofs Go.Proofs.Tram
attribute [local simp] aU bB fT fu aV aJ aK av az aW aw ao bO bP an ar ev aM.S aM.H bj aF bl AL.start AV.cells AV.storable AV.aZ aP bt bV bu HR.okB post bQ bG bH AV.out AV.aX aG aL fz cL AV.vw bT vI int a_ aq bD bq cd cj bZ bI aI AV.bC AV.dE
variable{GI:World->Prop}
def DN(ws:List (List UInt8)):AV:=if ws.all (λw=>(jz w).2)=true then .ea [.slice .view (ints (ws.map λw=>(jz w).1)),.bool true]else .ea [.slice .view [],.bool false]
def Na(l:List Int):br 1 (ints l)=true:=iJ λa=>⟨rfl,rfl⟩
def aal(hG:aQ GI)(ws:List (List UInt8))(hl:ws.length<1000000)(hw:∀w∈ws,w.length<1000000):AC prog GI 108 [strs ws,.int .i64 3] (.ret (DN ws)):=by
 obtain⟨o,ho⟩:∃o,DN ws=o:=⟨_,rfl⟩
 rw[ho];unfold DN at ho;refine dF hG func108 ntmps108 c108 ?_;refine aY (λS H=>S 0=strs ws/\S 1=.int .i64 3) (by simp[af,ae,strs]) ?_;rintro S H ⟨s0,s1⟩;refine aY (λS H=>S 0=strs ws/\S 1=.int .i64 3/\S 6=grow 3 (ints [])) (by simp[af,ae,s0,s1,strs,grow,ints]) ?_;clear s0 s1 S H;rintro S H ⟨s0,s1,s6⟩;simp[af,ae,s0,s1,s6];refine cK 7 ws.length (λi S H=>S 0=strs ws/\S 1=.int .i64 3/\S 7=.int .i64 (i:Nat)/\S 6=grow 3 (ints ((ws.take i).map λw=>(jz w).1))/\(ws.take i).all (λw=>(jz w).2)=true) (λi S H h=>h.2.2.1) ⟨by simp[af,ae,s0],by simp[af,ae,s1],by simp[af,ae],by simp[af,ae,s6],ah7⟩ ?_;clear s0 s1 s6 S H;rintro i hi S H ⟨s0,s1,s7,s6,eu⟩
 by_cases aN:i<ws.length
 case neg=>
  have dV:i=ws.length:=zo
  subst dV;rw[aee (aed _)]at s6 eu;rw[if_pos eu]at ho;subst ho
  by_cases h0:ws=[]
  .subst h0;simp[af,ae,s0,s1,s7,s6,strs,grow,ints]
  .have ES:ints (ws.map λw=>(jz w).1)≠[]:=by simpa[ints]using h0
   simp only[grow,if_neg ES]at s6
   generalize ints (ws.map λw=>(jz w).1)=L at*
   simp[af,ae,s0,s1,s7,s6,strs,h0]
 have nv:IntKind.i64.wrap ((i:Int)+1)=i+1:=bU zo;have a:=aaT (GI:=GI) hG ws[i] (hw _ (ad2 aN))
 by_cases hb:(jz ws[i]).2=true
 .have pG:(ws.take (i+1)).all (fun w=>(jz w).2)=true:=by
   rw[aec aN,List.all_append,eu];simp[hb]
  have hm:ints ((ws.take (i+1)).map λw=>(jz w).1)=ints ((ws.take i).map λw=>(jz w).1)++[.int .i64 (jz ws[i]).1]:=by
   rw[aec aN,aeB];simp[ints]
  have hlen:(ints ((ws.take i).map λw=>(jz w).1)).length<=ws.length:=by simp[ints];omega
  have TX:=Na ((ws.take i).map λw=>(jz w).1);rw[hb]at a;rw[hm]
  generalize ints ((ws.take i).map λw=>(jz w).1)=L at*
  generalize(jz ws[i]).1=n at*
  have dG:br 1 [AV.int .i64 n]=true:=rfl;simp[s0,s1,s7,s6,strs,aN];refine oc a ?_;simp[s0,s1,s7,s6,strs,aN,dG];refine gv L (.int .i64 n) (.own 3) (by simp[s6,grow]) ah7 dG TX zo ?_;intro S' sd dp;simp only[aeh]at pG;simp[sd,dp,s0,s1,s7,aN,nv,strs,grow];exact pG
 .have JT:ws.all (fun w=>(jz w).2)=false:=by
   rw[<-afd]
   exact λh=>hb (aeh.1 h _ (ad2 aN))
  rw[JT]at ho
  have ho:o=.ea [.slice .view [],.bool false]:=by simpa using ho.symm
  subst ho
  have hb:(jz ws[i]).2=false:=by simpa using hb
  rw[hb]at a
  generalize(jz ws[i]).1=n at*
  simp[s0,s1,s7,s6,strs,aN];refine oc a ?_;simp[s0,s1,s7,s6,strs,aN]
def gJ(w:List UInt8):Int×Bool:=
 if(eV w).length<1\/(eV w).length>2 then(0,false)
 else if(eV w).all mX then(mf w*da (eV w),qJ (mf w*da (eV w))==w)
 else(0,false)
def Ww(hG:aQ GI)(w:List UInt8)(hw:w.length<1000000):AC prog GI 138 [.str w,.int .i64 2] (.ret (.ea [.int .i64 (gJ w).1,.bool (gJ w).2])):=by
 refine dF hG func138 ntmps138 c138 ?_;refine aY (λS H=>S 0=.str w/\S 1=.int .i64 2) (by simp[af,ae]) ?_;rintro S H ⟨s0,s1⟩;refine aY (λS H=>S 0=.str w/\S 1=.int .i64 2/\S 6=.int .i64 1/\S 7=.str w) (by simp[af,ae,s0,s1]) ?_;clear s0 s1 S H;rintro S H ⟨s0,s1,s6,s7⟩;refine aY (λS H=>S 0=.str w/\S 1=.int .i64 2/\S 6=.int .i64 (mf w)/\S 7=.str (eV w)) ?_ ?_
 .cases w with
  |nil=>simp[af,ae,s0,s1,s6,s7,eV,mf]
  |cons b l=>
   have hl:(0:Int)<l.length+1:=zo
   have AP:(1:Int)<=l.length+1:=zo
   have pk:((l.length:Int)+1>0):=zo
   by_cases hb:b=45
   .subst hb;simp[af,ae,s0,s1,s6,s7,eV,mf,hl,pk,AP,bound]
   .have D2:((b.toNat:Int)==45)=false:=by
     rw[aeO]
     exact λe=>hb (UInt8.toNat_inj.1 (by simpa using(by omega:b.toNat=45)))
    simp[af,ae,s0,s1,s6,s7,eV,mf,hl,pk,hb,D2]
 clear s0 s1 s6 s7 S H;rintro S H ⟨s0,s1,s6,s7⟩
 have Ud:mf w=1\/mf w= -1:=by
  unfold mf
  cases w with
  |nil=>exact .inl rfl
  |cons b l=>by_cases hb:b=45<;>simp[hb]
 unfold gJ
 generalize eV w=r at*
 generalize mf w=sg at*
 by_cases hlen:r.length<1\/r.length>2
 .rw[if_pos hlen];rcases hlen with h|h
  .have h':(r.length:Int)<1:=zo
   simp[af,ae,s0,s1,s6,s7,h,h']
  .have h':¬(r.length:Int)<1:=zo
   have h2:(2:Int)<r.length:=zo
   have h3:((r.length:Int)>2):=zo
   simp[af,ae,s0,s1,s6,s7,h',h2,h3]
 rw[if_neg hlen]
 obtain⟨o,ho⟩:∃o,(if r.all mX=true then(sg*da r,qJ (sg*da r)==w)else((0:Int),false))=o:=⟨_,rfl⟩
 rw[ho]
 have h1:¬(r.length:Int)<1:=zo
 have h2:¬(2:Int)<r.length:=zo
 have h3:¬((r.length:Int)>2):=zo
 refine aY (λS H=>S 0=.str w/\S 1=.int .i64 2/\S 6=.int .i64 sg/\S 7=.str r) (by simp[af,ae,s0,s1,s6,s7,h1,h2,h3]) ?_;clear s0 s1 s6 s7 S H;rintro S H ⟨s0,s1,s6,s7⟩;refine aY (λS H=>S 0=.str w/\S 6=.int .i64 sg/\S 7=.str r/\S 8=.int .i64 0) (by simp[af,ae,s0,s1,s6,s7]) ?_;clear s0 s1 s6 s7 S H;rintro S H ⟨s0,s6,s7,s8⟩;simp[af,ae,s0,s6,s7,s8];refine cK 9 r.length (λi S H=>S 0=.str w/\S 6=.int .i64 sg/\S 7=.str r/\S 9=.int .i64 (i:Nat)/\S 8=.int .i64 (da (r.take i))/\(r.take i).all mX=true) (λi S H h=>h.2.2.2.1) ⟨by simp[af,ae,s0],by simp[af,ae,s6],by simp[af,ae,s7],by simp[af,ae],by simp[af,ae,s8,da],ah7⟩ ?_;clear s0 s6 s7 s8 S H;rintro i hi S H ⟨s0,s6,s7,s9,s8,eu⟩
 by_cases aN:i<r.length
 case neg=>
  have dV:i=r.length:=zo
  subst dV;rw[aee (aed _)]at s8 eu;have hv:=iy r (λc hc=>lU.1 (aeh.1 eu c hc)) zo;rw[if_pos eu]at ho
  generalize da r=v at*
  have I2: -999<=sg*v:=by rcases Ud with rfl|rfl<;>omega
  have JD:sg*v<=999:=by rcases Ud with rfl|rfl<;>omega
  have Zd:IntKind.i64.wrap (sg*v)=sg*v:=bU zo;have a:=QL (GI:=GI) hG I2 JD;subst ho;simp[af,ae,s0,s6,s7,s8,s9,Zd];refine oc a ?_;simp[af,ae,s0,s6,s7,s8,s9]
 have nv:IntKind.i64.wrap ((i:Int)+1)=i+1:=bU zo
 by_cases hd:mX r[i]=true
 .obtain⟨d1,d2⟩:=lU.1 hd
  have pG:(r.take (i+1)).all mX=true:=by
   rw[aec aN,List.all_append,eu];simp[hd]
  have hv:=iy (r.take i) (λc hc=>lU.1 (aeh.1 eu c hc)) (by rw[aes];omega)
  have uf:da (r.take (i+1))=10*da (r.take i)+((r[i].toNat:Int)-48):=by
   rw[aec aN,uD]
  rw[uf]
  generalize da (r.take i)=v at*
  generalize hy:r[i].toNat=y at*
  have e1:¬(y:Int)<48:=zo
  have e2:¬(57:Int)<y:=zo
  have e3:IntKind.u8.wrap ((y:Int)-48)=y-48:=yb zo;have e4:IntKind.i64.wrap ((y:Int)-48)=y-48:=bU zo;have e5:IntKind.i64.wrap (10*v)=10*v:=bU zo;have e6:IntKind.i64.wrap (10*v+((y:Int)-48))=10*v+(y-48):=bU zo;simp only[aeh]at pG;simp[af,ae,s0,s6,s7,s8,s9,aN,nv,hy,e1,e2,e3,e4,e5,e6];exact pG
 .have JT:r.all mX=false:=by
   rw[<-afd]
   exact λh=>hd (aeh.1 h _ (ad2 aN))
  rw[JT]at ho
  have ho:o=(0,false):=by simpa using ho.symm
  subst ho
  have hd:mX r[i]=false:=by simpa using hd
  unfold mX at hd
  by_cases hq:(r[i].toNat:Int)<48
  .have yK:r[i].toNat<48:=zo
   simp[af,ae,s0,s6,s7,s8,s9,aN,hq,yK]
  .have Jb:(57:Int)<r[i].toNat:=by simp at hd;omega
   have yK:¬r[i].toNat<48:=zo
   have GA:57<r[i].toNat:=zo
   simp[af,ae,s0,s6,s7,s8,s9,aN,hq,yK,Jb,GA]
def zp(ws:List (List UInt8)):AV:=if ws.all (λw=>(gJ w).2)=true then .ea [.slice .view (ints (ws.map λw=>(gJ w).1)),.bool true]else .ea [.slice .view [],.bool false]
def XH(hG:aQ GI)(ws:List (List UInt8))(hl:ws.length<1000000)(hw:∀w∈ws,w.length<1000000):AC prog GI 108 [strs ws,.int .i64 2] (.ret (zp ws)):=by
 obtain⟨o,ho⟩:∃o,zp ws=o:=⟨_,rfl⟩
 rw[ho];unfold zp at ho;refine dF hG func108 ntmps108 c108 ?_;refine aY (λS H=>S 0=strs ws/\S 1=.int .i64 2) (by simp[af,ae,strs]) ?_;rintro S H ⟨s0,s1⟩;refine aY (λS H=>S 0=strs ws/\S 1=.int .i64 2/\S 6=grow 3 (ints [])) (by simp[af,ae,s0,s1,strs,grow,ints]) ?_;clear s0 s1 S H;rintro S H ⟨s0,s1,s6⟩;simp[af,ae,s0,s1,s6];refine cK 7 ws.length (λi S H=>S 0=strs ws/\S 1=.int .i64 2/\S 7=.int .i64 (i:Nat)/\S 6=grow 3 (ints ((ws.take i).map λw=>(gJ w).1))/\(ws.take i).all (λw=>(gJ w).2)=true) (λi S H h=>h.2.2.1) ⟨by simp[af,ae,s0],by simp[af,ae,s1],by simp[af,ae],by simp[af,ae,s6],ah7⟩ ?_;clear s0 s1 s6 S H;rintro i hi S H ⟨s0,s1,s7,s6,eu⟩
 by_cases aN:i<ws.length
 case neg=>
  have dV:i=ws.length:=zo
  subst dV;rw[aee (aed _)]at s6 eu;rw[if_pos eu]at ho;subst ho
  by_cases h0:ws=[]
  .subst h0;simp[af,ae,s0,s1,s7,s6,strs,grow,ints]
  .have ES:ints (ws.map λw=>(gJ w).1)≠[]:=by simpa[ints]using h0
   simp only[grow,if_neg ES]at s6
   generalize ints (ws.map λw=>(gJ w).1)=L at*
   simp[af,ae,s0,s1,s7,s6,strs,h0]
 have nv:IntKind.i64.wrap ((i:Int)+1)=i+1:=bU zo;have a:=Ww (GI:=GI) hG ws[i] (hw _ (ad2 aN))
 by_cases hb:(gJ ws[i]).2=true
 .have pG:(ws.take (i+1)).all (fun w=>(gJ w).2)=true:=by
   rw[aec aN,List.all_append,eu];simp[hb]
  have hm:ints ((ws.take (i+1)).map λw=>(gJ w).1)=ints ((ws.take i).map λw=>(gJ w).1)++[.int .i64 (gJ ws[i]).1]:=by
   rw[aec aN,aeB];simp[ints]
  have hlen:(ints ((ws.take i).map λw=>(gJ w).1)).length<=ws.length:=by simp[ints];omega
  have TX:=Na ((ws.take i).map λw=>(gJ w).1);rw[hb]at a;rw[hm]
  generalize ints ((ws.take i).map λw=>(gJ w).1)=L at*
  generalize(gJ ws[i]).1=n at*
  have dG:br 1 [AV.int .i64 n]=true:=rfl;simp[s0,s1,s7,s6,strs,aN];refine oc a ?_;simp[s0,s1,s7,s6,strs,aN,dG];refine gv L (.int .i64 n) (.own 3) (by simp[s6,grow]) ah7 dG TX zo ?_;intro S' sd dp;simp only[aeh]at pG;simp[sd,dp,s0,s1,s7,aN,nv,strs,grow];exact pG
 .have JT:ws.all (fun w=>(gJ w).2)=false:=by
   rw[<-afd]
   exact λh=>hb (aeh.1 h _ (ad2 aN))
  rw[JT]at ho
  have ho:o=.ea [.slice .view [],.bool false]:=by simpa using ho.symm
  subst ho
  have hb:(gJ ws[i]).2=false:=by simpa using hb
  rw[hb]at a
  generalize(gJ ws[i]).1=n at*
  simp[s0,s1,s7,s6,strs,aN];refine oc a ?_;simp[s0,s1,s7,s6,strs,aN]
def E3(ws:List (List UInt8)):Bool:=ws.all λw=>(gJ w).2
def fR(ws:List (List UInt8)):List Int:=if E3 ws then ws.map λw=>(gJ w).1 else[]
def ly(ws:List (List UInt8))(many:Int):Bool:=E3 ws&&(fR ws).all (λn=>decide (0<=n))&&decide (((fR ws).length:Int)=many)
def Oz(ws:List (List UInt8)):zp ws=.ea [.slice .view (ints (fR ws)),.bool (E3 ws)]:=by
 unfold zp fR E3
 by_cases h:ws.all (λw=>(gJ w).2)=true
 .rw[if_pos h,if_pos h,h]
 .rw[if_neg h,if_neg h]
  have:ws.all (λw=>(gJ w).2)=false:=by simpa only[afd]using h
  rw[this]<;>rfl
def YP(hG:aQ GI)(ws:List (List UInt8))(hl:ws.length<1000000)(hw:∀w∈ws,w.length<1000000)(many:Int):AC prog GI 50 [strs ws,.int .i64 many] (.ret (.ea [vI (fR ws),.bool (ly ws many)])):=by
 have a:=XH (GI:=GI) hG ws hl hw;rw[Oz]at a
 have Vc:(fR ws).length<=ws.length:=by unfold fR;split<;>simp
 unfold ly
 generalize fR ws=L at*
 generalize E3 ws=b at*
 refine dF hG func50 ntmps50 c50 ?_;refine aY (λS H=>S 0=strs ws/\S 1=.int .i64 many) (by simp[af,ae,strs]) ?_;rintro S H ⟨s0,s1⟩;refine aY (λS H=>S 1=.int .i64 many/\S 6=vI L/\S 7=.bool b) ?_ ?_
 .have s0':S 0=strs ws:=s0
  generalize ho:strs ws=o at*
  have hov:fz H o=o:=by rw[<-ho]<;>rfl
  have SU:bT o=false:=by rw[<-ho]<;>rfl
  subst ho;simp[af,ae,s0,s1,strs];refine oc a ?_;simp[af,ae,s1]
 clear s0 s1 S H;rintro S H ⟨s1,s6,s7⟩;refine aY (λS H=>S 1=.int .i64 many/\S 6=vI L/\S 7=.bool (b&&L.all (λn=>decide (0<=n)))) ?_ ?_
 .simp[af,ae,s1,s6,s7];refine cK 8 L.length (λi S H=>S 1=.int .i64 many/\S 6=vI L/\S 8=.int .i64 (i:Nat)/\S 7=.bool (b&&(L.take i).all (λn=>decide (0<=n)))) (λi S H h=>h.2.2.1) ⟨by simp[af,ae,s1],by simp[af,ae,s6],by simp[af,ae],by simp[af,ae,s7]⟩ ?_;clear s1 s6 s7 S H;rintro i hi S H ⟨s1,s6,s8,s7⟩
  by_cases aN:i<L.length
  case neg=>
   have dV:i=L.length:=zo
   subst dV;rw[aee (aed _)]at s7;simp[af,ae,s1,s6,s8,s7]
  have nv:IntKind.i64.wrap ((i:Int)+1)=i+1:=bU zo
  have ht:(b&&(L.take (i+1)).all (λn=>decide (0<=n)))=(b&&(L.take i).all (λn=>decide (0<=n))&&decide (0<=L[i])):=by
   rw[aec aN,List.all_append];simp[Bool.and_assoc]
  rw[ht]
  generalize(b&&(L.take i).all (λn=>decide (0<=n)))=c at*
  cases c
  .simp[af,ae,s1,s6,s8,s7,aN,nv]
  .simp[af,ae,s1,s6,s8,s7,aN,nv]
 clear s1 s6 s7 S H;rintro S H ⟨s1,s6,s7⟩
 generalize(b&&L.all (λn=>decide (0<=n)))=c at*
 cases c
 .simp[af,ae,s1,s6,s7]
 .simp[af,ae,s1,s6,s7]
  by_cases hm:((L.length:Int)=many)<;>simp[hm]
end Go.Proofs.Tryz
namespace Go.Proofs.Tryz
open Go.AL
def wk{n:Int}(h:eE n):fP (bW n)=true:=by
 obtain⟨h1,h2,h3,h4⟩:=om h;exact kq.2 ⟨h1,h2,h3,by rw[h4]⟩
def l7{c:UInt8}:∀q∈([]:List (List UInt8)),¬c∈q:=λ_ h=>(ae1 h).elim
def di{c:UInt8}{p:List UInt8}{l:List (List UInt8)}(h:¬c∈p)(hl:∀q∈l,¬c∈q):∀q∈p::l,¬c∈q:=by
 intro q hq;rcases aeD.1 hq with rfl|hq
 .exact h
 .exact hl q hq
def pD{l:List Int}(h:fS l):(l.map bW).all fP=true/\(l.map bW).map da=l:=by
 constructor
 .rw[aeh];intro w hw;obtain⟨n,hn,rfl⟩:=aew.1 hw;exact wk (h n hn)
 .rw[aft]
  conv=>rhs;rw[<-List.map_id l]
  exact aeX λn hn=>(om (h n hn)).2.2.2
def p6{l:List Int}(h:fS l):fJ (l.map bW)=.ok l:=by
 rw[yB (pD h).1,(pD h).2]
def xS:∀{l:List Int},fS l->∀c∈fL 44 (l.map bW),digit c\/c=44\/c=45
 |[],_,c,hc=>by cases hc
 |[n],h,c,hc=>.inl ((om (h n aen)).2.2.1 c hc)
 |n::m::l,h,c,hc=>by
  rw[aer,iw 44 _ ah7]at hc;rcases aeg.1 hc with hc|hc
  .exact .inl ((om (h n aen)).2.2.1 c hc)
  .rcases aeD.1 hc with rfl|hc
   .exact .inr (.inl rfl)
   .exact xS (λx hx=>h x (aei _ hx)) c hc
def AM{l:List Int}(h:fS l):∀c∈gh l,digit c\/c=44\/c=45:=by
 intro c hc;unfold gh at hc;split at hc
 .rw[aev]at hc;exact .inr (.inr hc)
 .exact xS h c hc
def Ak{l:List Int}(h:fS l)(hl:l≠[]):gh l≠[45]/\bL 44 (gh l)=l.map bW:=by
 unfold gh;rw[if_neg hl]
 have hs:bL 44 (fL 44 (l.map bW))=l.map bW:=sq (by simpa using hl) (by
  intro p hp;obtain⟨n,hn,rfl⟩:=aew.1 hp
  exact J4 (h n hn) (by unfold digit;decide))
 refine⟨?_,hs⟩;intro e;rw[e]at hs
 have h2:l.map bW=[[45]]:=by rw[<-hs];decide
 have hm:([45]:List UInt8)∈l.map bW:=by rw[h2];exact aen
 obtain⟨n,hn,hd⟩:=aew.1 hm;have:=(om (h n hn)).2.2.1 45 (by rw[hd];exact aen);revert this;unfold digit;decide
def xT{l:List Int}(h:fS l):jn (gh l)=.ok l:=by
 unfold jn
 by_cases hl:l=[]
 .subst hl;rfl
 .obtain⟨h1,h2⟩:=Ak h hl;rw[if_neg h1,h2,p6 h]
def mH{nm:List UInt8}{l:List (List UInt8)}(h:∀p∈nm::l,¬(32:UInt8)∈p):bL 32 (gQ nm l)=nm::l:=sq ah7 h
def iM{n:Int}(h:eE n):¬(32:UInt8)∈bW n:=J4 h (by unfold digit;decide)
def Fv{l:List Int}(h:fS l):¬(32:UInt8)∈gh l:=by
 intro hc;rcases AM h 32 hc with h|h|h
 .revert h;unfold digit;decide
 .revert h;decide
 .revert h;decide
def E9(b:Bool):¬(32:UInt8)∈jy b:=by cases b<;>decide
def Au{s:bw}(h:j4 s):bL 32 (fW s)=[ot,bW s.wide,bW s.rows]:=mH (di zd (di (iM h.wide) (di (iM h.rows) l7)))
def BY{s:bw}(h:j4 s):bL 32 (h_ s)=[ou,bW s.fV,bW s.fU,bW s.ir,bW s.iu,bW s.dc]:=mH (di zd (di (iM h.fV) (di (iM h.fU) (di (iM h.ir) (di (iM h.iu) (di (iM h.dc) l7))))))
def Cj{n:Int}(h:eE n):bL 32 (gG n)=[pg,bW n]:=mH (di zd (di (iM h) l7))
def BU{p:k_}(h:eE p.l/\eE p.r/\eE p.lo/\eE p.hi):bL 32 (ji p)=[oV,bW p.l,bW p.r,bW p.lo,bW p.hi]:=mH (di zd (di (iM h.1) (di (iM h.2.1) (di (iM h.2.2.1) (di (iM h.2.2.2) l7)))))
def CK{w:Word}(h:fS w.cb/\fS w.dq):bL 32 (iV w)=[lg,jy w.free,gh w.cb,gh w.dq]:=mH (di zd (di (E9 _) (di (Fv h.1) (di (Fv h.2) l7))))
def ur(b:Bool):(jy b==[121,101,115])=b:=by cases b<;>decide
def K9{s x:bw}(h:j4 s):eY x (fW s)=.ok { x with wide:=s.wide,rows:=s.rows }:=by
 unfold eY;rw[Au h];have:=p6 (l:=[s.wide,s.rows]) (cz h.wide (cz h.rows fK));simp only[aer,aeF]at this;simp[this,c_,at']
def Pd{s x:bw}(h:j4 s):eY x (h_ s)=.ok { x with fV:=s.fV,fU:=s.fU,ir:=s.ir,iu:=s.iu,dc:=s.dc }:=by
 unfold eY;rw[BY h];have:=p6 (l:=[s.fV,s.fU,s.ir,s.iu,s.dc]) (cz h.fV (cz h.fU (cz h.ir (cz h.iu (cz h.dc fK)))));simp only[aer,aeF]at this
 have n1:ou≠ot:=zd
 simp[this,c_,at',n1]
def N0{x:bw}{n:Int}(h:eE n):eY x (gG n)=.ok { x with bJ:=x.bJ++[n] }:=by
 unfold eY;rw[Cj h];have:=p6 (l:=[n]) (cz h fK);simp only[aer,aeF]at this;simp[this,c_,at']
def OB{x:bw}{p:k_}(h:eE p.l/\eE p.r/\eE p.lo/\eE p.hi):eY x (ji p)=.ok { x with bK:=x.bK++[p] }:=by
 unfold eY;rw[BU h];obtain⟨h1,h2,h3,h4⟩:=h;have:=p6 (l:=[p.l,p.r,p.lo,p.hi]) (cz h1 (cz h2 (cz h3 (cz h4 fK))));simp only[aer,aeF]at this;simp[this,c_,at']
def Ok{x:bw}{w:Word}(h:fS w.cb/\fS w.dq):eY x (iV w)=.ok { x with words:=x.words++[w] }:=by
 unfold eY;rw[CK h]
 have n1:lg≠ot:=zd
 have n2:lg≠ou:=zd
 have n3:lg≠pg:=zd
 have n4:lg≠oV:=zd
 simp[xT h.1,xT h.2,c_,at',ur]
def KZ{l:List Int}(h:fS l):∀{x:bw},dO eY x (l.map gG)=.ok { x with bJ:=x.bJ++l }:=by
 induction l with
 |nil=>intro x;simp[dO]
 |cons n l ih=>
  intro x;show c_ (eY x (gG n)) (λa=>dO eY a (l.map gG))=_;rw[N0 (h n aen)];show dO eY _ _=_;rw[ih (λk hk=>h k (aei _ hk))];simp
def Ny{l:List k_}(h:∀p∈l,eE p.l/\eE p.r/\eE p.lo/\eE p.hi):∀{x:bw},dO eY x (l.map ji)=.ok { x with bK:=x.bK++l }:=by
 induction l with
 |nil=>intro x;simp[dO]
 |cons n l ih=>
  intro x;show c_ (eY x (ji n)) (λa=>dO eY a (l.map ji))=_;rw[OB (h n aen)];show dO eY _ _=_;rw[ih (λk hk=>h k (aei _ hk))];simp
def LY{l:List Word}(h:∀w∈l,fS w.cb/\fS w.dq):∀{x:bw},dO eY x (l.map iV)=.ok { x with words:=x.words++l }:=by
 induction l with
 |nil=>intro x;simp[dO]
 |cons n l ih=>
  intro x;show c_ (eY x (iV n)) (λa=>dO eY a (l.map iV))=_;rw[Ok (h n aen)];show dO eY _ _=_;rw[ih (λk hk=>h k (aei _ hk))];simp
def NC{s:bw}(h:j4 s):dO eY cn (fF s)=.ok s:=by
 show c_ (eY cn (fW s)) (λa=>c_ (eY a (h_ s)) λa=>dO eY a (s.bJ.map gG++(s.bK.map ji++s.words.map iV)))=_;rw[K9 h];show c_ (eY _ (h_ s)) _=_;rw[Pd h];show dO eY _ _=_;rw[pE (KZ h.bJ),pE (Ny h.bK),LY h.words];simp[cn]
def ml{c:UInt8}(hc:c≠10):∀{l:List (List UInt8)},(∀p∈l,¬(10:UInt8)∈p)->¬(10:UInt8)∈fL c l
 |[],_,h=>by cases h
 |[p],h,hm=>h p aen hm
 |p::q::r,h,hm=>by
  rw[iw c p ah7]at hm;rcases aeg.1 hm with hm|hm
  .exact h p aen hm
  .rcases aeD.1 hm with e|hm
   .exact hc e.symm
   .exact ml hc (λx hx=>h x (aei _ hx)) hm
def gy{n:Int}(h:eE n):¬(10:UInt8)∈bW n:=J4 h (by unfold digit;decide)
def Fo{l:List Int}(h:fS l):¬(10:UInt8)∈gh l:=by
 intro hc;rcases AM h 10 hc with h|h|h
 .revert h;unfold digit;decide
 .revert h;decide
 .revert h;decide
def Cu{s:bw}(h:j4 s):∀p∈fF s,¬(10:UInt8)∈p:=by
 intro p hp;unfold fF at hp;simp only[aeD,aeg,aew]at hp
 rcases hp with rfl|rfl|⟨n,hn,rfl⟩|⟨q,hq,rfl⟩|⟨w,hw,rfl⟩
 .exact ml zd (di zd (di (gy h.wide) (di (gy h.rows) l7)))
 .exact ml zd (di zd (di (gy h.fV) (di (gy h.fU) (di (gy h.ir) (di (gy h.iu) (di (gy h.dc) l7))))))
 .exact ml zd (di zd (di (gy (h.bJ n hn)) l7))
 .obtain⟨h1,h2,h3,h4⟩:=h.bK q hq;exact ml zd (di zd (di (gy h1) (di (gy h2) (di (gy h3) (di (gy h4) l7)))))
 .obtain⟨h1,h2⟩:=h.words w hw;exact ml zd (di zd (di (by cases w.free<;>decide) (di (Fo h1) (di (Fo h2) l7))))
def J2(l:List (List UInt8)):0<=dM 0 l % 173/\dM 0 l % 173<173:=by omega
def SZ{c:Int}(h:0<=c)(h':c<173):¬(10:UInt8)∈nc c:=by
 unfold nc;simp only[aeg];rintro(((h1|h1)|h1)|h1)
 .revert h1;decide
 .exact gy ⟨zo,zo⟩ h1
 .exact gy ⟨zo,zo⟩ h1
 .exact gy ⟨zo,zo⟩ h1
def B5{l:List (List UInt8)}(h:∀p∈l,¬(10:UInt8)∈p):bL 10 (AT l)=l++[nc (dM 0 l % 173),[]]:=by
 refine sq ah7 ?_;intro p hp;simp only[aeg,aeD,ae1,agF]at hp;obtain⟨h1,h2⟩:=J2 l;rcases hp with hp|rfl|rfl
 .exact h p hp
 .exact SZ h1 h2
 .simp
def IV{s:bw}(h:j4 s):jq (fb s)=.ok s:=by
 unfold jq;have hs:bL 10 (fb s)=fF s++[nc (dM 0 (fF s) % 173),[]]:=B5 (Cu h);rw[hs,if_neg ah7,aeu,show[nc (dM 0 (fF s) % 173),[]].length=2 from rfl,afS,agj,NC h];show(if fb s=fb s then _ else _)=_;rw[if_pos rfl]
end Go.Proofs.Tryz
namespace Go.AL
def vG{P:Program}{GI:World->Prop}{i k:Nat}{x y:ah}{Q:eh->au->aD->Prop}{S:au}{H:aD}(K:au->aD->Prop)(hx:cW P GI x (aq K) S H)(hy:∀S' H',K S' H'->Cx P GI i k y Q S' H'):Cx P GI i (k+1) (.seq x y) Q S H:=by
 refine Tb K (gx x (λe S H h=>?_) hx) (λh=>gx x h) hy
 cases e<;>first|exact⟨rfl,h⟩|exact h.elim
section
variable{P:Program}{GI:World->Prop}
def ZI {S:au} {H:aD} {t e size cap i j:Nat} {l vs:List AV} {o:Ow} (hi:S i=grow e l) (hj:S j = .slice o vs) (hv:br size vs=true) (hl:br size l=true) (hn:l.length+vs.length < 1048576) :
  ∃dm,(dm=none\/dm=some i)/\ar S H (.append t e size cap (.t i) (.t j))=some { v:=grow e (l++vs),dm:=dm }:=by
 have ei:ev S (.t i)=grow e l:=hi;have ej:ev S (.t j)=.slice o vs:=hj
 cases l with
 |nil=>
  refine⟨none,.inl rfl,?_⟩;simp only[ar];rw[ei,ej,HM]
  have zh:vs.length<1048576:=by simpa using hn
  simp[hv,grow,zh]
 |cons x l=>
  refine⟨some i,.inr rfl,?_⟩
  have zh:l.length+1+vs.length<1048576:=by simpa using hn
  simp only[ar];rw[ei,ej];simp[grow,hv,hl,bj,zh]
def nQ {K:au→aD→Prop} {S:au} {H:aD} {t e size cap d i j:Nat} {rest:List db} (l vs:List AV) (o:Ow) (hi:S i=grow e l) (hj:S j = .slice o vs) (hv:br size vs=true) (hl:br size l=true) (hn:l.length+vs.length < 1048576)
  (h:∀S',S' d=grow e (l++vs)->(∀k,k≠d->k≠i->S' k=S k)->dT P GI rest K S' H):dT P GI (⟨some d,none,.append t e size cap (.t i) (.t j)⟩::rest) K S H:=by
 obtain⟨dm,I0,kI⟩:=ZI (t:=t) (cap:=cap) (H:=H) hi hj hv hl hn;obtain⟨k1,k2⟩:=wX (S:=S) (d:=d) I0 (grow e (l++vs));rw[ae];simp only[an,kI];exact h _ k1 k2
end
section
variable{P:Program}{GI:World->Prop}
def M3 (f args d g rest K S H):dT P GI (⟨d,g,.ig f args⟩::rest) K S H=(match an S g with
  |some true=>((match ev S f with|.func _ first cap=>(first++args.map (ev S)++cap).any bT|_=>true)=false/\(match ev S f with
   |.func (.func k) first cap=>mB P GI k ((first++args.map (ev S)++cap).map (fz H)) ((first++args.map (ev S)++cap).any bT) (kD P GI rest K S d H) (λ_=>False)
   |_=>False))
  |some false=>dT P GI rest K (bl S d a_) H
  |none=>False):=(Eq.refl _).trans (Eq.refl _)
def nM{i d k t:Nat}{Qt:List (TypeId×Nat)}{v r:AV}{rest:List db}{K:au->aD->Prop}{S:au}{H:aD}(hS:S i=.iface t v)(ht:Qt.lookup t=some k)(hb:bT v=false)(hf:fz H v=v)(hc:eU P k=true)(a:AC P GI k [v] (.ret r))(h:dT P GI rest K (aF S d r) H):dT P GI (⟨some d,none,.ig (.m i Qt) []⟩::rest) K S H:=by
 rw[M3]
 have e:ev S (.m i Qt)=.func (.func k) [v] []:=by simp[ev,hS,ht]
 simp only[an,e];refine⟨by simp[hb],.ret r,hc,?_,by simp[hb],?_⟩
 .simpa[hf]using a
 .exact h
end
def Rel.uM{P:Program}{w0:World}{n:Nat}{g:Gh}{S:au}{H:aD}{a:Act}{w:World}(R:Rel P w0 n dh g S H a w)(b:Nat):Rel P w0 n dh { g with old:={ g.old with cg:=aF g.old.cg b none } } S H a w:={
 size:=R.size
 defers:=R.defers
 facts:=R.facts
 slot:=R.slot
 own t ht hu:=(R.own t ht hu).cg rfl λb hb=>⟨rfl,rfl,hb⟩
 box i c hi:=by
  obtain⟨cs,vs,ty,h1,h2,h3,h4,h5,h6,h7,h8,h9⟩:=R.box i c hi;exact⟨cs,vs,ty,h1,h2,h3,h4,h5,h6,h7,λj hj eX=>(h8 j hj eX).cg rfl λb hb=>⟨rfl,rfl,hb⟩,h9⟩
 kF:=R.kF
 kE:=R.kE
 inj:=R.inj
 base:=R.base
 below:=R.below
 fresh:=R.fresh
 still:=R.still
 grown:=R.grown
 kept c o h:=by
  have hc:c≠b:=by rintro rfl;simp[aF]at h
  exact R.kept c o (by simpa[aF,hc]using h) }
section
variable{P:Program}{a:Act}{w:World}{m:Nat}{Q:Exit->Act->World->Prop}
def Ks {ops:Array Oper} {i:Nat} {rest:List Nat} {o:Oper} (ho:ops[i]? = some o) (hw:Region.wanted o (yielded ops a.tmps)=true) (eK:fk o.op=true) {l f:Nat} {tmps:Array Value} {Xk bd:Code} {w':World}
  (hr:(execOp a.eval o).run P w=.ok (.round l f tmps Xk bd) w') {R:Ending->World->Prop} (hc:∀m,RoundIn (FR none) m P l f tmps Xk bd w' R) (hk:∀e j0,R e j0->∃v,e=.returned v/\wpOpsIn (FR none) m P ops Q rest (a.put o.dst v) j0):wpOpsIn (FR none) m P ops Q (i::rest) a w:=by
 simp only[wpOpsIn,ho];rw[if_pos hw];refine⟨λ_ _=>trivial,?_⟩;rw[afE _ _ _ (λc hc=>by rw[hc]at eK;cases eK),hr];refine⟨λh=>by simp[FR,Fence.wide]at h,(hc (m-1)).mono λe j0 hh=>?_⟩;obtain⟨v,rfl,h⟩:=hk e j0 hh;exact h
def SK{o:Oper}{t:TypeId}{x:Operand}{b:Bool}(ho:o.op=.unOp .not t x)(hx:a.eval x=.bool b):(execOp a.eval o).run P w=.ok (.value (.bool !b)) w:=by
 unfold execOp;simp[ho,hx,Op.unary]
end
end Go.AL
namespace Go.Proofs.Tryz
open Go Go.AL Go.RowKit Go.Proofs Go.Proofs.Tram
attribute [local simp] aU bB bm aO aV aJ aK av az aW aw ao bO bP an ar ev aM.S aM.H bj aF bl AL.start AV.cells AV.storable AV.aZ aP bt bV bu HR.okB post bQ bG bH AV.out AV.aX aG aL fz cL AV.vw bT vI int a_ aq bD bq cd cj bZ bI aI AV.bC AV.dE
variable{GI:World->Prop}
def je(nm:List UInt8)(ws:List (List UInt8)):Lib.join (nm::ws) [32]=gQ nm ws:=Dn 32 (nm::ws)
def UP(hG:aQ GI)(V:List AV)(ws:List (List UInt8))(hb:bT (.agg V)=false)(hf:∀H,fz H (.agg V)=.agg V)(a:AC prog GI 212 [.agg V] (.ret (strs ws)))(hl:ws.length<1000)(hr:(gQ ot ws).length<100000):AC prog GI 104 [.iface 149 (.agg V)] (.ret (.str (gQ ot ws))):=by
 have pZ:=AZ hG;have b:=wx (GI:=GI) (ot::ws) [32] (by simp;omega) (by rw[je];omega);rw[je]at b;have b2:AC prog GI 121 [.slice .view (AV.str ot::ws.map AV.str),.str [32]] (.ret (.str (gQ ot ws))):=b;have dG:br 1 [AV.str ot]=true:=rfl;have gZ:br 1 (ws.map AV.str)=true:=fN ws
 have hlen:1+(ws.map AV.str).length<1048576:=by simp;omega
 generalize gQ ot ws=r at*
 refine dF hG func104 ntmps104 c104 ?_;simp[c104];refine oc pZ ?_;simp[dG];refine nM (t:=149) (v:=.agg V) (r:=strs ws) ah7 zr hb (hf _) zk a ?_;refine nQ [AV.str ot] (ws.map .str) .view (by simp[grow]) (by simp[strs]) gZ dG hlen ?_;intro S' sd dp;simp[sd,dp,grow];refine oc b2 ?_;simp
def Vr(hG:aQ GI)(V:List AV)(ws:List (List UInt8))(hb:bT (.agg V)=false)(hf:∀H,fz H (.agg V)=.agg V)(a:AC prog GI 214 [.agg V] (.ret (strs ws)))(hl:ws.length<1000)(hr:(gQ ou ws).length<100000):AC prog GI 104 [.iface 150 (.agg V)] (.ret (.str (gQ ou ws))):=by
 have pZ:=AZ hG;have b:=wx (GI:=GI) (ou::ws) [32] (by simp;omega) (by rw[je];omega);rw[je]at b;have b2:AC prog GI 121 [.slice .view (AV.str ou::ws.map AV.str),.str [32]] (.ret (.str (gQ ou ws))):=b;have dG:br 1 [AV.str ou]=true:=rfl;have gZ:br 1 (ws.map AV.str)=true:=fN ws
 have hlen:1+(ws.map AV.str).length<1048576:=by simp;omega
 generalize gQ ou ws=r at*
 refine dF hG func104 ntmps104 c104 ?_;simp[c104];refine oc pZ ?_;simp[dG];refine nM (t:=150) (v:=.agg V) (r:=strs ws) ah7 zr hb (hf _) zk a ?_;refine nQ [AV.str ou] (ws.map .str) .view (by simp[grow]) (by simp[strs]) gZ dG hlen ?_;intro S' sd dp;simp[sd,dp,grow];refine oc b2 ?_;simp
def VK(hG:aQ GI)(V:List AV)(ws:List (List UInt8))(hb:bT (.agg V)=false)(hf:∀H,fz H (.agg V)=.agg V)(a:AC prog GI 215 [.agg V] (.ret (strs ws)))(hl:ws.length<1000)(hr:(gQ pg ws).length<100000):AC prog GI 104 [.iface 153 (.agg V)] (.ret (.str (gQ pg ws))):=by
 have pZ:=AZ hG;have b:=wx (GI:=GI) (pg::ws) [32] (by simp;omega) (by rw[je];omega);rw[je]at b;have b2:AC prog GI 121 [.slice .view (AV.str pg::ws.map AV.str),.str [32]] (.ret (.str (gQ pg ws))):=b;have dG:br 1 [AV.str pg]=true:=rfl;have gZ:br 1 (ws.map AV.str)=true:=fN ws
 have hlen:1+(ws.map AV.str).length<1048576:=by simp;omega
 generalize gQ pg ws=r at*
 refine dF hG func104 ntmps104 c104 ?_;simp[c104];refine oc pZ ?_;simp[dG];refine nM (t:=153) (v:=.agg V) (r:=strs ws) ah7 zr hb (hf _) zk a ?_;refine nQ [AV.str pg] (ws.map .str) .view (by simp[grow]) (by simp[strs]) gZ dG hlen ?_;intro S' sd dp;simp[sd,dp,grow];refine oc b2 ?_;simp
def T3(hG:aQ GI)(V:List AV)(ws:List (List UInt8))(hb:bT (.agg V)=false)(hf:∀H,fz H (.agg V)=.agg V)(a:AC prog GI 216 [.agg V] (.ret (strs ws)))(hl:ws.length<1000)(hr:(gQ oV ws).length<100000):AC prog GI 104 [.iface 155 (.agg V)] (.ret (.str (gQ oV ws))):=by
 have pZ:=AZ hG;have b:=wx (GI:=GI) (oV::ws) [32] (by simp;omega) (by rw[je];omega);rw[je]at b;have b2:AC prog GI 121 [.slice .view (AV.str oV::ws.map AV.str),.str [32]] (.ret (.str (gQ oV ws))):=b;have dG:br 1 [AV.str oV]=true:=rfl;have gZ:br 1 (ws.map AV.str)=true:=fN ws
 have hlen:1+(ws.map AV.str).length<1048576:=by simp;omega
 generalize gQ oV ws=r at*
 refine dF hG func104 ntmps104 c104 ?_;simp[c104];refine oc pZ ?_;simp[dG];refine nM (t:=155) (v:=.agg V) (r:=strs ws) ah7 zr hb (hf _) zk a ?_;refine nQ [AV.str oV] (ws.map .str) .view (by simp[grow]) (by simp[strs]) gZ dG hlen ?_;intro S' sd dp;simp[sd,dp,grow];refine oc b2 ?_;simp
def Tt(hG:aQ GI)(V:List AV)(ws:List (List UInt8))(hb:bT (.agg V)=false)(hf:∀H,fz H (.agg V)=.agg V)(a:AC prog GI 217 [.agg V] (.ret (strs ws)))(hl:ws.length<1000)(hr:(gQ lg ws).length<100000):AC prog GI 104 [.iface 157 (.agg V)] (.ret (.str (gQ lg ws))):=by
 have pZ:=AZ hG;have b:=wx (GI:=GI) (lg::ws) [32] (by simp;omega) (by rw[je];omega);rw[je]at b;have b2:AC prog GI 121 [.slice .view (AV.str lg::ws.map AV.str),.str [32]] (.ret (.str (gQ lg ws))):=b;have dG:br 1 [AV.str lg]=true:=rfl;have gZ:br 1 (ws.map AV.str)=true:=fN ws
 have hlen:1+(ws.map AV.str).length<1048576:=by simp;omega
 generalize gQ lg ws=r at*
 refine dF hG func104 ntmps104 c104 ?_;simp[c104];refine oc pZ ?_;simp[dG];refine nM (t:=157) (v:=.agg V) (r:=strs ws) ah7 zr hb (hf _) zk a ?_;refine nQ [AV.str lg] (ws.map .str) .view (by simp[grow]) (by simp[strs]) gZ dG hlen ?_;intro S' sd dp;simp[sd,dp,grow];refine oc b2 ?_;simp
def Ov(ws:List (List UInt8)):Bool:=ws.all λw=>(jz w).2
def lT(ws:List (List UInt8)):List Int:=if Ov ws then ws.map λw=>(jz w).1 else[]
def me(ws:List (List UInt8))(many:Int):Bool:=Ov ws&&(lT ws).all (λn=>decide (0<=n))&&(decide (many<0)||decide (((lT ws).length:Int)=many))
def Sh(ws:List (List UInt8)):DN ws=.ea [.slice .view (ints (lT ws)),.bool (Ov ws)]:=by
 unfold DN lT Ov
 by_cases h:ws.all (λw=>(jz w).2)=true
 .rw[if_pos h,if_pos h,h]
 .rw[if_neg h,if_neg h]
  have:ws.all (λw=>(jz w).2)=false:=by simpa only[afd]using h
  rw[this];rfl
def EE(hG:aQ GI)(ws:List (List UInt8))(hl:ws.length<1000000)(hw:∀w∈ws,w.length<1000000)(many:Int):AC prog GI 109 [strs ws,.int .i64 many] (.ret (.ea [vI (lT ws),.bool (me ws many)])):=by
 have a:=aal (GI:=GI) hG ws hl hw;rw[Sh]at a
 have Vc:(lT ws).length<=ws.length:=by unfold lT;split<;>simp
 unfold me
 generalize lT ws=L at*
 generalize Ov ws=b at*
 refine dF hG func109 ntmps109 c109 ?_;refine aY (λS H=>S 0=strs ws/\S 1=.int .i64 many) (by simp[strs]) ?_;rintro S H ⟨s0,s1⟩;refine aY (λS H=>S 1=.int .i64 many/\S 6=vI L/\S 7=.bool b) ?_ ?_
 .have s0':S 0=strs ws:=s0
  generalize ho:strs ws=o at*
  have hov:fz H o=o:=by rw[<-ho];rfl
  have SU:bT o=false:=by rw[<-ho];rfl
  subst ho;simp[s0,s1,strs];refine oc a ?_;simp[s1]
 clear s0 s1 S H;rintro S H ⟨s1,s6,s7⟩;refine aY (λS H=>S 1=.int .i64 many/\S 6=vI L/\S 7=.bool (b&&L.all (λn=>decide (0<=n)))) ?_ ?_
 .simp[s1,s6,s7];refine cK 8 L.length (λi S H=>S 1=.int .i64 many/\S 6=vI L/\S 8=.int .i64 (i:Nat)/\S 7=.bool (b&&(L.take i).all (λn=>decide (0<=n)))) (λi S H h=>h.2.2.1) ⟨by simp[s1],by simp[s6],ah7,by simp[s7]⟩ ?_;clear s1 s6 s7 S H;rintro i hi S H ⟨s1,s6,s8,s7⟩
  by_cases aN:i<L.length
  case neg=>
   have dV:i=L.length:=zo
   subst dV;rw[aee (aed _)]at s7;simp[s1,s6,s8,s7]
  have nv:IntKind.i64.wrap ((i:Int)+1)=i+1:=bU zo
  have ht:(b&&(L.take (i+1)).all (λn=>decide (0<=n)))=(b&&(L.take i).all (λn=>decide (0<=n))&&decide (0<=L[i])):=by
   rw[aec aN,List.all_append];simp[Bool.and_assoc]
  rw[ht]
  generalize(b&&(L.take i).all (λn=>decide (0<=n)))=c at*
  cases c
  .simp[s1,s6,s8,s7,aN,nv]
  .simp[s1,s6,s8,s7,aN,nv]
 clear s1 s6 s7 S H;rintro S H ⟨s1,s6,s7⟩
 generalize(b&&L.all (λn=>decide (0<=n)))=c at*
 cases c
 .simp[s1,s6,s7]
 .by_cases hm:many<0
  .simp[s1,s6,s7,hm]
  .simp[s1,s6,s7,hm]
   try rfl
end Go.Proofs.Tryz
namespace Go.Proofs.Tryz
open Go Go.AL Go.RowKit Go.Proofs Go.Proofs.Tram
attribute [local simp] aU bB fT fu aV aJ aK av az aW aw ao bO bP an ar ev aM.S aM.H bj aF bl AL.start AV.cells AV.storable AV.aZ aP bt bV bu HR.okB post bQ bG bH AV.out AV.aX aG aL fz cL AV.vw bT vI int a_ aq bD bq cd cj bZ bI aI AV.bC AV.dE
variable{GI:World->Prop}
def yj(p:k_):List AV:=[.int .i64 p.l,.int .i64 p.r,.int .i64 p.lo,.int .i64 p.hi]
def y9(w:Word):List AV:=[vI w.cb,vI w.dq,.bool w.free]
def A7(s:bw):List (Nat×List AV×List UInt8):=[(149,ai s,fW s),(150,ai s,h_ s)]++(s.bJ.map (λn=>(153,[AV.int .i64 n],gG n))++(s.bK.map (λp=>(155,yj p,ji p))++s.words.map (λw=>(157,y9 w,iV w))))
def oG(p:k_):Nat×List AV×List UInt8:=(155,yj p,ji p)
def o8(w:Word):Nat×List AV×List UInt8:=(157,y9 w,iV w)
def iL(q:Nat×List AV×List UInt8):AV:=.iface q.1 (.agg q.2.1)
def CG(s:bw):(A7 s).map (·.2.2)=fF s:=by
 unfold A7 fF;simp[Function.comp_def]
def NT(hG:aQ GI)(hT:TB GI)(s:bw)(hN:j4 s)(hf:F' s):∀q∈A7 s,AC prog GI 104 [iL q] (.ret (.str q.2.2)):=by
 have pq:=uc hN hf;rw[<-CG]at pq;intro q hq;have hl:=pq q.2.2 (af4 hq);unfold A7 at hq;simp only[aeD,aeg,aew,ae1,agF]at hq
 rcases hq with(rfl|rfl)|⟨n,hn,rfl⟩|⟨p,hp,rfl⟩|⟨w,hw,rfl⟩
 .exact UP hG (ai s) ([s.wide,s.rows].map bW) rfl (λ_=>rfl) (ZT hG hT s hN) ah7 (agR hl zo)
 .exact Vr hG (ai s) ([s.fV,s.fU,s.ir,s.iu,s.dc].map bW) rfl (λ_=>rfl) (Zx hG hT s hN) ah7 (agR hl zo)
 .exact VK hG [.int .i64 n] ([n].map bW) rfl (λ_=>rfl) (Zq hG hT n (hN.bJ n hn)) ah7 (agR hl zo)
 .obtain⟨h1,h2,h3,h4⟩:=hN.bK p hp;exact T3 hG (yj p) ([p.l,p.r,p.lo,p.hi].map bW) rfl (λ_=>rfl) (aaF hG hT p h1 h2 h3 h4) ah7 (agR hl zo)
 .obtain⟨h1,h2⟩:=hN.words w hw;exact Tt hG (y9 w) [jy w.free,gh w.cb,gh w.dq] rfl (λ_=>rfl) (aa5 hG hT w h1 h2 (hf.cb w hw) (hf.dq w hw)) ah7 (agR hl zo)
def Jl(l:List (Nat×List AV×List UInt8)):br 1 (l.map iL)=true:=iJ λa=>⟨rfl,rfl⟩
def Yo(hG:aQ GI)(hT:TB GI)(s:bw)(hN:j4 s)(hf:F' s):AC prog GI 45 [dj s] (.ret (.str (fb s))):=by
 have q1:=hf.bJ;have q2:=hf.bK;have q3:=hf.words;have T1:=NT hG hT s hN hf;have xl:=CG s;have pq:=uc hN hf
 have xr:(fF s).length<1000:=by unfold fF;simp;omega
 have XG:fb s=AT (fF s):=rfl;rw[XG]
 generalize hR:A7 s=R at*
 refine dF hG func45 ntmps45 c45 ?_;refine aY (λS H=>S 1=.box 1 0/\H 1=some (ai s)/\S 2=.str []) (by simp[af,ae,dj,ai]) ?_;rintro S H ⟨s1,e1,s2⟩;refine aY (λS H=>S 1=.box 1 0/\H 1=some (ai s)/\S 3=grow 159 ([(149,ai s,fW s),(150,ai s,h_ s)].map iL)) ?_ ?_
 .have df:∀a b:List AV,br 1 [AV.iface 149 (.agg a),AV.iface 150 (.agg b)]=true:=λ_ _=>rfl
  simp[af,ae,s1,e1,ai,cD,df,grow,iL]
 clear s1 e1 s2 S H;rintro S H ⟨s1,e1,s3⟩;refine aY (λS H=>S 1=.box 1 0/\H 1=some (ai s)/\S 3=grow 159 (([(149,ai s,fW s),(150,ai s,h_ s)]++s.bJ.map (λn=>(153,[AV.int .i64 n],gG n))).map iL)) ?_ ?_
 .simp[af,ae,s1,e1,s3];refine cK 26 s.bJ.length (λi S H=>S 1=.box 1 0/\H 1=some (ai s)/\S 24=vI s.bJ/\S 25=.int .i64 (s.bJ.length:Nat)/\S 26=.int .i64 (i:Nat)/\S 3=grow 159 (([(149,ai s,fW s),(150,ai s,h_ s)]++(s.bJ.take i).map (λn=>(153,[AV.int .i64 n],gG n))).map iL)) (λi S H h=>h.2.2.2.2.1) ⟨by simp[af,ae,s1],by simp[af,ae,e1],by simp[af,ae,ai,s1,e1],by simp[af,ae,ai,s1,e1],by simp[af,ae],by simp[af,ae,s3,grow]⟩ ?_;clear s1 e1 s3 S H;rintro i hi S H ⟨s1,e1,sX,gn,iq,s3⟩
  by_cases aN:i<s.bJ.length
  case neg=>
   have dV:i=s.bJ.length:=zo
   subst dV;rw[aee (aed _)]at s3;simp[af,ae,s1,e1,sX,gn,iq,s3]
  have hw:IntKind.i64.wrap ((i:Int)+1)=i+1:=bU zo
  have ht:[(149,ai s,fW s),(150,ai s,h_ s)]++(s.bJ.take (i+1)).map (λn=>(153,[AV.int .i64 n],gG n))=([(149,ai s,fW s),(150,ai s,h_ s)]++(s.bJ.take i).map (λn=>(153,[AV.int .i64 n],gG n)))++[(153,[AV.int .i64 s.bJ[i]],gG s.bJ[i])]:=by
   rw[aec aN,aeB,aeU];rfl
  have hlen:([(149,ai s,fW s),(150,ai s,h_ s)]++(s.bJ.take i).map (λn=>(153,[AV.int .i64 n],gG n))).length<=2000:=by simp;omega
  rw[ht]
  generalize[(149,ai s,fW s),(150,ai s,h_ s)]++(s.bJ.take i).map (λn=>(153,[AV.int .i64 n],gG n))=B at*
  have dG:br 1 [AV.iface 153 (.agg [.int .i64 s.bJ[i]])]=true:=rfl;simp[s1,e1,sX,gn,iq,s3,aN,cD,dG];refine gv (B.map iL) (.iface 153 (.agg [.int .i64 s.bJ[i]])) (.own 159) (by simp[s3,grow]) ah7 dG (Jl B) (by rw[aef];omega) ?_;intro S' sd dp;simp[sd,dp,s1,e1,sX,gn,iq,aN,hw,grow,iL]
 clear s1 e1 s3 S H;rintro S H ⟨s1,e1,s3⟩;generalize hA:[(149,ai s,fW s),(150,ai s,h_ s)]++s.bJ.map (λn=>(153,[AV.int .i64 n],gG n))=A at s3
 have hAl:A.length<=302:=by rw[<-hA];simp;omega
 refine aY (λS H=>S 1=.box 1 0/\H 1=some (ai s)/\S 3=grow 159 ((A++s.bK.map oG).map iL)) ?_ ?_
 .simp[af,ae,s1,e1,s3];refine cK 40 s.bK.length (λi S H=>S 1=.box 1 0/\H 1=some (ai s)/\S 38=.slice .view (s.bK.map eH)/\S 39=.int .i64 (s.bK.length:Nat)/\S 40=.int .i64 (i:Nat)/\S 3=grow 159 ((A++(s.bK.take i).map oG).map iL)) (λi S H h=>h.2.2.2.2.1) ⟨by simp[af,ae,s1],by simp[af,ae,e1],by simp[af,ae,ai,s1,e1],by simp[af,ae,ai,s1,e1],by simp[af,ae],by simp[af,ae,s3,grow]⟩ ?_;clear s1 e1 s3 S H;rintro i hi S H ⟨s1,e1,Xc,F5,Ot,s3⟩
  by_cases aN:i<s.bK.length
  case neg=>
   have dV:i=s.bK.length:=zo
   subst dV;rw[aee (aed _)]at s3;simp[af,ae,s1,e1,Xc,F5,Ot,s3]
  have hw:IntKind.i64.wrap ((i:Int)+1)=i+1:=bU zo
  have ht:A++(s.bK.take (i+1)).map oG=(A++(s.bK.take i).map oG)++[oG s.bK[i]]:=by
   rw[aec aN,aeB,aeU];rfl
  have hlen:(A++(s.bK.take i).map oG).length<=2000:=by simp;omega
  rw[ht]
  generalize A++(s.bK.take i).map oG=B at*
  have dG:br 1 [iL (oG s.bK[i])]=true:=rfl;simp[s1,e1,Xc,F5,Ot,s3,aN,cD,oG,yj,eH]
  try simp only[oG,yj,eH,iL]at dG
  try simp[s1,e1,Xc,F5,Ot,s3,aN,cD,dG]
  refine gv (B.map iL) (iL (oG s.bK[i])) (.own 159) (by simp[s3,grow]) (by simp[iL,oG,yj,eH]) rfl (Jl B) (by rw[aef];omega) ?_;intro S' sd dp;simp[sd,dp,s1,e1,Xc,F5,Ot,aN,hw,grow,iL,oG,yj,eH]
 clear s1 e1 s3 S H;rintro S H ⟨s1,e1,s3⟩;generalize hC:A++s.bK.map oG=C at s3
 have hCl:C.length<=602:=by rw[<-hC];simp;omega
 refine aY (λS H=>S 1=.box 1 0/\H 1=some (ai s)/\S 3=grow 159 ((C++s.words.map o8).map iL)) ?_ ?_
 .simp[af,ae,s1,e1,s3];refine cK 54 s.words.length (λi S H=>S 1=.box 1 0/\H 1=some (ai s)/\S 52=.slice .view (s.words.map dP)/\S 53=.int .i64 (s.words.length:Nat)/\S 54=.int .i64 (i:Nat)/\S 3=grow 159 ((C++(s.words.take i).map o8).map iL)) (λi S H h=>h.2.2.2.2.1) ⟨by simp[af,ae,s1],by simp[af,ae,e1],by simp[af,ae,ai,s1,e1],by simp[af,ae,ai,s1,e1],by simp[af,ae],by simp[af,ae,s3,grow]⟩ ?_;clear s1 e1 s3 S H;rintro i hi S H ⟨s1,e1,DP,Xe,XL,s3⟩
  by_cases aN:i<s.words.length
  case neg=>
   have dV:i=s.words.length:=zo
   subst dV;rw[aee (aed _)]at s3;simp[af,ae,s1,e1,DP,Xe,XL,s3]
  have hw:IntKind.i64.wrap ((i:Int)+1)=i+1:=bU zo
  have ht:C++(s.words.take (i+1)).map o8=(C++(s.words.take i).map o8)++[o8 s.words[i]]:=by
   rw[aec aN,aeB,aeU];rfl
  have hlen:(C++(s.words.take i).map o8).length<=2000:=by simp;omega
  rw[ht]
  generalize C++(s.words.take i).map o8=B at*
  have dG:br 1 [iL (o8 s.words[i])]=true:=rfl;simp[s1,e1,DP,Xe,XL,s3,aN,cD,o8,y9,dP]
  try simp only[o8,y9,dP,iL]at dG
  try simp[s1,e1,DP,Xe,XL,s3,aN,cD,dG]
  refine gv (B.map iL) (iL (o8 s.words[i])) (.own 159) (by simp[s3,grow]) (by simp[iL,o8,y9,dP]) rfl (Jl B) (by rw[aef];omega) ?_;intro S' sd dp;simp[sd,dp,s1,e1,DP,Xe,XL,aN,hw,grow,iL,o8,y9,dP]
 clear s1 e1 s3 S H;rintro S H ⟨s1,e1,s3⟩
 have hR':C++s.words.map o8=R:=by
  rw[<-hC,<-hA,<-hR];unfold A7;simp
  try rfl
 rw[hR']at s3;clear s1 e1
 have Pu:R≠[]:=by rw[<-hR'];intro h;rw[<-hC,<-hA]at h;simp at h
 have Vq:R.length=(fF s).length:=by rw[<-xl];simp
 have E8:∀i (h:i<R.length)(h':i<(fF s).length),R[i].2.2=(fF s)[i]:=by
  intro i h h'
  have:(R.map (·.2.2))[i]'(by simpa using h)=(fF s)[i]:=by simp only[xl]
  simpa using this
 clear hA hC hR' hR hAl hCl hN hf q1 q2 q3 xl
 generalize fF s=l at*
 rw[Cy]
 have pJ:∀i,(eL (l.take i)).length<=10000*1000:=λi=>by
  have:=uu (l:=l.take i) (b:=10000) λx hx=>pq x (aeL hx)
  have h2:10000*(l.take i).length<=10000*1000:=agn _ (by rw[aes];omega);omega
 have km:∀i,0<=dM 0 (l.take i)/\dM 0 (l.take i)<=25500000000000000:=λi=>by
  have:=nA (l.take i) 0 (by rw[aes];omega) λx hx=>by have:=pq x (aeL hx);omega
  rw[aes]at this;omega
 refine aY (λS H=>S 3=grow 159 (R.map iL)/\S 10=.str []/\S 11=.int .i64 0) (by simp[af,ae,s3]) ?_;clear s3 S H;rintro S H ⟨s3,cE,cG⟩;refine aY (λS H=>S 10=.str (eL l)/\S 11=.int .i64 (dM 0 l)) ?_ ?_
 .simp[af,ae,s3,cE,cG,grow,Pu];refine cK 67 l.length (λi S H=>S 65=.slice .view (R.map iL)/\S 66=.int .i64 (l.length:Nat)/\S 67=.int .i64 (i:Nat)/\S 10=.str (eL (l.take i))/\S 11=.int .i64 (dM 0 (l.take i))) (λi S H h=>h.2.2.1) ⟨by simp[af,ae,s3,grow,Pu],by simp[af,ae,s3,grow,Pu,Vq],by simp[af,ae],by simp[af,ae,cE,eL],by simp[af,ae,cG,dM]⟩ ?_;clear s3 cE cG S H;rintro i hi S H ⟨qi,oY,p8,cE,cG⟩
  by_cases aN:i<l.length
  case neg=>
   have dV:i=l.length:=zo
   subst dV;rw[aee (aed _)]at cE cG;simp[af,ae,qi,oY,p8,cE,cG]
  have EV:i<R.length:=zo
  have hw:IntKind.i64.wrap ((i:Int)+1)=i+1:=bU zo;have hp:=pq _ (ad2 aN);have hf:=pJ i;have hc:=km i;have a156:=T1 _ (ad2 EV);rw[E8 i EV aN]at a156;have a2:AC prog GI 104 [.iface R[i].1 (.agg R[i].2.1)] (.ret (.str l[i])):=a156;have vV:eL (l.take (i+1))=eL (l.take i)++l[i]++[10]:=sB aN;have wM:=q_ aN
  have Fc:∀k,0<=eN 0 (l[i].take k)/\eN 0 (l[i].take k)<=25500000000:=λk=>by
   have:=mN (l[i].take k) 0 (by rw[aes];omega);rw[aes]at this;omega
  rw[vV,wM];clear vV wM a156
  generalize eL (l.take i)=F at*
  generalize dM 0 (l.take i)=c at*
  generalize tr:l[i]=p at*
  refine aY (λS H=>S 65=.slice .view (R.map iL)/\S 66=.int .i64 (l.length:Nat)/\S 67=.int .i64 (i:Nat)/\S 10=.str F/\S 11=.int .i64 c/\S 68=.bool true) (by simp[af,ae,qi,oY,p8,cE,cG,aN]) ?_;clear qi oY p8 cE cG S H;rintro S H ⟨qi,oY,p8,cE,cG,s68⟩;refine aY (λS H=>S 65=.slice .view (R.map iL)/\S 66=.int .i64 (l.length:Nat)/\S 67=.int .i64 (i:Nat)/\S 10=.str F/\S 11=.int .i64 c) (by simp[af,ae,qi,oY,p8,cE,cG,s68]) ?_;clear qi oY p8 cE cG s68 S H;rintro S H ⟨qi,oY,p8,cE,cG⟩;refine aY (λS H=>S 65=.slice .view (R.map iL)/\S 66=.int .i64 (l.length:Nat)/\S 67=.int .i64 (i:Nat)/\S 10=.str (F++p++[10])/\S 11=.int .i64 (c+eN 0 p*(i+1))) ?_ ?_
  .refine kC ?_;refine aY (λS H=>S 65=.slice .view (R.map iL)/\S 66=.int .i64 (l.length:Nat)/\S 67=.int .i64 (i:Nat)/\S 12=.int .i64 (i:Nat)/\S 13=.iface R[i].1 (.agg R[i].2.1)/\S 10=.str F/\S 11=.int .i64 c) (by simp[af,ae,qi,oY,p8,cE,cG,EV,iL]) ?_;clear qi oY p8 cE cG S H;rintro S H ⟨qi,oY,p8,dN,dY,cE,cG⟩;refine aY (λS H=>S 65=.slice .view (R.map iL)/\S 66=.int .i64 (l.length:Nat)/\S 67=.int .i64 (i:Nat)/\S 12=.int .i64 (i:Nat)/\S 14=.str p/\S 10=.str F/\S 11=.int .i64 c) ?_ ?_
   .simp[af,ae,qi,oY,p8,cE,cG,dN,dY];refine oc a2 ?_;simp[af,ae,qi,oY,p8,cE,cG,dN,dY]
   clear qi oY p8 cE cG dN dY S H;rintro S H ⟨qi,oY,p8,dN,eQ,cE,cG⟩;refine aY (λS H=>S 65=.slice .view (R.map iL)/\S 66=.int .i64 (l.length:Nat)/\S 67=.int .i64 (i:Nat)/\S 14=.str p/\S 10=.str F/\S 11=.int .i64 (c+eN 0 p*(i+1))) ?_ ?_
   .simp[af,ae,qi,oY,p8,dN,eQ,cE,cG];refine cK 76 p.length (λk S H=>S 65=.slice .view (R.map iL)/\S 66=.int .i64 (l.length:Nat)/\S 67=.int .i64 (i:Nat)/\S 12=.int .i64 (i:Nat)/\S 14=.str p/\S 10=.str F/\S 75=.int .i64 (p.length:Nat)/\S 76=.int .i64 (k:Nat)/\S 11=.int .i64 (c+eN 0 (p.take k)*(i+1))) (λi S H h=>h.2.2.2.2.2.2.2.1) ⟨by simp[af,ae,qi],by simp[af,ae,oY],by simp[af,ae,p8],by simp[af,ae,dN],by simp[af,ae,eQ],by simp[af,ae,cE],by simp[af,ae,eQ],by simp[af,ae],by simp[af,ae,cG,eN]⟩ ?_;clear qi oY p8 dN eQ cE cG S H;rintro k hk S H ⟨qi,oY,p8,dN,eQ,cE,s75,XS,cG⟩
    by_cases jW:k<p.length
    case neg=>
     have dp:k=p.length:=zo
     subst dp;rw[aee (aed _)]at cG;simp[af,ae,qi,oY,p8,dN,eQ,cE,s75,XS,cG]
    have tF:IntKind.i64.wrap ((k:Int)+1)=k+1:=bU zo;have pn:=Fc k;have IE:=wh p[k];rw[sf jW]
    generalize eN 0 (p.take k)=u at*
    generalize Qd:p[k].toNat=y at*
    have Z0:p[k]?=some p[k]:=ad_ jW;have m1:(y:Int)*(k+1)<=255*10000:=ae6 zo zo zo zo;have m0:0<=(y:Int)*(k+1):=ae3 zo zo;have m2:(y:Int)*(k+1)*(i+1)<=2550000*1000:=ae6 zo zo zo zo;have m3:0<=(y:Int)*(k+1)*(i+1):=ae3 zo zo;have m4:u*(i+1)<=25500000000*1000:=ae6 zo zo zo zo;have m5:0<=u*(i+1):=ae3 zo zo;have w0:IntKind.i64.wrap (y:Int)=y:=bU zo;have w1:IntKind.i64.wrap ((y:Int)*(k+1))=(y:Int)*(k+1):=bU zo;have w2:IntKind.i64.wrap ((y:Int)*(k+1)*(i+1))=(y:Int)*(k+1)*(i+1):=bU zo
    have w3:IntKind.i64.wrap (c+u*(i+1)+(y:Int)*(k+1)*(i+1))=c+(u+(y:Int)*(k+1))*(i+1):=by
     rw[bU zo,ahp];omega
    simp[af,ae,qi,oY,p8,dN,eQ,cE,s75,XS,cG,jW,Qd,w0,w1,w2,w3,hw,tF]
   clear qi oY p8 dN eQ cE cG S H;rintro S H ⟨qi,oY,p8,eQ,cE,cG⟩
   have b0:p.length+1<1073741824:=zo
   have b1:F.length+p.length<1073741824:=zo
   have b2:F.length+p.length+1<1073741824:=zo
   have b3:F.length+(p.length+1)<1073741824:=zo
   simp[af,ae,qi,oY,p8,eQ,cE,cG,b0,b1,b2,b3]
  clear qi oY p8 cE cG S H;rintro S H ⟨qi,oY,p8,cE,cG⟩;simp[af,ae,qi,oY,p8,cE,cG,hw,aN]
 clear s3 cE cG S H;rintro S H ⟨cE,cG⟩;have hf:=pJ l.length;have hc:=km l.length;rw[aee (aed _)]at hf hc
 generalize eL l=F at*
 obtain⟨c,P4⟩:∃c:Nat,dM 0 l=c:=⟨(dM 0 l).toNat,zo⟩
 rw[P4]at cG⊢
 have hm:(c:Int).tmod 173=((c % 173:Nat):Int):=by rw[aeR zo];omega
 have vy:(c:Int) % 173=((c % 173:Nat):Int):=zo
 have Ul:c % 173<173:=agT _ zo;rw[vy]
 generalize c % 173=r at*
 have n1:eE ((r:Int)/100):=⟨zo,zo⟩
 have n2:eE ((r:Int)/10 % 10):=⟨zo,zo⟩
 have n3:eE ((r:Int) % 10):=⟨zo,zo⟩
 have q1:IntKind.i64.wrap ((r:Int)/100)=(r:Int)/100:=bU zo;have q2:IntKind.i64.wrap ((r:Int)/10)=(r:Int)/10:=bU zo;have t1:(r:Int).tdiv 100=(r:Int)/100:=aeZ zo;have t2:(r:Int).tdiv 10=(r:Int)/10:=aeZ zo;have t3:((r:Int)/10).tmod 10=(r:Int)/10 % 10:=aeR zo;have t4:(r:Int).tmod 10=(r:Int) % 10:=aeR zo;have a1:=E2 hT n1;have a2:=E2 hT n2;have a3:=E2 hT n3;have d1:=(fO n1).1;have d2:=(fO n2).1;have d3:=(fO n3).1;have hE:nc (r:Int)=[101,110,100,32]++bW ((r:Int)/100)++bW ((r:Int)/10 % 10)++bW ((r:Int) % 10):=rfl;rw[hE]
 generalize bW ((r:Int)/100)=u at*
 generalize bW ((r:Int)/10 % 10)=v at*
 generalize bW ((r:Int) % 10)=w at*
 have e1:F.length+(u.length+1+1+1+1)+v.length<1073741824:=zo
 have e2:F.length+(u.length+v.length+1+1+1+1)+w.length<1073741824:=zo
 have e3:F.length+(u.length+(v.length+w.length)+1+1+1+1)+1<1073741824:=zo
 have e4:F.length+(u.length+v.length+w.length+1+1+1+1)+1<1073741824:=zo
 have b1:F.length+4<1073741824:=zo
 have b2:F.length+(u.length+4)<1073741824:=zo
 have b3:F.length+(v.length+u.length+4)<1073741824:=zo
 have b4:F.length+4+u.length<1073741824:=zo
 have b5:F.length+4+u.length+v.length<1073741824:=zo
 have b6:F.length+4+u.length+v.length+w.length<1073741824:=zo
 have b7:F.length+4+u.length+v.length+w.length+1<1073741824:=zo
 refine aY (λS H=>S 10=.str F/\S 11=.int .i64 r) (by simp[af,ae,cE,cG,hm]) ?_;clear cE cG S H;rintro S H ⟨cE,cG⟩;simp[af,ae,cE,cG,q1,q2,t1,t2,t3,t4,b1];refine oc a1 ?_;simp[af,ae,cE,cG,q1,q2,t1,t2,t3,t4,b1,b4];refine oc a2 ?_;simp[af,ae,cE,cG,q1,q2,t1,t2,t3,t4,b1,b4,b5,e1];refine oc a3 ?_;simp[af,ae,cE,cG,q1,q2,t1,t2,t3,t4,b1,b4,b5,e1,e2,e3,e4]
end Go.Proofs.Tryz
namespace Go.Proofs.Tryz
open Go Go.AL Go.RowKit Go.Proofs Go.Proofs.Tram
def Cw{w:List UInt8}(h:fP w=true):jz w=(da w,true):=by
 obtain⟨h1,h2,h3,h4⟩:=kq.1 h;have hn:=iy w h3 h2
 cases w with
 |nil=>exact(h1 rfl).elim
 |cons b l=>
  have hb:b≠45:=by
   rintro rfl;have:=h3 45 aen;revert this;unfold digit;decide
  have hr:eV (b::l)=b::l:=by simp[eV,hb]
  have hs:mf (b::l)=1:=by simp[mf,hb]
  have eu:(b::l).all mX=true:=aeh.2 λc hc=>lU.2 (h3 c hc)
  unfold jz;rw[hr,hs,if_neg (by simp at h2⊢;omega),if_pos eu,Int.one_mul]
  have hz:qJ (da (b::l))=b::l:=by unfold qJ;rw[if_neg zo];exact h4
  rw[hz];simp
def L0{w:List UInt8}(h:(jz w).2=true)(h0:0<=(jz w).1):fP w=true:=by
 unfold jz at h h0
 by_cases hl:(eV w).length<1\/(eV w).length>3
 .rw[if_pos hl]at h;cases h
 rw[if_neg hl]at h h0
 by_cases ha:(eV w).all mX=true
 case neg=>rw[if_neg ha]at h;cases h
 rw[if_pos ha]at h h0
 have hd:∀c∈eV w,digit c:=λc hc=>lU.1 (aeh.1 ha c hc)
 have hv:=iy _ hd zo
 have h:qJ (mf w*da (eV w))=w:=by simpa using h
 have h0:0<=mf w*da (eV w):=h0
 cases w with
 |nil=>simp[eV]at hl
 |cons b l=>
  by_cases hb:b=45
  .subst hb
   have hr:eV (45::l)=l:=by simp[eV]
   have hs:mf (45::l)= -1:=by simp[mf]
   rw[hr]at hv;rw[hr,hs]at h h0
   have hz:da l=0:=zo
   rw[hz]at h
   have:qJ (-1*0)=[48]:=zd
   rw[this]at h;cases h
  .have hr:eV (b::l)=b::l:=by simp[eV,hb]
   have hs:mf (b::l)=1:=by simp[mf,hb]
   rw[hr]at hv hd hl;rw[hr,hs,Int.one_mul]at h;refine kq.2 ⟨ah7,zo,hd,?_⟩;unfold qJ at h;rw[if_neg zo]at h;exact h
def nU{ws:List (List UInt8)}{many:Int}:me ws many=true↔ws.all fP=true/\(many<0\/(ws.length:Int)=many):=by
 constructor
 .intro h;unfold me at h;simp only[aeb,afo,aej]at h;obtain⟨⟨h1,h2⟩,h3⟩:=h;unfold lT at h2 h3;rw[if_pos h1]at h2 h3;refine⟨aeh.2 λw hw=>?_,by simpa using h3⟩;have a:=aeh.1 h1 w hw;have b:=aeh.1 h2 _ (af4 hw);exact L0 a (by simpa using b)
 .rintro⟨h1,h2⟩
  have hg:∀w∈ws,jz w=(da w,true):=λw hw=>Cw (aeh.1 h1 w hw)
  have df:Ov ws=true:=aeh.2 λw hw=>by rw[hg w hw]
  unfold me lT;rw[if_pos df];simp only[aeb,afo,aej];refine⟨⟨df,aeh.2 λn hn=>?_⟩,by simpa using h2⟩;obtain⟨w,hw,rfl⟩:=aew.1 hn;rw[hg w hw];have:=Ct (aeh.1 h1 w hw);simpa using this.1
def ll{ws:List (List UInt8)}(h:ws.all fP=true):lT ws=ws.map da:=by
 have hg:∀w∈ws,jz w=(da w,true):=λw hw=>Cw (aeh.1 h w hw)
 have df:Ov ws=true:=aeh.2 λw hw=>by rw[hg w hw]
 unfold lT;rw[if_pos df]
 exact aeX λw hw=>by rw[hg w hw]
end Go.Proofs.Tryz
namespace Go.Proofs.Tryz
open Go Go.AL Go.RowKit Go.Proofs Go.Proofs.Tram
attribute [local simp] aU bB bm aO aV aJ aK av az aW aw ao bO bP an ar ev aM.S aM.H bj aF bl AL.start AV.cells AV.storable AV.aZ aP bt bV bu HR.okB post bQ bG bH AV.out AV.aX aG aL fz cL AV.vw bT vI int a_ aq bD bq cd cj bZ bI aI AV.bC AV.dE
variable{GI:World->Prop}
def QZ{s:bw}(hs:ss s)(h:cN s=true):F' s:=by
 unfold cN ee at h;simp only[aeb,aej]at h;obtain⟨⟨⟨⟨⟨h1,h2⟩,h3⟩,h4,h5⟩,_⟩,_⟩:=h;exact⟨zo,zo,zo,hs.cb,hs.dq⟩
def Vu(hG:aQ GI)(hT:TB GI)(s:bw)(hs:ss s)(h:cN s=true):AC prog GI 11 [dj s] (.ret (.ea [.str (fb s),.int .i64 0])):=by
 have a:=HK hG s hs;rw[h]at a;have b:=Yo hG hT s (Cg h) (QZ hs h)
 generalize fb s=t at*
 refine dF hG func11 ntmps11 c11 ?_;refine aY (λS H=>S 1=.box 1 0/\H 1=some (ai s)) (by simp[dj,ai]) ?_;rintro S H ⟨s1,e1⟩;simp[s1,e1,ai];refine⟨_,zk,a,λ_=>rfl,?_⟩;simp[s1,e1,ai];refine oc b ?_;simp
def zX(c:UInt8):∀s:List UInt8,(bL c s).length<=s.length+1/\∀p∈bL c s,p.length<=s.length
 |[]=>⟨by simp[bL],λp hp=>by simp[bL]at hp;simp[hp]⟩
 |b::l=>by
  obtain⟨h1,h2⟩:=zX c l;unfold bL;split
  .refine⟨by simp;omega,λp hp=>?_⟩;rcases aeD.1 hp with rfl|hp
   .simp
   .have:=h2 p hp;simp;omega
  .split
   .rename_i h;exact(mD c l h).elim
   .rename_i q qs h;rw[h]at h1 h2;refine⟨by simp at h1⊢;omega,λp hp=>?_⟩;rcases aeD.1 hp with rfl|hp
    .have:=h2 q aen;simp;omega
    .have:=h2 p (aei _ hp);simp;omega
def su(w:List UInt8):List Int×Bool:=if w=[45]then([],true)else(lT (bL 44 w),me (bL 44 w) (-1))
def Vh(hG:aQ GI)(w:List UInt8)(hw:w.length<500000):AC prog GI 110 [.str w] (.ret (.ea [vI (su w).1,.bool (su w).2])):=by
 unfold su
 by_cases h:w=[45]
 .subst h;rw[if_pos rfl];refine dF hG func110 ntmps110 c110 ?_;simp[c110,ints]
 rw[if_neg h]
 have hb:(w==[45])=false:=by simpa using h
 obtain⟨l1,l2⟩:=zX 44 w;have a:=CZ (GI:=GI) hG w 44 zo;have b:=EE (GI:=GI) hG (bL 44 w) zo (λp hp=>by have:=l2 p hp;omega) (-1);have e:((44:UInt8).toNat:Int)=44:=rfl;rw[e]at a
 generalize bL 44 w=ps at*
 generalize lT ps=L at*
 generalize me ps (-1)=c at*
 have b2:AC prog GI 109 [.slice .view (ps.map .str),.int .i64 (-1)] (.ret (.ea [vI L,.bool c])):=b;have a2:AC prog GI 49 [.str w,.int .u8 44] (.ret (.slice .view (ps.map .str))):=a
 generalize ps.map AV.str=X at*
 refine dF hG func110 ntmps110 c110 ?_;simp[c110,hb];refine oc a2 ?_;simp;refine oc b2 ?_;simp
def Lo{w:List UInt8}:lM w=if(su w).2=true then .ok (su w).1 else .error []:=by
 unfold lM su
 by_cases h:w=[45]
 .rw[if_pos h,if_pos h];rfl
 .rw[if_neg h,if_neg h]
  have hn:me (bL 44 w) (-1)=true↔(bL 44 w).all fP=true:=by rw[nU];simp
  by_cases hg:(bL 44 w).all fP=true
  .rw[if_pos hg,if_pos (hn.2 hg),ll hg]
  .rw[if_neg hg,if_neg (λe=>hg (hn.1 e))]
end Go.Proofs.Tryz
namespace Go.AL
open Go.RowKit
section
variable{P:Program}{a:Act}{w:World}
def xV{s:ByteArray}{pos:Nat}(h:pos<s.size)(hr:(Utf8.decode s pos).1<128):(Utf8.decode s pos).1=(s[pos]'h).toNat:=by
 by_cases ha:(s[pos]'h).toNat<128
 .rw[aim s pos h ha]
 .exfalso
  have e:s.get! (pos+0)=s[pos]'h:=by
   show s.get! pos=_;simp[ByteArray.get!,getElem!_pos,h]
   try rfl
  simp only[Utf8.decode,e,ha,aeA]at hr;revert hr
  (repeat' split)<;>simp only[Utf8.runeError,Nat.not_lt]<;>rename_i hh<;>try omega
  all_goals (try simp only[aeb,aej]at hh;try omega)
def FV {o:Oper} {x:Operand} {b:Nat} {s:ByteArray} {pos r p':Nat} (ho:o.op = .next x true) (hx:a.eval x = .pointer (some ⟨b,0,none⟩)) (hb:w.heap[b]? = some (.stringIter s pos)) (h:pos < s.size) (hr:(Utf8.decode s pos).1=r) (hp:pos+(Utf8.decode s pos).2=p') :
  (execOp a.eval o).run P w=.ok (.value (.tuple #[.bool true,.int .i64 pos,.int .i32 r])) (w.putObj b (.stringIter s p')):=by
 unfold execOp;simp only[ho,hx,Instr.next,getObj,setObj,ael,Sem.run,hb,Result.andThen,h,aeH]
 generalize hd:Utf8.decode s pos=d at*
 obtain⟨d1,d2⟩:=d;simp only at hr hp;subst hr;subst hp;simp[goInt,Sem.run,World.putObj]
end
end Go.AL
namespace Go.Proofs.Tryz
open Go Go.AL Go.RowKit Go.Proofs Go.Proofs.Tram
attribute [local simp] aU bB bm aO aV aJ aK av az aW aw ao bO bP an ar ev aM.S aM.H bj aF bl AL.start AV.cells AV.storable AV.aZ aP bt bV bu HR.okB post bQ bG bH AV.out AV.aX aG aL fz cL AV.vw bT vI int a_ aq bD bq cd cj bZ bI aI AV.bC AV.dE
variable{GI:World->Prop}
def qE(e:List UInt8):AV:=.iface 192 (.agg [.str e])
def oO:Except (List UInt8) (List Int)->jr
 |.ok l=>.ret (.slice (if l.isEmpty then .nil else .view) (ints l))
 |.error e=>.panic (qE e)
def Ca:∀{ws:List (List UInt8)}{j:Nat}(h:j<ws.length),(ws.take j).all fP=true->fP ws[j]=false->fJ ws=.error ws[j]
 |[],j,h,_,_=>by simp at h
 |w::ws,0,_,_,hb=>by
  unfold fJ;rw[if_neg (by rw[show(w::ws)[0]=w from rfl]at hb;rw[hb];simp)];rfl
 |w::ws,j+1,h,ha,hb=>by
  rw[List.take_succ_cons,List.all_cons,aeb]at ha;unfold fJ;rw[if_pos ha.1,Ca (by simpa using h) ha.2 (by simpa using hb)];rfl
def W8 (hG:aQ GI) {ws:List (List UInt8)} (hlen:ws.length≤100000) (hI:∀ w∈ws,w.length≤3→(∀ c∈w,digit c)→AC prog GI 79 [.int .i64 (da w)] (.ret (.str (bW (da w))))) :
  AC prog GI 131 [strs ws] (oO (fJ ws)):=by
 refine AC.j7 func131 rfl ntmps131 ah7 λcc w=>?_
 refine eR hG c131.qa (λS' H'=>S' 0=strs ws) ?_ ?_
 .simp[c131,ah.qa,cW,cQ,an,cy,ar,ev,aM.S,aM.H,aF,bl,AL.start,AV.bC,strs,bj,aq]
 rintro S1 H1 s0;refine eR hG c131.qb.qa (λS' H'=>S' 0=strs ws/\S' 3=yz []) ?_ ?_
 .simp[c131,ah.qa,ah.qb,cW,cQ,an,cy,ar,ev,aM.S,aM.H,aF,bl,s0,bj,aq,yz,ints]
 rintro S2 H2 ⟨s0,s3⟩;show SW prog GI 55 none (.seq (.seq _ (.block 0 (.loop _))) (.seq _ .ret)) _ _ _ _;refine SW.seq (eR hG c131.qb.qb.qa.qa (jE ws 0) ?_ ?_)
 .simp[c131,ah.qa,ah.qb,cW,cQ,an,cy,ar,ev,aM.S,aM.H,aF,bl,s0,s3,jE,strs,AV.bC,aq]
 intro S3 H3 hF;refine SW.block (SW.loop (λo S' H'=>∃k j,o=oK cc w k/\j<=ws.length/\(ws.take j).all fP=true/\jE ws j S' H') (λS' _=>match S' 11 with|.int _ j=>ws.length-j.toNat|_=>0) ⟨_,0,rfl,ae2 _,rfl,hF⟩ ?_);rintro o S4 H4 ⟨kk,j,rfl,hj,eu,hF⟩;have m11:S4 11=.int .i64 (j:Nat):=hF.2.2.2
 have du:∀k d,¬(oK cc w k).bx d:=λ_ _ h=>h
 show SW prog GI 55 none (.seq _ (.seq (.cond _ _ _) (.seq (.block 1 (.seq _ (.seq _ (.seq (.seq _ (.block 2 (.loop _))) (.seq _ _))))) _))) _ _ _ _;refine eR hG gu.qa (λS' H'=>S' 12=.bool (decide (j<ws.length))/\jE ws j S' H') ?_ ?_
 .obtain⟨s3,s9,cE,cG⟩:=hF;simp[c131,gu,ah.qa,ah.qb,cW,cQ,an,cy,ar,aq,ev,aM.S,aM.H,aF,bl,jE,s3,s9,cE,cG,bV]
 rintro S5 H5 ⟨dN,hF⟩
 by_cases aN:j<ws.length
 case neg=>
  refine SW.seq (SW.cond rfl false (by show S5 12=_;rw[dN];simp[aN]) (SW.exit ?_))
  have rD:j=ws.length:=zo
  subst rD;obtain⟨s3,s9,cE,cG⟩:=hF;rw[afu]at s3 eu;have kl:=yB eu;rw[kl];show SW prog GI 55 none (.seq _ .ret) _ _ _ _;refine eR hG c131.qb.qb.qb.qa (λS' H'=>S' 2=.slice (if ws.isEmpty then .nil else .view) (ints (ws.map da))) ?_ ?_
  .cases ws<;>simp[c131,ah.qa,ah.qb,cW,cQ,an,cy,ar,ev,aM.S,aM.H,aF,bl,s3,yz,AV.bC,bj,aq]
  intro S7 H7 s2;refine SW.ret ⟨e_.plain rfl,rfl,_,?_,rfl⟩;show bQ prog 55 [.tmp 2] S7 H7=_;simp[bQ,bG,bH,s2,AV.aX,AV.out]
 case pos=>
  refine SW.seq (SW.cond rfl true (by show S5 12=_;rw[dN];simp[aN]) (SW.skip ?_));show SW prog GI 55 none (.seq (.block 1 (.seq _ (.seq _ (.seq (.seq _ (.block 2 (.loop _))) (.seq _ _))))) _) _ _ _ _;have G8:ws[j]∈ws:=ad2 aN
  obtain⟨wd,wq⟩:∃wd,ws[j]=wd:=⟨_,rfl⟩
  have Gx:=hI _ G8;rw[wq]at Gx
  have zY:fP wd=false->fJ ws=.error wd:=λh=>by rw[<-wq]at h⊢;exact Ca aN eu h
  refine SW.seq (SW.block (eR hG iE.qa (λS' H'=>S' 5=.str wd/\jE ws j S' H') ?_ ?_))
  .obtain⟨s3,s9,cE,cG⟩:=hF;simp[c131,gu,iE,ah.qa,ah.qb,cW,cQ,an,cy,ar,aq,ev,aM.S,aM.H,aF,bl,jE,s3,s9,cE,cG,strs,aN,wq,bu,AV.cells,AV.bC,bj]
  rintro S6 H6 ⟨s5,hF⟩;refine eR hG iE.qb.qa (λS' H'=>S' 6=.int .i64 0/\S' 5=.str wd/\jE ws j S' H') ?_ ?_
  .obtain⟨s3,s9,cE,cG⟩:=hF;simp[c131,gu,iE,ah.qa,ah.qb,cW,cQ,an,cy,ar,aq,ev,aM.S,aM.H,aF,bl,jE,s3,s5,s9,cE,cG,AV.bC,bj]
  rintro S7 H7 ⟨s6,s5,hF⟩
  obtain⟨sb,rZ⟩:∃sb:ByteArray,sb=⟨wd.toArray⟩:=⟨_,rfl⟩
  refine SW.seq (SW.seq (SW.mid hG (p:=1) (oh:={ dst:=some 16,op := .range 9 (.tmp 15),type:=0,pos := "text.go:133",after:=_,guard:=none }) (lh:=[_]) (oA:=[]) (l2:=[]) rfl rfl rfl rfl zk rfl (du _) (po:=(iE.qb.qb.qa.qa.dl).take 1) (ox:=[]) zk rfl zk rfl
   (K1:=λS' H'=>S' 15=.str wd/\S' 6=.int .i64 0/\S' 5=.str wd/\jE ws j S' H')
   (K2:=λo S' H'=>∃k b,o=oK cc w k/\k b=some (.stringIter sb 0)/\S' 16=.val (.pointer (some ⟨b,0,none⟩))/\S' 6=.int .i64 0/\S' 5=.str wd/\jE ws j S' H')
   (K3:=λo S' H'=>∃k b,o=oK cc w k/\k b=some (.stringIter sb 0)/\S' 16=.val (.pointer (some ⟨b,0,none⟩))/\S' 6=.int .i64 0/\S' 5=.str wd/\jE ws j S' H') ?_ ?_ ?_ ?_))
  .obtain⟨s3,s9,cE,cG⟩:=hF;simp[c131,gu,iE,ah.qa,ah.qb,ah.dl,cQ,an,cy,ar,ev,aM.S,aM.H,aF,bl,jE,s3,s5,s6,s9,cE,cG,AV.bC]
  .rintro w0 g S8 H8 a w8 ho R ⟨kc,s6,s5,s3,s9,cE,cG⟩;have t15:=R.slot 15 zd (λh=>h);rw[kc]at t15
   have t15:a.eval (.tmp 15)=.string sb:=by rw[rZ];exact pP t15
   have gp:prog.underlying 9=some .string:=zk
   have R2:=R.o9 (.stringIter sb 0);refine⟨_,_,_,aF S8 16 (.val (.pointer (some ⟨w8.heap.size,0,none⟩))),H8,.inl (BS rfl gp t15),R2.put 16 _ _ zd (.data _ _ (.val _ rfl)) trivial,aF g.old.cg w8.heap.size (some (.stringIter sb 0)),w8.heap.size,?_,bX _ _ _,by simp[aF],by simp[aF,s6],by simp[aF,s5],by simp[aF,s3],by simp[aF,s9],by simp[aF,cE],by simp[aF,cG]⟩;show({ g.old with cg:=aF g.old.cg w8.heap.size _ }:Old)=_;rw[ho];rfl
  .rintro o S8 H8 ⟨k,b,rfl,h⟩;exact⟨du _,k,b,rfl,h⟩
  .rintro o S8 H8 ⟨k,b,rfl,AQ,gk,s6,s5,hF⟩
   refine SW.block (SW.Vm (λo S' H'=>∃k b pos,o=oK cc w k/\k b=some (.stringIter sb pos)/\pos<=wd.length/\(∀c∈wd.take pos,digit c)/\(0<pos->wd.length<=3)/\S' 16=.val (.pointer (some ⟨b,0,none⟩))/\S' 6=.int .i64 (da (wd.take pos))/\S' 5=.str wd/\jE ws j S' H')
    (λo S' _=>match S' 16 with|.val (.pointer (some a))=>(match o.cg a.block with|some (.stringIter _ p)=>wd.length-p|_=>0)|_=>0) ⟨k,b,0,rfl,AQ,ae2 _,ah7,ah7,gk,s6,s5,hF⟩ ?_)
   rintro o S9 H9 ⟨k,b,pos,rfl,AQ,ky,Jp,Gj,gk,s6,s5,hF⟩;have m16:=gk
   have Vi:∀(S:au)(k:Nat->Option Obj) p,S 16=.val (.pointer (some ⟨b,0,none⟩))->k b=some (.stringIter sb p)->(match S 16 with|.val (.pointer (some a))=>(match(oK cc w k).cg a.block with|some (.stringIter _ p)=>wd.length-p|_=>0)|_=>0)=wd.length-p:=by
    intro S k p h1 h2;rw[h1];show(match k b with|some (.stringIter _ p)=>wd.length-p|_=>0)=_;rw[h2]
   have cM:sb.size=wd.length:=by rw[rZ];rfl
   show SW prog GI 55 none (.seq _ (.seq (.cond _ _ _) (.block 3 (.seq _ (.seq _ _))))) _ _ _ _
   by_cases hp:pos<wd.length
   case neg=>
    refine SW.seq (SW.mid hG (p:=0) (oh:={ dst:=some 17,op := .next (.tmp 16) true,type:=0,pos := "text.go:133",after := #[],guard:=none }) (lh:=[]) (oA:=[_]) (l2:=[1]) rfl rfl rfl rfl zk rfl (du _) (po:=[]) (ox:=(lV.qa.dl).drop 1) rfl zk rfl zk
     (K1:=λS' H'=>S' 16=.val (.pointer (some ⟨b,0,none⟩))/\S' 6=.int .i64 (da wd)/\S' 5=.str wd/\jE ws j S' H')
     (K2:=λo S' H'=>o=oK cc w k/\S' 17=.ea [.bool false]/\S' 6=.int .i64 (da wd)/\S' 5=.str wd/\jE ws j S' H')
     (K3:=λo S' H'=>o=oK cc w k/\S' 18=.bool false/\S' 6=.int .i64 (da wd)/\S' 5=.str wd/\jE ws j S' H') ?_ ?_ ?_ ?_)
    .have:pos=wd.length:=zo
     subst this;rw[afu]at s6;exact⟨gk,s6,s5,hF⟩
    .rintro w0 g uB yG a Sj ho R ⟨gk,s6,s5,s3,s9,cE,cG⟩;have t16:=R.slot 16 zd (λh=>h);rw[gk]at t16;have t16:a.eval (.tmp 16)=.pointer (some ⟨b,0,none⟩):=t16.jT
     have hk:g.old.cg b=some (.stringIter sb pos):=by rw[ho];exact AQ
     have hb:=(R.kept b _ hk).2.1;refine⟨_,_,_,aF uB 17 (.ea [.bool false]),yG,.inl (vU rfl t16 hb zo),R.put 17 _ _ zd (.data _ _ (.ea _ _ rfl λi h h'=>?_)) trivial,ho,bX _ _ _,by simp[aF,s6],by simp[aF,s5],by simp[aF,s3],by simp[aF,s9],by simp[aF,cE],by simp[aF,cG]⟩
     match i,h with
     |0,_=>exact .bool _
    .rintro o uB yG ⟨rfl,jJ,s6,s5,s3,s9,cE,cG⟩;refine⟨du _,?_⟩;simp[c131,gu,iE,lV,ah.qa,ah.qb,ah.dl,cQ,an,cy,ar,ev,aM.S,aM.H,aF,bl,jE,s3,s5,s6,s9,cE,cG,jJ,AV.bC]
    .rintro o uB yG ⟨rfl,kJ,s6,s5,hF⟩;refine SW.seq (SW.cond rfl false (by show uB 18=_;rw[kJ]) (SW.exit ?_));show SW prog GI 55 none (.seq _ _) _ _ _ _
     have tr:pos=wd.length:=zo
     have GH:∀c∈wd,digit c:=by rw[tr,afu]at Jp;exact Jp
     have FM:=I9 (GI:=GI) hG wd;have A':=zM (GI:=GI) hG wd
     have e8:∀H,fz H (.int .i64 (da wd))=.int .i64 (da wd):=λH=>rfl
     have e9:∀H,fz H (.str wd)=.str wd:=λH=>rfl
     have jZ:∀b H,fz H (.bool b)=.bool b:=λb H=>rfl
     by_cases dR:wd=[]
     .have nL:fP wd=false:=by rw[dR];rfl
      rw[zY nL]
      have z7:(wd !=[])=false:=by simpa using dR
      refine SW.seq (SW.gO hG d_ zk (λd _=>du _ d) (ac:=ah.qa iE.qb.qb.qb) zk ?_);unfold fG.cW;obtain⟨s3,s9,cE,cG⟩:=hF;simp[c131,gu,iE,ah.qa,ah.qb,ah.dl,cW,cQ,an,cy,ar,aq,bD,ev,aM.S,aM.H,aF,bl,jE,s3,s5,s6,s9,cE,cG,AV.bC,bV,z7,e8,e9,jZ,bj];refine oc A' ?_;simp[fB,thenS,nK,pz,oO,qE];exact⟨rfl,rfl⟩
     have C7:wd.length<=3:=Gj (by rw[tr];exact afi.2 dR);have Gx:=Gx C7 GH
     have z7:(wd !=[])=true:=by simpa using dR
     have hs:=iy wd GH C7
     by_cases It:bW (da wd)=wd
     case neg=>
      have nL:fP wd=false:=by
       rw[ag3];intro h;exact It (kq.1 h).2.2.2
      rw[zY nL]
      have Y7:(bW (da wd)==wd)=false:=by simpa using It
      refine SW.seq (SW.gO hG d_ zk (λd _=>du _ d) (ac:=ah.qa iE.qb.qb.qb) zk ?_);unfold fG.cW;obtain⟨s3,s9,cE,cG⟩:=hF;simp[c131,gu,iE,ah.qa,ah.qb,ah.dl,cW,cQ,an,cy,ar,aq,bD,ev,aM.S,aM.H,aF,bl,jE,s3,s5,s6,s9,cE,cG,AV.bC,bV,z7,e8,bj];refine oc Gx ?_;simp[fB,aF,AV.bC,s3,s5,s6,s9,cE,cG,bV,e9,jZ,Y7];refine oc A' ?_;simp[fB,thenS,nK,pz,oO,qE];exact⟨rfl,rfl⟩
     have hgw:fP wd=true:=kq.2 ⟨dR,C7,GH,It⟩
     have aaI:(ws.take (j+1)).all fP=true:=by
      rw[aec aN,List.all_append,eu,wq];simp[hgw]
     rw[It]at Gx;refine qY hG iE.qb.qb.qb.qa (λd _=>du _ d) (λS' H'=>S' 6=.int .i64 (da wd)/\jE ws j S' H') ?_ ?_
     .obtain⟨s3,s9,cE,cG⟩:=hF;simp[c131,gu,iE,ah.qa,ah.qb,ah.dl,cW,cQ,an,cy,ar,aq,ev,aM.S,aM.H,aF,bl,jE,s3,s5,s6,s9,cE,cG,AV.bC,bV,z7,e8];refine oc Gx ?_;simp[fB,aF,AV.bC,s3,s5,s6,s9,cE,cG,bV,e9,jZ];refine oc FM ?_;simp[fB,aF,AV.bC,s3,s5,s6,s9,cE,cG]
     rintro S11 H11 ⟨s6,hF⟩
     have WH:(ws.take (j+1)).map da=(ws.take j).map da++[da wd]:=by rw[aec aN,aeB,wq];rfl
     have N1:((ws.take j).map da).length<=100000:=by simp;omega
     refine SW.mono (Q:=λe o S' H'=>e=.normal/\o=oK cc w k/\S' 3=yz ((ws.take (j+1)).map da)/\S' 9=strs ws/\S' 10=.int .i64 ws.length/\S' 11=.int .i64 (j:Nat)) ?_ (SW.gO hG d_ zk (λd _=>du _ d) (ac:=ah.qb iE.qb.qb.qb) zk ?_)
     .rintro e o S' H' ⟨rfl,rfl,s3,s9,cE,cG⟩;show SW prog GI 55 none _ _ _ _ _;refine SW.gO hG d_ zk (λd _=>du _ d) (ac:=ah.qb gu.qb.qb) zk ?_;have qU:IntKind.i64.wrap ((j:Int)+1)=j+1:=bU zo;simp[c131,gu,ah.qa,ah.qb,cW,cQ,an,cy,ar,ev,aM.S,aM.H,aF,bl,s3,s9,cE,cG,bV,AV.bC,qU,fG.cW,thenS,jE];refine⟨⟨⟨_,rfl⟩,j+1,zo,aeh.1 aaI,rfl,zo⟩,?_⟩;rw[m11];show ws.length-(j+1)<ws.length-(j:Int).toNat;rw[Int.toNat_natCast];omega
     .unfold fG.cW;obtain⟨s3,s9,cE,cG⟩:=hF;rw[WH];generalize(ws.take j).map da=L at s3 N1⊢
      cases L with
      |nil=>simp[c131,gu,iE,ah.qa,ah.qb,ah.dl,cW,cQ,an,cy,ar,ev,aM.S,aM.H,aF,bl,s3,s6,s9,cE,cG,yz,ints,AV.bC,br,AV.storable,AV.cells,AV.vw,AV.dE,bj]
      |cons x L=>
       have pq:L.length+1+1<1048576:=by simp at N1;omega
       simp[c131,gu,iE,ah.qa,ah.qb,ah.dl,cW,cQ,an,cy,ar,ev,aM.S,aM.H,aF,bl,s3,s6,s9,cE,cG,yz,ints,AV.bC,br,AV.storable,AV.cells,AV.vw,AV.dE,bj,pq]
   case pos=>
    obtain⟨c,hc⟩:∃c,wd[pos]=c:=⟨_,rfl⟩
    obtain⟨r,hr⟩:∃r:Nat,(Utf8.decode sb pos).1=r:=⟨_,rfl⟩
    obtain⟨p',wu⟩:∃p':Nat,pos+(Utf8.decode sb pos).2=p':=⟨_,rfl⟩
    have DU:sb[pos]' zo=c:=by subst rZ;rw[<-hc];rfl
    refine SW.seq (SW.mid hG (p:=0) (oh:={ dst:=some 17,op := .next (.tmp 16) true,type:=0,pos := "text.go:133",after := #[],guard:=none }) (lh:=[]) (oA:=[_]) (l2:=[1]) rfl rfl rfl rfl zk rfl (du _) (po:=[]) (ox:=(lV.qa.dl).drop 1) rfl zk rfl zk
     (K1:=λS' H'=>S' 16=.val (.pointer (some ⟨b,0,none⟩))/\S' 6=.int .i64 (da (wd.take pos))/\S' 5=.str wd/\jE ws j S' H')
     (K2:=λo S' H'=>o=oK cc w (aF k b (some (.stringIter sb p')))/\S' 16=.val (.pointer (some ⟨b,0,none⟩))/\S' 17=.ea [.bool true,.int .i64 pos,.int .i32 r]/\S' 6=.int .i64 (da (wd.take pos))/\S' 5=.str wd/\jE ws j S' H')
     (K3:=λo S' H'=>o=oK cc w (aF k b (some (.stringIter sb p')))/\S' 16=.val (.pointer (some ⟨b,0,none⟩))/\S' 18=.bool true/\S' 17=.ea [.bool true,.int .i64 pos,.int .i32 r]/\S' 6=.int .i64 (da (wd.take pos))/\S' 5=.str wd/\jE ws j S' H') ⟨gk,s6,s5,hF⟩ ?_ ?_ ?_)
    .rintro w0 g uB yG a Sj ho R ⟨gk,s6,s5,s3,s9,cE,cG⟩;have t16:=R.slot 16 zd (λh=>h);rw[gk]at t16;have t16:a.eval (.tmp 16)=.pointer (some ⟨b,0,none⟩):=t16.jT
     have hk:g.old.cg b=some (.stringIter sb pos):=by rw[ho];exact AQ
     have hb:=(R.kept b _ hk).2.1;refine⟨_,_,_,aF uB 17 (.ea [.bool true,.int .i64 pos,.int .i32 r]),yG,.inl (FV rfl t16 hb zo hr wu),(R.o_ hk _).put 17 _ _ zd (.data _ _ (.ea _ _ rfl λi h h'=>?_)) trivial,?_,by simp[aF,gk],bX _ _ _,by simp[aF,s6],by simp[aF,s5],by simp[aF,s3],by simp[aF,s9],by simp[aF,cE],by simp[aF,cG]⟩
     .match i,h with
      |0,_=>exact .bool _
      |1,_=>exact .int _ _
      |2,_=>
       exact .int _ _
     .show({ g.old with cg:=aF g.old.cg b _ }:Old)=_;rw[ho];rfl
    .rintro o uB yG ⟨rfl,gk,jJ,s6,s5,s3,s9,cE,cG⟩;refine⟨du _,?_⟩;simp[c131,gu,iE,lV,ah.qa,ah.qb,ah.dl,cQ,an,cy,ar,ev,aM.S,aM.H,aF,bl,jE,s3,s5,s6,s9,cE,cG,gk,jJ,AV.bC]
    .rintro o uB yG ⟨rfl,gk,kJ,jJ,s6,s5,hF⟩;refine SW.seq (SW.cond rfl true (by show uB 18=_;rw[kJ]) (SW.skip ?_));show SW prog GI 55 none (.block 3 (.seq _ (.seq _ _))) _ _ _ _
     by_cases vO:digit c/\wd.length<=3
     case neg=>
      have nL:fP wd=false:=by
       rw[ag3];intro h;obtain⟨_,h2,h3,_⟩:=kq.1 h;exact vO ⟨h3 c (hc▸ad2 hp),h2⟩
      rw[zY nL]
      have hrn:¬(48<=(r:Int)/\(r:Int)<=57/\(wd.length:Int)<=3):=by
       rintro⟨g1,g2,g3⟩;refine vO ⟨?_,zo⟩;have:=xV (s:=sb) (pos:=pos) zo (by rw[hr];omega);rw[hr]at this
       have Wc:c.toNat=r:=by rw[<-DU];exact this.symm
       unfold digit;omega
      have A':=zM (GI:=GI) hG wd
      have e9:∀H,fz H (.str wd)=.str wd:=λH=>rfl
      have jZ:∀b H,fz H (.bool b)=.bool b:=λb H=>rfl
      refine SW.block (SW.gO hG d_ zk (λd _=>du _ d) (ac:=ah.qb lV.qb.qb) zk ?_);unfold fG.cW;obtain⟨s3,s9,cE,cG⟩:=hF
      by_cases g1:(48:Int)<=r
      .by_cases g2:(r:Int)<=57
       .have g3:¬(wd.length:Int)<=3:=λg3=>hrn ⟨g1,g2,g3⟩
        simp[c131,gu,iE,lV,ah.qa,ah.qb,ah.dl,cW,cQ,an,cy,ar,bD,ev,aM.S,aM.H,aF,bl,jE,s3,s5,s6,s9,cE,cG,gk,jJ,AV.bC,bV,g1,g2,g3,e9,jZ,bj];refine oc A' ?_;simp[fB,thenS,nK,pz,oO,qE];exact⟨rfl,rfl⟩
       .simp[c131,gu,iE,lV,ah.qa,ah.qb,ah.dl,cW,cQ,an,cy,ar,bD,ev,aM.S,aM.H,aF,bl,jE,s3,s5,s6,s9,cE,cG,gk,jJ,AV.bC,bV,g1,g2,e9,jZ,bj];refine oc A' ?_;simp[fB,thenS,nK,pz,oO,qE];exact⟨rfl,rfl⟩
      .simp[c131,gu,iE,lV,ah.qa,ah.qb,ah.dl,cW,cQ,an,cy,ar,bD,ev,aM.S,aM.H,aF,bl,jE,s3,s5,s6,s9,cE,cG,gk,jJ,AV.bC,bV,g1,e9,jZ,bj];refine oc A' ?_;simp[fB,thenS,nK,pz,oO,qE];exact⟨rfl,rfl⟩
     obtain⟨U',C7⟩:=vO;have U9:=U';unfold digit at U9;have L':=aim sb pos zo (by rw[DU];omega)
     have Zw:r=c.toNat:=by rw[<-hr,L',DU]
     have C3:p'=pos+1:=by rw[<-wu,L']
     subst Zw;subst C3
     have Uu:∀x∈wd.take (pos+1),digit x:=by
      rw[aec hp,hc];intro x hx;rcases aeg.1 hx with hx|hx
      .exact Jp x hx
      .rw[aev]at hx;rw[hx];exact U'
     have qp:wd.take (pos+1)=wd.take pos++[c]:=by rw[aec hp,hc]
     have Cr:=iy (wd.take pos) Jp (by simp;omega);refine SW.block (SW.mono (Q:=λe o S' H'=>e=.normal/\o=oK cc w (aF k b (some (.stringIter sb (pos+1))))/\S' 16=.val (.pointer (some ⟨b,0,none⟩))/\S' 6=.int .i64 (da (wd.take (pos+1)))/\S' 5=.str wd/\jE ws j S' H') ?_ (SW.gO hG d_ zk (λd _=>du _ d) (ac:=ah.qb lV.qb.qb) zk ?_))
     .rintro e o S' H' ⟨rfl,rfl,gk,s6,s5,hF⟩;refine⟨⟨aF k b (some (.stringIter sb (pos+1))),b,pos+1,rfl,bX _ _ _,hp,Uu,λ_=>C7,gk,s6,s5,hF⟩,?_⟩;show(match S' 16 with|.val (.pointer (some a))=>(match(oK cc w (aF k b (some (.stringIter sb (pos+1))))).cg a.block with|some (.stringIter _ p)=>wd.length-p|_=>0)|_=>0)<_;rw[Vi S' _ (pos+1) gk (bX _ _ _),Vi S9 k pos m16 AQ];omega
     .unfold fG.cW;obtain⟨s3,s9,cE,cG⟩:=hF;have FM:=I9 (GI:=GI) hG wd
      have g1:(48:Int)<=c.toNat:=zo
      have g2:(c.toNat:Int)<=57:=zo
      have g3:(wd.length:Int)<=3:=zo
      have w1:IntKind.i64.wrap (10*da (wd.take pos))=10*da (wd.take pos):=bU zo;have w2:IntKind.i32.wrap ((c.toNat:Int)-48)=(c.toNat:Int)-48:=wrap32 zo;have w3:IntKind.i64.wrap ((c.toNat:Int)-48)=(c.toNat:Int)-48:=bU zo
      have w4:IntKind.i64.wrap (10*da (wd.take pos)+((c.toNat:Int)-48))=da (wd.take (pos+1)):=by rw[qp,uD,bU zo]
      have e9:∀H,fz H (.str wd)=.str wd:=λH=>rfl
      have jZ:∀H,fz H (.bool true)=.bool true:=λH=>rfl
      simp[c131,gu,iE,lV,ah.qa,ah.qb,ah.dl,cW,cQ,an,cy,ar,bD,ev,aM.S,aM.H,aF,bl,jE,s3,s5,s6,s9,cE,cG,gk,jJ,AV.bC,bV,g1,g2,g3,e9,jZ,bj];refine oc FM ?_;simp[fB,aF,AV.bC,s3,s5,s6,s9,cE,cG,gk,bV,w1,w2,w3,w4,bj]
def Rf(hG:aQ GI)(hT:TB GI){ws:List (List UInt8)}(hlen:ws.length<=100000):AC prog GI 131 [strs ws] (oO (fJ ws)):=
 W8 hG hlen λw _ h3 hd=>E2 hT (zG hd h3)
def Rd(hG:aQ GI)(hT:TB GI)(qD:ML GI)(w:List UInt8)(hw:w.length<=10000):AC prog GI 132 [.str w] (oO (jn w)):=by
 by_cases h0:w=[45]
 .subst h0;have:jn [45]=.ok []:=rfl;rw[this];refine dF hG func132 ntmps132 c132 ?_;simp[c132]
  try rfl
 have hlE:jn w=fJ (bL 44 w):=by unfold jn;rw[if_neg h0]
 rw[hlE]
 have dR:(w==[45])=false:=by simpa using h0
 have a:=La qD w 44 zo
 have xw:(bL 44 w).length<=100000:=by have:=fZ 44 w;omega
 have b:=Rf (ws:=bL 44 w) hG hT xw
 generalize bL 44 w=ws at*
 generalize hog:fJ ws=o at b⊢;refine dF hG func132 ntmps132 c132 ?_;simp[c132,dR];refine oc a ?_;simp[strs];refine oc ((by simpa[strs]using b)) ?_
 cases o with
 |ok l=>simp[oO]
 |error e=>simp[oO,qE]
def cm:(∀k n,(AV.int k n).bC=.int k n)/\(∀b,(AV.bool b).bC=.bool b)/\(∀l,(AV.str l).bC=.str l)/\(∀l,(AV.slice .view l).bC=.slice .view l)/\(∀l,(AV.slice .nil l).bC=.slice .nil l)/\(∀e l,(AV.slice (.own e) l).bC=.slice .view l)/\(∀cs,(AV.agg cs).bC=.agg cs)/\(∀cs,(AV.ea cs).bC=.ea cs)/\(∀cs,(AV.ref cs).bC=.ref cs)/\(∀i o,(AV.box i o).bC=.box i o)/\(∀t v,(AV.iface t v).bC=.iface t v)/\∀v:AV,v.bC.bC=v.bC:=
 ⟨λ_ _=>rfl,λ_=>rfl,λ_=>rfl,λ_=>rfl,λ_=>rfl,λ_ _=>rfl,λ_=>rfl,λ_=>rfl,λ_=>rfl,λ_ _=>rfl,λ_ _=>rfl,AV.idem⟩
def ck:(∀k n,(AV.int k n).dE=.int k n)/\(∀b,(AV.bool b).dE=.bool b)/\(∀l,(AV.str l).dE=.str l)/\(∀o l,(AV.slice o l).dE=.slice .view l)/\(∀cs,(AV.agg cs).dE=.agg cs)/\(∀cs,(AV.ea cs).dE=.ea cs)/\(∀cs,(AV.ref cs).dE=.ref cs)/\∀t v,(AV.iface t v).dE=.iface t v:=
 ⟨λ_ _=>rfl,λ_=>rfl,λ_=>rfl,λ_ _=>rfl,λ_=>rfl,λ_=>rfl,λ_=>rfl,λ_ _=>rfl⟩
def S_(e:Nat)(l:List AV):(grow e l).bC=.slice (if l=[]then .nil else .view) l:=by
 unfold grow
 by_cases h:l=[]<;>simp[h,AV.bC]
def aT(e:Nat)(l:List AV):(grow e l).bC.dE=.slice .view l:=by
 rw[S_];rfl
end Go.Proofs.Tryz
namespace Go.Proofs.Tryz
open Go Go.AL Go.RowKit Go.Proofs Go.Proofs.Tram
attribute [local simp] aU bB fT fu aV aJ aK av az aW aw ao bO bP an ar ev aM.S aM.H bj aF bl AL.start AV.cells AV.storable AV.aZ aP bt bV bu HR.okB post bQ bG bH AV.out AV.aX aG aL fz cL AV.vw bT vI int a_ aq bD bq cd cj bZ bI aI cm ck aT
variable{GI:World->Prop}
def Ax:List (List UInt8):=[ot,ou,pg,oV,lg]
def sG(w:List UInt8):Int:=if w=ot then 0 else if w=ou then 1 else if w=pg then 2 else if w=oV then 3 else if w=lg then 4 else-1
def WK(hG:aQ GI)(w:List UInt8):AC prog GI 130 [strs Ax,.str w] (.ret (.int .i64 (sG w))):=by
 unfold sG;split
 .rename_i h;subst h;exact tc hG Ax _ zd 0 zd rfl λj hj=>absurd hj (ahi _)
 split
 .rename_i h;subst h;exact tc hG Ax _ zd 1 zd rfl fun j hj=>by
   match j,hj with
   |0,_=>exact(by decide:ot≠ou)
 split
 .rename_i h;subst h;exact tc hG Ax _ zd 2 zd rfl fun j hj=>by
   match j,hj with
   |0,_=>exact(by decide:ot≠pg)
   |1,_=>exact(by decide:ou≠pg)
 split
 .rename_i h;subst h;exact tc hG Ax _ zd 3 zd rfl fun j hj=>by
   match j,hj with
   |0,_=>exact(by decide:ot≠oV)
   |1,_=>exact(by decide:ou≠oV)
   |2,_=>exact(by decide:pg≠oV)
 split
 .rename_i h;subst h;exact tc hG Ax _ zd 4 zd rfl fun j hj=>by
   match j,hj with
   |0,_=>exact(by decide:ot≠lg)
   |1,_=>exact(by decide:ou≠lg)
   |2,_=>exact(by decide:pg≠lg)
   |3,_=>exact(by decide:oV≠lg)
 rename_i h0 h1 h2 h3 h4
 exact Ri hG Ax w zd λj hj=>by
  match j,hj with
  |0,_=>exact λe=>h0 e.symm
  |1,_=>exact λe=>h1 e.symm
  |2,_=>exact λe=>h2 e.symm
  |3,_=>exact λe=>h3 e.symm
  |4,_=>exact λe=>h4 e.symm
def T7(w:List UInt8):(sG w==0)=decide (w=ot)/\(sG w==1)=decide (w=ou)/\(sG w==2)=decide (w=pg)/\(sG w==3)=decide (w=oV)/\(sG w==4)=decide (w=lg):=by
 unfold sG
 by_cases h0:w=ot
 .subst h0;decide
 by_cases h1:w=ou
 .subst h1;decide
 by_cases h2:w=pg
 .subst h2;decide
 by_cases h3:w=oV
 .subst h3;decide
 by_cases h4:w=lg
 .subst h4;decide
 simp[h0,h1,h2,h3,h4]
def jv(x:bw):List AV:=[grow 3 (ints x.bJ),grow 141 (x.bK.map eH),.int .i64 x.fV,.int .i64 x.fU,.int .i64 x.ir,.int .i64 x.iu,.int .i64 x.dc,grow 48 (x.words.map dP),.int .i64 x.wide,.int .i64 x.rows]
def O4:Except (List UInt8) bw->jr
 |.ok x=>.ret (dj x)
 |.error e=>.panic (qE e)
def HA(l:List Int):br 1 (ints l)=true:=iJ λa=>⟨rfl,rfl⟩
def Wl(l:List Int)(m:List AV):(AV.slice (if l=[]then .nil else .view) m).bC=.slice (if l=[]then .nil else .view) m:=by split<;>rfl
def GM(l:List k_):br 4 (l.map eH)=true:=iJ λa=>⟨rfl,rfl⟩
def GL(l:List Word):br 3 (l.map dP)=true:=iJ λa=>⟨rfl,rfl⟩
structure tz(t:List UInt8)(L:List (List UInt8))(j:Nat)(x:bw)(S:au)(H:aD):Prop where
 s0:S 0=.str t
 s2:S 2=.box 2 0
 e2:H 2=some (jv cn)
 s4:S 4=.box 4 0
 e4:H 4=some (jv x)
 s5:S 5=.ref (Ax.map AV.str)
 gn:S 25=strs L
 iq:S 26=.int .i64 (L.length:Nat)
 gR:S 27=.int .i64 (j:Nat)
noncomputable def kY:ah:=ah.qb c94.qb.qb.qb.qb.qb.qa.qb.qb
noncomputable def kL:ah:=ah.qb kY.qb.qb.qa
noncomputable def iQ:ah:=ah.qb kL.qb.qb.qb
def YB{l:List Int}(h:l.length=2):∃a b,l=[a,b]:=by
 match l,h with
 |[a,b],_=>exact⟨a,b,rfl⟩
def X_{l:List Int}(h:l.length=5):∃a b c d e,l=[a,b,c,d,e]:=by
 match l,h with
 |[a,b,c,d,e],_=>exact⟨a,b,c,d,e,rfl⟩
def YQ{l:List Int}(h:l.length=4):∃a b c d,l=[a,b,c,d]:=by
 match l,h with
 |[a,b,c,d],_=>exact⟨a,b,c,d,rfl⟩
def Cb{α:Type}{l:List α}(h:l.length=1):∃a,l=[a]:=by
 match l,h with
 |[a],_=>exact⟨a,rfl⟩
def YY{α:Type}{l:List α}(h:l.length=3):∃a b c,l=[a,b,c]:=by
 match l,h with
 |[a,b,c],_=>exact⟨a,b,c,rfl⟩
def aci(hG:aQ GI)(hT:TB GI)(qD:ML GI)(t:List UInt8)(ht:t.length<=420):AC prog GI 94 [.str t] (O4 (jq t)):=by
 have xw:=fZ 10 t
 have zU:∀p∈bL 10 t,p.length<=420:=λp hp=>by have:=fc hp;omega
 have xE:=og 10 t;have a159:=La qD t 10 zo
 refine AC.j7 func94 rfl ntmps94 ah7 λcc w=>?_
 refine eR hG c94.qa (λS' H'=>S' 0=.str t/\S' 2=.box 2 0/\H' 2=some (jv cn)) ?_ ?_
 .simp[c94,ah.qa,af,ae,jv,cn,grow,ints]
 rintro S H ⟨s0,s2,e2⟩;refine eR hG c94.qb.qa (λS' H'=>S' 0=.str t/\S' 2=.box 2 0/\H' 2=some (jv cn)/\S' 3=strs (bL 10 t)) ?_ ?_
 .simp[c94,ah.qa,ah.qb,af,ae,s0,s2,e2];refine oc a159 ?_;simp[af,ae,s0,s2,e2,strs]
 clear s0 s2 e2 S H;rintro S H ⟨s0,s2,e2,s3⟩
 have Fm:jq t=if(bL 10 t).length<2 then .error t else c_ (dO eY cn ((bL 10 t).take ((bL 10 t).length-2))) λx=>if fb x=t then .ok x else .error t:=rfl
 rw[Fm]
 generalize bL 10 t=R at*
 by_cases h2:R.length<2
 .rw[if_pos h2]
  have aN:¬(2:Int)<=R.length:=zo
  refine SW.seq (SW.gO hG d_ zk (λ_ _ h=>h) (ac:=ah.qa c94.qb.qb) zk ?_);unfold fG.cW;simp[c94,ah.qa,ah.qb,af,ae,s0,s3,strs,aN];refine oc (zM hG t) ?_;simp[fB,thenS,pz,O4,qE]
  first|exact⟨rfl,rfl⟩|exact⟨rfl,rfl,rfl⟩
 rw[if_neg h2]
 have Bw:(2:Int)<=R.length:=zo
 refine eR hG c94.qb.qb.qa (λS' H'=>S' 0=.str t/\S' 2=.box 2 0/\H' 2=some (jv cn)/\S' 3=strs R) ?_ ?_
 .simp[c94,ah.qa,ah.qb,af,ae,s0,s2,e2,s3,strs,Bw];refine oc (I9 hG t) ?_;simp[af,ae,s0,s2,e2,s3,strs]
 clear s0 s2 e2 s3 S H;rintro S H ⟨s0,s2,e2,s3⟩;refine eR hG c94.qb.qb.qb.qa (λS' H'=>S' 0=.str t/\S' 2=.box 2 0/\H' 2=some (jv cn)/\S' 3=strs R/\S' 4=.box 4 0/\H' 4=some (jv cn)) ?_ ?_
 .simp[c94,ah.qa,ah.qb,af,ae,s0,s2,e2,s3,strs,jv,cn,grow,ints]
 clear s0 s2 e2 s3 S H;rintro S H ⟨s0,s2,e2,s3,s4,e4⟩;refine eR hG c94.qb.qb.qb.qb.qa (λS' H'=>S' 0=.str t/\S' 2=.box 2 0/\H' 2=some (jv cn)/\S' 3=strs R/\S' 4=.box 4 0/\H' 4=some (jv cn)/\S' 5=.box 5 0/\H' 5=some (Ax.map AV.str)) ?_ ?_
 .simp[c94,ah.qa,ah.qb,af,ae,s0,s2,e2,s3,s4,e4,strs];refine oc (AZ hG) ?_;simp[af,ae,s0,s2,e2,s3,s4,e4,strs,Ax]
 clear s0 s2 e2 s3 s4 e4 S H;rintro S H ⟨s0,s2,e2,s3,s4,e4,s5,e5⟩;refine SW.freeze (i:=5) e5 rfl ?_
 obtain⟨L,hL⟩:∃L,R.take (R.length-2)=L:=⟨_,rfl⟩
 have N1:L.length=R.length-2:=by rw[<-hL];simp
 rw[hL]
 have NR:∀p∈L,p.length<=420:=λp hp=>zU p (by rw[<-hL]at hp;exact aeL hp)
 have hLs:(L.map λp=>p.length+1).sum<=421:=by
  have h1:(R.map λp=>p.length+1).sum=(L.map λp=>p.length+1).sum+((R.drop (R.length-2)).map λp=>p.length+1).sum:=by
   rw[<-hL,<-afz,<-aeB,afa]
  omega
 have mg:IntKind.i64.wrap ((R.length:Int)-2)=(L.length:Nat):=by rw[bU zo];omega
 have hLn:(L.length:Int)<=R.length:=zo
 show SW prog GI 171 none (.seq (.seq _ (.block 0 (.loop _))) (.seq _ (.seq _ .ret))) _ _ _ _;refine SW.seq (eR hG c94.qb.qb.qb.qb.qb.qa.qa (tz t L 0 cn) ?_ ?_)
 .have hLt:L.length<=R.length:=zo
  have YH:R.take L.length=L:=by rw[N1];exact hL
  have Q5:(R.map AV.str).take L.length=L.map AV.str:=by rw[<-af1,YH]
  simp[c94,ah.qa,ah.qb,af,ae,s0,s2,e2,s3,s4,e4,s5,strs,xB,mg,hLt,YH,hLn,bound,fN];exact⟨by simp[af,ae,s0,xB],by simp[af,ae,s2,xB],by simp[af,ae,e2],by simp[af,ae,s4,xB],by simp[af,ae,e4],by simp[af,ae,s5,xB,Ax],by simp[af,ae,strs,Q5],by simp[af,ae],by simp[af,ae]⟩
 clear s0 s2 e2 s3 s4 e4 s5 e5 S H;intro S H hI
 have du:∀d,¬(Old.plain cc w).bx d:=λ_ h=>h
 refine SW.block (SW.loop (λo S' H'=>o=Old.plain cc w/\∃j x,j<=L.length/\dO eY cn (L.take j)=.ok x/\Grown 421 x j/\j4 x/\tz t L j x S' H') (λS' _=>match S' 27 with|.int _ j=>L.length-j.toNat|_=>0) ⟨rfl,0,cn,ae2 _,rfl,iU _,qW,hI⟩ ?_);clear hI S H;rintro o S H ⟨rfl,j,x,hj,hf,iz,hN,hI⟩;have m27:=hI.gR;show SW prog GI 171 none (.seq _ (.seq (.cond _ _ _) (.seq (.block 1 _) _))) _ _ _ _;refine qY hG kY.qa (λd _=>du d) (λS' H'=>S' 28=.bool (decide (j<L.length))/\tz t L j x S' H') ?_ ?_
 .obtain⟨s0,s2,e2,s4,e4,s5,gn,iq,gR⟩:=hI;simp[c94,kY,ah.qa,ah.qb,af,ae,iq,gR];exact⟨by simp[af,ae,s0],by simp[af,ae,s2],e2,by simp[af,ae,s4],e4,by simp[af,ae,s5],by simp[af,ae,gn],by simp[af,ae,iq],by simp[af,ae,gR]⟩
 clear hI;rintro S H ⟨xm,hI⟩
 by_cases aN:j<L.length
 case neg=>
  have rD:j=L.length:=zo
  rw[rD,aee (aed _)]at hf;rw[hf];refine SW.seq (SW.cond rfl false (by show S 28=_;rw[xm];simp[aN]) (SW.exit ?_));show SW prog GI 171 none (.seq _ (.seq _ .ret)) _ _ _ _;obtain⟨wJ,h5⟩:=qV (b:=421) (λr hr=>by have:=NR r hr;omega) (iU _) hf
  have TF:F' x:=⟨by have:=wJ.bJ;omega,by have:=wJ.bK;omega,by have:=wJ.words;omega,λw hw=>by have:=wJ.cb w hw;omega,λw hw=>by have:=wJ.dq w hw;omega⟩
  have a116:=Yo hG hT x hN TF;obtain⟨s0,s2,e2,s4,e4,s5,gn,iq,gR⟩:=hI
  by_cases FN:fb x=t
  case neg=>
   have hb:(fb x==t)=false:=by simpa using FN
   simp only[c_,if_neg FN];refine SW.seq (SW.gO hG d_ zk (λd _=>du d) (ac:=ah.qa c94.qb.qb.qb.qb.qb.qb) zk ?_);unfold fG.cW;simp[c94,ah.qa,ah.qb,af,ae,s0,s4,e4,jv,aT];refine oc a116 ?_;simp[af,ae,s0,hb];refine oc (zM hG t) ?_;simp[fB,thenS,pz,O4,qE]
   first|exact⟨rfl,rfl⟩|exact⟨rfl,rfl,rfl⟩
  have hb:(fb x==t)=true:=by simpa using FN
  simp only[c_,if_pos FN];refine qY hG c94.qb.qb.qb.qb.qb.qb.qa (λd _=>du d) (λS' H'=>S' 2=.box 2 0/\H' 2=some (jv cn)/\S' 4=.box 4 0/\H' 4=some (jv x)) ?_ ?_
  .simp[c94,ah.qa,ah.qb,af,ae,s0,s4,e4,jv,aT];refine oc a116 ?_;simp[af,ae,s0,hb];refine oc (I9 hG t) ?_;simp[af,ae,s2,e2,s4,e4,jv]
  clear s0 s2 e2 s4 e4 s5 gn iq gR xm m27 S H;rintro S H ⟨s2,e2,s4,e4⟩;refine qY hG c94.qb.qb.qb.qb.qb.qb.qb.qa (λd _=>du d) (λS' H'=>S' 2=.box 2 0/\H' 2=some ((jv x).map AV.bC)) ?_ ?_
  .simp[c94,ah.qa,ah.qb,af,ae,s2,e2,s4,e4,jv]
  clear s2 e2 s4 e4 S H;rintro S H ⟨s2,e2⟩;obtain⟨i28,mV,m_⟩:=iZ 29 10;obtain⟨fs,fw⟩:=uZ 29;refine SW.ret ⟨e_.plain rfl,rfl,dj x,?_,rfl⟩;show bQ prog 171 [.cell 2 29] S H=_;simp[bQ,bG,bH,s2,e2,mV,fw,m_,bu,ef,jv,AV.out,aT,AV.aX,AV.vw,ck,cm,dj,ai,vI]
 case pos=>
  obtain⟨r,hr⟩:∃r,L[j]=r:=⟨_,rfl⟩
  have xl:r.length<=420:=by rw[<-hr];exact NR _ (ad2 aN)
  have Ub:=La qD r 32 zo;refine SW.seq (SW.cond rfl true (by show S 28=_;rw[xm];simp[aN]) (SW.skip ?_));clear xm;show SW prog GI 171 none (.seq (.block 1 (.seq _ (.seq _ (.seq _ (.block 2 _))))) _) _ _ _ _;refine SW.seq (SW.block (qY hG kL.qa (λd _=>du d) (λS' H'=>S' 7=.str r/\tz t L j x S' H') ?_ ?_))
  .obtain⟨s0,s2,e2,s4,e4,s5,gn,iq,gR⟩:=hI;simp[c94,kY,kL,ah.qa,ah.qb,af,ae,gn,gR,strs,aN,hr];exact⟨by simp[af,ae,s0],by simp[af,ae,s2],e2,by simp[af,ae,s4],e4,by simp[af,ae,s5],by simp[af,ae,gn],by simp[af,ae,iq],by simp[af,ae,gR]⟩
  clear hI;rintro S H ⟨s7,hI⟩
  obtain⟨nm,tl,xp⟩:∃nm tl,bL 32 r=nm::tl:=by
   cases hs:bL 32 r with
   |nil=>exact absurd hs (mD 32 r)
   |cons a l=>exact⟨a,l,rfl⟩
  have yt:tl.length<=421:=by have:=fZ 32 r;rw[xp]at this;simp at this;omega
  have Ec:∀p∈tl,p.length<=420:=λp hp=>by have:=fc (c:=32) (l:=r) (p:=p) (by rw[xp];exact aei _ hp);omega
  rw[xp]at Ub;refine qY hG kL.qb.qa (λd _=>du d) (λS' H'=>S' 7=.str r/\S' 8=strs (nm::tl)/\tz t L j x S' H') ?_ ?_
  .obtain⟨s0,s2,e2,s4,e4,s5,gn,iq,gR⟩:=hI;simp[c94,kY,kL,ah.qa,ah.qb,af,ae,s7];refine oc Ub ?_;simp[af,ae,s7,strs];exact⟨by simp[af,ae,s0],by simp[af,ae,s2],e2,by simp[af,ae,s4],e4,by simp[af,ae,s5],by simp[af,ae,gn],by simp[af,ae,iq],by simp[af,ae,gR]⟩
  clear hI s7 S H;rintro S H ⟨s7,s8,hI⟩;refine qY hG kL.qb.qb.qa (λd _=>du d) (λS' H'=>S' 7=.str r/\S' 8=strs (nm::tl)/\S' 9=.int .i64 (sG nm)/\tz t L j x S' H') ?_ ?_
  .obtain⟨s0,s2,e2,s4,e4,s5,gn,iq,gR⟩:=hI;have a162:=WK (GI:=GI) hG nm;simp only[strs,Ax,aer,aeF]at a162;simp[c94,kY,kL,ah.qa,ah.qb,af,ae,s7,s8,s5,strs,Ax];refine oc a162 ?_;simp[af,ae,s7,s8,strs];exact⟨by simp[af,ae,s0],by simp[af,ae,s2],e2,by simp[af,ae,s4],e4,by simp[af,ae,s5,Ax],by simp[af,ae,gn,strs],by simp[af,ae,iq],by simp[af,ae,gR]⟩
  clear hI s7 s8 S H;rintro S H ⟨s7,s8,s9,hI⟩;refine SW.block (SW.mono (Q:=λe o S' H'=>o=Old.plain cc w/\match e with|.normal=>∃y,eY x r=.ok y/\tz t L j y S' H'|.panic v=>∃er,eY x r=.error er/\v=qE er|_=>False) ?_ ?_)
  .rintro e o S' H' ⟨rfl,h⟩
   cases e with
   |normal=>
    obtain⟨y,hy,hI⟩:=h;have rG:=wO aN hf;rw[hr,hy]at rG;show SW prog GI 171 none _ _ _ _ _;refine SW.gO hG d_ zk (λd _=>du d) (ac:=ah.qb kY.qb.qb) zk ?_;unfold fG.cW;obtain⟨s0,s2,e2,s4,e4,s5,gn,iq,gR⟩:=hI;have qU:IntKind.i64.wrap ((j:Int)+1)=j+1:=bU zo;simp[c94,kY,kL,ah.qa,ah.qb,af,ae,gR,qU,thenS];refine⟨⟨j+1,zo,y,rG,(Aj zo iz hy).1,CO hN hy,by simp[af,ae,s0],by simp[af,ae,s2],e2,by simp[af,ae,s4],e4,by simp[af,ae,s5],by simp[af,ae,gn],by simp[af,ae,iq],by simp[af,ae]⟩,?_⟩;rw[m27];show L.length-((j:Int)+1).toNat<L.length-(j:Int).toNat;omega
   |panic v=>
    obtain⟨er,he,rfl⟩:=h;have eB:=si aN hf (by rw[hr];exact he);rw[eB];exact⟨rfl,rfl,rfl⟩
   |exit id=>exact h.elim
   |ret=>exact h.elim
  have ad9:∀d∈([]:List Nat),¬(Old.plain cc w).bx d:=λd _=>du d
  obtain⟨k0,k1,k2,k3,k4⟩:=T7 nm
  have eB:eY x r=(if nm=ot/\tl.length=2 then c_ (fJ tl) λn=>.ok { x with wide:=at' n 0,rows:=at' n 1 }
   else if nm=ou/\tl.length=5 then c_ (fJ tl) λn=>.ok { x with fV:=at' n 0,fU:=at' n 1,ir:=at' n 2,iu:=at' n 3,dc:=at' n 4 }
   else if nm=pg/\tl.length=1 then c_ (fJ tl) λn=>.ok { x with bJ:=x.bJ++n }
   else if nm=oV/\tl.length=4 then c_ (fJ tl) λn=>.ok { x with bK:=x.bK++[⟨at' n 0,at' n 1,at' n 2,at' n 3⟩] }
   else if nm=lg/\tl.length=3 then c_ (jn (tl[1]?.getD [])) λa=>c_ (jn (tl[2]?.getD [])) λb=>.ok { x with words:=x.words++[⟨a,b,tl[0]?.getD []==[121,101,115]⟩] }
   else .error r):=by unfold eY;rw[xp];rfl
  generalize eY x r=st at*
  have so:=Rf (GI:=GI) hG hT (ws:=tl) zo
  generalize sG nm=kd at*
  have Hw:br 1 (AV.str nm::tl.map AV.str)=true:=fN (nm::tl)
  have pn:(1:Int)<=(tl.length:Int)+1:=zo
  have jo:((tl.length:Int)+1).toNat=tl.length+1:=zo
  have pK:(tl.map AV.str).take tl.length=tl.map AV.str:=aee ah7;show SW prog GI 171 none (.seq _ (.cond _ _ _)) _ _ _ _;refine qY hG iQ.qa (λd _=>du d) (λS' H'=>S' 40=.bool (decide (nm=ot/\tl.length=2))/\S' 7=.str r/\S' 8=strs (nm::tl)/\S' 9=.int .i64 kd/\tz t L j x S' H') ?_ ?_
  .have hl:((tl.length:Int)+1==3)=decide (tl.length=2):=by rw[aeW];simp;omega
   obtain⟨s0,s2,e2,s4,e4,s5,gn,iq,gR⟩:=hI
   by_cases h:nm=ot
   .have hk:kd=0:=by simpa[h]using k0
    simp[c94,kY,kL,iQ,ah.qa,ah.qb,af,ae,s7,s8,s9,strs,hk,hl,h];exact⟨by simp[af,ae,s0],by simp[af,ae,s2],e2,by simp[af,ae,s4],e4,by simp[af,ae,s5],by simp[af,ae,gn,strs],by simp[af,ae,iq],by simp[af,ae,gR]⟩
   .have hk:(kd==0)=false:=by rw[k0];simpa using h
    simp[c94,kY,kL,iQ,ah.qa,ah.qb,af,ae,s7,s8,s9,strs,hk,h];exact⟨by simp[af,ae,s0],by simp[af,ae,s2],e2,by simp[af,ae,s4],e4,by simp[af,ae,s5],by simp[af,ae,gn,strs],by simp[af,ae,iq],by simp[af,ae,gR]⟩
  clear hI s7 s8 s9;rintro S H ⟨sc,s7,s8,s9,hI⟩
  by_cases h0:nm=ot/\tl.length=2
  case pos=>
   rw[if_pos h0]at eB;refine SW.cond rfl true (by show S 40=_;rw[sc];simp[h0]) ?_;obtain⟨s0,s2,e2,s4,e4,s5,gn,iq,gR⟩:=hI;refine SW.gO hG d_ zk (λd _=>du d) (ac:=ah.qa iQ.qb) zk ?_;unfold fG.cW
   cases hg:fJ tl with
   |error er=>
    rw[hg]at so eB;simp[c94,kY,kL,iQ,ah.qa,ah.qb,af,ae,s8,strs,bound,Hw,pn,jo,pK];refine oc so ?_;simp[fB,oO];exact⟨er,eB,rfl⟩
   |ok l=>
    rw[hg]at so eB;obtain⟨a,b,rfl⟩:=YB (by rw[n9 hg];exact h0.2);simp[c94,kY,kL,iQ,ah.qa,ah.qb,af,ae,s8,strs,bound,Hw,pn,jo,pK];refine oc so ?_;simp[af,ae,oO,ints,s4,e4,jv];refine⟨_,eB,by simp[af,ae,s0],by simp[af,ae,s2],by simp[af,ae,e2],by simp[af,ae,s4],by simp[af,ae,e4,jv,at',ints,grow],by simp[af,ae,s5],by simp[af,ae,gn,strs],by simp[af,ae,iq],by simp[af,ae,gR]⟩
  rw[if_neg h0]at eB;refine SW.cond rfl false (by show S 40=_;rw[sc];simp[h0]) ?_;clear sc;show SW prog GI 171 none (.seq _ (.cond _ _ _)) _ _ _ _;refine qY hG iQ.qb.qb.qa (λd _=>du d) (λS' H'=>S' 59=.bool (decide (nm=ou/\tl.length=5))/\S' 7=.str r/\S' 8=strs (nm::tl)/\S' 9=.int .i64 kd/\tz t L j x S' H') ?_ ?_
  .have hl:((tl.length:Int)+1==6)=decide (tl.length=5):=by rw[aeW];simp;omega
   obtain⟨s0,s2,e2,s4,e4,s5,gn,iq,gR⟩:=hI
   by_cases h:nm=ou
   .have hk:kd=1:=by simpa[h]using k1
    simp[c94,kY,kL,iQ,ah.qa,ah.qb,af,ae,s7,s8,s9,strs,hk,hl,h];exact⟨by simp[af,ae,s0],by simp[af,ae,s2],e2,by simp[af,ae,s4],e4,by simp[af,ae,s5],by simp[af,ae,gn,strs],by simp[af,ae,iq],by simp[af,ae,gR]⟩
   .have hk:(kd==1)=false:=by rw[k1];simpa using h
    simp[c94,kY,kL,iQ,ah.qa,ah.qb,af,ae,s7,s8,s9,strs,hk,h];exact⟨by simp[af,ae,s0],by simp[af,ae,s2],e2,by simp[af,ae,s4],e4,by simp[af,ae,s5],by simp[af,ae,gn,strs],by simp[af,ae,iq],by simp[af,ae,gR]⟩
  clear hI s7 s8 s9;rintro S H ⟨sc,s7,s8,s9,hI⟩
  by_cases h1:nm=ou/\tl.length=5
  case pos=>
   rw[if_pos h1]at eB;refine SW.cond rfl true (by show S 59=_;rw[sc];simp[h1]) ?_;obtain⟨s0,s2,e2,s4,e4,s5,gn,iq,gR⟩:=hI;refine SW.gO hG d_ zk (λd _=>du d) (ac:=ah.qa iQ.qb.qb.qb) zk ?_;unfold fG.cW
   cases hg:fJ tl with
   |error er=>
    rw[hg]at so eB;simp[c94,kY,kL,iQ,ah.qa,ah.qb,af,ae,s8,strs,bound,Hw,pn,jo,pK];refine oc so ?_;simp[fB,oO];exact⟨er,eB,rfl⟩
   |ok l=>
    rw[hg]at so eB;obtain⟨a,b,c,d,e,rfl⟩:=X_ (by rw[n9 hg];exact h1.2);refine aY (λS' H'=>S' 11=.slice .view [.int .i64 a,.int .i64 b,.int .i64 c,.int .i64 d,.int .i64 e]/\tz t L j x S' H') ?_ ?_
    .simp[c94,kY,kL,iQ,ah.qa,ah.qb,af,ae,s8,strs,bound,Hw,pn,jo,pK];refine oc so ?_;simp[af,ae,oO,ints];exact⟨by simp[af,ae,s0],by simp[af,ae,s2],e2,by simp[af,ae,s4],e4,by simp[af,ae,s5],by simp[af,ae,gn,strs],by simp[af,ae,iq],by simp[af,ae,gR]⟩
    clear s0 s2 e2 s4 e4 s5 gn iq gR s7 s8 s9 sc S H;rintro S H ⟨sl,s0,s2,e2,s4,e4,s5,gn,iq,gR⟩;simp[af,ae,sl,s4,e4,jv,cD];refine⟨_,eB,by simp[af,ae,s0],by simp[af,ae,s2],by simp[af,ae,e2],by simp[af,ae,s4],by simp[af,ae,e4,jv,at',ints,grow],by simp[af,ae,s5],by simp[af,ae,gn,strs],by simp[af,ae,iq],by simp[af,ae,gR]⟩
  rw[if_neg h1]at eB;refine SW.cond rfl false (by show S 59=_;rw[sc];simp[h1]) ?_;clear sc;show SW prog GI 171 none (.seq _ (.cond _ _ _)) _ _ _ _;refine qY hG iQ.qb.qb.qb.qb.qa (λd _=>du d) (λS' H'=>S' 90=.bool (decide (nm=pg/\tl.length=1))/\S' 7=.str r/\S' 8=strs (nm::tl)/\S' 9=.int .i64 kd/\tz t L j x S' H') ?_ ?_
  .have hl:((tl.length:Int)+1==2)=decide (tl.length=1):=by rw[aeW];simp;omega
   obtain⟨s0,s2,e2,s4,e4,s5,gn,iq,gR⟩:=hI
   by_cases h:nm=pg
   .have hk:kd=2:=by simpa[h]using k2
    simp[c94,kY,kL,iQ,ah.qa,ah.qb,af,ae,s7,s8,s9,strs,hk,hl,h];exact⟨by simp[af,ae,s0],by simp[af,ae,s2],e2,by simp[af,ae,s4],e4,by simp[af,ae,s5],by simp[af,ae,gn,strs],by simp[af,ae,iq],by simp[af,ae,gR]⟩
   .have hk:(kd==2)=false:=by rw[k2];simpa using h
    simp[c94,kY,kL,iQ,ah.qa,ah.qb,af,ae,s7,s8,s9,strs,hk,h];exact⟨by simp[af,ae,s0],by simp[af,ae,s2],e2,by simp[af,ae,s4],e4,by simp[af,ae,s5],by simp[af,ae,gn,strs],by simp[af,ae,iq],by simp[af,ae,gR]⟩
  clear hI s7 s8 s9;rintro S H ⟨sc,s7,s8,s9,hI⟩
  by_cases h2:nm=pg/\tl.length=1
  case pos=>
   rw[if_pos h2]at eB;refine SW.cond rfl true (by show S 90=_;rw[sc];simp[h2]) ?_;obtain⟨s0,s2,e2,s4,e4,s5,gn,iq,gR⟩:=hI;obtain⟨w1,qk⟩:=Cb h2.2;have dG:br 1 [AV.str w1]=true:=rfl;refine SW.JJ hG d_ [6] [0,1,2,3,4,5,6,7,8,9] zk zk (l:=ah.dl iQ.qb.qb.qb.qb.qb.qa) zk (((iQ.qb.qb.qb.qb.qb.qa.dl).take 6).map (λo=>(false,o))++((true,⟨some 104,none,.call 131 [.t 103]⟩)::((iQ.qb.qb.qb.qb.qb.qa.dl).drop 7).map λo=>(false,o))) zk ?_;refine mq _ ?_;simp[c94,kY,kL,iQ,ah.qa,ah.qb,af,ae,ah.dl,s4,e4,s8,qk,strs,jv,dG];rw[qk]at so eB;refine ki (by simp[af,ae]) zk (by simpa[af,ae,strs]using so) ?_
   cases hg:fJ [w1]with
   |error er=>
    rw[hg]at eB;exact⟨er,eB,rfl⟩
   |ok l=>
    rw[hg]at eB;obtain⟨a,rfl⟩:=Cb (n9 hg);simp only[oO];refine uG [⟨some 105,none,.append 23 3 1 8 (.t 99) (.t 104)⟩,⟨some 106,none,.fieldAddr 0 (.t 4)⟩,⟨none,none,.store (.box 4) 1 (.t 106) (.t 105)⟩] ?_;simp;refine jG (ints x.bJ) (.int .i64 a) .view ah7 (by simp[ints]) rfl (HA x.bJ) (by rw[aG];have:=iz.bJ;omega) ?_;intro S' sd dp;simp[sd,dp,s4,e4,jv];refine⟨_,eB,by simp[af,ae,dp,s0],by simp[af,ae,dp,s2],by simp[af,ae,e2],by simp[af,ae,dp,s4],by simp[af,ae,e4,jv,ints,grow],by simp[af,ae,dp,s5],by simp[af,ae,dp,gn,strs],by simp[af,ae,dp,iq],by simp[af,ae,dp,gR]⟩
  rw[if_neg h2]at eB;refine SW.cond rfl false (by show S 90=_;rw[sc];simp[h2]) ?_;clear sc;show SW prog GI 171 none (.seq _ (.cond _ _ _)) _ _ _ _;refine qY hG iQ.qb.qb.qb.qb.qb.qb.qa (λd _=>du d) (λS' H'=>S' 107=.bool (decide (nm=oV/\tl.length=4))/\S' 7=.str r/\S' 8=strs (nm::tl)/\S' 9=.int .i64 kd/\tz t L j x S' H') ?_ ?_
  .have hl:((tl.length:Int)+1==5)=decide (tl.length=4):=by rw[aeW];simp;omega
   obtain⟨s0,s2,e2,s4,e4,s5,gn,iq,gR⟩:=hI
   by_cases h:nm=oV
   .have hk:kd=3:=by simpa[h]using k3
    simp[c94,kY,kL,iQ,ah.qa,ah.qb,af,ae,s7,s8,s9,strs,hk,hl,h];exact⟨by simp[af,ae,s0],by simp[af,ae,s2],e2,by simp[af,ae,s4],e4,by simp[af,ae,s5],by simp[af,ae,gn,strs],by simp[af,ae,iq],by simp[af,ae,gR]⟩
   .have hk:(kd==3)=false:=by rw[k3];simpa using h
    simp[c94,kY,kL,iQ,ah.qa,ah.qb,af,ae,s7,s8,s9,strs,hk,h];exact⟨by simp[af,ae,s0],by simp[af,ae,s2],e2,by simp[af,ae,s4],e4,by simp[af,ae,s5],by simp[af,ae,gn,strs],by simp[af,ae,iq],by simp[af,ae,gR]⟩
  clear hI s7 s8 s9;rintro S H ⟨sc,s7,s8,s9,hI⟩
  by_cases h3:nm=oV/\tl.length=4
  case pos=>
   rw[if_pos h3]at eB;refine SW.cond rfl true (by show S 107=_;rw[sc];simp[h3]) ?_;obtain⟨s0,s2,e2,s4,e4,s5,gn,iq,gR⟩:=hI;refine SW.gO hG d_ zk (λd _=>du d) (ac:=ah.qa iQ.qb.qb.qb.qb.qb.qb.qb) zk ?_;unfold fG.cW
   cases hg:fJ tl with
   |error er=>
    rw[hg]at so eB;simp[c94,kY,kL,iQ,ah.qa,ah.qb,af,ae,s8,strs,bound,Hw,pn,jo,pK];refine oc so ?_;simp[fB,oO];exact⟨er,eB,rfl⟩
   |ok l=>
    rw[hg]at so eB;obtain⟨a,b,c,d,rfl⟩:=YQ (by rw[n9 hg];exact h3.2);simp[c94,kY,kL,iQ,ah.qa,ah.qb,af,ae,s8,strs,bound,Hw,pn,jo,pK];refine oc so ?_;have dG:br 4 [AV.agg [.int .i64 a,.int .i64 b,.int .i64 c,.int .i64 d]]=true:=rfl;simp[oO,ints,s4,e4,jv,cD,dG];refine jG (x.bK.map eH) (.agg [.int .i64 a,.int .i64 b,.int .i64 c,.int .i64 d]) (.own 141) ah7 ah7 rfl (GM x.bK) (by rw[aef];have:=iz.bK;omega) ?_;intro S' sd dp;simp[sd,dp,s4,e4,jv];refine⟨_,eB,by simp[af,ae,dp,s0],by simp[af,ae,dp,s2],by simp[af,ae,e2],by simp[af,ae,dp,s4],by simp[af,ae,e4,jv,at',eH,ints,grow],by simp[af,ae,dp,s5],by simp[af,ae,dp,gn,strs],by simp[af,ae,dp,iq],by simp[af,ae,dp,gR]⟩
  rw[if_neg h3]at eB;refine SW.cond rfl false (by show S 107=_;rw[sc];simp[h3]) ?_;clear sc;show SW prog GI 171 none (.seq _ (.cond _ _ _)) _ _ _ _;refine qY hG iQ.qb.qb.qb.qb.qb.qb.qb.qb.qa (λd _=>du d) (λS' H'=>S' 137=.bool (decide (nm=lg/\tl.length=3))/\S' 7=.str r/\S' 8=strs (nm::tl)/\S' 9=.int .i64 kd/\tz t L j x S' H') ?_ ?_
  .have hl:((tl.length:Int)+1==4)=decide (tl.length=3):=by rw[aeW];simp;omega
   obtain⟨s0,s2,e2,s4,e4,s5,gn,iq,gR⟩:=hI
   by_cases h:nm=lg
   .have hk:kd=4:=by simpa[h]using k4
    simp[c94,kY,kL,iQ,ah.qa,ah.qb,af,ae,s7,s8,s9,strs,hk,hl,h];exact⟨by simp[af,ae,s0],by simp[af,ae,s2],e2,by simp[af,ae,s4],e4,by simp[af,ae,s5],by simp[af,ae,gn,strs],by simp[af,ae,iq],by simp[af,ae,gR]⟩
   .have hk:(kd==4)=false:=by rw[k4];simpa using h
    simp[c94,kY,kL,iQ,ah.qa,ah.qb,af,ae,s7,s8,s9,strs,hk,h];exact⟨by simp[af,ae,s0],by simp[af,ae,s2],e2,by simp[af,ae,s4],e4,by simp[af,ae,s5],by simp[af,ae,gn,strs],by simp[af,ae,iq],by simp[af,ae,gR]⟩
  clear hI s7 s8 s9;rintro S H ⟨sc,s7,s8,s9,hI⟩
  by_cases h4:nm=lg/\tl.length=3
  case pos=>
   rw[if_pos h4]at eB;refine SW.cond rfl true (by show S 137=_;rw[sc];simp[h4]) ?_;obtain⟨s0,s2,e2,s4,e4,s5,gn,iq,gR⟩:=hI;obtain⟨w1,w2,w3,pB⟩:=YY h4.2;have adY:w2.length<=420:=Ec w2 (by rw[pB];simp);have adS:w3.length<=420:=Ec w3 (by rw[pB];simp);have a2:=Rd (GI:=GI) hG hT qD w2 zo;have a3:=Rd (GI:=GI) hG hT qD w3 zo;rw[pB]at eB;refine SW.JJ hG d_ [5,9] [0,1,2,3,4,6,7,8,10,11,12,13,5,9,14,15,16,17,18] zk zk (l:=ah.dl iQ.qb.qb.qb.qb.qb.qb.qb.qb.qb.qa) zk (((iQ.qb.qb.qb.qb.qb.qb.qb.qb.qb.qa.dl).take 5++((iQ.qb.qb.qb.qb.qb.qb.qb.qb.qb.qa.dl).drop 6).take 3++((iQ.qb.qb.qb.qb.qb.qb.qb.qb.qb.qa.dl).drop 10).take 4).map (λo=>(false,o))++((true,⟨some 150,none,.call 132 [.t 149]⟩)::(true,⟨some 154,none,.call 132 [.t 153]⟩)::((iQ.qb.qb.qb.qb.qb.qb.qb.qb.qb.qa.dl).drop 14).map λo=>(false,o))) zk ?_;refine mq _ ?_;simp[c94,kY,kL,iQ,ah.qa,ah.qb,af,ae,ah.dl,s4,e4,s8,pB,strs,jv];refine ki (by simp[af,ae]) zk (by simpa[af,ae]using a2) ?_
   cases oN:jn w2 with
   |error er=>
    have eB:st=.error er:=by rw[eB];simp[oN,c_]
    exact⟨er,eB,rfl⟩
   |ok l2=>
    simp only[oO];refine ki (by simp[af,ae]) zk (by simpa[af,ae]using a3) ?_
    cases hg3:jn w3 with
    |error er=>
     have eB:st=.error er:=by rw[eB];simp[oN,hg3,c_]
     exact⟨er,eB,rfl⟩
    |ok l3=>
     have eB:st=.ok { x with words:=x.words++[⟨l2,l3,w1==[121,101,115]⟩] }:=by rw[eB];simp[oN,hg3,c_]
     simp only[oO];refine uG [⟨some 159,none,.build [.slice .nil [],.slice .nil [],.bool false] [(0,1,.t 150),(1,1,.t 154),(2,1,.t 158)]⟩,⟨some 160,none,.buildSlice 27 48 3 [.t 159]⟩,⟨some 161,none,.append 27 48 3 56 (.t 146) (.t 160)⟩,⟨some 162,none,.fieldAddr 7 (.t 4)⟩,⟨none,none,.store (.box 4) 1 (.t 162) (.t 161)⟩] ?_;have dG:br 3 [AV.agg [.slice .view (ints l2),.slice .view (ints l3),.bool (w1==[121,101,115])]]=true:=rfl
     generalize pn:(w1==[121,101,115])=bb at*
     simp[cD,pn,Wl,dG];refine jG (x.words.map dP) (dP ⟨l2,l3,bb⟩) (.own 48) ah7 (by simp[dP,vI]) rfl (GL x.words) (by rw[aef];have:=iz.words;omega) ?_;intro S' sd dp;simp[sd,dp,s4,e4,jv];refine⟨_,eB,by simp[af,ae,dp,s0],by simp[af,ae,dp,s2],by simp[af,ae,e2],by simp[af,ae,dp,s4],by simp[af,ae,e4,jv,dP,vI,ints,grow],by simp[af,ae,dp,s5],by simp[af,ae,dp,gn,strs],by simp[af,ae,dp,iq],by simp[af,ae,dp,gR]⟩
  rw[if_neg h4]at eB;refine SW.cond rfl false (by show S 137=_;rw[sc];simp[h4]) ?_;clear sc;refine SW.gO hG d_ zk (λd _=>du d) (ac:=ah.qb iQ.qb.qb.qb.qb.qb.qb.qb.qb.qb) zk ?_;unfold fG.cW;simp[c94,kY,kL,iQ,ah.qa,ah.qb,af,ae,s7];refine oc (zM hG r) ?_;simp[fB];exact⟨r,eB,rfl⟩
end Go.Proofs.Tryz
namespace Go.Proofs.Tryz
open Go Go.AL Go.RowKit Go.Proofs Go.Proofs.Tram
variable{GI:World->Prop}
def WC{Pr:Nat->Nat->Prop}{w:World}{e:List UInt8}{c:Value}(h:RD Pr w (qE e) c):c=.iface 192 (.agg #[.string ⟨e.toArray⟩]):=by
 unfold qE at h
 cases h with
 |iface t v c h=>
  cases h with
  |agg cs vs hl h1 hr=>
   have hs:vs.size=1:=by rw[<-hl];rfl
   have h0:=hr 0 ah7 zo;simp only[List.getElem_cons_zero]at h0
   have:vs=#[vs[0]]:=by
    apply afH
    .simpa using hs
    .intro i h1 h2
     have:i=0:=by simp at h2;omega
     subst this;rfl
   rw[this];generalize vs[0]=x at h0;cases h0;rfl
def SX (hG:aQ GI) {w0:World} {n:Nat} {g:Gh} {S:au} {H:aD} {a:Act} {w:World} {i1 i4:Nat} {s e:List UInt8} {z:List AV} (dI:GI w0) (R:Rel prog w0 n dh g S H a w) (Ff:i1 < n) (Es:i4 < n)
  (FA:S i1=.box i1 0) (Ey:H i1=some [.str s]) (Bi:S i4=.box i4 0) (Ge:H i4=some z) (te:AC prog GI 94 [.str s] (.panic (qE e))):
  Calls prog 93 #[a.tmps.getD i1 undef,a.tmps.getD i4 undef] w λen w2=>en=.panicked [{ v:=.iface 192 (.agg #[.string ⟨e.toArray⟩]),recovered:=false }]/\Below w.heap.size w w2:=by
 have cM:=R.size;have v1:=R.slot i1 Ff id;rw[FA]at v1;have v4:=R.slot i4 Es id;rw[Bi]at v4
 obtain⟨b1,e1,zj⟩:∃b,a.tmps.getD i1 undef=.pointer (some ⟨b,0,none⟩)/\g.al i1=some b:=by
  generalize a.tmps.getD i1 undef=c at v1
  cases v1 with
  |data _ _ h=>cases h
  |box _ _ b h=>exact⟨b,rfl,h⟩
 obtain⟨b4,e4,ab'⟩:∃b,a.tmps.getD i4 undef=.pointer (some ⟨b,0,none⟩)/\g.al i4=some b:=by
  generalize a.tmps.getD i4 undef=c at v4
  cases v4 with
  |data _ _ h=>cases h
  |box _ _ b h=>exact⟨b,rfl,h⟩
 obtain⟨cs,vs,ty,k0,k1,k2,k3,k4,k5,k6,k7,k8⟩:=R.box i1 b1 zj;rw[Ey]at k0;cases k0
 have h0:0<vs.size:=by rw[<-k5];exact ahN
 have hv:=pP (RV.data (al:=dW) _ _ (k6 0 ah7 h0))
 have gr:w.cell? ⟨b1,0,none⟩=some (.string ⟨s.toArray⟩):=by simp[World.cell?,k2,h0,hv]
 have vB:=R.below;rw[R.base]at vB;have ib:GI w:=hG w0 w dI vB;rw[e1,e4];refine agi func93 rfl ?_;refine(gl (m:=0)).1 ?_;refine iS (λa=>a.tmps.size=4/\a.defers=[]/\a.tmps.getD 0 undef=.pointer (some ⟨b1,0,none⟩)/\a.tmps.getD 1 undef=.pointer (some ⟨b4,0,none⟩)) ⟨by simp[ntmps93],rfl,dQ _ _ 0 ah7,dQ _ _ 1 ah7⟩ ?_;rintro aC ⟨zC,dC,t0,t1⟩
 have jj:∀(a:Act)(d:Nat)(c:Value),a.tmps.size=4->d<4->(a.put (some d) c).tmps.getD d undef=c:=λa d c h hd=>by
  simp[Act.put,h,hd]
 refine aeG ?_;show wpOpsIn _ _ _ _ _ [0,1,2] aC w;refine cI rfl rfl zr (kA (t:=9) (d:=.string) (b:=b1) (off:=0) rfl t0 zk rfl gr) ?_;show wpOpsIn _ _ _ _ _ [1,2] (aC.put (some 2) (.string ⟨s.toArray⟩)) w
 refine p7 rfl rfl zr (ia (k:=94) (args:=#[.string ⟨s.toArray⟩]) w rfl rfl ?_ zk) (te w (gz g false) #[.string ⟨s.toArray⟩] ib rfl (λi h h'=>by
  match i,h with
  |0,_=>exact .data _ _ (.str s))) ?_
 .simp only[aeN,aer,aeF];show #[(aC.put (some 2) _).tmps.getD 2 undef]=_;rw[jj _ _ _ zC zd]
 rintro en w2 ⟨jo,hi,rI,c,rfl,ec⟩;have hc:=WC ec;subst hc;exact⟨dC,rfl,jo⟩
def SC (hG:aQ GI) {w0:World} {n:Nat} {g:Gh} {S:au} {H:aD} {a:Act} {w:World} {i1 i4:Nat} {s e:List UInt8} {z:List AV} (dI:GI w0) (R:Rel prog w0 n dh g S H a w) (Ff:i1 < n) (Es:i4 < n)
  (FA:S i1=.box i1 0) (Ey:H i1=some [.str s]) (Bi:S i4=.box i4 0) (Ge:H i4=some z) (te:AC prog GI 94 [.str s] (.panic (qE e))):
  Calls prog 92 #[.func (.func 93) #[] #[a.tmps.getD i1 undef,a.tmps.getD i4 undef]] w λen w2=>en=.returned (.int .i64 4)/\∃g',g'.old=g.old/\Rel prog w0 n dh g' S H a w2:=by
 have R1:=R.o9 (.cells #[.int .i64 0] 34)
 have zv:g.old.cg w.heap.size=none:=by
  cases h:g.old.cg w.heap.size with
  |none=>rfl
  |some o=>
   have:=(aea.1 (R.kept _ o h).2.1).1;omega
 refine rC zk (SX hG dI R1 Ff Es FA Ey Bi Ge te) ?_;rintro en w2 ⟨rfl,jo⟩;have R2:=R1.kG jo;have hk:aF g.old.cg w.heap.size (some (.cells #[.int .i64 0] 34)) w.heap.size=some (.cells #[.int .i64 0] 34):=bX _ _ _;have lI:=(R2.kept _ _ hk).2.1;have aN:=(aea.1 lI).1;refine⟨aN,⟨_,_,lI⟩,.inr (.inr ⟨e,rfl,λw3 pK=>⟨rfl,?_⟩⟩)⟩;have R3:=R2.kG pK;have DC:=(R3.kept _ _ hk).2.1;have R4:=R3.o_ hk (.cells #[.int .i64 4] 34);rw[oF w3 DC];refine⟨_,?_,uM R4 w.heap.size⟩
 have:aF (aF (aF g.old.cg w.heap.size (some (.cells #[.int .i64 0] 34))) w.heap.size (some (.cells #[.int .i64 4] 34))) w.heap.size none=g.old.cg:=by
  funext b
  by_cases hb:b=w.heap.size
  .subst hb;simp[aF,zv]
  .simp[aF,hb]
 show({ g.old with cg:=aF (aF (aF g.old.cg w.heap.size (some (.cells #[.int .i64 0] 34))) w.heap.size (some (.cells #[.int .i64 4] 34))) w.heap.size none }:Old)=_;rw[this]
end Go.Proofs.Tryz
