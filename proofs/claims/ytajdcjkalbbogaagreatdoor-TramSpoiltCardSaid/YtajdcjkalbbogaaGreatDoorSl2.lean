/- A part of the proof. -/
import Derived.Test.YtajdcjkalbbogaaGreatDoorSl1
set_option maxRecDepth 100000
set_option maxHeartbeats 8000000
set_option linter.all false
namespace Go.Proofs.Tryz
open Go Go.AL Go.RowKit Go.Proofs Go.Proofs.Tram
attribute [local simp] ez fF qt oH eM ea eb dG dH eU dI da gZ g_ aF aD ev aP.S aP.H bt au aW AL.start AV.cells AV.storable AV.ct bC cb dU cd HR.okB post cH db c_ AV.out AV.b_ cU d_ fz ia AV.vw cW vI int cy aN di dQ iC jw eP dW bD AV.aI AV.cI
variable{GI:World->Prop}
def rU(l:List End):AV:=grow 180 (l.map bX)
def Q9{s:aJ}{out:List Int}{n:Nat}(h:n<s.words.length)(hc:out.contains (n:Int)=false):ki s out n=(s.words[n].bZ.map λk=>((n:Int),k))++[((n:Int),(s.words[n].aV.length:Int))]:=by
 unfold ki;rw[hc,adB h]
 rfl
def Ov{s:aJ}{out:List Int}{n:Nat}(hc:out.contains (n:Int)=true):ki s out n=[]:=by
 unfold ki;rw[hc]
 rfl
def uf(s:aJ)(out:List Int)(i:Nat):List End:=(List.range i).flatMap (ki s out)
def L1(s:aJ)(out:List Int)(i:Nat):uf s out (i+1)=uf s out i++ki s out i:=by unfold uf;rw[aeV,afj,afX]
def aad(hG:ar GI)(s:aJ)(hs:qI s)(out:List Int)(ho:out.length<1000000):AC prog GI 166 [cE s,vI out] (.ret (.slice .view (aX (mr s out)))):=by
 have q3:=hs.words;refine AC.nK (o:=if mr s out=[]then .nil else .view) ?_;refine cw hG func166 ntmps166 c166 ?_;simp[c166,ah,ae,cE,ai];refine bz 12 s.words.length (λi S H=>S 1=vI out/\S 2=.box 2 0/\H 2=some (ai s)/\S 11=.int .i64 s.words.length/\S 12=.int .i64 (i:Nat)/\S 5=rU (uf s out i)/\(uf s out i).length<=1001*i) (λi S H h=>h.2.2.2.2.1) ⟨by simp[ah,ae],by simp[ah,ae],by simp[ah,ae,ai],by simp[ah,ae],by simp[ah,ae],by simp[ah,ae,rU,uf,grow],by simp[uf]⟩ ?_;rintro i hi S H ⟨s1,s2,e2,bG,cM,s5,hl⟩
 by_cases aq:i<s.words.length
 case neg=>
  have dk:i=s.words.length:=zo
  subst dk;have s5:S 5=rU (mr s out):=s5
  by_cases h0:mr s out=[]
  .rw[h0]at s5
   have qc:S 5=.slice .nil []:=by rw[s5];simp[rU,grow]
   simp[ah,ae,s1,s2,e2,bG,cM,qc,h0,aX]
  .have qc:S 5=.slice (.own 180) ((mr s out).map bX):=by rw[s5];simp[rU,grow,h0]
   simp[ah,ae,s1,s2,e2,bG,cM,qc,h0,aX]
 have hw:IntKind.i64.wrap ((i:Int)+1)=i+1:=aQ zo;have GS:=hs.bZ _ (adC aq);have hr:=L1 s out i;generalize hL:uf s out i=L at s5 hl hr;simp[ah,ae,s1,s2,e2,bG,cM,aq];refine⟨_,zk,MR hG out ho i,λ_=>rfl,?_⟩;cases hc:out.contains (i:Int)
 case true=>
  have ir:uf s out (i+1)=L:=by rw[hr,Ov hc,aeI]
  rw[ir];simp[ah,ae,s1,s2,e2,bG,cM,s5,hw,aq];omega
 have hew:=Q9 aq hc;simp[ah,ae,s1,s2,e2,bG,cM,aq,ai,cG];refine bz 25 s.words[i].bZ.length (λj S H=>S 1=vI out/\S 2=.box 2 0/\H 2=some (ai s)/\S 11=.int .i64 s.words.length/\S 12=.int .i64 (i:Nat)/\S 6=.int .i64 (i:Nat)/\S 23=vI s.words[i].bZ/\S 24=.int .i64 s.words[i].bZ.length/\S 25=.int .i64 (j:Nat)/\S 5=rU (L++(s.words[i].bZ.take j).map λk=>((i:Int),k))) (λi S H h=>h.2.2.2.2.2.2.2.2.1) ⟨by simp[ah,ae,s1],by simp[ah,ae,s2],by simp[ah,ae,e2,ai],by simp[ah,ae,bG],by simp[ah,ae,cM],by simp[ah,ae],by simp[ah,ae],by simp[ah,ae],by simp[ah,ae],by simp[ah,ae,s5]⟩ ?_;clear s1 s2 e2 bG cM s5 S H;rintro j hj S H ⟨s1,s2,e2,bG,cM,s6,jt,rM,fC,s5⟩
 by_cases Zq:j<s.words[i].bZ.length
 .have X2:IntKind.i64.wrap ((j:Int)+1)=j+1:=aQ zo;have qQ:s.words[i].bZ.take (j+1)=s.words[i].bZ.take j++[s.words[i].bZ[j]]:=adJ Zq
  have hlen:(L++(s.words[i].bZ.take j).map λk=>((i:Int),k)).length<1040000:=by
   simp only[adV,adH,adS];omega
  rw[qQ,ad6,<-aek];generalize(L++(s.words[i].bZ.take j).map λk=>((i:Int),k))=M at s5 hlen⊢;have cN:aG 2 [AV.agg [AV.int .i64 (i:Nat),AV.int .i64 s.words[i].bZ[j]]]=true:=rfl;simp[s1,s2,e2,bG,cM,s6,jt,rM,fC,Zq,cN];refine iy (M.map bX) (bX ((i:Int),s.words[i].bZ[j])) (.own 180) (by simp[s5,rU]) (by simp[bX]) rfl (F7 _) (by rw[adH];omega) ?_;intro S' sd hk;simp[sd,hk,s1,s2,e2,bG,cM,s6,jt,rM,fC,X2,Zq,rU]
 .have qP:j=s.words[i].bZ.length:=zo
  subst qP;rw[aeW]at s5
  have hlen:(L++s.words[i].bZ.map λk=>((i:Int),k)).length<=1001*i+1000:=by
   simp only[adV,adH];omega
  rw[hr,hew,<-aek];generalize(L++s.words[i].bZ.map λk=>((i:Int),k))=M at s5 hlen⊢;have cN:aG 2 [AV.agg [AV.int .i64 (i:Nat),AV.int .i64 s.words[i].aV.length]]=true:=rfl;simp[s1,s2,e2,bG,cM,s6,jt,rM,fC,aq,cN,ai,cG];refine iy (M.map bX) (bX ((i:Int),(s.words[i].aV.length:Int))) (.own 180) (by simp[s5,rU]) (by simp[bX]) rfl (F7 _) (by rw[adH];omega) ?_;intro S' sd hk;simp[sd,hk,s1,s2,e2,bG,cM,hw,aq,rU,ai];omega
def vY{s:aJ}(hs:bj s=true){g:Nat×Nat}(h:Oz s g):OZ s (bQ s g):=U' hs h
def aal(hG:ar GI)(s:aJ)(hs:bj s=true){l:List (Nat×Nat)}(hl:l.length<10000)(mu:∀g∈l,Oz s g)(cut:Bool)(x:Int):AC prog GI 184 [iw s,O2 l cut,.int .i64 x] (.ret (.int .i64 (kj s (l.map (bQ s)) l.length+(if cut then s.ck else 0)))):=by
 have hF:=gx hs;have uK:=hF.Gq
 have hb:∀x∈(l.map λg=>mY s (bQ s g)),0<=x/\x<=1000:=by
  intro x hx;obtain⟨g,hg,rfl⟩:=adZ.1 hx;have:=BS hF (vY hs (mu g hg));omega
 have zx:kj s (l.map (bQ s)) l.length=(l.map λg=>mY s (bQ s g)).sum:=by
  have:=Bw s (l.map (bQ s)) l.length ahB;rw[this,adI ahB,aeT];rfl
 have MT:(l.map λg=>mY s (bQ s g)).length<10000:=by rw[adH];exact hl
 rw[zx];refine cw hG func184 ntmps184 c184 ?_;refine aK (λS H=>S 3=.box 3 0/\S 4=.box 4 0/\H 3=some (a_ s)/\H 4=some [.slice .view (l.map gA),.bool cut]) (by simp[ah,ae,iw,a_,O2,IS,ai,cq]) ?_;rintro S H ⟨s3,s4,e3,e4⟩;refine aK (λS H=>S 3=.box 3 0/\S 4=.box 4 0/\H 3=some (a_ s)/\H 4=some [.slice .view (l.map gA),.bool cut]/\S 7=jD []) (by simp[ah,ae,s3,s4,e3,e4,jD,grow]) ?_;clear s3 s4 e3 e4 S H;rintro S H ⟨s3,s4,e3,e4,s7⟩;refine aK (λS H=>S 3=.box 3 0/\S 4=.box 4 0/\H 3=some (a_ s)/\H 4=some [.slice .view (l.map gA),.bool cut]/\S 7=jD (l.map λg=>mY s (bQ s g))) ?_ ?_
 .simp[ah,ae,s3,s4,e3,e4];refine bz 13 l.length (λi S H=>S 3=.box 3 0/\S 4=.box 4 0/\H 3=some (a_ s)/\H 4=some [.slice .view (l.map gA),.bool cut]/\S 11=.slice .view (l.map gA)/\S 12=.int .i64 l.length/\S 13=.int .i64 (i:Nat)/\S 7=jD ((l.take i).map λg=>mY s (bQ s g))) (λi S H h=>h.2.2.2.2.2.2.1) ⟨by simp[ah,ae,s3],by simp[ah,ae,s4],by simp[ah,ae,e3],by simp[ah,ae,e4],by simp[ah,ae],by simp[ah,ae],by simp[ah,ae],by simp[ah,ae,s7]⟩ ?_;clear s3 s4 e3 e4 s7 S H;rintro i hi S H ⟨s3,s4,e3,e4,bG,cM,dM,s7⟩
  by_cases aq:i<l.length
  case neg=>
   have dk:i=l.length:=zo
   subst dk;rw[aeW]at s7;simp[ah,ae,s3,s4,e3,e4,bG,cM,dM,s7]
  have hw:IntKind.i64.wrap ((i:Int)+1)=i+1:=aQ zo
  obtain⟨k,hk⟩:∃k:Nat,(bQ s l[i]).2=k:=⟨(bQ s l[i]).2.toNat,by have:=(vY hs (mu _ (adC aq))).1;omega⟩
  have gE:k<s.aM.length:=by have:=(vY hs (mu _ (adC aq))).2;omega
  have vt:mY s (bQ s l[i])=s.aM[k]:=by
   unfold mY;rw[hk,if_neg zo,Int.toNat_natCast,adB gE];rfl
  rw[adJ aq,ad6,List.map_singleton,vt]
  have hlen:((l.take i).map λg=>mY s (bQ s g)).length<1000000:=by
   rw[adH,adS];omega
  generalize((l.take i).map λg=>mY s (bQ s g))=L at s7 hlen⊢;simp[s3,s4,e3,e4,bG,cM,dM,s7,aq,gA,a_,ai,cq];refine oc (Np hG s (mu _ (adC aq))) ?_;have cN:aG 1 [AV.int .i64 s.aM[k]]=true:=rfl;simp[s3,s4,e3,e4,bG,cM,dM,s7,aq,a_,ai,cq,hk,gE,cN];refine kT (L.map (AV.int .i64)) (AV.int .i64 s.aM[k]) (.own 3) (by simp[s7,jD,grow]) ahB rfl (wm _) (by rw[adH];omega) ?_;intro S' sd cz;simp[sd,cz,s3,s4,e3,e4,bG,cM,dM,aq,hw,jD,a_,ai,cq]
 clear s3 s4 e3 e4 s7 S H;rintro S H ⟨s3,s4,e3,e4,s7⟩;refine aK (λS H=>S 7=jD ((l.map λg=>mY s (bQ s g))++if cut then[s.ck]else[])) ?_ ?_
 .cases cut with
  |false=>simp[ah,ae,s3,s4,e3,e4,s7]
  |true=>
   have cN:aG 1 [AV.int .i64 s.ck]=true:=rfl;generalize(l.map λg=>mY s (bQ s g))=L at s7 MT⊢;simp[s3,s4,e3,e4,s7,a_,ai,cq,cN];refine iy (L.map (AV.int .i64)) (AV.int .i64 s.ck) (.own 3) (by simp[jD]) ahB rfl (wm _) (by rw[adH];omega) ?_;intro S' sd cz;simp[sd,cz,jD]
 clear s3 s4 e3 e4 s7 S H;rintro S H s7;have hh:=hF.ck
 have iL:∀x∈((l.map λg=>mY s (bQ s g))++if cut then[s.ck]else[]),0<=x/\x<=1000:=by
  intro x hx;rcases adG.1 hx with hx|hx
  .exact hb x hx
  .cases cut with
   |false=>simp at hx
   |true=>simp at hx;omega
 have Od:((l.map λg=>mY s (bQ s g))++if cut then[s.ck]else[]).sum=(l.map λg=>mY s (bQ s g)).sum+if cut then s.ck else 0:=by
  rw[afe]
  cases cut<;>simp
 have uO:((l.map λg=>mY s (bQ s g))++if cut then[s.ck]else[]).length<100000:=by
  rw[adV]
  cases cut<;>simp<;>omega
 rw[<-Od];generalize((l.map λg=>mY s (bQ s g))++if cut then[s.ck]else[])=L at s7 iL uO⊢;rcases Bt L with⟨hg,rfl⟩|hg
 .rw[hg]at s7;simp[ah,ae,s7];refine oc (HI hG [] uO iL) ?_;simp[ah,ae]
 .rw[hg]at s7;simp[ah,ae,s7];refine oc (HI hG L uO iL) ?_;simp[ah,ae]
def ZI(hG:ar GI)(s:aJ)(hs:bj s=true){l:List (Nat×Nat)}(cD:l≠[])(hl:l.length<10000)(mu:∀g∈l,Oz s g)(cut:Bool){st:Int}(h0:0<=st)(h1:st<=10):AC prog GI 185 [iw s,O2 l cut,.int .i64 st] (.ret (.int .i64 (kf s st (l.map (bQ s)) (l.length-1)+(if cut then nh s.gk s.gl st else 0)))):=by
 have hF:=gx hs;have iJ:=aeR.2 cD
 have zx:kf s st (l.map (bQ s)) (l.length-1)=(j6 s st (l.map (bQ s)) l.length).sum:=by
  have:=F6 (s:=s) (st:=st) (l:=l.map (bQ s)) (l.length-1) (by rw[adH];omega);rw[show l.length-1+1=l.length by omega]at this;exact this.symm
 rw[zx];refine cw hG func185 ntmps185 c185 ?_;refine aK (λS H=>S 2=.int .i64 st/\S 3=.box 3 0/\S 4=.box 4 0/\H 3=some (a_ s)/\H 4=some [.slice .view (l.map gA),.bool cut]) (by simp[ah,ae,iw,a_,O2,IS,ai,cq]) ?_;rintro S H ⟨s2,s3,s4,e3,e4⟩;refine aK (λS H=>S 2=.int .i64 st/\S 3=.box 3 0/\S 4=.box 4 0/\H 3=some (a_ s)/\H 4=some [.slice .view (l.map gA),.bool cut]/\S 7=jD []) (by simp[ah,ae,s2,s3,s4,e3,e4,jD,grow]) ?_;clear s2 s3 s4 e3 e4 S H;rintro S H ⟨s2,s3,s4,e3,e4,s7⟩;refine aK (λS H=>S 2=.int .i64 st/\S 3=.box 3 0/\S 4=.box 4 0/\H 3=some (a_ s)/\H 4=some [.slice .view (l.map gA),.bool cut]/\S 7=jD (j6 s st (l.map (bQ s)) l.length)) ?_ ?_
 .simp[ah,ae,s2,s3,s4,e3,e4];refine bz 13 l.length (λi S H=>S 2=.int .i64 st/\S 3=.box 3 0/\S 4=.box 4 0/\H 3=some (a_ s)/\H 4=some [.slice .view (l.map gA),.bool cut]/\S 11=.slice .view (l.map gA)/\S 12=.int .i64 l.length/\S 13=.int .i64 (i:Nat)/\S 7=jD (j6 s st (l.map (bQ s)) i)) (λi S H h=>h.2.2.2.2.2.2.2.1) ⟨by simp[ah,ae,s2],by simp[ah,ae,s3],by simp[ah,ae,s4],by simp[ah,ae,e3],by simp[ah,ae,e4],by simp[ah,ae],by simp[ah,ae],by simp[ah,ae],by simp[ah,ae,s7,j6]⟩ ?_;clear s2 s3 s4 e3 e4 s7 S H;rintro i hi S H ⟨s2,s3,s4,e3,e4,bG,cM,dM,s7⟩
  by_cases aq:i<l.length
  case neg=>
   have dk:i=l.length:=zo
   subst dk;simp[ah,ae,s2,s3,s4,e3,e4,bG,cM,dM,s7]
  have hw:IntKind.i64.wrap ((i:Int)+1)=i+1:=aQ zo
  cases i with
  |zero=>
   have s7':S 7=.slice .nil []:=by rw[s7];rfl
   simp[ah,ae,s2,s3,s4,e3,e4,bG,cM,dM,s7',aq,gA];exact⟨aQ zo,by simp[j6,jD,grow]⟩
  |succ m=>
   have SA:m<l.length:=zo
   have X9:j6 s st (l.map (bQ s)) (m+1+1)=j6 s st (l.map (bQ s)) (m+1)++[py s st (bQ s l[m]) (bQ s l[m+1])]:=by
    rw[Da (by simpa using aq)];simp
   have hlen:(j6 s st (l.map (bQ s)) (m+1)).length<1000000:=by have:=Ad (s:=s) (st:=st) (l:=l.map (bQ s)) (m+1);omega
   rw[X9];have RQ:IntKind.i64.wrap (m:Int)=m:=aQ zo;have j0:IntKind.i64.wrap ((m:Int)+1+1)=m+1+1:=aQ zo
   have CI:(0:Int)<(m:Int)+1:=zo
   have aba:(0:Int)<=(m:Int)+1:=zo
   have nc:(m:Int)+1<l.length:=zo
   generalize j6 s st (l.map (bQ s)) (m+1)=L at s7 hlen⊢;have cN:aG 1 [AV.int .i64 (py s st (bQ s l[m]) (bQ s l[m+1]))]=true:=rfl;simp[s2,s3,s4,e3,e4,bG,cM,dM,s7,aq,gA,a_,ai,cq,RQ,CI,aba,SA,nc];refine oc (aag hG s hF (mu _ (adC SA)) (mu _ (adC aq)) h0 h1) ?_;simp[s2,s3,s4,e3,e4,bG,cM,dM,s7,cN];refine kT (L.map (AV.int .i64)) (AV.int .i64 (py s st (bQ s l[m]) (bQ s l[m+1]))) (.own 3) (by simp[s7,jD,grow]) ahB rfl (wm _) (by rw[adH];omega) ?_;intro S' sd cz;simp[sd,cz,s2,s3,s4,e3,e4,bG,cM,dM,aq,nc,j0,jD,a_,ai,cq]
 clear s2 s3 s4 e3 e4 s7 S H;rintro S H ⟨s2,s3,s4,e3,e4,s7⟩;have We:=nR hF.o.2.1 h0 h1
 have MT:(j6 s st (l.map (bQ s)) l.length).length<10000:=by have:=Ad (s:=s) (st:=st) (l:=l.map (bQ s)) l.length;omega
 have hb:∀x∈j6 s st (l.map (bQ s)) l.length,0<=x/\x<=1000:=λx hx=>by have:=FY hF h0 h1 _ x hx;omega
 refine aK (λS H=>S 7=jD (j6 s st (l.map (bQ s)) l.length++if cut then[nh s.gk s.gl st]else[])) ?_ ?_
 .cases cut with
  |false=>simp[ah,ae,s2,s3,s4,e3,e4,s7]
  |true=>
   have cN:aG 1 [AV.int .i64 (nh s.gk s.gl st)]=true:=rfl;generalize j6 s st (l.map (bQ s)) l.length=L at s7 MT⊢;simp[s2,s3,s4,e3,e4,s7,a_,ai,cq];refine oc (Iq hG hF.o.1 hF.o.2.1 (by have:=hF.o.2.2;omega) h0 h1) ?_;simp[cN];refine iy (L.map (AV.int .i64)) (AV.int .i64 (nh s.gk s.gl st)) (.own 3) (by simp[jD]) ahB rfl (wm _) (by rw[adH];omega) ?_;intro S' sd cz;simp[sd,cz,jD]
 clear s2 s3 s4 e3 e4 s7 S H;rintro S H s7;have ho:=hF.o
 have iL:∀x∈(j6 s st (l.map (bQ s)) l.length++if cut then[nh s.gk s.gl st]else[]),0<=x/\x<=1000:=by
  intro x hx;rcases adG.1 hx with hx|hx
  .exact hb x hx
  .cases cut with
   |false=>simp at hx
   |true=>simp at hx;omega
 have Od:(j6 s st (l.map (bQ s)) l.length++if cut then[nh s.gk s.gl st]else[]).sum=(j6 s st (l.map (bQ s)) l.length).sum+if cut then nh s.gk s.gl st else 0:=by
  rw[afe]
  cases cut<;>simp
 have uO:(j6 s st (l.map (bQ s)) l.length++if cut then[nh s.gk s.gl st]else[]).length<100000:=by
  rw[adV]
  cases cut<;>simp<;>omega
 rw[<-Od];generalize(j6 s st (l.map (bQ s)) l.length++if cut then[nh s.gk s.gl st]else[])=L at s7 iL uO⊢;rcases Bt L with⟨hg,rfl⟩|hg
 .rw[hg]at s7;simp[ah,ae,s7];refine oc (HI hG [] uO iL) ?_;simp[ah,ae]
 .rw[hg]at s7;simp[ah,ae,s7];refine oc (HI hG L uO iL) ?_;simp[ah,ae]
def XZ(hG:ar GI)(s:aJ)(hs:bj s=true){l:List (Nat×Nat)}(cD:l≠[])(hl:l.length<=24)(mu:∀g∈l,Oz s g)(cut:Bool){st:Int}(h0:0<=st)(h1:st<=10):AC prog GI 171 [iw s,O2 l cut,.int .i64 st] (.ret (.int .i64 (lK s st (l.map (bQ s)) cut))):=by
 have hF:=gx hs
 have bV:∀a∈l.map (bQ s),OZ s a:=λa ha=>by
  obtain⟨g,hg,rfl⟩:=adZ.1 ha;exact vY hs (mu g hg)
 have abA:l.map (bQ s)≠[]:=by simpa using cD
 have hb:=FC hF h0 h1 abA bV (by simpa using hl) cut;have iJ:=aeR.2 cD;have hg:=rF hF h0 h1 (l:=l.map (bQ s)) (i:=l.length-1) (by rw[adH];omega);have Wn:=rL hF bV (i:=l.length) ahB;have We:=nR hF.o.2.1 h0 h1;have ho:=hF.o;have hh:=hF.ck;have a1:=aal hG s hs (by omega:l.length<10000) mu cut st;have a2:=ZI hG s hs cD zo mu cut h0 h1
 have DP:lK s st (l.map (bQ s)) cut=(kj s (l.map (bQ s)) l.length+(if cut then s.ck else 0))+(kf s st (l.map (bQ s)) (l.length-1)+(if cut then nh s.gk s.gl st else 0)):=by
  unfold lK;rw[adH]
 rw[DP]at hb⊢
 have oy:0<=kj s (l.map (bQ s)) l.length+(if cut then s.ck else 0):=by cases cut<;>simp<;>omega
 have mJ:0<=kf s st (l.map (bQ s)) (l.length-1)+(if cut then nh s.gk s.gl st else 0):=by cases cut<;>simp<;>omega
 generalize kj s (l.map (bQ s)) l.length+(if cut then s.ck else 0)=X at a1 oy hb⊢;generalize kf s st (l.map (bQ s)) (l.length-1)+(if cut then nh s.gk s.gl st else 0)=Y at a2 mJ hb⊢;have w1:IntKind.i64.wrap X=X:=aQ zo;have w2:IntKind.i64.wrap (X+Y)=X+Y:=aQ zo;refine cw hG func171 ntmps171 c171 ?_;refine aK (λS H=>S 2=.int .i64 st/\S 3=.box 3 0/\S 4=.box 4 0/\H 3=some (a_ s)/\H 4=some [.slice .view (l.map gA),.bool cut]) (by simp[ah,ae,iw,a_,O2,IS,ai,cq]) ?_;rintro S H ⟨s2,s3,s4,e3,e4⟩;simp[ah,ae,s2,s3,s4,e3,e4];refine bz 11 2 (λi S H=>S 2=.int .i64 st/\S 3=.box 3 0/\S 4=.box 4 0/\H 3=some (a_ s)/\H 4=some [.slice .view (l.map gA),.bool cut]/\S 10=.gY [.func (.func 184) [] [],.func (.func 185) [] []]/\S 11=.int .i64 (i:Nat)/\S 7=.int .i64 (if i=0 then 0 else if i=1 then X else X+Y)) (λi S H h=>h.2.2.2.2.2.2.1) ⟨by simp[ah,ae,s2],by simp[ah,ae,s3],by simp[ah,ae,s4],by simp[ah,ae,e3],by simp[ah,ae,e4],by simp[ah,ae],by simp[ah,ae],by simp[ah,ae]⟩ ?_;clear s2 s3 s4 e3 e4 S H;rintro i hi S H ⟨s2,s3,s4,e3,e4,bJ,bG,s7⟩
 match i,hi with
 |0,_=>
  simp[ah,ae,s2,s3,s4,e3,e4,bJ,bG,s7,a_,ai,cq,Be];refine oc a1 ?_;simp[ah,ae,s2,s3,s4,e3,e4,bJ,bG,s7,a_,ai,cq,w1];exact aQ zo
 |1,_=>
  simp[ah,ae,s2,s3,s4,e3,e4,bJ,bG,s7,a_,ai,cq,Be];refine oc a2 ?_;simp[ah,ae,s2,s3,s4,e3,e4,bJ,bG,s7,a_,ai,cq,w2];exact aQ zo
 |2,_=>
  simp[ah,ae,s2,s3,s4,e3,e4,bJ,bG,s7]
def VV(s:aJ)(out:List Int)(es:List End)(i:Nat):AV:=O2 (ko s out es i) (lG s es i)
def ij(s:aJ)(out:List Int)(es:List End)(n:Nat):List AV:=(List.range n).map (VV s out es)
def Jl(s:aJ)(out:List Int)(es:List End)(n:Nat):ij s out es (n+1)=ij s out es n++[VV s out es n]:=by
 unfold ij;rw[aeV,ad6];rfl
def O5(s:aJ)(out:List Int)(es:List End)(n:Nat):aG 2 (ij s out es n)=true:=iE λa=>⟨rfl,rfl⟩
def VK(l:List (Nat×Nat)):aG 2 (l.map gA)=true:=iE λa=>⟨rfl,rfl⟩
def BZ(s:aJ)(out:List Int)(es:List End)(n:Nat):(ij s out es n).length=n:=by unfold ij;simp
def PX(a:Nat)(S:an)(_:ao):Nat:=match S 6,S 7 with
 |.int _ w,.int _ f=>((a-w)*1000+(1000-f)).toNat
 |_,_=>0
def I81(s:aJ)(out:List Int)(es:List End)(i a b:Nat)(S:an)(H:ao):Prop:=S 2=.box 2 0/\S 3=.box 3 0/\H 2=some (a_ s)/\H 3=some [vI out,.slice .view (es.map bX)]/\S 12=.slice .view (es.map bX)/\S 13=.int .i64 es.length/\S 14=.int .i64 (i:Nat)/\S 5=grow 249 (ij s out es i)/\S 9=.box 9 0/\H 9=some [.int .i64 a,.int .i64 b]/\S 10=.box 10 0/\∃(w f:Nat)(D:List (Nat×Nat)),H 10=some [grow 261 (D.map gA),.bool (lG s es i)]/\S 6=.int .i64 w/\S 7=.int .i64 f/\D++ma s out (w,f) (a,b)=ko s out es i/\w<=a/\(w=a->f<=b)/\(w<a->f<=ef s w)
def aaa(hG:ar GI)(s:aJ)(hs:bj s=true)(out:List Int)(ho:out.length<1000000)(es:List End)(he:es.length<100000)(g:Good s out es):AC prog GI 170 [iw s,br out es] (.ret (.slice .view (ij s out es es.length))):=by
 have hF:=gx hs;refine AC.nK (o:=if ij s out es es.length=[]then .nil else .view) ?_;refine cw hG func170 ntmps170 c170 ?_;refine aK (λS H=>S 2=.box 2 0/\S 3=.box 3 0/\H 2=some (a_ s)/\H 3=some [vI out,.slice .view (es.map bX)]) (by simp[ah,ae,iw,a_,ai,cq,br,aX]) ?_;rintro S H ⟨s2,s3,e2,e3⟩;simp[ah,ae,s2,s3,e2,e3];refine bz 14 es.length (λi S H=>S 2=.box 2 0/\S 3=.box 3 0/\H 2=some (a_ s)/\H 3=some [vI out,.slice .view (es.map bX)]/\S 12=.slice .view (es.map bX)/\S 13=.int .i64 es.length/\S 14=.int .i64 (i:Nat)/\S 5=grow 249 (ij s out es i)/\S 6=.int .i64 (nv es i).1/\S 7=.int .i64 (nv es i).2) (λi S H h=>h.2.2.2.2.2.2.1) ⟨by simp[ah,ae,s2],by simp[ah,ae,s3],by simp[ah,ae,e2],by simp[ah,ae,e3],by simp[ah,ae],by simp[ah,ae],by simp[ah,ae],by simp[ah,ae,grow,ij],by simp[ah,ae,nv],by simp[ah,ae,nv]⟩ ?_;clear s2 s3 e2 e3 S H;rintro i hi S H ⟨s2,s3,e2,e3,cM,dM,eg,s5,s6,s7⟩
 by_cases aq:i<es.length
 case neg=>
  have dk:i=es.length:=zo
  subst dk
  by_cases h0:ij s out es es.length=[]
  .have qc:S 5=.slice .nil []:=by rw[s5,h0];rfl
   simp[ah,ae,s2,s3,e2,e3,cM,dM,eg,qc,h0]
  .have qc:S 5=.slice (.own 249) (ij s out es es.length):=by rw[s5];simp[grow,h0]
   simp[ah,ae,s2,s3,e2,e3,cM,dM,eg,qc,h0]
 obtain⟨g1,g2,g3,g4,g5⟩:=g.one i aq
 obtain⟨a,ha⟩:∃a:Nat,es[i].1=a:=⟨es[i].1.toNat,zo⟩
 obtain⟨b,hb⟩:∃b:Nat,es[i].2=b:=⟨es[i].2.toNat,zo⟩
 have hE:es[i]=((a:Int),(b:Int)):=Prod.ext ha hb
 have Yy:nE es[i]=(a,b):=by rw[hE];rfl
 have jC:a<s.words.length:=zo
 have GS:lG s es i=decide (b<s.words[a].aV.length):=by
  rw[D7 aq,hE];show decide ((b:Int)<(ef s (a:Int).toNat:Int))=_;rw[Int.toNat_natCast,kP jC,decide_eq_decide];omega
 rw[ha]at g3 g5;rw[hb]at g4 g5
 have g5:b<=s.words[a].aV.length:=by rw[Int.toNat_natCast,kP jC]at g5;omega
 have zp:ko s out es i=ma s out (nv es i) (a,b):=by rw[rZ aq,Yy]
 have xA:=Gx hs g i;have hw:IntKind.i64.wrap ((i:Int)+1)=i+1:=aQ zo
 have aaL:nv es (i+1)=(a,b):=by
  show(match es[i]? with|some e=>nE e|none=>(0,0))=_;rw[adB aq];exact Yy
 have ack:=Jh g aq;rw[Yy]at ack;simp[ah,ae,s2,s3,e2,e3,cM,dM,eg,aq,hE,bX,a_,ai,cq,jC,cG,bH];refine⟨I81 s out es i a b,PX a,⟨by simp[ah,ae,s2],by simp[ah,ae,s3],by simp[ah,ae,e2,a_,ai,cq],by simp[ah,ae,e3],by simp[ah,ae,cM],by simp[ah,ae,dM],by simp[ah,ae,eg],by simp[ah,ae,s5,grow],by simp[ah,ae],by simp[ah,ae],by simp[ah,ae],(nv es i).1,(nv es i).2,[],by simp[ah,ae,grow,GS],by simp[ah,ae,s6],by simp[ah,ae,s7],by rw[zp];rfl,zo,zo,?_⟩,?_⟩
 .intro _
  cases i with
  |zero=>exact aeu _
  |succ j=>
   have hj:=g.one j zo
   have:nv es (j+1)=nE es[j]:=by show(match es[j]? with|some e=>nE e|none=>(0,0))=_;rw[adB zo]
   rw[this];show es[j].2.toNat<=ef s es[j].1.toNat;omega
 clear s2 s3 e2 e3 cM dM eg s5 s6 s7 S H;rintro S H ⟨s2,s3,e2,e3,cM,dM,eg,s5,s9,e9,bJ,w,f,D,iP,s6,s7,hD,hwa,hfb,oG⟩
 have hDl:D.length<=24:=by
  have:=congrArg List.length hD;rw[adV]at this;omega
 have hl6:=(yq hs (out:=out) w).2;have acH:=(yq hs (out:=out) a).2;rw[kP jC]at acH
 have hf6:f<=6:=by
  by_cases h:w<a
  .have:=oG h;omega
  .have:=hfb zo;omega
 by_cases qg:w<a\/w=a/\f<b
 case neg=>
  obtain rfl:w=a:=by omega
  obtain rfl:f=b:=by have:=hfb rfl;omega
  rw[NR (adF _),aeI]at hD
  have acG:D≠[]:=by rw[hD];exact LP g aq
  have hg:grow 261 (D.map gA)=.slice (.own 261) (D.map gA):=by simp[grow,acG]
  rw[hg]at iP
  have LJ:VV s out es i=.agg [.slice .view (D.map gA),.bool (lG s es i)]:=by rw[hD];rfl
  have cN:aG 2 [AV.agg [AV.slice .view (D.map gA),AV.bool (lG s es i)]]=true:=rfl;simp[s2,s3,e2,e3,cM,dM,eg,s5,s9,e9,bJ,iP,s6,s7,cN];refine iy (ij s out es i) (VV s out es i) (.own 249) (by simp[s5,grow]) (by rw[LJ];simp) (by rw[LJ];rfl) (O5 _ _ _ _) (by rw[BZ];omega) ?_;intro S' sd cz;simp[sd,cz,s2,s3,e2,e3,cM,dM,eg,s6,s7,hw,aq,aaL,Jl,grow,a_,ai,cq]
 have uK:w<s.words.length:=zo
 have Y_:=kP uK;refine aK (λS H=>S 2=.box 2 0/\S 3=.box 3 0/\H 2=some (a_ s)/\H 3=some [vI out,.slice .view (es.map bX)]/\S 12=.slice .view (es.map bX)/\S 13=.int .i64 es.length/\S 14=.int .i64 (i:Nat)/\S 5=grow 249 (ij s out es i)/\S 9=.box 9 0/\H 9=some [.int .i64 a,.int .i64 b]/\S 10=.box 10 0/\H 10=some [grow 261 (D.map gA),.bool (lG s es i)]/\S 6=.int .i64 w/\S 7=.int .i64 f) ?_ ?_
 .rcases qg with LL|⟨rfl,abJ⟩
  .have wD:(w:Int)<a:=zo
   simp[ah,ae,s2,s3,e2,e3,cM,dM,eg,s5,s9,e9,bJ,iP,s6,s7,wD,LL]
  .have ZH:(f:Int)<b:=zo
   simp[ah,ae,s2,s3,e2,e3,cM,dM,eg,s5,s9,e9,bJ,iP,s6,s7,ZH,abJ]
 have NP:PX a S H=(a-w)*1000+(1000-f):=by unfold PX;rw[s6,s7];simp only;omega
 rw[NP];clear s2 s3 e2 e3 cM dM eg s5 s9 e9 bJ iP s6 s7 NP S H;rintro S H ⟨s2,s3,e2,e3,cM,dM,eg,s5,s9,e9,bJ,iP,s6,s7⟩;simp[s2,s3,e2,e3,cM,dM,eg,s5,s9,e9,bJ,iP,s6,s7];refine⟨_,zk,MR hG out ho w,λ_=>rfl,?_⟩;have nz:=hF.words.2;have mR:IntKind.i64.wrap ((w:Int)+1)=w+1:=aQ zo;have hf1:IntKind.i64.wrap ((f:Int)+1)=f+1:=aQ zo;have hw0:IntKind.i64.wrap 0=0:=aQ zo;cases DB:out.contains (w:Int)
 case true=>
  have LL:w<a:=by
   rcases qg with h|⟨rfl,_⟩
   .exact h
   .rw[DB]at g3;cases g3
  simp[s2,s3,e2,e3,cM,dM,eg,s5,s9,e9,bJ,iP,s6,s7,mR,hw0];refine⟨⟨by simp[ah,ae,s2],by simp[ah,ae,s3],e2,e3,by simp[ah,ae,cM],by simp[ah,ae,dM],by simp[ah,ae,eg],by simp[ah,ae,s5,grow],by simp[ah,ae,s9],e9,by simp[ah,ae,bJ],w+1,0,D,iP,by simp[ah,ae],by simp[ah,ae],by rw[<-hD,Qm LL DB],zo,λ_=>aeu _,λ_=>aeu _⟩,?_⟩;simp[PX,au];omega
 have hlen:(((w:Nat):Int))<s.words.length:=zo
 cases Cg:((f:Int)==s.words[w].aV.length)
 case true=>
  have WV:ef s w<=f:=by rw[Y_];simp at Cg;omega
  have LL:w<a:=by
   rcases qg with h|⟨rfl,h⟩
   .exact h
   .rw[Y_]at WV;omega
  simp[s2,s3,e2,e3,cM,dM,eg,s5,s9,e9,bJ,iP,s6,s7,mR,hw0,a_,ai,cq,cG,uK,Cg];refine⟨⟨by simp[ah,ae,s2],by simp[ah,ae,s3],e2,e3,by simp[ah,ae,cM],by simp[ah,ae,dM],by simp[ah,ae,eg],by simp[ah,ae,s5,grow],by simp[ah,ae,s9],e9,by simp[ah,ae,bJ],w+1,0,D,iP,by simp[ah,ae],by simp[ah,ae],by rw[<-hD,M6 LL WV],zo,λ_=>aeu _,λ_=>aeu _⟩,?_⟩;simp[PX,au];omega
 have cD:f≠s.words[w].aV.length:=by simp at Cg;omega
 have hfw:f<ef s w:=by
  rcases qg with h|⟨rfl,h⟩
  .have:=oG h;omega
  .omega
 have cN:aG 2 [AV.agg [AV.int .i64 (w:Nat),AV.int .i64 (f:Nat)]]=true:=rfl;simp[s2,s3,e2,e3,cM,dM,eg,s5,s9,e9,bJ,iP,s6,s7,a_,ai,cq,cG,uK,Cg,bH,cN];refine iy (D.map gA) (gA (w,f)) (.own 261) (by simp[grow]) (by simp[gA]) rfl (VK _) (by rw[adH];omega) ?_;intro S' sd cz;simp[sd,cz,s2,s3,e2,e3,cM,dM,eg,s5,s9,e9,bJ,s6,s7,hf1,grow];refine⟨⟨by simp[ah,ae,cz,s2],by simp[ah,ae,cz,s3],?_,?_,by simp[ah,ae,cz,cM],by simp[ah,ae,cz,dM],by simp[ah,ae,cz,eg],by simp[ah,ae,cz,s5,grow],by simp[ah,ae,cz,s9],?_,by simp[ah,ae,cz,bJ],w,f+1,D++[(w,f)],?_,by simp[ah,ae,cz,s6],by simp[ah,ae],?_,hwa,?_,?_⟩,?_⟩
 .simp[ah,ae,e2,a_,ai,cq]
 .simp[ah,ae,e3]
 .simp[ah,ae,e9]
 .simp[ah,ae,grow]
 .have iH:ma s out (w,f) (a,b)=(w,f)::ma s out (w,f+1) (a,b):=Sb (by
   rcases qg with h|h
   .exact .inl ⟨h,DB,hfw⟩
   .exact .inr h)
  rw[<-hD,iH];simp
 .intro h;rcases qg with h'|h'<;>omega
 .intro _;omega
 .simp[PX,au,cz,s6];omega
end Go.Proofs.Tryz
namespace Go.Proofs.Tryz
open Go Go.AL Go.RowKit Go.Proofs Go.Proofs.Tram
def Wf {Pr:Nat→Nat→Prop} {w:World} {b:Nat} {ty:TypeId} {cells:Array Value} {es:List AV} {size:Nat} (hb:w.heap[b]? = some (.cells cells ty (0,0))) (hs:cells.size=es.length * size) (bl:∀ e∈es,e.cells.length=size∧∀ c∈e.cells,c.one=true)
  (hP:∀k,k<cells.size->Pr b k) (hr:∀i (h:i<es.length) j (hj:j<(es[i]).cells.length),RD Pr w ((es[i]).cells[j]) (cells.getD (i*size+j) undef)):RD Pr w (.slice .view es) (.slice (some ⟨b,0,none⟩) es.length es.length):=by
 refine .slice .view es b 0 es.length size (λk=>cells.getD k undef) (adF _) (λh=>by cases h) (λi h=>(bl _ (adC h)).1) (λi h j hj=>(bl _ (adC h)).2 _ (adC hj)) (λk hk=>?_) hr;rw[<-hs]at hk;refine⟨by rw[aeh];exact hP k hk,?_⟩;simp[World.cell?,hb,hk]
variable{GI:World->Prop}
end Go.Proofs.Tryz
namespace Go.Proofs.Tryz
open Go Go.AL Go.RowKit Go.Proofs Go.Proofs.Tram
def Jp {bE:Nat} {u:Value} {ty:TypeId} (w:World) (hE:w.heap[bE]? = some (.cells #[u] ty (0,0))) (n:Int) :
    CallsD prog 85 #[.pointer (some ⟨bE,0,none⟩)] (.panicking [{ v := .iface 131 (.agg #[.int .i64 n]),recovered:=false }]) w fun e u' w' =>
      e=.returned (.tuple #[])/\u'=.panicking [{ v:=.iface 131 (.agg #[.int .i64 n]),recovered:=true }]/\∃w1,Below w.heap.size w w1/\w'=w1.setRow bE #[.int .i64 7]:=by
  refine af_ func85 rfl λCD cs hu=>?_
  apply ahr;apply agK;simp[wpOpsS,go_sem,recoverD,hu,ntmps85,Exit.thenS];refine agZ ?_;refine(fy (m:=0)).1 ?_;refine ik (λa=>a.tmps.size=14/\a.defers=[]/\a.tmps.getD 0 undef=.pointer (some ⟨bE,0,none⟩)/\a.tmps.getD 5 undef=.iface 131 (.agg #[.int .i64 n])) ⟨ahB,rfl,ahB,ahB⟩ ?_;rintro a ⟨bl,eR,h0,h5⟩;have aq:=(adD.1 hE).1;refine ae9 (adT (aea ?_));show wpOpsIn _ _ _ _ _ [0] a w;refine bf rfl rfl zr (tO (x:=.tmp 5) w rfl h5) ?_;show Code.wpIn _ _ _ _ _ (a.put (some 7) (.bool false)) w
  have h7:(a.put (some 7) (.bool false)).tmps.getD 7 undef=.bool false:=by simp[Act.put,bl]
  refine aeB (t:=false) h7 ?_;simp only[adM,ad1];refine ik (λa=>a.tmps.size=14/\a.defers=[]/\a.tmps.getD 0 undef=.pointer (some ⟨bE,0,none⟩)/\a.tmps.getD 5 undef=.iface 131 (.agg #[.int .i64 n])) ⟨by simp[Act.put,bl],eR,by simpa[Act.put,adN]using h0,by simpa[Act.put,adN]using h5⟩ ?_;clear h7 h5 h0 eR bl a;rintro a ⟨bl,eR,h0,h5⟩
  have hS:∀ (a:Act) (w:World),a.tmps.getD 5 undef = .iface 131 (.agg #[.int .i64 n])→∀ t,t < 14→((fun t=>if t=5 then AV.iface 131 (.agg [.int .i64 n]) else AV.bp:an) t).aI=(fun t=>if t=5 then AV.iface 131 (.agg [.int .i64 n]) else AV.bp:an) t ∧
      RV (λ_ _=>True) cQ w ((λt=>if t=5 then AV.iface 131 (.agg [.int .i64 n])else AV.bp:an) t) (a.tmps.getD t undef):=by
    intro a w h5 t ht
    by_cases h:t=5
    . subst h
      rw[h5];refine⟨rfl,.data _ _ (.iface _ _ _ (.agg _ _ rfl (λi hi=>?_) (λi hi du=>?_)))⟩
      . have:i=0:=by simpa using hi
        subst this;rfl
      . have:i=0:=by simpa using hi
        subst this;exact .int _ _
    . simp only[h,ad1];exact⟨rfl,.bp _⟩
  refine adT ?_;refine cL (GI:=λ_=>True) (λ_ _ _ _=>trivial) de (ac:=af.qa c85.qb.qb.qb.qb) (W:=λt=>decide (8<=t)) zk zk zk trivial (λ_ _=>True) _ bl eR (hS a w h5) (K:=λS' _=>S' 9=.bool true/\S' 10=.agg [.int .i64 n]) ?_ ?_
  . simp[c85,af.qa,af.qb,bB,bq,aF,ba,aD,aN,aP.S,aP.H,ev,au,aW,AV.aI]
  rintro g S' H' a' w' hg R1 ⟨h9,pJ⟩ bn;have t9:=R1.slot 9 zd (λh=>h);rw[h9]at t9;have t9:=t9.fN;have t10:=R1.slot 10 zd (λh=>h);rw[pJ]at t10
  have b1:Below w.heap.size w w':=by have:=R1.below;rwa [R1.base]at this
  show Code.wpIn _ _ _ _ _ a' w';refine aeB (t:=true) t9 ?_;simp only[aed];refine adT ?_;refine jP R1 (GI:=λ_=>True) (λ_ _ _ _=>trivial) trivial de (ac:=af.qa c85.qb.qb.qb.qb.qb.qa) (W:=λt=>decide (1<=t)) zk zk zk (by rw[hg];exact λ_ h=>h) (K:=λ_ _=>True) ?_ ?_
  . simp[c85,af.qa,af.qb,bB,bq,aF,ba,aD,aN,aP.S,aP.H,ev,au,aW,AV.aI,pJ,cb,HR.okB,AV.cells,AV.storable,bC,AV.ct,bt]
  rintro g2 S2 H2 a2 w2 nQ R2 _ kB
  have b2:Below w.heap.size w w2:=by have:=R2.below;rwa [R2.base]at this
  have e0:a2.tmps.getD 0 undef=.pointer (some ⟨bE,0,none⟩):=(kB 0 rfl).trans ((bn 0 rfl).trans h0);have IX:w2.heap[bE]?=some (.cells #[u] ty (0,0)):=(b2.block bE aq).trans hE;obtain⟨i36,ss,sH⟩:=iZ 34 1;show Code.wpIn _ _ _ _ _ a2 w2;refine aea ?_;show wpOpsIn _ _ _ _ _ [0] a2 w2;refine eT rfl rfl zr (iU (x:=.tmp 0) (y:=.const (.int .i64 7)) (v:=.int .i64 7) rfl e0 ss sH IX rfl rfl) ?_;refine⟨by show a2.defers=[];rw[R2.defers,nQ,hg];rfl,_,rfl,.tuple #[],?_,rfl,rfl,w2,b2,rfl⟩;simp[results,results85]
def Hv {bE:Nat} {u:Value} {ty:TypeId} (w:World) (hE:w.heap[bE]? = some (.cells #[u] ty (0,0))) (n:List UInt8) :
    CallsD prog 85 #[.pointer (some ⟨bE,0,none⟩)] (.panicking [{ v := .iface 133 (.agg #[.string ⟨n.toArray⟩]),recovered:=false }]) w fun e u' w' =>
      e=.returned (.tuple #[])/\u'=.panicking [{ v:=.iface 133 (.agg #[.string ⟨n.toArray⟩]),recovered:=true }]/\∃w1,Below w.heap.size w w1/\w'=w1.setRow bE #[.int .i64 4]:=by
  refine af_ func85 rfl λCD cs hu=>?_
  apply ahr;apply agK;simp[wpOpsS,go_sem,recoverD,hu,ntmps85,Exit.thenS];refine agZ ?_;refine(fy (m:=0)).1 ?_;refine ik (λa=>a.tmps.size=14/\a.defers=[]/\a.tmps.getD 0 undef=.pointer (some ⟨bE,0,none⟩)/\a.tmps.getD 5 undef=.iface 133 (.agg #[.string ⟨n.toArray⟩])) ⟨ahB,rfl,ahB,ahB⟩ ?_;rintro a ⟨bl,eR,h0,h5⟩;have aq:=(adD.1 hE).1;refine ae9 (adT (aea ?_));show wpOpsIn _ _ _ _ _ [0] a w;refine bf rfl rfl zr (tO (x:=.tmp 5) w rfl h5) ?_;show Code.wpIn _ _ _ _ _ (a.put (some 7) (.bool false)) w
  have h7:(a.put (some 7) (.bool false)).tmps.getD 7 undef=.bool false:=by simp[Act.put,bl]
  refine aeB (t:=false) h7 ?_;simp only[adM,ad1];refine ik (λa=>a.tmps.size=14/\a.defers=[]/\a.tmps.getD 0 undef=.pointer (some ⟨bE,0,none⟩)/\a.tmps.getD 5 undef=.iface 133 (.agg #[.string ⟨n.toArray⟩])) ⟨by simp[Act.put,bl],eR,by simpa[Act.put,adN]using h0,by simpa[Act.put,adN]using h5⟩ ?_;clear h7 h5 h0 eR bl a;rintro a ⟨bl,eR,h0,h5⟩
  have hS:∀ (a:Act) (w:World),a.tmps.getD 5 undef = .iface 133 (.agg #[.string ⟨n.toArray⟩])→∀ t,t < 14→((fun t=>if t=5 then AV.iface 133 (.agg [.str n]) else AV.bp:an) t).aI=(fun t=>if t=5 then AV.iface 133 (.agg [.str n]) else AV.bp:an) t ∧
      RV (λ_ _=>True) cQ w ((λt=>if t=5 then AV.iface 133 (.agg [.str n])else AV.bp:an) t) (a.tmps.getD t undef):=by
    intro a w h5 t ht
    by_cases h:t=5
    . subst h
      rw[h5];refine⟨rfl,.data _ _ (.iface _ _ _ (.agg _ _ rfl (λi hi=>?_) (λi hi du=>?_)))⟩
      . have:i=0:=by simpa using hi
        subst this;rfl
      . have:i=0:=by simpa using hi
        subst this;exact .str _
    . simp only[h,ad1];exact⟨rfl,.bp _⟩
  refine adT ?_;refine cL (GI:=λ_=>True) (λ_ _ _ _=>trivial) de (ac:=af.qa c85.qb.qb.qb.qb) (W:=λt=>decide (8<=t)) zk zk zk trivial (λ_ _=>True) _ bl eR (hS a w h5) (K:=λS' _=>S' 9=.bool false/\S' 5=.iface 133 (.agg [.str n])) ?_ ?_
  . simp[c85,af.qa,af.qb,bB,bq,aF,ba,aD,aN,aP.S,aP.H,ev,au,aW,AV.aI]
  rintro g0 S0 H0 a0 w0' HW R0 ⟨KI,Zl⟩ G0;have t90:=R0.slot 9 zd (λh=>h);rw[KI]at t90;have t90:=t90.fN;show Code.wpIn _ _ _ _ _ a0 w0';refine aeB (t:=false) t90 ?_;simp only[adM,ad1];refine adT ?_;refine jP R0 (GI:=λ_=>True) (λ_ _ _ _=>trivial) trivial de (ac:=af.qa c85.qb.qb.qb.qb.qb.qb) (W:=λt=>decide (8<=t)) zk zk zk (by rw[HW];exact λ_ h=>h) (K:=λS' _=>S' 12=.bool true/\S' 13=.agg [.str n]) ?_ ?_
  . simp[c85,af.qa,af.qb,bB,bq,aF,ba,aD,aN,aP.S,aP.H,ev,au,aW,AV.aI,Zl]
  rintro g S' H' a' w' hg R1 ⟨h9,pJ⟩ ID;have bn:=G0.trans ID;rw[HW]at hg;have t9:=R1.slot 12 zd (λh=>h);rw[h9]at t9;have t9:=t9.fN;have t10:=R1.slot 13 zd (λh=>h);rw[pJ]at t10
  have b1:Below w.heap.size w w':=by have:=R1.below;rwa [R1.base]at this
  show Code.wpIn _ _ _ _ _ a' w';refine aeB (t:=true) t9 ?_;simp only[aed];refine adT ?_;refine jP R1 (GI:=λ_=>True) (λ_ _ _ _=>trivial) trivial de (ac:=af.qa c85.qb.qb.qb.qb.qb.qb.qb.qa) (W:=λt=>decide (1<=t)) zk zk zk (by rw[hg];exact λ_ h=>h) (K:=λ_ _=>True) ?_ ?_
  . simp[c85,af.qa,af.qb,bB,bq,aF,ba,aD,aN,aP.S,aP.H,ev,au,aW,AV.aI,pJ,cb,HR.okB,AV.cells,AV.storable,bC,AV.ct,bt]
  rintro g2 S2 H2 a2 w2 nQ R2 _ kB
  have b2:Below w.heap.size w w2:=by have:=R2.below;rwa [R2.base]at this
  have e0:a2.tmps.getD 0 undef=.pointer (some ⟨bE,0,none⟩):=(kB 0 rfl).trans ((bn 0 rfl).trans h0);have IX:w2.heap[bE]?=some (.cells #[u] ty (0,0)):=(b2.block bE aq).trans hE;obtain⟨i36,ss,sH⟩:=iZ 34 1;show Code.wpIn _ _ _ _ _ a2 w2;refine aea ?_;show wpOpsIn _ _ _ _ _ [0] a2 w2;refine eT rfl rfl zr (iU (x:=.tmp 0) (y:=.const (.int .i64 4)) (v:=.int .i64 4) rfl e0 ss sH IX rfl rfl) ?_;refine⟨by show a2.defers=[];rw[R2.defers,nQ,hg];rfl,_,rfl,.tuple #[],?_,rfl,rfl,w2,b2,rfl⟩;simp[results,results85]
def G1 (p:Addr) (w:World) :
    CallsD prog 85 #[.pointer (some p)] .returning w λe u' w'=>e=.returned (.tuple #[])/\u'=.returning/\w'=w:=by
  refine af_ func85 rfl λCD cs hu=>?_
  apply ahr;apply agK;simp[wpOpsS,go_sem,recoverD,hu,ntmps85,Exit.thenS];refine agZ ?_
  go_wp2
  cases CD
  simp_all[bodyPostS,results,results85]
def Pq {a:Act} {w:World} {b:Nat} {v:Value} {ty:TypeId} (h2:a.tmps.getD 2 undef = .pointer (some ⟨b,0,none⟩)) (h:w.heap[b]? = some (.cells #[v] ty (0,0))):(results f40 a.tmps).run prog w = .ok v w:=by
  obtain⟨d,E_,vA⟩:=vZ 34
  have kR:(isAgg 34).run prog w = .ok false w:=by
    unfold isAgg;rw[adK,adW E_ w]
    cases d<;>simp_all[eh]
  have hl:(loadVar 34 ⟨b,0,none⟩).run prog w = .ok v w:=by
    simp[loadVar,adK,kR,World.cell?,h]
  have hr:f40.results=#[.cell 2 34]:=rfl
  have wG:a.tmps[2]?.getD undef=.pointer (some ⟨b,0,none⟩):=by rw[<-h2];simp
  simp[results,hr,wG,asAddr,hl]
def mL {k:Nat} {us:Array Value} {w:World} {R1 R:Ending→World→Prop} (jJ:ee prog k=true) (hc:Calls prog k us (w.alloc (.cells #[.int .i64 0] 34)) R1)
    (h:∀ e w2,R1 e w2→w.heap.size < w2.heap.size∧(∃ u ty,w2.heap[w.heap.size]? = some (.cells #[u] ty (0,0))) ∧
      ((∃c,e=.returned c/\R (.returned (.int .i64 0)) (w2.setRow w.heap.size #[.int .i64 0]))\/
       (∃n,e=.panicked [{ v:=.iface 131 (.agg #[.int .i64 n]),recovered:=false }]/\∀w3,Below w2.heap.size w2 w3->R (.returned (.int .i64 7)) (w3.setRow w.heap.size #[.int .i64 7]))\/
       (∃s:List UInt8,e=.panicked [{ v:=.iface 133 (.agg #[.string ⟨s.toArray⟩]),recovered:=false }]/\∀w3,Below w2.heap.size w2 w3->R (.returned (.int .i64 4)) (w3.setRow w.heap.size #[.int .i64 4])))):
    Calls prog 40 #[.func (.func k) #[] us] w R:=by
  refine calls_of_wp_defers func40 rfl ?_;refine(fy (m:=0)).1 ?_;refine ik (λa=>a.tmps.size=6/\a.defers=[]/\a.tmps.getD 0 undef=.func (.func k) #[] us) ⟨by simp[ntmps40],rfl,cJ _ _ 0 ahB⟩ ?_;rintro a ⟨bl,eR,h0⟩
  obtain⟨bE,MF⟩:∃bE,w.heap.size=bE:=⟨_,rfl⟩
  have fx:∀ (a:Act) (d t:Nat) (c:Value),t≠d→(a.put (some d) c).tmps.getD t undef=a.tmps.getD t undef:=fun a d t c h=>by
    simp[Act.put,adN (aeq h)]
  have jL:∀ (a:Act) (d:Nat) (c:Value),a.tmps.size=6→d < 6→(a.put (some d) c).tmps.getD d undef=c:=fun a d c h hd=>by
    simp[Act.put,h,hd]
  have kn:∀(a:Act)(d:Option Nat)(c:Value),(a.put d c).tmps.size=a.tmps.size:=λa d c=>by cases d<;>simp[Act.put]
  refine adT (aea ?_);show wpOpsIn _ _ _ _ _ [0] a w;refine bf rfl rfl zr (lA (t:=34) (z:=.int .i64 0) rfl zk) ?_;show Code.wpIn _ _ _ _ _ (a.put (some 2) (.pointer (some ⟨w.heap.size,0,none⟩))) (w.alloc (.cells #[.int .i64 0] 34));rw[MF]at h;simp only[MF]
  obtain⟨w1,mR⟩:∃w1,w.alloc (.cells #[.int .i64 0] 34)=w1:=⟨_,rfl⟩
  rw[mR]at hc⊢;refine ik (λa=>a.tmps.size=6/\a.defers=[]/\a.tmps.getD 0 undef=.func (.func k) #[] us/\a.tmps.getD 2 undef=.pointer (some ⟨bE,0,none⟩)) ⟨by rw[kn];exact bl,eR,by rw[fx _ _ _ _ zd];exact h0,jL _ _ _ bl zd⟩ ?_;clear h0 eR bl a;rintro a ⟨bl,eR,h0,h2⟩;refine adT (aea ?_);show wpOpsIn _ _ _ _ _ [0,1] a w1;refine bf rfl rfl zr (mB (fn:=.func 85) (c:=#[.tmp 2]) rfl) ?_
  have fl:(#[Operand.tmp 2].map a.eval) = #[.pointer (some ⟨bE,0,none⟩)]:=by
    simp only[aeg,adU,aee,Act.eval];rw[h2]
  rw[fl];show wpOpsIn _ _ _ _ _ [1] (a.put (some 3) (.func (.func 85) #[] #[.pointer (some ⟨bE,0,none⟩)])) w1
  obtain⟨a2,jE⟩:∃a2,a.put (some 3) (.func (.func 85) #[] #[.pointer (some ⟨bE,0,none⟩)])=a2:=⟨_,rfl⟩
  rw[jE]
  have z2:a2.tmps.size=6:=by rw[<-jE,kn];exact bl
  have u3:a2.tmps.getD 3 undef=.func (.func 85) #[] #[.pointer (some ⟨bE,0,none⟩)]:=by rw[<-jE];exact jL _ _ _ bl zd
  have u0:a2.tmps.getD 0 undef=.func (.func k) #[] us:=by rw[<-jE,fx _ _ _ _ zd];exact h0
  have u2:a2.tmps.getD 2 undef=.pointer (some ⟨bE,0,none⟩):=by rw[<-jE,fx _ _ _ _ zd];exact h2
  have ud:a2.defers=[]:=by rw[<-jE];exact eR
  refine Bp rfl rfl (d:={ target:=.fn (.func 85) #[.pointer (some ⟨bE,0,none⟩)],args:=#[] }) (w':=w1) ?_ ?_
  . unfold execOp
    simp[fk,Deferred.ofValue,Act.eval,u3]
  have Sk:∀ (w:World),(invoke (.fn (.func 85) #[.pointer (some ⟨bE,0,none⟩)]) #[]).run prog w = .ok (.enter 85 #[.pointer (some ⟨bE,0,none⟩)]) w:=fun w=>by
    simp[invoke,gp (P:=prog) (f:=85) zk]
  show Code.wpIn _ _ _ _ _ { a2 with defers:={ target:=.fn (.func 85) #[.pointer (some ⟨bE,0,none⟩)],args:=#[] }::a2.defers } w1;refine ik (λa=>a.tmps.size=6/\a.defers=[{ target:=.fn (.func 85) #[.pointer (some ⟨bE,0,none⟩)],args:=#[] }]/\a.tmps.getD 0 undef=.func (.func k) #[] us/\a.tmps.getD 2 undef=.pointer (some ⟨bE,0,none⟩)) ⟨z2,by show _::a2.defers=_;rw[ud],u0,u2⟩ ?_;clear u0 u2 u3 ud z2 jE a2 h0 h2 eR bl fl a;rintro a ⟨bl,eR,h0,h2⟩;refine adT (aea ?_);show wpOpsIn _ _ _ _ _ [0,1] a w1;refine bf rfl rfl zr (run_move (x:=.tmp 0) w1 rfl) ?_;have e0:a.eval (.tmp 0)=.func (.func k) #[] us:=h0;rw[e0];show wpOpsIn _ _ _ _ _ [1] (a.put (some 4) (.func (.func k) #[] us)) w1
  obtain⟨a2,jE⟩:∃a2,a.put (some 4) (.func (.func k) #[] us)=a2:=⟨_,rfl⟩
  rw[jE]
  have z2:a2.tmps.size=6:=by rw[<-jE,kn];exact bl
  have u4:a2.eval (.tmp 4)=.func (.func k) #[] us:=by show a2.tmps.getD 4 undef=_;rw[<-jE];exact jL _ _ _ bl zd
  have u2:a2.tmps.getD 2 undef=.pointer (some ⟨bE,0,none⟩):=by rw[<-jE,fx _ _ _ _ zd];exact h2
  have ud:a2.defers=[{ target:=.fn (.func 85) #[.pointer (some ⟨bE,0,none⟩)],args:=#[] }]:=by rw[<-jE];exact eR
  refine pd rfl rfl zr (Bo (f:=.tmp 4) w1 rfl rfl rfl u4 jJ) hc ?_;intro e w2 he;obtain⟨aq,⟨uE,Z4,hE⟩,tT⟩:=h e w2 he
  have Dr:∀ {args:Array Value} {u:FrameMode} {w:World} {R R':Ending→FrameMode→World→Prop},CallsD prog 85 args u w R→(∀ e u w,R e u w→R' e u w)→CallsD prog 85 args u w R':=fun h hr c cs hu =>
    let⟨e,u',w',fr,r,rest⟩:=h c cs hu;⟨e,u',w',fr,hr _ _ _ r,rest⟩
  have zG:∀ (p:PanicEntry) (v:Value) (hv:CallsD prog 85 #[.pointer (some ⟨bE,0,none⟩)] (.panicking [p]) w2 fun e u' w'=>e = .returned (.tuple #[])∧u' = .panicking [{ p with recovered:=true }]∧∃ w1,Below w2.heap.size w2 w1∧w'=w1.setRow bE #[v]),
      p.goexit=false->(∀w3,Below w2.heap.size w2 w3->R (.returned v) (w3.setRow bE #[v]))->Leaves prog f40 a2.tmps R a2.defers (.panicking [p]) w2:=by
    intro p v hv qg hR;rw[ud];refine ahn ahB (Sk w2) (Dr hv ?_);rintro e u' w' ⟨rfl,rfl,w3,oF,rfl⟩;have Y':w3.heap[bE]?=some (.cells #[uE] Z4 (0,0)):=(oF.block bE aq).trans hE;show Leaves prog f40 a2.tmps R [] .returning (w3.setRow bE #[v]);exact⟨v,Pq u2 (Ct Y'),hR w3 oF⟩
  rcases tT with⟨c,rfl,hR⟩|⟨n,rfl,hR⟩|⟨s,rfl,hR⟩
  . show Code.wpIn _ _ _ _ _ (a2.put (some 5) c) w2
    have TY:(a2.put (some 5) c).tmps.getD 2 undef=.pointer (some ⟨bE,0,none⟩):=by rw[fx _ _ _ _ zd];exact u2
    refine adT (aea ?_);show wpOpsIn _ _ _ _ _ [0] (a2.put (some 5) c) w2;obtain⟨i36,ss,sH⟩:=iZ 34 1;refine eT rfl rfl zr (iU (x:=.tmp 2) (y:=.const (.int .i64 0)) (v:=.int .i64 0) rfl TY ss sH hE rfl rfl) ?_;show Code.wpIn _ _ _ _ _ (a2.put (some 5) c) (w2.setRow bE #[.int .i64 0]);refine afC ?_;show Leaves prog f40 (a2.put (some 5) c).tmps R a2.defers .returning (w2.setRow bE #[.int .i64 0]);rw[ud];refine ahn ahB (Sk _) (Dr (G1 _ _) ?_);rintro e u' w' ⟨rfl,rfl,rfl⟩;exact⟨_,Pq TY (Ct hE),hR⟩
  . exact zG _ _ (Jp w2 hE n) rfl hR
  . exact zG _ _ (Hv w2 hE s) rfl hR
def Pv(s:aJ):List (List Int):=(List.range s.words.length).flatMap λd=>xn s d []
def QM{s:aJ}(h:0<s.words.length):ig s []=true:=by simp[ig,gz,nA,h]
def kL(out:List Int):Nat->List Word->List Word
 |_,[]=>[]
 |i,w::l=>if out.contains (i:Int)then kL out (i+1) l else w::kL out (i+1) l
def FT(out:List Int):∀(a b:List Word)(k:Nat),kL out k (a++b)=kL out k a++kL out (k+a.length) b
 |[],b,k=>by simp[kL]
 |x::a,b,k=>by
  have ih:=FT out a b (k+1)
  have e:k+1+a.length=k+(x::a).length:=by simp;omega
  rw[e]at ih;show(if out.contains (k:Int)then kL out (k+1) (a++b)else x::kL out (k+1) (a++b))=(if out.contains (k:Int)then kL out (k+1) a else x::kL out (k+1) a)++_;rw[ih]
  split<;>rfl
def MK(out:List Int){l:List Word}{i:Nat}(h:i<l.length):kL out 0 (l.take (i+1))=kL out 0 (l.take i)++if out.contains (i:Int)then[]else[l[i]]:=by
 rw[adJ h,FT,adS,aeh,agH zo]
 rfl
def sx{out:List Int}:∀{l:List Word}{k:Nat}{w:Word},w∈kL out k l->w∈l
 |[],_,_,h=>by cases h
 |x::l,k,w,h=>by
  unfold kL at h;split at h
  .exact adO _ (sx h)
  .rcases ad_.1 h with h|h
   .rw[h];simp
   .exact adO _ (sx h)
def vW(out:List Int):∀(l:List Word)(k:Nat),(kL out k l).length<=l.length
 |[],_=>adF _
 |x::l,k=>by
  have:=vW out l (k+1);unfold kL
  split<;>simp<;>omega
def F5{out:List Int}:∀{l:List Word}{k:Nat},kL out k l=[]->∀i,i<l.length->((k+i:Nat):Int)∈out
 |[],_,_,i,hi=>by simp at hi
 |x::l,k,h,i,hi=>by
  unfold kL at h;split at h
  case isFalse=>cases h
  rename_i hc
  match i with
  |0=>simpa using hc
  |i+1=>
   have:=F5 h i (by simpa using hi);rw[show k+(i+1)=k+1+i by omega];exact this
def count_le:∀(n:Nat)(out:List Int),(∀i,i<n->(i:Int)∈out)->n<=out.length
 |0,_,_=>aeu _
 |n+1,out,h=>by
  have hn:=h n zo
  have:=count_le n (out.erase (n:Int)) λi hi=>(ahw zo).2 (h i zo)
  rw[ahe hn]at this;have:0<out.length:=ahp hn;omega
def Gg(s:aJ)(out:List Int):aJ:={ s with words:=kL out 0 s.words }
def UP{s:aJ}{l:List Int}(ho:ig s l=true):1<=(Gg s l).words.length:=by
 have h1:=K5 ho;rcases afy (Gg s l).words.length with h|h
 .have h0:kL l 0 s.words=[]:=aem h
  have:=count_le s.words.length l λi hi=>by
   have:=F5 h0 i hi;simpa using this
  omega
 .exact h
def LN{s:aJ}(hs:bj s=true){l:List Int}(ho:ig s l=true):bj (Gg s l)=true:=by
 have hn:=UP ho;have hl:=vW l s.words 0;unfold bj uh at hs⊢;simp only[adE,aeF]at hs⊢;obtain⟨⟨⟨⟨h1,h2⟩,h3⟩,h4⟩,⟨⟨⟨⟨⟨⟨e1,e2⟩,e3⟩,e4⟩,e5⟩,e6⟩,e7⟩⟩:=hs;refine⟨⟨⟨⟨h1,h2⟩,?_⟩,h4⟩,⟨⟨⟨⟨⟨⟨e1,e2⟩,e3⟩,e4⟩,?_⟩,e6⟩,e7⟩⟩
 .unfold df at h3⊢;simp only[adE,adL]at h3⊢;have:(Gg s l).words.length<=s.words.length:=hl;omega
 .rw[aeE]at e5⊢;intro w hw;exact e5 w (sx hw)
end Go.Proofs.Tryz
namespace Go.Proofs.Tryz
open Go Go.AL Go.RowKit Go.Proofs Go.Proofs.Tram
variable{GI:World->Prop}
def nP{Pr:Nat->Nat->Prop}{al:Nat->Option Nat}{w:World}{l:List UInt8}{c:Value}(h:RV Pr al w (.str l) c):c=.string ⟨l.toArray⟩:=by
 cases h with
 |data _ _ h=>cases h;rfl
def strs(ls:List (List UInt8)):AV:=.slice .view (ls.map .str)
def J0(ot:∀w,GI w->∃m,w.cell? ⟨1,0,none⟩=some (.int .i64 m))(s:List UInt8)(c:UInt8)(hs:s.length<4294967281):AC prog GI 86 [.str s,.str [c]] (.ret (strs (aZ c s))):=by
 intro w old bT hG hl hr
 obtain⟨v1,v2,rfl⟩:∃v1 v2,bT=#[v1,v2]:=by
  have h2:bT.size=2:=hl.symm;refine⟨bT[0],bT[1],?_⟩;apply afc
  .simp[h2]
  .intro i h h'
   match i,h' with
   |0,_=>rfl
   |1,_=>rfl
 have e1:=nP (hr 0 ahB ahB);have e2:=nP (hr 1 ahB ahB);simp only[List.getElem_toArray,List.getElem_cons_zero,List.getElem_cons_succ]at e1 e2;subst e1 e2;obtain⟨m,hm⟩:=ot w hG;refine(Tryz.strings_Split ⟨s.toArray⟩ ⟨[c].toArray⟩ m w hs hm (adF _)).mono ?_;rintro e w' ⟨rfl,rfl⟩;have F4:Lib.countB ⟨s.toArray⟩ ⟨[c].toArray⟩=s.count c:=Lib.count_one c s;have FZ:=Lib.splitB_data ⟨[c].toArray⟩ 0 (s.count c) ⟨s.toArray⟩;have FZ:(Lib.splitB ⟨[c].toArray⟩ 0 (s.count c) ⟨s.toArray⟩).map (·.data.toList)=aZ c s:=FZ.trans (AZ c s);have eH:=Lib.splitB_all ⟨[c].toArray⟩ (adF _) 0 (s.count c) ⟨s.toArray⟩ F4;rw[F4];generalize Lib.splitB ⟨[c].toArray⟩ 0 (s.count c) ⟨s.toArray⟩=ps at FZ eH;rw[<-eH]
 have E5:ps.length=((aZ c s).map AV.str).length:=by rw[<-FZ];simp
 refine⟨(aeC _ w).alloc (adF _) _,λb=>if b=w.heap.size then ps.length else 0,λb hb=>?_,_,rfl,.data _ _ ?_,trivial⟩
 .show(if b=w.heap.size then ps.length else 0)=0;rw[World.size_alloc]at hb;rw[if_neg zo]
 .unfold strs;rw[E5];refine Wf (es:=(aZ c s).map AV.str) (size:=1) (aew w _) (by simp;rw[<-FZ];simp) (λe he=>?_) (λk hk=>.inr ⟨adF _,?_⟩) (λi h j hj=>?_)
  .obtain⟨x,_,rfl⟩:=adZ.1 he;exact⟨rfl,λc hc=>by simp only[AV.cells,ad2]at hc;subst hc;rfl⟩
  .show k<(if w.heap.size=w.heap.size then((aZ c s).map AV.str).length else 0);rw[if_pos rfl,<-E5];simpa using hk
  .have hi:i<ps.length:=by rw[E5];exact h
   have hx:((aZ c s).map AV.str)[i]=.str ps[i].data.toList:=by simp[<-FZ]
   have ET:j=0:=by
    have:(((aZ c s).map AV.str)[i]).cells.length=1:=by rw[hx];rfl
    omega
   subst ET
   have hc:(((aZ c s).map AV.str)[i]).cells[0]=.str ps[i].data.toList:=by simp only[hx];rfl
   rw[hc]
   have:((ps.map Value.string).toArray.getD (i*1+0) undef)=.string ps[i]:=by simp[hi]
   rw[this];exact .str _
def TZ{n:Nat}{bT:Array Value}(hl:n=bT.size)(h:n=1):∃v,bT=#[v]:=by
 refine⟨bT[0]' zo,?_⟩;apply afc
 .simp;omega
 .intro i hi h'
  match i,h' with
  |0,_=>rfl
def ZY{n:Nat}{bT:Array Value}(hl:n=bT.size)(h:n=2):∃v1 v2,bT=#[v1,v2]:=by
 refine⟨bT[0]' zo,bT[1]' zo,?_⟩;apply afc
 .simp;omega
 .intro i hi h'
  match i,h' with
  |0,_=>rfl
  |1,_=>rfl
def vp:Nat->Nat->List UInt8
 |0,_=>[]
 |f+1,u=>if u<10 then[UInt8.ofNat (48+u)]else vp f (u/10)++[UInt8.ofNat (48+u % 10)]
def C':∀(f u:Nat),0<f->u<10^f->Lib.decDigits u=vp f u
 |0,_,h,_=>zo
 |f+1,u,_,h=>by
  rw[Lib.decDigits,vp];split
  .rfl
  .rename_i pJ
   cases f with
   |zero=>simp at h;omega
   |succ f=>rw[C' (f+1) (u/10) zo (by rw[Nat.pow_succ]at h;exact Nat.div_lt_of_lt_mul (by rw[afs];exact h))]
def vf(ls:List (List UInt8))(sep:List UInt8)(hn:ls.length<=100000)(hlen:(Lib.join ls sep).length<=140737488355328):AC prog GI 121 [strs ls,.str sep] (.ret (.str (Lib.join ls sep))):=by
 intro w old bT hG hl hr;obtain⟨v1,v2,rfl⟩:=ZY hl rfl;have e1:=(hr 0 ahB ahB).dX rfl;have e2:=nP (hr 1 ahB ahB);simp only[List.getElem_toArray,List.getElem_cons_zero,List.getElem_cons_succ]at e1 e2;subst e2;unfold strs at e1;generalize nB:ls.map AV.str=es at e1
 have hle:es.length=ls.length:=by rw[<-nB];simp
 have fin:∀{w':World}{l:List UInt8},Below w.heap.size w w'->l=Lib.join ls sep->AL.Ends prog old w (.ret (.str (Lib.join ls sep))) (.returned (.string ⟨l.toArray⟩)) w':=by
  rintro w' l hb rfl;exact⟨hb,λ_=>0,λ_ _=>rfl,_,rfl,.data _ _ (.str _),trivial⟩
 have emp:∀(a:Option Addr)(c:Nat),ls=[]->Calls prog 121 #[.slice a 0 c,.string ⟨sep.toArray⟩] w (AL.Ends prog old w (.ret (.str (Lib.join ls sep)))):=by
  rintro a c rfl;refine(Tryz.strings_Join_none a c ⟨sep.toArray⟩ w).mono ?_;rintro e w' ⟨rfl,rfl⟩;exact fin (l:=[]) (aeC _ _) rfl
 cases e1 with
 |iB=>exact emp none 0 (aem (by rw[<-hle];rfl))
 |jz _ a0=>exact emp (some a0) 0 (aem (by rw[<-hle];rfl))
 |slice _ _ b off cap size cs fl uN bl h1 hc ir=>
  by_cases h0:ls=[]
  .have wK:es.length=0:=by rw[hle,h0];rfl
   rw[wK];exact emp _ _ h0
  .have iJ:0<ls.length:=aeR.2 h0
   have im:∀j (h:j<es.length),es[j]=.str (ls[j]' zo):=λj h=>by simp[<-nB]
   have yb:size=1:=by rw[<-bl 0 zo,im];rfl
   subst yb
   have eO:∀j (h:j<ls.length),w.cell? ⟨b,off+j,none⟩=some (.string ⟨ls[j].toArray⟩):=λj h=>by
    rw[(hc j zo).2]
    have hz:0<(es[j]' zo).cells.length:=by rw[bl j zo];omega
    have h2:=ir j zo 0 hz
    have h3:((es[j]' zo).cells[0]'hz)=.str ls[j]:=by simp only[im j zo];rfl
    rw[h3]at h2;have e:=nP (RV.data (al:=cQ) _ _ h2);simp only[afk,Nat.add_zero]at e;rw[e]
   have hb:b<w.heap.size:=afO _ _ (eO 0 iJ)
   have Pj:(ls.map λl=>(⟨l.toArray⟩:ByteArray)).map (·.data.toList)=ls:=by rw[aeT];simp[Function.comp_def]
   have Xb:=Tryz.strings_Join b off cap (ls.map λl=>(⟨l.toArray⟩:ByteArray)) ⟨sep.toArray⟩ w (λj x hx=>by
    simp only[ad9,adP]at hx;obtain⟨l,Ir,rfl⟩:=hx;obtain⟨hj,rfl⟩:=ad0.1 Ir
    exact eO j hj) hb (by simp;omega) (by simp;omega) (by rw[Pj];exact hlen)
   rw[Pj,adH]at Xb;rw[hle];refine Xb.mono ?_;rintro e w' ⟨rfl,hb⟩;exact fin hb rfl
def Jc(hG:ar GI)(s:List UInt8):AC prog GI 128 [.bool true,.str s] (.ret (.dY [])):=by
 refine cw hG func128 ntmps128 c128 ?_;simp[c128,bB,bq,aF,ba,aD,ev,aP.S,aP.H,bt,di,au,aW,AL.start,AV.aI,dU,post,cH,db,c_,AV.out,AV.b_]
def wrap32{n:Int}(h: -2147483648<=n/\n<2147483648):IntKind.i32.wrap n=n:=by
 have key:∀m:Int,m=n % 4294967296->(if decide (m>=2147483648)=true then m-4294967296 else m)=n:=by
  intro m hm;split
  .rename_i hd;have:=afD hd;omega
  .rename_i hd
   have Zb:¬m>=2147483648:=λhh=>hd (agq hh)
   omega
 exact key _ rfl
def dq(w:List UInt8):Int:=w.foldl (λn c=>10*n+((c.toNat:Int)-48)) 0
def digit(c:UInt8):Prop:=48<=c.toNat/\c.toNat<=57
def CU(w:List UInt8)(c:UInt8):dq (w++[c])=10*dq w+((c.toNat:Int)-48):=by simp[dq,aeJ]
def vC:∀(w:List UInt8),(∀c∈w,digit c)->w.length<=3->0<=dq w/\dq w<1000
 |[],_,_=>by simp[dq]
 |[a],h,_=>by have:=h a ahB;unfold digit at this;simp[dq];omega
 |[a,b],h,_=>by have h1:=h a ahB;have h2:=h b ahB;unfold digit at h1 h2;simp[dq];omega
 |[a,b,c],h,_=>by have h1:=h a ahB;have h2:=h b ahB;have h3:=h c ahB;unfold digit at h1 h2 h3;simp[dq];omega
 |_::_::_::_::_,_,h=>by simp at h
def oK(cc:Nat->Nat->Prop)(w:World)(k:Nat->Option Obj):Old:={ Old.plain cc w with aU:=k }
def x_(l:List Int):AV:=.slice (if l.isEmpty then .nil else .own 3) (ints l)
def iS(ws:List (List UInt8))(j:Nat)(S:an)(_:ao):Prop:=
 S 3=x_ ((ws.take j).map dq)/\S 9=strs ws/\S 10=.int .i64 ws.length/\S 11=.int .i64 (j:Nat)
noncomputable def fE:af:=af.qb c131.qb.qb.qa.qb.qb
noncomputable def gV:af:=af.qb fE.qb.qb.qa
noncomputable def kU:af:=af.qb gV.qb.qb.qa.qb.qb
def yS(a:Act)(d:Nat)(c c':Value):(a.put (some d) c).put (some d) c'=a.put (some d) c':=by
 simp[Act.put]
def Th (hG:ar GI) {w0:World} {n:Nat} {g:Gh} {S:an} {H:ao} {a:Act} {w:World} {d i1 i4:Nat} {s:List UInt8} {z x:List AV} (cm:GI w0) (R:Rel prog w0 n bP g S H a w) (hd:d < n) (EH:i1 < n) (D4:i4 < n) (MG:d≠i4)
  (C_:S i1=.box i1 0) (Df:H i1=some [.str s]) (AJ:S i4=.box i4 0) (E4:H i4=some z) (hz:z.length=10) (hx:x.length=10) (sr:AC prog GI 94 [.str s] (.ret (.agg x))):
  Calls prog 93 #[a.tmps.getD i1 undef,a.tmps.getD i4 undef] w λe w2=>e=.returned (.tuple #[])/\∃(c:Value)(g':Gh)(S':an)(H':ao),g'.old=g.old/\Rel prog w0 n bP g' S' H' (a.put (some d) c) w2/\(∀t,t≠d->S' t=S t)/\H'=au H i4 (some (x.map AV.aI)):=by
 have bl:=R.size;have v1:=R.slot i1 EH id;rw[C_]at v1;have v4:=R.slot i4 D4 id;rw[AJ]at v4
 obtain⟨b1,e1,zi⟩:∃b,a.tmps.getD i1 undef=.pointer (some ⟨b,0,none⟩)/\g.al i1=some b:=by
  generalize a.tmps.getD i1 undef=c at v1
  cases v1 with
  |data _ _ h=>cases h
  |box _ _ b h=>exact⟨b,rfl,h⟩
 obtain⟨b4,e4,aa9⟩:∃b,a.tmps.getD i4 undef=.pointer (some ⟨b,0,none⟩)/\g.al i4=some b:=by
  generalize a.tmps.getD i4 undef=c at v4
  cases v4 with
  |data _ _ h=>cases h
  |box _ _ b h=>exact⟨b,rfl,h⟩
 obtain⟨cs,vs,ty,k0,k1,k2,k3,k4,k5,k6,k7,k8⟩:=R.box i1 b1 zi;rw[Df]at k0;cases k0
 have h0:0<vs.size:=by rw[<-k5];exact agN
 have hv:=nP (RV.data (al:=cQ) _ _ (k6 0 ahB h0))
 have eO:w.cell? ⟨b1,0,none⟩=some (.string ⟨s.toArray⟩):=by simp[World.cell?,k2,h0,hv]
 have uQ:=R.below
 have hle:g.base<=w.heap.size:=by rw[R.base];exact R.below.size
 rw[R.base]at uQ;have gD:GI w:=hG w0 w cm uQ;rw[e1,e4];refine afJ func93 rfl ?_;refine(fy (m:=0)).1 ?_;refine ik (λa=>a.tmps.size=4/\a.defers=[]/\a.tmps.getD 0 undef=.pointer (some ⟨b1,0,none⟩)/\a.tmps.getD 1 undef=.pointer (some ⟨b4,0,none⟩)) ⟨by simp[ntmps93],rfl,cJ _ _ 0 ahB,cJ _ _ 1 ahB⟩ ?_;rintro aC ⟨zC,dC,t0,t1⟩
 have fx:∀(a:Act)(d t:Nat)(c:Value),t≠d->(a.put (some d) c).tmps.getD t undef=a.tmps.getD t undef:=λa d t c h=>by
  simp[Act.put,adN (aeq h)]
 have jL:∀(a:Act)(d:Nat)(c:Value),a.tmps.size=4->d<4->(a.put (some d) c).tmps.getD d undef=c:=λa d c h hd=>by
  simp[Act.put,h,hd]
 refine aea ?_;show wpOpsIn _ _ _ _ _ [0,1,2] aC w;refine bf rfl rfl zr (jT (t:=9) (d:=.string) (b:=b1) (off:=0) rfl t0 zk rfl eO) ?_;show wpOpsIn _ _ _ _ _ [1,2] (aC.put (some 2) (.string ⟨s.toArray⟩)) w
 refine gC rfl rfl zr (gq (k:=94) (args:=#[.string ⟨s.toArray⟩]) w rfl rfl ?_ zk) (sr w (fI g false) #[.string ⟨s.toArray⟩] gD rfl (λi h h'=>by
  match i,h with
  |0,_=>exact .data _ _ (.str s))) ?_
 .simp only[aeg,adU,aee];show #[(aC.put (some 2) _).tmps.getD 2 undef]=_;rw[jL _ _ _ zC zd]
 rintro e w2 ⟨iL,hi,qR,c,rfl,NJ,cZ⟩;refine⟨c,rfl,?_⟩;obtain⟨g',mT,qg,R2⟩:=R.call (some d) (λt ht=>by cases ht;exact⟨hd,id⟩) false iL qR NJ cZ (λh=>by cases h);obtain⟨i28,sg,sj⟩:=iZ 29 10
 let oS:Oper:={ dst:=none,op := .store 29 (.tmp i4) (.tmp d),type:=0,pos := "",after := #[],guard:=none }
 have kV:bC z 0 (x.map AV.aI)=x.map AV.aI:=by simp[bC,hz,hx]
 have j3:aD (AL.aW S (some d) (.agg x)) H (.store .any i28.size (.t i4) (.t d))=some { v:=cy,dm:=some d,hw:=some (i4,x.map AV.aI) }:=by
  simp[aD,AL.aW,ev,au,aeq MG,AJ,E4,HR.okB,AV.cells,AV.storable,AV.ct,sj,hx,hz,bt,kV]
 obtain⟨c2,w3,g3,dE,Uw,Dq,R3⟩:=nn R2 (o:=oS) (x1:=.tmp i4) (x2:=.tmp d) (y1:=.t i4) (y2:=.t d) (hr:=.any) rfl rfl sg (by simp[dz,D4]) (by simp[dz,hd]) (λ_ _=>id) (λ_ _=>id) j3;show wpOpsIn _ _ _ _ _ [2] ((aC.put (some 2) (.string ⟨s.toArray⟩)).put (some 3) c) w2
 obtain⟨a3,RW⟩:∃a3,(aC.put (some 2) (.string ⟨s.toArray⟩)).put (some 3) c=a3:=⟨_,rfl⟩
 rw[RW]
 have z3:a3.tmps.size=4:=by rw[<-RW,l5,l5];exact zC
 have d3:a3.defers=[]:=by rw[<-RW];exact dC
 have e31:a3.eval (.tmp 1)=.pointer (some ⟨b4,0,none⟩):=by
  rw[<-RW,cg _ _ _ _ (by rw[l5];omega),if_neg zd,cg _ _ _ _ zo,if_neg zd];exact t1
 have e33:a3.eval (.tmp 3)=c:=by rw[<-RW,cg _ _ _ _ (by rw[l5];omega),if_pos rfl]
 have f4:(a.put (some d) c).eval (.tmp i4)=.pointer (some ⟨b4,0,none⟩):=by rw[cg _ _ _ _ zo,if_neg (aeq MG)];exact e4
 have fd:(a.put (some d) c).eval (.tmp d)=c:=by rw[cg _ _ _ _ zo,if_pos rfl]
 have bn:∀o:Oper,o.op=.store 29 (.tmp 1) (.tmp 3)->(execOp a3.eval o).run prog w2=(execOp (a.put (some d) c).eval oS).run prog w2:=by
  intro o ho;unfold execOp;simp only[ho,e31,e33,oS,f4,fd]
 have fin:∀ops,wpOpsIn (FR none) 0 prog ops (bodyPost prog f93 λe w2=>e=.returned (.tuple #[])/\∃(c:Value)(g':Gh)(S':an)(H':ao),g'.old=g.old/\Rel prog w0 n bP g' S' H' (a.put (some d) c) w2/\(∀t,t≠d->S' t=S t)/\H'=au H i4 (some (x.map AV.aI))) [] a3 w3:=by
  intro ops;refine⟨d3,.tuple #[],?_,rfl,c,g3,_,_,by rw[Dq,qg],R3,λt ht=>?_,rfl⟩
  .simp[results,results93]
  .simp[aP.S,AL.aW,au,ht,oS]
 rcases dE with dE|⟨dE,rfl⟩
 .refine bf rfl rfl zr ((bn _ rfl).trans dE) (fin _)
 .refine eT rfl rfl zr ((bn _ rfl).trans dE) (fin _)
def tv{P:Program}{w0:World}{n:Nat}{g:Gh}{S:an}{H:ao}{a:Act}{w:World}(R:Rel P w0 n bP g S H a w)(b:Nat):Rel P w0 n bP { g with old:={ g.old with aU:=au g.old.aU b none } } S H a w:={
 size:=R.size
 defers:=R.defers
 facts:=R.facts
 slot:=R.slot
 own t ht hu:=(R.own t ht hu).aU rfl λb hb=>⟨rfl,rfl,hb⟩
 box i c hi:=by
  obtain⟨cs,vs,ty,h1,h2,h3,h4,h5,h6,h7,h8,h9⟩:=R.box i c hi;exact⟨cs,vs,ty,h1,h2,h3,h4,h5,h6,h7,λj hj dZ=>(h8 j hj dZ).aU rfl λb hb=>⟨rfl,rfl,hb⟩,h9⟩
 jU:=R.jU
 jR:=R.jR
 inj:=R.inj
 base:=R.base
 below:=R.below
 fresh:=R.fresh
 still:=R.still
 grown:=R.grown
 kept c o h:=by
  have hc:c≠b:=by rintro rfl;simp[au]at h
  exact R.kept c o (by simpa[au,hc]using h) }
def L_ (hG:ar GI) {w0:World} {n:Nat} {g:Gh} {S:an} {H:ao} {a:Act} {w:World} {d i1 i4:Nat} {s:List UInt8} {z x:List AV} (cm:GI w0) (R:Rel prog w0 n bP g S H a w) (hd:d < n) (EH:i1 < n) (D4:i4 < n) (MG:d≠i4)
  (C_:S i1=.box i1 0) (Df:H i1=some [.str s]) (AJ:S i4=.box i4 0) (E4:H i4=some z) (hz:z.length=10) (hx:x.length=10) (sr:AC prog GI 94 [.str s] (.ret (.agg x))):
  Calls prog 92 #[.func (.func 93) #[] #[a.tmps.getD i1 undef,a.tmps.getD i4 undef]] w λe w2=>e=.returned (.int .i64 0)/\∃(c:Value)(g':Gh)(S':an)(H':ao),g'.old=g.old/\Rel prog w0 n bP g' S' H' (a.put (some d) c) w2/\(∀t,t≠d->S' t=S t)/\H'=au H i4 (some (x.map AV.aI)):=by
 have R1:=R.nF (.cells #[.int .i64 0] 34)
 have yA:g.old.aU w.heap.size=none:=by
  cases h:g.old.aU w.heap.size with
  |none=>rfl
  |some o=>
   have:=(adD.1 (R.kept _ o h).2.1).1;omega
 refine qx zk (Th hG cm R1 hd EH D4 MG C_ Df AJ E4 hz hx sr) ?_;rintro e w2 ⟨rfl,c,g',S',H',ho,R2,qZ,uM⟩
 have hk:g'.old.aU w.heap.size=some (.cells #[.int .i64 0] 34):=by rw[ho];exact aO _ _ _
 have ky:=(R2.kept _ _ hk).2.1;have aq:=(adD.1 ky).1;refine⟨aq,⟨_,_,ky⟩,.inl ⟨_,rfl,rfl,c,_,S',H',?_,(tv R2 w.heap.size).jV ?_,qZ,uM⟩⟩
 .show({ g'.old with aU:=au g'.old.aU w.heap.size none }:Old)=_;rw[ho]
  have:au (au g.old.aU w.heap.size (some (.cells #[.int .i64 0] 34))) w.heap.size none=g.old.aU:=by
   funext b
   by_cases hb:b=w.heap.size
   .subst hb;simp[au,yA]
   .simp[au,hb]
  show({ g.old with aU:=au (au g.old.aU w.heap.size (some (.cells #[.int .i64 0] 34))) w.heap.size none }:Old)=_;rw[this]
 .refine⟨rfl,rfl,rfl,ahB,λk cz=>?_⟩
  by_cases hb:k=w.heap.size
  .subst hb;rw[afq w2 _ _ _ _ _ ky,ky]
  .exact aeO w2 _ k _ hb
def aa8 (hG:ar GI) {s:List UInt8} {x:List AV} (hs:s.length≤320) (hx:x.length=10) (sr:AC prog GI 94 [.str s] (.ret (.agg x))) (R9:AC prog GI 44 [.agg (x.map AV.cI)] (.ret (.bool true))) :
  AC prog GI 43 [.str s] (.ret (.dY [.agg (x.map AV.cI),.int .i64 0])):=by
 refine AC.ji func43 rfl ntmps43 ahB λcc w=>?_
 refine dT hG c43.qa (λS' H'=>S' 1=.box 1 0/\S' 2=.box 2 0/\H' 1=some [.str s]/\∃z,H' 2=some z/\z.length=10) ?_ ?_
 .simp[c43,af.qa,bB,bq,aF,ba,aD,ev,aP.S,aP.H,au,aW,AL.start,AV.aI,AV.cells,AV.storable,cb,bt,aN]
 rintro S1 H1 ⟨s1,s2,h1,z2,h2,RZ⟩;refine SW.seq (dT hG c43.qb.qa.qa (λS' H'=>S' 1=.box 1 0/\S' 2=.box 2 0/\H' 1=some [.str s]/\H' 2=some z2/\S' 8=.bool false) ?_ ?_)
 .have Uj:¬(320:Int)<s.length:=zo
  simp[c43,af.qa,af.qb,bB,bq,aF,ba,aD,ev,aP.S,aP.H,au,aW,s1,s2,h1,h2,cd,HR.okB,AV.aI,dU,Uj,aN]
 rintro S2 H2 ⟨s1,s2,h1,h2,s8⟩;refine SW.cond rfl false (by show S2 8=_;rw[s8]) (SW.skip ?_);show SW prog GI 21 none (.seq _ (.seq (.seq _ (.seq _ (.cond _ _ _))) (.seq (.seq _ (.cond _ _ _)) (.seq _ .ret)))) _ _ _ _;refine dT hG c43.qb.qb.qa (λS' H'=>S' 1=.box 1 0/\S' 2=.box 2 0/\S' 4=.box 4 0/\H' 1=some [.str s]/\H' 2=some z2/\∃z,H' 4=some z/\z.length=10) ?_ ?_
 .simp[c43,af.qa,af.qb,bB,bq,aF,ba,au,cb,s1,s2,h1,h2,aN]
 rintro S3 H3 ⟨s1,s2,s4,h1,h2,z4,h4,QJ⟩
 refine SW.seq (SW.seq (SW.hand hG (p:=0) (lm:=[0,1]) (l2:=[2]) (jX:=[]) (oh:=[_,_]) (mw:=[_]) rfl rfl rfl rfl zk (λ_ h=>h) (mS:=[]) (mf:=(c43.qb.qb.qb.qa.qa.dl).drop 2) rfl zk rfl zk
  (K1:=λS' H'=>S' 1=.box 1 0/\S' 2=.box 2 0/\S' 4=.box 4 0/\H' 1=some [.str s]/\H' 2=some z2/\H' 4=some z4)
  (K2:=λo S' H'=>o=Old.plain cc w/\S' 2=.box 2 0/\S' 4=.box 4 0/\S' 11=.int .i64 0/\H' 2=some z2/\H' 4=some (x.map AV.aI))
  (K3:=λo S' H'=>o=Old.plain cc w/\S' 2=.box 2 0/\S' 4=.box 4 0/\S' 5=.int .i64 0/\H' 2=some z2/\H' 4=some (x.map AV.aI)) ⟨s1,s2,s4,h1,h2,h4⟩ ?_ ?_ ?_))
 .rintro w0 g S5 H5 a w5 m cm ho R ⟨s1,s2,s4,h1,h2,h4⟩;have bl:=R.size;refine bf rfl rfl zr (mB (fn:=.func 93) (c:=#[.tmp 1,.tmp 4]) rfl) ?_
  obtain⟨fv,lV⟩:∃fv:Value,fv=.func (.func 93) #[] (#[Operand.tmp 1,.tmp 4].map a.eval):=⟨_,rfl⟩
  show wpOpsIn _ _ _ _ _ [1] (a.put (some 10) (.func (.func 93) #[] (#[Operand.tmp 1,.tmp 4].map a.eval))) w5;rw[<-lV];have R1:=R.put 10 .bp fv zd (.bp _) trivial
  obtain⟨a1,ny⟩:∃a1,a.put (some 10) fv=a1:=⟨_,rfl⟩
  rw[ny]at R1⊢
  have vv:fv=.func (.func 93) #[] #[a1.tmps.getD 1 undef,a1.tmps.getD 4 undef]:=by
   have e1:=cg a 10 1 fv zo;have e4:=cg a 10 4 fv zo;rw[if_neg zd,ny]at e1 e4;have wO:a1.tmps.getD 1 undef=a.eval (.tmp 1):=e1;have EG:a1.tmps.getD 4 undef=a.eval (.tmp 4):=e4;rw[wO,EG,lV];simp only[aeg,adU,aee]
  have iP:a1.eval (.tmp 10)=fv:=by rw[<-ny,cg _ _ _ _ zo,if_pos rfl]
  refine gC rfl rfl zr (gq (k:=92) (args:=#[.func (.func 93) #[] #[a1.tmps.getD 1 undef,a1.tmps.getD 4 undef]]) w5 rfl rfl ?_ zk) (L_ hG cm R1 (d:=11) (i1:=1) (i4:=4) zd zd zd zd (by simp[au,s1]) h1 (by simp[au,s4]) h4 QJ hx sr) ?_
  .simp only[aeg,adU,aee,iP,<-vv]
  .rintro e w6 ⟨rfl,c,g',S',H',nM,R2,qZ,uM⟩;refine⟨_,rfl,?_⟩;have R3:=R2.put 11 (.int .i64 0) (.int .i64 0) zd (.data _ _ (.int _ _)) trivial;rw[yS]at R3;refine⟨g',_,H',R3,nM.trans ho,?_,?_,aO _ _ _,?_,?_⟩
   .show au S' 11 _ 2=_;rw[aT _ _ zd,qZ 2 zd];simp[au,s2]
   .show au S' 11 _ 4=_;rw[aT _ _ zd,qZ 4 zd];simp[au,s4]
   .rw[uM,aT _ _ zd];exact h2
   .rw[uM];exact aO _ _ _
 .rintro o S5 H5 ⟨rfl,s2,s4,bG,h2,h4⟩;refine⟨λ_ h=>h,?_⟩;simp[c43,af.qa,af.qb,af.dl,bq,aF,ba,aD,ev,aP.S,aP.H,au,aW,s2,s4,bG,h2,h4,AV.aI,bt]
 .rintro o S5 H5 ⟨rfl,s2,s4,s5,h2,h4⟩;refine dT hG c43.qb.qb.qb.qa.qb.qa (λS' H'=>S' 2=.box 2 0/\S' 4=.box 4 0/\S' 13=.bool false/\H' 2=some z2/\H' 4=some (x.map AV.aI)) ?_ ?_
  .simp[c43,af.qa,af.qb,bB,bq,aF,ba,aD,ev,aP.S,aP.H,au,aW,s2,s4,s5,h2,h4,AV.aI,dU,aN]
  rintro S6 H6 ⟨s2,s4,dM,h2,h4⟩;refine SW.cond rfl false (by show S6 13=_;rw[dM]) (SW.skip ?_);have BP:List.take 10 (x.map AV.aI)=x.map AV.aI:=adI (by simp;omega)
  have e7:∀(l:List AV) H,fz H (.agg (l.map AV.aI))=.agg (l.map AV.cI):=λl H=>by simp only[fz,ia,AV.vw,aeT,pk]
  refine SW.seq (dT hG c43.qb.qb.qb.qb.qa.qa (λS' H'=>S' 2=.box 2 0/\S' 4=.box 4 0/\S' 18=.bool false/\H' 2=some z2/\H' 4=some (x.map AV.aI)) ?_ ?_)
  .simp[c43,af.qa,af.qb,bB,bq,aF,ba,aD,ev,aP.S,aP.H,au,aW,s2,s4,h2,h4,cd,HR.okB,hx,iM,BP,e7,aN];refine oc R9 ?_;simp[eY,au,s2,s4,h2,h4]
  rintro S7 H7 ⟨s2,s4,kX,h2,h4⟩;refine SW.cond rfl false (by show S7 18=_;rw[kX]) (SW.skip ?_);refine dT hG c43.qb.qb.qb.qb.qb.qa (λS' H'=>S' 2=.box 2 0/\S' 3=.int .i64 0/\H' 2=some (x.map AV.aI)) ?_ ?_
  .have OL:List.drop 10 z2=[]:=aeU zo;simp[c43,af.qa,af.qb,bB,bq,aF,ba,aD,ev,aP.S,aP.H,au,aW,s2,s4,h2,h4,cd,HR.okB,hx,iM,BP,AV.cells,AV.storable,AV.ct,bC,bt,RZ,OL,aN,AV.aI]
  rintro S8 H8 ⟨s2,s3,h2⟩;obtain⟨i28,sg,sj⟩:=iZ 29 10;obtain⟨fs,fH⟩:=uZ 29;refine SW.ret ⟨eo.plain rfl,rfl,_,?_,rfl⟩;show cH prog 21 [.cell 2 29,.tmp 3] S8 H8=_;simp[cH,db,c_,s2,s3,h2,sg,fH,sj,cd,eh,hx,AV.out,iM,pk,BP,AV.b_,AV.vw,AV.cI,aeT]
end Go.Proofs.Tryz
namespace Go.Proofs.Tryz
open Go.AL
def dJ(c:UInt8):List (List UInt8)->List UInt8
 |[]=>[]
 |[p]=>p
 |p::q::r=>p++c::dJ c (q::r)
def fp(c:UInt8)(p:List UInt8){l:List (List UInt8)}(h:l≠[]):dJ c (p::l)=p++c::dJ c l:=by
 cases l with
 |nil=>exact absurd rfl h
 |cons a l=>rfl
def pq{c:UInt8}:∀{p l:List UInt8},¬c∈p->aZ c (p++c::l)=p::aZ c l
 |[],l,_=>by
  show(if c=c then[]::aZ c l else _)=_;rw[if_pos rfl]
 |b::p,l,h=>by
  have hb:b≠c:=λe=>h (e▸adX)
  show(if b=c then[]::aZ c (p++c::l)else match aZ c (p++c::l)with|[]=>[[b]]|p::ps=>(b::p)::ps)=_;rw[if_neg hb,pq (λe=>h (adO _ e))]
def BJ{c:UInt8}:∀{p:List UInt8},¬c∈p->aZ c p=[p]
 |[],_=>rfl
 |b::p,h=>by
  have hb:b≠c:=λe=>h (e▸adX)
  show(if b=c then[]::aZ c p else match aZ c p with|[]=>[[b]]|p::ps=>(b::p)::ps)=_;rw[if_neg hb,BJ (λe=>h (adO _ e))]
def BQ(c:UInt8):∀l:List UInt8,dJ c (aZ c l)=l
 |[]=>rfl
 |b::l=>by
  have ih:=BQ c l;show dJ c (if b=c then[]::aZ c l else match aZ c l with|[]=>[[b]]|p::ps=>(b::p)::ps)=_;have hn:=tC c l;split
  .rename_i h;rw[fp c _ hn,ih,h];rfl
  .cases hs:aZ c l with
   |nil=>exact absurd hs hn
   |cons p ps=>
    rw[hs]at ih;simp only
    cases ps with
    |nil=>exact congrArg (b::·) ih
    |cons q ps=>exact congrArg (b::·) ih
def aY(n:Int):List UInt8:=vp 20 n.toNat
def dg(n:Nat):UInt8:=UInt8.ofNat (48+n)
def oY{n:Nat}(h:n<10):(dg n).toNat=48+n:=by
 unfold dg;simp;omega
def mF{n:Nat}(h:n<10):vp 20 n=[dg n]:=by
 show(if n<10 then[UInt8.ofNat (48+n)]else _)=_;rw[if_pos h];rfl
def zy{n:Nat}(h0:10<=n)(h:n<100):vp 20 n=[dg (n/10),dg (n % 10)]:=by
 show(if n<10 then _ else vp 19 (n/10)++[UInt8.ofNat (48+n % 10)])=_;rw[if_neg zo];show(if n/10<10 then[UInt8.ofNat (48+n/10)]else _)++_=_;rw[if_pos zo];rfl
def xV{n:Nat}(h0:100<=n)(h:n<1000):vp 20 n=[dg (n/100),dg (n/10 % 10),dg (n % 10)]:=by
 show(if n<10 then _ else vp 19 (n/10)++[UInt8.ofNat (48+n % 10)])=_;rw[if_neg zo];show(if n/10<10 then _ else vp 18 (n/10/10)++[UInt8.ofNat (48+n/10 % 10)])++_=_;rw[if_neg zo];show((if n/10/10<10 then[UInt8.ofNat (48+n/10/10)]else _)++_)++_=_;rw[if_pos zo,show n/10/10=n/100 by omega];rfl
def fg(n:Int):Prop:=0<=n/\n<=999
def zN:∀{w:List UInt8},(∀c∈w,digit c)->w.length<=3->fg (dq w)
 |[],_,_=>by simp[dq,fg]
 |[a],h,_=>by
  have h1:=h a ahB;unfold digit at h1;simp only[dq,List.foldl,fg];omega
 |[a,b],h,_=>by
  have h1:=h a ahB;have h2:=h b ahB;unfold digit at h1 h2;simp only[dq,List.foldl,fg];omega
 |[a,b,c],h,_=>by
  have h1:=h a ahB;have h2:=h b ahB;have h3:=h c ahB;unfold digit at h1 h2 h3;simp only[dq,List.foldl,fg];omega
 |_::_::_::_::_,_,h=>by simp at h
def ov:List UInt8:=[102,114,111,110,116]
def oq:List UInt8:=[115,112,97,99,101,115]
def ou:List UInt8:=[115,105,103,110]
def om:List UInt8:=[112,97,105,114]
def oP:List UInt8:=[119,111,114,100]
def fQ(nm:List UInt8)(l:List (List UInt8)):List UInt8:=dJ 32 (nm::l)
def gG(l:List Int):List UInt8:=if l=[]then[45]else dJ 44 (l.map aY)
def jb(b:Bool):List UInt8:=if b then[121,101,115]else[110,111]
def lv(w:Word):List UInt8:=fQ oP [jb w.free,gG w.aV,gG w.bZ]
def me(p:kM):List UInt8:=fQ om [aY p.l,aY p.r,aY p.lo,aY p.hi]
def jm(n:Int):List UInt8:=fQ ou [aY n]
def gB(s:aJ):List UInt8:=fQ ov [aY s.wide,aY s.rows]
def jj(s:aJ):List UInt8:=fQ oq [aY s.gk,aY s.gl,aY s.js,aY s.jr,aY s.ck]
def eE(s:aJ):List (List UInt8):=gB s::jj s::(s.aM.map jm++(s.aL.map me++s.words.map lv))
def cP:Nat->List UInt8->Int
 |_,[]=>0
 |k,b::l=>(b.toNat:Int)*(k+1)+cP (k+1) l
def bo:Nat->List (List UInt8)->Int
 |_,[]=>0
 |i,r::rs=>cP 0 r*(i+1)+bo (i+1) rs
def eC(c:Int):List UInt8:=[101,110,100,32]++aY (c/100)++aY (c/10 % 10)++aY (c % 10)
def AQ(l:List (List UInt8)):List UInt8:=dJ 10 (l++[eC (bo 0 l % 173),[]])
def fS(s:aJ):List UInt8:=AQ (eE s)
def jq(w:List UInt8):Bool:=!w.isEmpty&&decide (w.length<=3)&&(w.all λc=>decide (48<=c.toNat)&&decide (c.toNat<=57))&&aY (dq w)==w
def nj{w:List UInt8}:jq w=true↔w≠[]/\w.length<=3/\(∀c∈w,digit c)/\aY (dq w)=w:=by
 unfold jq digit;simp[and_assoc]
def JS{w:List UInt8}(h:jq w=true):fg (dq w):=by
 obtain⟨_,h2,h3,_⟩:=nj.1 h;exact zN h3 h2
def fj:List (List UInt8)->Except (List UInt8) (List Int)
 |[]=>.ok []
 |w::ws=>if jq w then(match fj ws with|.ok l=>.ok (dq w::l)|.error e=>.error e)else .error w
def Dz:∀{ws:List (List UInt8)},ws.all jq=true->fj ws=.ok (ws.map dq)
 |[],_=>rfl
 |w::ws,h=>by
  rw[List.all_cons,adE]at h;unfold fj;rw[if_pos h.1,Dz h.2];rfl
def rl:∀{ws:List (List UInt8)}{l:List Int},fj ws=.ok l->ws.all jq=true/\l=ws.map dq
 |[],l,h=>by cases h;exact⟨rfl,rfl⟩
 |w::ws,l,h=>by
  unfold fj at h;split at h
  .rename_i hw
   cases hg:fj ws with
   |error e=>rw[hg]at h;cases h
   |ok r=>
    rw[hg]at h;cases h;obtain⟨h1,rfl⟩:=rl hg;exact⟨by rw[List.all_cons,hw,h1];rfl,rfl⟩
  .cases h
def kQ(l:List Int):Prop:=∀n∈l,fg n
def jG:kQ []:=λ_ h=>(aey h).elim
def cC{a:Int}{l:List Int}(h:fg a)(hl:kQ l):kQ (a::l):=by
 intro n hn;rcases ad_.1 hn with rfl|hn
 .exact h
 .exact hl n hn
def BB{ws:List (List UInt8)}(h:ws.all jq=true):kQ (ws.map dq):=by
 intro n hn;obtain⟨w,hw,rfl⟩:=adZ.1 hn;exact JS (adQ.1 h w hw)
def jO(w:List UInt8):Except (List UInt8) (List Int):=if w=[45]then .ok []else fj (aZ 44 w)
def xq{w:List UInt8}{l:List Int}(h:jO w=.ok l):kQ l:=by
 unfold jO at h;split at h
 .cases h;intro n hn;cases hn
 .obtain⟨h1,rfl⟩:=rl h;exact BB h1
def dv{α β:Type}(x:Except (List UInt8) α)(f:α->Except (List UInt8) β):Except (List UInt8) β:=match x with
 |.ok a=>f a
 |.error e=>.error e
def fu{α β:Type}(f:α->β->Except (List UInt8) α):α->List β->Except (List UInt8) α
 |a,[]=>.ok a
 |a,b::l=>dv (f a b) λa'=>fu f a' l
def D1{α β:Type}{f:α->β->Except (List UInt8) α}:∀{l r:List β}{a b:α},fu f a l=.ok b->fu f a (l++r)=fu f b r
 |[],r,a,b,h=>by cases h;rfl
 |x::l,r,a,b,h=>by
  show dv (f a x) (λa'=>fu f a' (l++r))=_;have h:dv (f a x) (λa'=>fu f a' l)=.ok b:=h
  cases hx:f a x with
  |error e=>rw[hx]at h;cases h
  |ok a'=>
   rw[hx]at h;exact D1 (l:=l) h
def at'(l:List Int)(i:Nat):Int:=l[i]?.getD 0
def mh(x:aJ)(r:List UInt8):Except (List UInt8) aJ:=
 let nm:=(aZ 32 r).headD []
 let ws:=(aZ 32 r).tail
 if nm=ov/\ws.length=2 then dv (fj ws) λn=>.ok { x with wide:=at' n 0,rows:=at' n 1 }
 else if nm=oq/\ws.length=5 then dv (fj ws) λn=>.ok { x with gk:=at' n 0,gl:=at' n 1,js:=at' n 2,jr:=at' n 3,ck:=at' n 4 }
 else if nm=ou/\ws.length=1 then dv (fj ws) λn=>.ok { x with aM:=x.aM++n }
 else if nm=om/\ws.length=4 then dv (fj ws) λn=>.ok { x with aL:=x.aL++[⟨at' n 0,at' n 1,at' n 2,at' n 3⟩] }
 else if nm=oP/\ws.length=3 then dv (jO (ws[1]?.getD [])) λa=>dv (jO (ws[2]?.getD [])) λb=>.ok { x with words:=x.words++[⟨a,b,ws[0]?.getD []==[121,101,115]⟩] }
 else .error r
def cK:aJ:=⟨[],[],0,0,0,0,0,[],0,0⟩
def j_(t:List UInt8):Except (List UInt8) aJ:=
 if(aZ 10 t).length<2 then .error t
 else dv (fu mh cK ((aZ 10 t).take ((aZ 10 t).length-2))) λx=>if fS x=t then .ok x else .error t
structure qH(s:aJ):Prop where
 aM:kQ s.aM
 aL:∀p∈s.aL,fg p.l/\fg p.r/\fg p.lo/\fg p.hi
 gk:fg s.gk
 gl:fg s.gl
 js:fg s.js
 jr:fg s.jr
 ck:fg s.ck
 words:∀w∈s.words,kQ w.aV/\kQ w.bZ
 wide:fg s.wide
 rows:fg s.rows
def ly{l:List Int}(h:kQ l)(i:Nat):fg (at' l i):=by
 unfold at'
 cases e:l[i]? with
 |none=>exact⟨zd,zd⟩
 |some n=>exact h n (aeN e)
def fT{α β:Type}{x:Except (List UInt8) α}{f:α->Except (List UInt8) β}{b:β}(h:dv x f=.ok b):∃a,x=.ok a/\f a=.ok b:=by
 cases x with
 |error e=>cases h
 |ok a=>exact⟨a,rfl,h⟩
def qj{ws:List (List UInt8)}{l:List Int}(h:fj ws=.ok l):kQ l:=by
 obtain⟨h1,rfl⟩:=rl h;exact BB h1
def Bg{x y:aJ}{r:List UInt8}(hx:qH x)(h:mh x r=.ok y):qH y:=by
 unfold mh at h;simp only at h
 repeat' split at h
 .obtain⟨n,hn,h⟩:=fT h;cases h;have hn:=qj hn;exact{ hx with wide:=ly hn 0,rows:=ly hn 1 }
 .obtain⟨n,hn,h⟩:=fT h;cases h;have hn:=qj hn;exact{ hx with gk:=ly hn 0,gl:=ly hn 1,js:=ly hn 2,jr:=ly hn 3,ck:=ly hn 4 }
 .obtain⟨n,hn,h⟩:=fT h;cases h;have hn:=qj hn;refine{ hx with aM:=λk hk=>?_ };rcases adG.1 hk with hk|hk
  .exact hx.aM k hk
  .exact hn k hk
 .obtain⟨n,hn,h⟩:=fT h;cases h;have hn:=qj hn;refine{ hx with aL:=λk hk=>?_ };rcases adG.1 hk with hk|hk
  .exact hx.aL k hk
  .rw[ad2]at hk;subst hk;exact⟨ly hn 0,ly hn 1,ly hn 2,ly hn 3⟩
 .obtain⟨a,ha,h⟩:=fT h;obtain⟨b,hb,h⟩:=fT h;cases h;refine{ hx with words:=λk hk=>?_ };rcases adG.1 hk with hk|hk
  .exact hx.words k hk
  .rw[ad2]at hk;subst hk;exact⟨xq ha,xq hb⟩
 .cases h
def zj:qH cK:=by
 have z:fg 0:=⟨zd,zd⟩
 exact⟨λ_ h=>(aey h).elim,λ_ h=>(aey h).elim,z,z,z,z,z,λ_ h=>(aey h).elim,z,z⟩
def oI(c:UInt8):∀{l:List (List UInt8)},l≠[]->(dJ c l).length+1=(l.map λp=>p.length+1).sum
 |[],h=>absurd rfl h
 |[p],_=>by simp[dJ]
 |p::q::r,_=>by
  have ih:=oI c (l:=q::r) ahB;rw[fp c p ahB,adU,List.sum_cons,<-ih];simp;omega
def eB{n:Int}(h:fg n):(aY n).length<=3/\(n<100->(aY n).length<=2)/\(n<10->(aY n).length=1):=by
 obtain⟨m,rfl⟩:∃m:Nat,n=m:=⟨n.toNat,by have:=h.1;omega⟩
 have hm:m<1000:=by have:=h.2;omega
 unfold aY;rw[Int.toNat_natCast]
 by_cases h1:m<10
 .rw[mF h1];simp
 by_cases h2:m<100
 .rw[zy zo h2];simp;omega
 .rw[xV zo hm];simp;omega
def Cv{α:Type}(f:α->Nat)(b:Nat):∀{l:List α},(∀x∈l,f x<=b)->(l.map f).sum<=b*l.length
 |[],_=>ahB
 |a::l,h=>by
  have ih:=Cv f b (l:=l) (λx hx=>h x (adO _ hx));have ha:=h a adX;rw[adU,List.sum_cons,List.length_cons,ahQ];omega
def ru{s:aJ}(hs:bj s=true):qH s:=by
 have hF:=gx hs
 have hi:∀{n a b:Int},0<=a->b<=999->a<=n/\n<=b->fg n:=λh0 h1 h=>⟨zo,zo⟩
 have ho:=hF.o;have hg:=hF.g;have hh:=hF.ck;have hw:=hF.wide;have hr:=hF.rows
 have IC:∀p∈s.aL,p.l<s.aM.length/\p.r<s.aM.length:=by
  unfold bj at hs;simp only[adE]at hs;intro p hp;have h:=(fW.1 hs.1.2).1 p hp;unfold jW jl df at h;simp only[adE,adL]at h;omega
 have uK:=hF.Gq;refine{ aM:=λn hn=>?_,aL:=λp hp=>?_,gk:=⟨zo,zo⟩,gl:=⟨zo,zo⟩,js:=⟨zo,zo⟩,jr:=⟨zo,zo⟩,ck:=⟨zo,zo⟩,words:=λw hw=>⟨λn hn=>?_,λn hn=>?_⟩,wide:=⟨zo,zo⟩,rows:=⟨zo,zo⟩ }
 .have:=hF.aM n hn;exact⟨zo,zo⟩
 .have h1:=hF.aL p hp;have h2:=IC p hp;exact⟨⟨zo,zo⟩,⟨zo,zo⟩,⟨zo,zo⟩,⟨zo,zo⟩⟩
 .have:=(mZ hs hw).sign n hn;exact⟨zo,zo⟩
 .have hc:=(mZ hs hw).bZ;have h6:=(mZ hs hw).zh;unfold gz at hc;have:=(fW.1 hc).1 n hn;unfold df at this;simp only[adE,adL]at this;exact⟨zo,zo⟩
def pF(l:List Int):List UInt8:=l.flatMap λn=>32::aY n
def DG(c:UInt8):∀(p:List UInt8)(l:List (List UInt8)),dJ c (p::l)=p++l.flatMap λq=>c::q
 |p,[]=>by simp[dJ]
 |p,q::l=>by
  rw[fp c p ahB,DG c q l,aeY];simp
def C9(nm:List UInt8)(l:List Int):fQ nm (l.map aY)=nm++pF l:=by
 unfold fQ pF;rw[DG,List.flatMap_map]
def J_{l:List Int}{i:Nat}(h:i<l.length):pF (l.take (i+1))=pF (l.take i)++32::aY l[i]:=by
 unfold pF;rw[adJ h,afj];simp
def EP{l:List Int}(h:kQ l):(pF l).length<=4*l.length:=by
 induction l with
 |nil=>simp[pF]
 |cons n l ih=>
  have ih:=ih λx hx=>h x (adO _ hx)
  have:=(eB (h n adX)).1;unfold pF at ih⊢;rw[aeY,adV,List.length_cons,List.length_cons];omega
def B6(c:UInt8)(p:List UInt8):∀{l:List (List UInt8)},l≠[]->dJ c (l++[p])=dJ c l++c::p
 |[],h=>absurd rfl h
 |[q],_=>by simp[dJ]
 |q::r::l,_=>by
  rw[List.cons_append,fp c q ahB,B6 c p (l:=r::l) ahB,fp c q ahB];simp
def oe(l:List Int)(i:Nat):List UInt8:=dJ 44 ((l.take i).map aY)
def JX{l:List Int}{i:Nat}(h:i<l.length):oe l (i+1)=(if 0<i then oe l i++[44]else oe l i)++aY l[i]:=by
 unfold oe;rw[adJ h,ad6]
 cases i with
 |zero=>simp[dJ]
 |succ i=>
  rw[show[l[i+1]].map aY=[aY l[i+1]]from rfl,B6]
  .simp
  .simp;intro e;rw[e]at h;simp at h
def xZ{l:List Int}(h:kQ l)(i:Nat):(oe l i).length<=4*l.length:=by
 unfold oe
 by_cases h0:(l.take i).map aY=[]
 .rw[h0];simp[dJ]
 .have:=oI 44 h0;rw[aeT]at this
  have h2:((l.take i).map ((λp=>p.length+1)∘aY)).sum<=4*(l.take i).length:=Cv _ 4 λn hn=>by
   have:=(eB (h n (aef hn))).1;show(aY n).length+1<=4;omega
  rw[adS]at h2;omega
def dF(l:List (List UInt8)):List UInt8:=l.flatMap λp=>p++[10]
def rp{l:List (List UInt8)}{i:Nat}(h:i<l.length):dF (l.take (i+1))=dF (l.take i)++l[i]++[10]:=by
 unfold dF;rw[adJ h,afj];simp
def td{l:List (List UInt8)}{b:Nat}(h:∀p∈l,p.length<b):(dF l).length<=b*l.length:=by
 induction l with
 |nil=>simp[dF]
 |cons p l ih=>
  have ih:=ih λx hx=>h x (adO _ hx)
  have:=h p adX;unfold dF at ih⊢;rw[aeY,adV,adV,List.length_singleton,List.length_cons,ahQ];omega
def BC(l:List (List UInt8)):AQ l=dF l++eC (bo 0 l % 173)++[10]:=by
 have:∀(l:List (List UInt8))(e:List UInt8),dJ 10 (l++[e,[]])=dF l++e++[10]:=by
  intro l
  induction l with
  |nil=>intro e;simp[dJ,dF]
  |cons p l ih=>
   intro e;rw[List.cons_append,fp 10 p ahB,ih e];unfold dF;simp
 exact this l _
def Ec:∀(l r:List UInt8)(k:Nat),cP k (l++r)=cP k l+cP (k+l.length) r
 |[],r,k=>by simp[cP]
 |b::l,r,k=>by
  show(b.toNat:Int)*(k+1)+cP (k+1) (l++r)=(b.toNat:Int)*(k+1)+cP (k+1) l+_;rw[Ec l r (k+1),List.length_cons,show k+1+l.length=k+(l.length+1) by omega];omega
def rq{l:List UInt8}{k:Nat}(h:k<l.length):cP 0 (l.take (k+1))=cP 0 (l.take k)+(l[k].toNat:Int)*(k+1):=by
 rw[adJ h,Ec];simp[cP,adS,agH (agM h)]
def A7:∀(l r:List (List UInt8))(k:Nat),bo k (l++r)=bo k l+bo (k+l.length) r
 |[],r,k=>by simp[bo]
 |b::l,r,k=>by
  show cP 0 b*(k+1)+bo (k+1) (l++r)=cP 0 b*(k+1)+bo (k+1) l+_;rw[A7 l r (k+1),List.length_cons,show k+1+l.length=k+(l.length+1) by omega];omega
def pX{l:List (List UInt8)}{k:Nat}(h:k<l.length):bo 0 (l.take (k+1))=bo 0 (l.take k)+cP 0 l[k]*(k+1):=by
 rw[adJ h,A7];simp[bo,adS,agH (agM h)]
def sL(b:UInt8):b.toNat<=255:=by have:=UInt8.toNat_lt b;omega
def lY:∀(l:List UInt8)(k:Nat),k+l.length<=10000->0<=cP k l/\cP k l<=2550000*l.length
 |[],k,_=>by simp[cP]
 |b::l,k,h=>by
  have ih:=lY l (k+1) (by simp at h;omega);have hb:=sL b;have h1:(b.toNat:Int)*(k+1)<=255*10000:=aex zo (by simp at h;omega) zo zo;have h2:0<=(b.toNat:Int)*(k+1):=aes zo zo;show 0<=(b.toNat:Int)*(k+1)+cP (k+1) l/\(b.toNat:Int)*(k+1)+cP (k+1) l<=_;rw[List.length_cons];omega
def mA:∀(l:List (List UInt8))(k:Nat),k+l.length<=1000->(∀p∈l,p.length<=10000)->0<=bo k l/\bo k l<=25500000000000*l.length
 |[],k,_,_=>by simp[bo]
 |b::l,k,h,hp=>by
  have ih:=mA l (k+1) (by simp at h;omega) λx hx=>hp x (adO _ hx)
  have hb:=hp b adX;have hl:=lY b 0 zo;have h1:cP 0 b*(k+1)<=25500000000*1000:=aex zo (by simp at h;omega) zo zo;have h2:0<=cP 0 b*(k+1):=aes zo zo;show 0<=cP 0 b*(k+1)+bo (k+1) l/\cP 0 b*(k+1)+bo (k+1) l<=_;rw[List.length_cons];omega
def Cz(c:UInt8):∀l:List (List UInt8),Lib.join l [c]=dJ c l
 |[]=>rfl
 |[p]=>by rw[Lib.join_one];rfl
 |p::q::r=>by
  rw[fp c p ahB,<-Cz c (q::r),Lib.join_cons,Lib.join_cons];simp[Lib.joinTail]
def vr(c:UInt8)(l:List UInt8):((aZ c l).map λp=>p.length+1).sum=l.length+1:=by
 have h:=oI c (tC c l);rw[BQ]at h;exact h.symm
def BF:∀L:List (List UInt8),L.length<=(L.map λp=>p.length+1).sum
 |[]=>ahB
 |p::L=>by
  have:=BF L;rw[adU,List.sum_cons,List.length_cons];omega
def Br:∀{L:List (List UInt8)}{p:List UInt8},p∈L->p.length+1<=(L.map λp=>p.length+1).sum
 |q::L,p,h=>by
  rw[adU,List.sum_cons];rcases ad_.1 h with rfl|h
  .omega
  .have:=Br h;omega
def lM(c:UInt8)(l:List UInt8):(aZ c l).length<=l.length+1:=by
 have:=BF (aZ c l);rw[vr]at this;exact this
def kJ{c:UInt8}{l p:List UInt8}(h:p∈aZ c l):p.length<=l.length:=by
 have:=Br h;rw[vr]at this;omega
def nr{ws:List (List UInt8)}{l:List Int}(h:fj ws=.ok l):l.length=ws.length:=by
 rw[(rl h).2,adH]
def ze{w:List UInt8}{l:List Int}(h:jO w=.ok l):l.length<=w.length+1:=by
 unfold jO at h;split at h
 .cases h;simp
 .rw[nr h];exact lM 44 w
def LG{L:List (List UInt8)}{b:Nat}(h:∀p∈L,p.length<=b)(i:Nat):(L[i]?.getD []).length<=b:=by
 cases e:L[i]? with
 |none=>simp
 |some p=>exact h p (aeN e)
structure Grown(b:Nat)(x:aJ)(k:Nat):Prop where
 aM:x.aM.length<=k
 aL:x.aL.length<=k
 words:x.words.length<=k
 aV:∀w∈x.words,w.aV.length<=b
 bZ:∀w∈x.words,w.bZ.length<=b
def Grown.mono{b k k':Nat}{x:aJ}(h:Grown b x k)(hk:k<=k'):Grown b x k':=⟨by have:=h.aM;omega,by have:=h.aL;omega,by have:=h.words;omega,h.aV,h.bZ⟩
def yX{x y:aJ}{r:List UInt8}{b k:Nat}(hr:r.length+1<=b)(hx:Grown b x k)(h:mh x r=.ok y):Grown b y (k+1)/\4<=r.length:=by
 have hp:∀p∈(aZ 32 r).tail,p.length<=r.length:=λp hp=>kJ (List.mem_of_mem_tail hp)
 have B':((aZ 32 r).headD []).length<=r.length:=by
  cases e:aZ 32 r with
  |nil=>exact absurd e (tC 32 r)
  |cons p l=>exact kJ (c:=32) (by rw[e];exact adX)
 have hm:=hx.mono (Nat.le_succ k);unfold mh at h;simp only at h;split at h
 .rename_i hc;rw[hc.1]at B';obtain⟨n,hn,h⟩:=fT h;cases h;exact⟨⟨hm.aM,hm.aL,hm.words,hm.aV,hm.bZ⟩,by simp[ov]at B';omega⟩
 split at h
 .rename_i hc;rw[hc.1]at B';obtain⟨n,hn,h⟩:=fT h;cases h;exact⟨⟨hm.aM,hm.aL,hm.words,hm.aV,hm.bZ⟩,by simp[oq]at B';omega⟩
 split at h
 .rename_i hc;rw[hc.1]at B';obtain⟨n,hn,h⟩:=fT h;cases h;have h1:=nr hn;have h2:=hx.aM;exact⟨⟨by simp;omega,hm.aL,hm.words,hm.aV,hm.bZ⟩,by simp[ou]at B';omega⟩
 split at h
 .rename_i hc;rw[hc.1]at B';obtain⟨n,hn,h⟩:=fT h;cases h;have h2:=hx.aL;exact⟨⟨hm.aM,by simp;omega,hm.words,hm.aV,hm.bZ⟩,by simp[om]at B';omega⟩
 split at h
 .rename_i hc;rw[hc.1]at B';obtain⟨a,ha,h⟩:=fT h;obtain⟨c,jS,h⟩:=fT h;cases h;have h2:=hx.words;have h3:=ze ha;have h4:=ze jS;have h5:=LG hp 1;have h6:=LG hp 2;refine⟨⟨hm.aM,hm.aL,by simp;omega,?_,?_⟩,by simp[oP]at B';omega⟩
  .intro w hw;rcases adG.1 hw with hw|hw
   .exact hx.aV w hw
   .rw[ad2]at hw;subst hw;show a.length<=b;omega
  .intro w hw;rcases adG.1 hw with hw|hw
   .exact hx.bZ w hw
   .rw[ad2]at hw;subst hw;show c.length<=b;omega
 .cases h
def sV{b:Nat}:∀{L:List (List UInt8)}{x y:aJ}{k:Nat},(∀r∈L,r.length+1<=b)->Grown b x k->fu mh x L=.ok y->Grown b y (k+L.length)/\5*L.length<=(L.map λp=>p.length+1).sum
 |[],x,y,k,_,hx,h=>by cases h;exact⟨hx,ahB⟩
 |r::L,x,y,k,hr,hx,h=>by
  have h:dv (mh x r) (λa=>fu mh a L)=.ok y:=h;obtain⟨a,ha,h⟩:=fT h;obtain⟨h1,h2⟩:=yX (hr r adX) hx ha;obtain⟨h3,h4⟩:=sV (λq hq=>hr q (adO _ hq)) h1 h;rw[adU,List.sum_cons,List.length_cons];exact⟨h3.mono zo,zo⟩
def rH(b:Nat):Grown b cK 0:=⟨adF _,adF _,adF _,λ_ h=>(aey h).elim,λ_ h=>(aey h).elim⟩
def BA{α β:Type}{f:α->β->Except (List UInt8) α}{x:α}{L:List β}{i:Nat}(hi:i<L.length){y:α}(h:fu f x (L.take i)=.ok y):fu f x (L.take (i+1))=f y L[i]:=by
 rw[adJ hi,D1 h];show dv (f y L[i]) (λa=>.ok a)=_
 cases f y L[i]<;>rfl
def vh{α β:Type}{f:α->β->Except (List UInt8) α}:∀{L:List β}{x y:α}{i:Nat}(hi:i<L.length){e:List UInt8},fu f x (L.take i)=.ok y->f y L[i]=.error e->fu f x L=.error e
 |[],x,y,i,hi,_,_,_=>by simp at hi
 |b::L,x,y,0,_,e,h,he=>by
  cases h;show dv (f x b) (λa=>fu f a L)=_;rw[show(b::L)[0]=b from rfl]at he;rw[he];rfl
 |b::L,x,y,i+1,hi,e,h,he=>by
  rw[List.take_succ_cons]at h;have h:dv (f x b) (λa=>fu f a (L.take i))=.ok y:=h;obtain⟨a,ha,h⟩:=fT h;show dv (f x b) (λa=>fu f a L)=_;rw[ha];exact vh (L:=L) (by simpa using hi) h (by simpa using he)
def q'{c:UInt8}:∀{l:List (List UInt8)},l≠[]->(∀p∈l,¬c∈p)->aZ c (dJ c l)=l
 |[],h,_=>absurd rfl h
 |[p],_,h=>BJ (h p adX)
 |p::q::r,_,h=>by
  rw[fp c p ahB,pq (h p adX),q' ahB (λx hx=>h x (adO _ hx))]
def sP{n:Int}(h:fg n):aY n≠[]/\(aY n).length<=3/\(∀c∈aY n,digit c)/\dq (aY n)=n:=by
 obtain⟨m,rfl⟩:∃m:Nat,n=m:=⟨n.toNat,by have:=h.1;omega⟩
 have hm:m<1000:=by have:=h.2;omega
 unfold aY;rw[Int.toNat_natCast]
 by_cases h1:m<10
 .rw[mF h1];have e:=oY h1;refine⟨ahB,ahB,?_,?_⟩
  .intro c hc;rw[ad2]at hc;subst hc;unfold digit;omega
  .simp[dq,e];omega
 by_cases h2:m<100
 .rw[zy zo h2];have e1:=oY (n:=m/10) zo;have e2:=oY (n:=m % 10) zo;refine⟨ahB,ahB,?_,?_⟩
  .intro c hc;simp only[ad_,aey,agz]at hc
   rcases hc with rfl|rfl<;>unfold digit<;>omega
  .simp[dq,e1,e2];omega
 .rw[xV zo hm];have e1:=oY (n:=m/100) zo;have e2:=oY (n:=m/10 % 10) zo;have e3:=oY (n:=m % 10) zo;refine⟨ahB,ahB,?_,?_⟩
  .intro c hc;simp only[ad_,aey,agz]at hc
   rcases hc with rfl|rfl|rfl<;>unfold digit<;>omega
  .simp[dq,e1,e2,e3];omega
def Pp{n:Int}(h:fg n){c:UInt8}(hc:¬digit c):¬c∈aY n:=λhm=>hc ((sP h).2.2.1 c hm)
def Em{α β:Type}{f:α->β->Except (List UInt8) α}{I:α->Prop}(hf:∀a b a',I a->f a b=.ok a'->I a'):∀{l:List β}{a b:α},I a->fu f a l=.ok b->I b
 |[],a,b,h,e=>by cases e;exact h
 |x::l,a,b,h,e=>by
  obtain⟨a',h1,h2⟩:=fT (show dv (f a x) (λa'=>fu f a' l)=.ok b from e);exact Em hf (hf a x a' h h1) h2
def Nx{t:List UInt8}{x:aJ}(h:j_ t=.ok x):fS x=t/\qH x:=by
 unfold j_ at h;split at h
 .cases h
 .obtain⟨y,hy,h⟩:=fT h;split at h
  .rename_i ht;cases h;exact⟨ht,Em (I:=qH) (λa b a' ha vn=>Bg ha vn) zj hy⟩
  .cases h
end Go.Proofs.Tryz
namespace Go.Proofs.Tryz
open Go Go.AL Go.RowKit Go.Proofs Go.Proofs.Tram
attribute [local simp] ez fF fo eN eM ea eb dG dH eU dI da gZ g_ aF aD ev aP.S aP.H bt au aW AL.start AV.cells AV.storable AV.ct bC cb dU cd HR.okB post cH db c_ AV.out AV.b_ cU d_ fz ia AV.vw cW vI int cy aN di dQ iC jw eP dW bD AV.aI AV.cI
variable{GI:World->Prop}
def mI(s:aJ)(out:List Int)(es:List End)(st:Int):Int:=firstT (λn=>decide (s.wide<n)) (fm s out es st)
def Qx{s:aJ}{out:List Int}{es:List End}{st:Int}:((fm s out es st).all λn=>decide (n<=s.wide))=decide (mI s out es st<0):=by
 have h:=ng (p:=λn=>decide (s.wide<n)) (l:=fm s out es st)
 have e:((fm s out es st).all λn=>decide (n<=s.wide))=!((fm s out es st).any λn=>decide (s.wide<n)):=by
  rw[aep];simp
 rw[e,<-h];unfold mI
 by_cases hz:0<=firstT (λn=>decide (s.wide<n)) (fm s out es st)
 .have:¬firstT (λn=>decide (s.wide<n)) (fm s out es st)<0:=zo
  simp[hz,this]
 .have:firstT (λn=>decide (s.wide<n)) (fm s out es st)<0:=zo
  simp[hz,this]
def Cp(s:aJ)(out:List Int)(es:List End)(st:Int):iK:=if mI s out es st<0 then .ret (.dY [])else .panic (.iface 190 (.agg [.int .i64 (mI s out es st)]))
def X1(hG:ar GI)(s:aJ)(fJ:bj s=true)(out:List Int)(ho:out.length<1000000)(es:List End)(he:es.length<100000)(g:Good s out es){st:Int}(h0:0<=st)(h1:st<=10):AC prog GI 169 [.ref (a_ s),.ref [vI out,.slice .view (es.map bX)],.ref [.int .i64 st]] (Cp s out es st):=by
 have Y_:=GZ s out es st;refine cw hG func169 ntmps169 c169 ?_;refine aK (λS H=>S 0=.ref (a_ s)/\S 2=.ref [.int .i64 st]/\S 7=.slice .view (ij s out es es.length)/\S 8=.int .i64 es.length/\S 9=.int .i64 0) ?_ ?_
 .simp[a_,ai,cq];refine oc (aaa hG s fJ out ho es he g) ?_;simp[BZ]
 rintro S H ⟨s0,s2,s7,s8,s9⟩;simp[s0,s2,s7,s8,s9];refine bz 9 es.length (λi S H=>S 0=.ref (a_ s)/\S 2=.ref [.int .i64 st]/\S 7=.slice .view (ij s out es es.length)/\S 8=.int .i64 es.length/\S 9=.int .i64 (i:Nat)/\∀j (hj:j<(fm s out es st).length),j<i->decide (s.wide<(fm s out es st)[j])=false) (λi S H h=>h.2.2.2.2.1) ⟨by simp[s0],by simp[s2],by simp[s7],by simp[s8],by simp[s9],λj _ hj=>absurd hj (agO _)⟩ ?_;clear s0 s2 s7 s8 s9 S H;rintro i hi S H ⟨s0,s2,s7,s8,s9,hb⟩
 by_cases aq:i<es.length
 case neg=>
  have hn:mI s out es st<0:=by
   unfold mI;rw[kF λj hj=>hb j hj zo];decide
  unfold Cp;rw[if_pos hn];simp[s0,s2,s7,s8,s9,aq]
 have hw:IntKind.i64.wrap ((i:Int)+1)=i+1:=aQ zo
 have LJ:(ij s out es es.length)[i]?=some (.agg [.slice .view ((ko s out es i).map gA),.bool (lG s es i)]):=by
  unfold ij;rw[ad9,ahC aq];rfl
 have wD:(fm s out es st)[i]' zo=rX s out es st i:=by unfold fm;simp
 refine aK (λS H=>S 0=.ref (a_ s)/\S 2=.ref [.int .i64 st]/\S 7=.slice .view (ij s out es es.length)/\S 8=.int .i64 es.length/\S 9=.int .i64 (i:Nat)/\S 10=.bool true) (by simp[s0,s2,s7,s8,s9,aq]) ?_;clear s0 s2 s7 s8 s9 S H;rintro S H ⟨s0,s2,s7,s8,s9,bJ⟩;refine Iu (by simp[bJ]) ?_;refine IP ?_;refine aK (λS H=>S 0=.ref (a_ s)/\S 2=.ref [.int .i64 st]/\S 7=.slice .view (ij s out es es.length)/\S 8=.int .i64 es.length/\S 9=.int .i64 (i:Nat)/\S 3=.int .i64 (i:Nat)/\S 4=.box 4 0/\H 4=some [.slice .view ((ko s out es i).map gA),.bool (lG s es i)]) (by simp[s0,s2,s7,s8,s9,aq,LJ]) ?_;clear s0 s2 s7 s8 s9 bJ S H;rintro S H ⟨s0,s2,s7,s8,s9,s3,s4,e4⟩;have a84:=XZ hG s fJ (LP g aq) (Gx fJ g i) (λx hx=>Rh g hx) (lG s es i) h0 h1
 have Wv:s.wide<rX s out es st i->mI s out es st=i:=λh=>by
  unfold mI;exact lQ (i:=i) zo (by rw[wD];simpa using h) hb
 simp[s0,s2,s7,s8,s9,s3,s4,e4,a_,ai,cq];refine oc a84 ?_
 by_cases xK:s.wide<rX s out es st i
 .have I7:s.wide<lK s st ((ko s out es i).map (bQ s)) (lG s es i):=xK;have hf:=Wv xK;unfold Cp;rw[if_neg zo,hf];simp[s0,s2,s7,s8,s9,s3,s4,e4,a_,ai,cq,I7,DL,bH]
 .have I7:¬s.wide<lK s st ((ko s out es i).map (bQ s)) (lG s es i):=xK;simp[s0,s2,s7,s8,s9,s3,s4,e4,a_,ai,cq,I7,hw,aq];intro j hj fK
  by_cases e:j=i
  .subst e;rw[wD];omega
  .have:=hb j hj zo;simpa using this
def T9(hG:ar GI)(s:aJ)(fJ:bj s=true)(out:List Int)(ho:out.length<1000000)(es:List End)(he:es.length<100000)(g:Good s out es){st:Int}(h0:0<=st)(h1:st<=10):AC prog GI 153 [iw s,br out es,.int .i64 st] (.ret (.bool (ll s out es st))):=by
 have a:=X1 hG s fJ out ho es he g h0 h1
 have e:ll s out es st=(decide ((es.length:Int)<=s.rows)&&decide (mI s out es st<0)):=by unfold ll;rw[Qx]
 rw[e];refine cw hG func153 ntmps153 c153 ?_;refine aK (λS H=>S 3=.box 3 0/\S 4=.box 4 0/\S 5=.box 5 0/\H 3=some (a_ s)/\H 4=some [vI out,.slice .view (es.map bX)]/\H 5=some [.int .i64 st]) (by simp[iw,a_,ai,cq,br,aX]) ?_;rintro S H ⟨s3,s4,s5,e3,e4,e5⟩
 by_cases hr:(es.length:Int)<=s.rows
 case neg=>simp[s3,s4,s5,e3,e4,e5,a_,ai,cq,hr]
 unfold Cp at a
 by_cases hw:mI s out es st<0
 .rw[if_pos hw]at a;have b:=XF hG (k:=169) zk a (.inl ⟨_,rfl,rfl⟩);simp[s3,s4,s5,e3,e4,e5,a_,ai,cq,hr];refine⟨_,zk,b,λ_=>rfl,?_⟩;simp[hw]
 .rw[if_neg hw]at a;have b:=XF hG (k:=169) zk a (.inr (.inl ⟨_,rfl,rfl⟩));simp[s3,s4,s5,e3,e4,e5,a_,ai,cq,hr];refine⟨_,zk,b,λ_=>rfl,?_⟩;simp[hw]
def BO{p:Int->Bool}:∀{n i:Nat},i<=n->(∀k:Nat,i<=k->k<n->p k=false)->Ac p n=Ac p i
 |0,i,h,_=>by rw[show i=0 by omega]
 |n+1,i,h,hp=>by
  by_cases e:i=n+1
  .rw[e]
  .rw[Ac,hp n zo zo]
   exact BO zo λk h1 h2=>hp k h1 zo
def Ng(hG:ar GI)(s:aJ)(fJ:bj s=true)(out:List Int)(ho:out.length<1000000)(es:List End)(he:es.length<100000)(g:Good s out es):AC prog GI 143 [iw s,br out es] (.ret (.int .i64 (zS s out es))):=by
 refine cw hG func143 ntmps143 c143 ?_;refine aK (λS H=>S 2=.box 2 0/\S 3=.box 3 0/\H 2=some (a_ s)/\H 3=some [vI out,.slice .view (es.map bX)]) (by simp[iw,a_,ai,cq,br,aX]) ?_;rintro S H ⟨s2,s3,e2,e3⟩;simp[s2,s3,e2,e3];refine OB 5 11 (λi S H=>i<=11/\S 2=.box 2 0/\S 3=.box 3 0/\H 2=some (a_ s)/\H 3=some [vI out,.slice .view (es.map bX)]/\S 5=.int .i64 ((i:Nat)-1)/\∀k:Nat,i<=k->k<11->ll s out es k=false) (λi S H h=>h.2.2.2.2.2.1) ⟨zo,by simp[s2],by simp[s3],by simp[e2],by simp[e3],ahB,λk h1 h2=>zo⟩ ?_;clear s2 s3 e2 e3 S H;rintro i hi S H ⟨_,s2,s3,e2,e3,s5,hb⟩;have hm:=BO (p:=ll s out es) hi hb
 cases i with
 |zero=>
  have hm:zS s out es= -1:=hm;simp[s2,s3,e2,e3,s5,hm]
 |succ m=>
  have hm:zS s out es=if ll s out es m then(m:Int)else Ac (ll s out es) m:=hm
  have qc:S 5=.int .i64 (m:Nat):=by rw[s5];congr 1;omega
  have RQ:IntKind.i64.wrap ((m:Int)-1)=m-1:=aQ zo;simp[s2,s3,e2,e3,qc,a_,ai,cq];refine oc (T9 hG s fJ out ho es he g zo zo) ?_;cases hf:ll s out es m
  .simp[s2,s3,e2,e3,qc,a_,ai,cq,RQ];refine⟨zo,λk h1 h2=>?_⟩
   by_cases e:k=m
   .subst e;exact hf
   .exact hb k zo h2
  .rw[hf]at hm;simp at hm;simp[s2,s3,e2,e3,qc,a_,ai,cq,hm]
def My{n:Int}(h:0<=n/\n<256):IntKind.u8.wrap n=n:=by
 unfold IntKind.wrap;simp[IntKind.bits,IntKind.signed];omega
def Zc{d:Nat}(h:d<10):bytesOf [AV.int .u8 (48+(d:Int))]=some [dg d]:=by
 have:(48+(d:Int))=((dg d).toNat:Int):=by rw[oY h];omega
 rw[this]
 have hb:((dg d).toNat:Int)<256:=by have:=oY h;omega
 simp[bytesOf,hb]
def F'{n:Nat}(h:n<10):aY n=[dg n]:=by unfold aY;rw[Int.toNat_natCast,mF h]
def Ny{n:Nat}(h0:10<=n):aY n=aY ((n/10:Nat):Int)++[dg (n % 10)]\/1000<=n:=by
 unfold aY;rw[Int.toNat_natCast,Int.toNat_natCast]
 by_cases h1:n<100
 .rw[zy h0 h1,mF zo];exact .inl rfl
 .by_cases h2:n<1000
  .rw[xV zo h2,zy zo zo];left;simp;rw[show n/10/10=n/100 by omega]
  .exact .inr zo
def Vq(hG:ar GI):∀(d n:Nat),n<1000->n<10^d->AC prog GI 137 [.int .i64 (n:Nat)] (.ret (.str (aY n))):=by
 intro d
 induction d with
 |zero=>
  intro n hn h
  have:n=0:=by simp at h;omega
  subst this;rw[F' zo];have hd:=Zc (d:=0) zo;have hw:IntKind.i64.wrap 48=48:=aQ zo;have h8:IntKind.u8.wrap 48=48:=My zo;simp at hd;have bV:aG 1 [AV.int .u8 48]=true:=rfl;refine cw hG func137 ntmps137 c137 ?_;simp[c137,hw,h8,hd,bV]
 |succ d ih=>
  intro n hn h
  have e1:(-10:Int)<n:=zo
  have e2:¬(n:Int)<0:=zo
  by_cases pJ:n<10
  .have Um:(n:Int)<10:=zo
   rw[F' pJ];have hd:=Zc pJ;have hw:IntKind.i64.wrap (48+(n:Int))=48+n:=aQ zo;have h8:IntKind.u8.wrap (48+(n:Int))=48+n:=My zo;have bV:aG 1 [AV.int .u8 (48+(n:Int))]=true:=rfl;refine cw hG func137 ntmps137 c137 ?_;simp[c137,e1,e2,pJ,Um,hw,h8,hd,bV]
  .have Um:¬(n:Int)<10:=zo
   have hm:aY n=aY ((n/10:Nat):Int)++[dg (n % 10)]:=by
    rcases Ny (n:=n) zo with h|h
    .exact h
    .omega
   have a:=ih (n/10) zo (by rw[Nat.pow_succ]at h;omega)
   have hq:IntKind.i64.wrap ((n:Int).tdiv 10)=((n/10:Nat):Int):=by
    rw[aQ]
    .rw[aev zo];omega
    .rw[aev zo];omega
   have hr:(n:Int).tmod 10=((n % 10:Nat):Int):=by
    rw[aen zo];omega
   have hd:=Zc (d:=n % 10) zo;have hw:IntKind.i64.wrap (48+((n % 10:Nat):Int))=48+((n % 10:Nat):Int):=aQ zo;have h8:IntKind.u8.wrap (48+((n % 10:Nat):Int))=48+((n % 10:Nat):Int):=My zo;have hl:(aY ((n/10:Nat):Int)).length<=3:=(eB ⟨zo,zo⟩).1
   have o_:(aY ((n/10:Nat):Int)).length+1<1073741824:=zo
   have Ul:IntKind.i64.wrap ((n:Int)/10)=((n/10:Nat):Int):=by rw[aQ zo];omega
   have RX:(n:Int) % 10=((n % 10:Nat):Int):=zo
   have bV:aG 1 [AV.int .u8 (48+((n % 10:Nat):Int))]=true:=rfl;rw[hm]
   generalize aY ((n/10:Nat):Int)=u at*
   generalize hz:((n % 10:Nat):Int)=z at*
   generalize hy:((n/10:Nat):Int)=y at*
   generalize dg (n % 10)=g at*
   refine cw hG func137 ntmps137 c137 ?_;simp[c137,e1,e2,pJ,Um,hq,Ul];refine oc a ?_;simp[hr,RX,hw,h8,hd,o_,bV]
def vx(hG:ar GI){n:Int}(h:fg n):AC prog GI 137 [.int .i64 n] (.ret (.str (aY n))):=by
 obtain⟨m,rfl⟩:∃m:Nat,n=m:=⟨n.toNat,by have:=h.1;omega⟩
 exact Vq hG 3 m (by have:=h.2;omega) (by have:=h.2;omega)
def zV(hG:ar GI)(nm:List UInt8)(l:List Int)(hn:nm.length<1000)(hl:l.length<1000)(h:kQ l):AC prog GI 105 [.str nm,vI l] (.ret (.str (fQ nm (l.map aY)))):=by
 rw[C9]
 have Ax:∀i,(pF (l.take i)).length<=4*1000:=λi=>by
  have:=EP (l:=l.take i) λx hx=>h x (aef hx)
  rw[adS]at this;omega
 refine cw hG func105 ntmps105 c105 ?_;simp[c105];refine bz 5 l.length (λi S H=>S 1=vI l/\S 5=.int .i64 (i:Nat)/\S 0=.str (nm++pF (l.take i))) (λi S H h=>h.2.1) ⟨ahB,ahB,by simp[pF]⟩ ?_;rintro i hi S H ⟨s1,s5,s0⟩
 by_cases aq:i<l.length
 case neg=>
  have dk:i=l.length:=zo
  subst dk;rw[adI (adF _)]at s0;simp[s1,s5,s0]
 have hw:IntKind.i64.wrap ((i:Int)+1)=i+1:=aQ zo;have hN:=h _ (adC aq);have Gt:=vx hG hN;have OO:=(eB hN).1;have ht:=Ax i;rw[J_ aq]
 generalize pF (l.take i)=t at*
 generalize aY l[i]=d at*
 have c1:nm.length+(t.length+1)<1073741824:=zo
 have c2:nm.length+(t.length+(1+d.length))<1073741824:=zo
 have c2':nm.length+(t.length+(d.length+1))<1073741824:=zo
 have c3:nm.length+t.length+1<1073741824:=zo
 have c4:nm.length+t.length+1+d.length<1073741824:=zo
 have c5:nm.length+(t.length+1)+d.length<1073741824:=zo
 simp[s1,s5,s0,aq,c1,c3];refine oc Gt ?_;simp[s1,s5,s0,aq,hw,c1,c2,c2',c3,c4,c5]
def Ur(hG:ar GI)(l:List Int)(hl:l.length<1000)(h:kQ l):AC prog GI 107 [vI l] (.ret (.str (gG l))):=by
 by_cases h0:l=[]
 .subst h0;have:gG []=[45]:=rfl;rw[this];refine cw hG func107 ntmps107 c107 ?_;simp[c107]
 have uN:((l.length:Int)==0)=false:=by have:=aeR.2 h0;simp;omega
 have hT:gG l=oe l l.length:=by unfold gG oe;rw[if_neg h0,adI (adF _)]
 rw[hT];refine cw hG func107 ntmps107 c107 ?_;simp[c107,uN,h0];refine bz 4 l.length (λi S H=>S 0=vI l/\S 4=.int .i64 (i:Nat)/\S 3=.str (oe l i)) (λi S H h=>h.2.1) ⟨ahB,ahB,by simp[oe,dJ]⟩ ?_;rintro i hi S H ⟨s0,s4,s3⟩
 by_cases aq:i<l.length
 case neg=>
  have dk:i=l.length:=zo
  subst dk;simp[s0,s4,s3]
 have hw:IntKind.i64.wrap ((i:Int)+1)=i+1:=aQ zo;have hN:=h _ (adC aq);have Gt:=vx hG hN;have OO:=(eB hN).1;have ht:=xZ h i;rw[JX aq]
 generalize oe l i=t at*
 generalize aY l[i]=d at*
 by_cases hp:0<i
 .have u9:(0:Int)<i:=zo
  have c1:t.length+1<1073741824:=zo
  have c2:t.length+1+d.length<1073741824:=zo
  have c3:t.length+(d.length+1)<1073741824:=zo
  simp[s0,s4,s3,aq,hp,c1];refine oc Gt ?_;simp[s0,s4,s3,aq,hw,hp,c1,c2,c3]
 .have u9:i=0:=zo
  subst u9
  have c2:t.length+d.length<1073741824:=zo
  have mR:IntKind.i64.wrap 1=1:=aQ zo;simp[s0,s4,s3,aq];refine oc Gt ?_;simp[s0,s4,s3,aq,hw,mR,c2]
def YQ(hG:ar GI)(l:List (List UInt8))(hl:l.length<1000)(h:∀p∈l,p.length<10000):AC prog GI 106 [strs l,.int .i64 173] (.ret (.str (AQ l))):=by
 rw[BC]
 have oG:∀i,(dF (l.take i)).length<=10000*1000:=λi=>by
  have:=td (l:=l.take i) (b:=10000) λx hx=>h x (aef hx)
  have h2:10000*(l.take i).length<=10000*1000:=afN _ (by rw[adS];omega);omega
 have jJ:∀i,0<=bo 0 (l.take i)/\bo 0 (l.take i)<=25500000000000000:=λi=>by
  have:=mA (l.take i) 0 (by rw[adS];omega) λx hx=>by have:=h x (aef hx);omega
  rw[adS]at this;omega
 refine cw hG func106 ntmps106 c106 ?_;simp[c106];refine bz 7 l.length (λi S H=>S 0=strs l/\S 1=.int .i64 173/\S 7=.int .i64 (i:Nat)/\S 5=.str (dF (l.take i))/\S 6=.int .i64 (bo 0 (l.take i))) (λi S H h=>h.2.2.1) ⟨by simp[strs],ahB,ahB,by simp[dF],by simp[bo]⟩ ?_;rintro i hi S H ⟨s0,s1,s7,s5,s6⟩
 by_cases aq:i<l.length
 case neg=>
  have dk:i=l.length:=zo
  subst dk;rw[adI (adF _)]at s5 s6;have hf:=oG l.length;have hc:=jJ l.length;rw[adI (adF _)]at hf hc
  generalize dF l=F at*
  obtain⟨c,MP⟩:∃c:Nat,bo 0 l=c:=⟨(bo 0 l).toNat,zo⟩
  rw[MP]at s6⊢
  have hm:(c:Int).tmod 173=((c % 173:Nat):Int):=by rw[aen zo];omega
  have uD:(c:Int) % 173=((c % 173:Nat):Int):=zo
  have Sx:c % 173<173:=af3 _ zo;rw[uD]
  generalize c % 173=r at*
  have n1:fg ((r:Int)/100):=⟨zo,zo⟩
  have n2:fg ((r:Int)/10 % 10):=⟨zo,zo⟩
  have n3:fg ((r:Int) % 10):=⟨zo,zo⟩
  have q1:IntKind.i64.wrap ((r:Int)/100)=(r:Int)/100:=aQ zo;have q2:IntKind.i64.wrap ((r:Int)/10)=(r:Int)/10:=aQ zo;have t1:(r:Int).tdiv 100=(r:Int)/100:=aev zo;have t2:(r:Int).tdiv 10=(r:Int)/10:=aev zo;have t3:((r:Int)/10).tmod 10=(r:Int)/10 % 10:=aen zo;have t4:(r:Int).tmod 10=(r:Int) % 10:=aen zo;have a1:=vx hG n1;have a2:=vx hG n2;have a3:=vx hG n3;have d1:=(eB n1).1;have d2:=(eB n2).1;have d3:=(eB n3).1;have hE:eC (r:Int)=[101,110,100,32]++aY ((r:Int)/100)++aY ((r:Int)/10 % 10)++aY ((r:Int) % 10):=rfl;rw[hE]
  generalize aY ((r:Int)/100)=u at*
  generalize aY ((r:Int)/10 % 10)=v at*
  generalize aY ((r:Int) % 10)=w at*
  have e1:F.length+(u.length+1+1+1+1)+v.length<1073741824:=zo
  have e2:F.length+(u.length+v.length+1+1+1+1)+w.length<1073741824:=zo
  have e3:F.length+(u.length+(v.length+w.length)+1+1+1+1)+1<1073741824:=zo
  have e4:F.length+(u.length+v.length+w.length+1+1+1+1)+1<1073741824:=zo
  have b1:F.length+4<1073741824:=zo
  have b2:F.length+(u.length+4)<1073741824:=zo
  have b3:F.length+(v.length+u.length+4)<1073741824:=zo
  have b4:F.length+4+u.length<1073741824:=zo
  have b5:F.length+4+u.length+v.length<1073741824:=zo
  have b6:F.length+4+u.length+v.length+w.length<1073741824:=zo
  have b7:F.length+4+u.length+v.length+w.length+1<1073741824:=zo
  simp[s0,s1,s7,s5,s6,strs,hm,uD,q1,q2,t1,t2,t3,t4,b1];refine oc a1 ?_;simp[s0,s1,s7,s5,s6,strs,hm,uD,q1,q2,t1,t2,t3,t4,b1,b4];refine oc a2 ?_;simp[s0,s1,s7,s5,s6,strs,hm,uD,q1,q2,t1,t2,t3,t4,b1,b4,b5,e1];refine oc a3 ?_;simp[s0,s1,s7,s5,s6,strs,hm,uD,q1,q2,t1,t2,t3,t4,b1,b4,b5,e1,e2,e3,e4]
 have hw:IntKind.i64.wrap ((i:Int)+1)=i+1:=aQ zo;have hp:=h _ (adC aq);have hf:=oG i;have hc:=jJ i;have vJ:dF (l.take (i+1))=dF (l.take i)++l[i]++[10]:=rp aq;have ve:=pX aq
 have CA:∀k,0<=cP 0 (l[i].take k)/\cP 0 (l[i].take k)<=25500000000:=λk=>by
  have:=lY (l[i].take k) 0 (by rw[adS];omega);rw[adS]at this;omega
 rw[vJ,ve];clear vJ ve
 generalize dF (l.take i)=F at*
 generalize bo 0 (l.take i)=c at*
 have im:(l.map AV.str)[i]?=some (.str l[i]):=by rw[ad9,adB aq];rfl
 generalize vj:l[i]=p at*
 refine aK (λS H=>S 0=strs l/\S 1=.int .i64 173/\S 7=.int .i64 (i:Nat)/\S 5=.str F/\S 6=.int .i64 c) (by simp[s0,s1,s7,s5,s6,strs,aq]) ?_;clear s0 s1 s7 s5 s6 S H;rintro S H ⟨s0,s1,s7,s5,s6⟩;refine aK (λS H=>S 0=strs l/\S 1=.int .i64 173/\S 7=.int .i64 (i:Nat)/\S 5=.str (F++p++[10])/\S 6=.int .i64 (c+cP 0 p*(i+1))) ?_ ?_
 .refine mz ?_;refine aK (λS H=>S 0=strs l/\S 1=.int .i64 173/\S 7=.int .i64 (i:Nat)/\S 5=.str F/\S 6=.int .i64 (c+cP 0 p*(i+1))) ?_ ?_
  .simp[s0,s1,s7,s5,s6];refine bz 8 p.length (λk S H=>S 0=strs l/\S 1=.int .i64 173/\S 7=.int .i64 (i:Nat)/\S 5=.str F/\S 8=.int .i64 (k:Nat)/\S 6=.int .i64 (c+cP 0 (p.take k)*(i+1))) (λi S H h=>h.2.2.2.2.1) ⟨by simp[s0],by simp[s1],by simp[s7],by simp[s5],ahB,by simp[s6,cP]⟩ ?_;clear s0 s1 s7 s5 s6 S H;rintro k hk S H ⟨s0,s1,s7,s5,s8,s6⟩
   by_cases gE:k<p.length
   case neg=>
    have cz:k=p.length:=zo
    subst cz;rw[adI (adF _)]at s6;simp[s0,s1,s7,s5,s8,s6,strs,aq,vj]
   have sh:IntKind.i64.wrap ((k:Int)+1)=k+1:=aQ zo;have nN:=CA k;have E1:=sL p[k];rw[rq gE]
   generalize cP 0 (p.take k)=u at*
   generalize OJ:p[k].toNat=y at*
   have ZD:p[k]?=some p[k]:=adB gE;have m1:(y:Int)*(k+1)<=255*10000:=aex zo zo zo zo;have m0:0<=(y:Int)*(k+1):=aes zo zo;have m2:(y:Int)*(k+1)*(i+1)<=2550000*1000:=aex zo zo zo zo;have m3:0<=(y:Int)*(k+1)*(i+1):=aes zo zo;have m4:u*(i+1)<=25500000000*1000:=aex zo zo zo zo;have m5:0<=u*(i+1):=aes zo zo;have w0:IntKind.i64.wrap (y:Int)=y:=aQ zo;have w1:IntKind.i64.wrap ((y:Int)*(k+1))=(y:Int)*(k+1):=aQ zo;have w2:IntKind.i64.wrap ((y:Int)*(k+1)*(i+1))=(y:Int)*(k+1)*(i+1):=aQ zo
   have w3:IntKind.i64.wrap (c+u*(i+1)+(y:Int)*(k+1)*(i+1))=c+(u+(y:Int)*(k+1))*(i+1):=by
    rw[aQ zo,agW];omega
   simp[s0,s1,s7,s5,s8,s6,strs,aq,vj,gE,OJ,w0,w1,w2,w3,hw,sh]
  clear s0 s1 s7 s5 s6 S H;rintro S H ⟨s0,s1,s7,s5,s6⟩
  have b1:F.length+p.length<1073741824:=zo
  have b2:F.length+p.length+1<1073741824:=zo
  have b3:F.length+(p.length+1)<1073741824:=zo
  simp[s0,s1,s7,s5,s6,strs,aq,vj,b1,b2,b3]
 clear s0 s1 s7 s5 s6 S H;rintro S H ⟨s0,s1,s7,s5,s6⟩;simp[s0,s1,s7,s5,s6,strs,hw,aq]
def sD(hG:ar GI)(l:List (List UInt8))(w:List UInt8)(hl:l.length<1000000)(k:Nat)(hk:k<l.length)(he:l[k]=w)(cD:∀j (h:j<k),l[j]≠w):AC prog GI 130 [strs l,.str w] (.ret (.int .i64 k)):=by
 refine cw hG func130 ntmps130 c130 ?_;refine aK (λS H=>S 0=strs l/\S 1=.str w) (by simp[strs]) ?_;rintro S H ⟨s0,s1⟩;simp[s0,s1,strs];refine bz 8 l.length (λi S H=>i<=k/\S 0=strs l/\S 1=.str w/\S 7=.int .i64 (l.length:Nat)/\S 8=.int .i64 (i:Nat)) (λi S H h=>h.2.2.2.2) ⟨aeu _,by simp[s0,strs],by simp[s1],ahB,ahB⟩ ?_;clear s0 s1 S H;rintro i hi S H ⟨hik,s0,s1,s7,s8⟩
 have aq:i<l.length:=zo
 have hw:IntKind.i64.wrap ((i:Int)+1)=i+1:=aQ zo
 by_cases hc:i=k
 .subst hc;simp[s0,s1,s7,s8,strs,aq,he]
 .have hn:(w==l[i])=false:=by
   rw[aeo]
   exact λe=>cD i zo e.symm
  have hle:i+1<=k:=zo
  simp[s0,s1,s7,s8,strs,aq,hn,hw,hle]
def QR(hG:ar GI)(l:List (List UInt8))(w:List UInt8)(hl:l.length<1000000)(cD:∀j (h:j<l.length),l[j]≠w):AC prog GI 130 [strs l,.str w] (.ret (.int .i64 (-1))):=by
 refine cw hG func130 ntmps130 c130 ?_;refine aK (λS H=>S 0=strs l/\S 1=.str w) (by simp[strs]) ?_;rintro S H ⟨s0,s1⟩;refine aK (λS H=>True) ?_ ahB;simp[s0,s1,strs];refine bz 8 l.length (λi S H=>S 0=strs l/\S 1=.str w/\S 7=.int .i64 (l.length:Nat)/\S 8=.int .i64 (i:Nat)) (λi S H h=>h.2.2.2) ⟨by simp[s0,strs],by simp[s1],ahB,ahB⟩ ?_;clear s0 s1 S H;rintro i hi S H ⟨s0,s1,s7,s8⟩
 by_cases aq:i<l.length
 case neg=>
  simp[s0,s1,s7,s8,strs,aq]
 have hw:IntKind.i64.wrap ((i:Int)+1)=i+1:=aQ zo
 have hn:(w==l[i])=false:=by
  rw[aeo]
  exact λe=>cD i aq e.symm
 simp[s0,s1,s7,s8,strs,aq,hn,hw]
end Go.Proofs.Tryz
namespace Go.Proofs.Tryz
open Go Go.AL Go.RowKit Go.Proofs Go.Proofs.Tram
attribute [local simp] ez fF qt oH eM ea eb dG dH eU dI da gZ g_ aF aD ev aP.S aP.H bt au aW AL.start AV.cells AV.storable AV.ct bC cb dU cd HR.okB post cH db c_ AV.out AV.b_ cU d_ fz ia AV.vw cW vI int cy aN di dQ iC jw eP dW bD AV.aI AV.cI
variable{GI:World->Prop}
def gr(l:List (List UInt8)):aG 1 (l.map AV.str)=true:=iE λa=>⟨rfl,rfl⟩
def FL(w:Word):lv w=((((([119,111,114,100,32]++jb w.free)++[32])++gG w.aV)++[32])++gG w.bZ):=by
 unfold lv fQ;simp[dJ,oP]
def p6{l:List Int}(h:kQ l)(hl:l.length<1000):(gG l).length<=4000:=by
 by_cases h0:l=[]
 .subst h0;simp[gG]
 .have:=xZ h l.length
  have e:gG l=oe l l.length:=by unfold gG oe;rw[if_neg h0,adI (adF _)]
  rw[e];omega
structure O1(s:aJ):Prop where
 aM:s.aM.length<=300
 aL:s.aL.length<=300
 words:s.words.length<=300
 aV:∀w∈s.words,w.aV.length<1000
 bZ:∀w∈s.words,w.bZ.length<1000
def pf{nm:List UInt8}{l:List Int}(hn:nm.length<=10)(h:kQ l)(hl:l.length<=5):(fQ nm (l.map aY)).length<10000:=by
 rw[C9,adV];have:=EP h;omega
def tx{s:aJ}(hN:qH s)(hf:O1 s):∀p∈eE s,p.length<10000:=by
 intro p hp;unfold eE at hp;simp only[ad_,adG,adZ]at hp
 rcases hp with rfl|rfl|⟨n,hn,rfl⟩|⟨q,hq,rfl⟩|⟨w,hw,rfl⟩
 .exact pf (l:=[s.wide,s.rows]) zd (cC hN.wide (cC hN.rows jG)) ahB
 .exact pf (l:=[s.gk,s.gl,s.js,s.jr,s.ck]) zd (cC hN.gk (cC hN.gl (cC hN.js (cC hN.jr (cC hN.ck jG))))) ahB
 .exact pf (l:=[n]) zd (cC (hN.aM n hn) jG) ahB
 .obtain⟨h1,h2,h3,h4⟩:=hN.aL q hq;exact pf (l:=[q.l,q.r,q.lo,q.hi]) zd (cC h1 (cC h2 (cC h3 (cC h4 jG)))) ahB
 .obtain⟨h1,h2⟩:=hN.words w hw;have a:=p6 h1 (hf.aV w hw);have b:=p6 h2 (hf.bZ w hw)
  have c:(jb w.free).length<=3:=by cases w.free<;>decide
  rw[FL];simp;omega
def acm(hG:ar GI)(s:aJ)(hN:qH s)(hf:O1 s):AC prog GI 47 [cE s] (.ret (.str (fS s))):=by
 have q1:=hf.aM;have q2:=hf.aL;have q3:=hf.words
 have uH:(eE s).length<1000:=by unfold eE;simp;omega
 have DN:=YQ hG (eE s) uH (tx hN hf);have a1:AC prog GI 105 [.str ov,vI [s.wide,s.rows]] (.ret (.str (gB s))):=zV hG ov [s.wide,s.rows] zd ahB (cC hN.wide (cC hN.rows jG));have a2:AC prog GI 105 [.str oq,vI [s.gk,s.gl,s.js,s.jr,s.ck]] (.ret (.str (jj s))):=zV hG oq [s.gk,s.gl,s.js,s.jr,s.ck] zd ahB (cC hN.gk (cC hN.gl (cC hN.js (cC hN.jr (cC hN.ck jG)))));have hT:fS s=AQ (eE s):=rfl;rw[hT];refine cw hG func47 ntmps47 c47 ?_;refine aK (λS H=>S 1=.box 1 0/\H 1=some (ai s)) (by simp[ah,ae,cE,ai]) ?_;rintro S H ⟨s1,e1⟩;refine aK (λS H=>S 1=.box 1 0/\H 1=some (ai s)/\S 3=grow 9 ([gB s,jj s].map AV.str)) ?_ ?_
 .have bV:aG 1 [AV.str (gB s),AV.str (jj s)]=true:=rfl;have gj:aG 1 [AV.int .i64 s.wide,AV.int .i64 s.rows]=true:=rfl;have Gu:aG 1 [AV.int .i64 s.gk,AV.int .i64 s.gl,AV.int .i64 s.js,AV.int .i64 s.jr,AV.int .i64 s.ck]=true:=rfl;simp[ah,ae,s1,e1,ai,gj];refine oc a1 ?_;simp[ah,ae,s1,e1,ai,Gu];refine oc a2 ?_;simp[ah,ae,s1,e1,ai,bV,grow]
 clear s1 e1 S H;rintro S H ⟨s1,e1,s3⟩;refine aK (λS H=>S 1=.box 1 0/\H 1=some (ai s)/\S 3=grow 9 (([gB s,jj s]++s.aM.map jm).map AV.str)) ?_ ?_
 .simp[ah,ae,s1,e1,s3];refine bz 4 s.aM.length (λi S H=>S 1=.box 1 0/\H 1=some (ai s)/\S 4=.int .i64 (i:Nat)/\S 3=grow 9 (([gB s,jj s]++(s.aM.take i).map jm).map AV.str)) (λi S H h=>h.2.2.1) ⟨by simp[ah,ae,s1],by simp[ah,ae,e1],by simp[ah,ae],by simp[ah,ae,s3,grow]⟩ ?_;clear s1 e1 s3 S H;rintro i hi S H ⟨s1,e1,s4,s3⟩
  by_cases aq:i<s.aM.length
  case neg=>
   have dk:i=s.aM.length:=zo
   subst dk;rw[adI (adF _)]at s3;simp[ah,ae,s1,e1,s4,s3,ai]
  have hw:IntKind.i64.wrap ((i:Int)+1)=i+1:=aQ zo;have a3:AC prog GI 105 [.str ou,vI [s.aM[i]]] (.ret (.str (jm s.aM[i]))):=zV hG ou [s.aM[i]] zd ahB (cC (hN.aM _ (adC aq)) jG)
  have ht:[gB s,jj s]++(s.aM.take (i+1)).map jm=([gB s,jj s]++(s.aM.take i).map jm)++[jm s.aM[i]]:=by
   rw[adJ aq,ad6,aek];rfl
  have hlen:([gB s,jj s]++(s.aM.take i).map jm).length<=2000:=by simp;omega
  rw[ht]
  generalize[gB s,jj s]++(s.aM.take i).map jm=B at*
  generalize jm s.aM[i]=t at*
  have gj:aG 1 [AV.int .i64 s.aM[i]]=true:=rfl;have cN:aG 1 [AV.str t]=true:=rfl;simp[s1,e1,s4,s3,ai,aq,gj];refine oc a3 ?_;simp[s1,e1,s4,s3,cN];refine iy (B.map AV.str) (AV.str t) (.own 9) (by simp[s3,grow]) ahB cN (gr B) (by rw[adH];omega) ?_;intro S' sd cz;simp[sd,cz,s1,e1,s4,aq,hw,ai,grow]
 clear s1 e1 s3 S H;rintro S H ⟨s1,e1,s3⟩;generalize hA:[gB s,jj s]++s.aM.map jm=A at s3
 have hAl:A.length<=302:=by rw[<-hA];simp;omega
 refine aK (λS H=>S 1=.box 1 0/\H 1=some (ai s)/\S 3=grow 9 ((A++s.aL.map me).map AV.str)) ?_ ?_
 .simp[ah,ae,s1,e1,s3];refine bz 5 s.aL.length (λi S H=>S 1=.box 1 0/\H 1=some (ai s)/\S 5=.int .i64 (i:Nat)/\S 3=grow 9 ((A++(s.aL.take i).map me).map AV.str)) (λi S H h=>h.2.2.1) ⟨by simp[ah,ae,s1],by simp[ah,ae,e1],by simp[ah,ae],by simp[ah,ae,s3,grow]⟩ ?_;clear s1 e1 s3 S H;rintro i hi S H ⟨s1,e1,s5,s3⟩
  by_cases aq:i<s.aL.length
  case neg=>
   have dk:i=s.aL.length:=zo
   subst dk;rw[adI (adF _)]at s3;simp[ah,ae,s1,e1,s5,s3,ai]
  have hw:IntKind.i64.wrap ((i:Int)+1)=i+1:=aQ zo;obtain⟨n1,n2,n3,n4⟩:=hN.aL _ (adC aq);have a3:AC prog GI 105 [.str om,vI [s.aL[i].l,s.aL[i].r,s.aL[i].lo,s.aL[i].hi]] (.ret (.str (me s.aL[i]))):=zV hG om [s.aL[i].l,s.aL[i].r,s.aL[i].lo,s.aL[i].hi] zd ahB (cC n1 (cC n2 (cC n3 (cC n4 jG))))
  have ht:A++(s.aL.take (i+1)).map me=(A++(s.aL.take i).map me)++[me s.aL[i]]:=by
   rw[adJ aq,ad6,aek];rfl
  have hlen:(A++(s.aL.take i).map me).length<=2000:=by simp;omega
  rw[ht]
  generalize A++(s.aL.take i).map me=B at*
  generalize me s.aL[i]=t at*
  have gj:aG 1 [AV.int .i64 s.aL[i].l,AV.int .i64 s.aL[i].r,AV.int .i64 s.aL[i].lo,AV.int .i64 s.aL[i].hi]=true:=rfl;have cN:aG 1 [AV.str t]=true:=rfl;simp[s1,e1,s5,s3,ai,aq,gj,dP];refine oc a3 ?_;simp[s1,e1,s5,s3,cN];refine iy (B.map AV.str) (AV.str t) (.own 9) (by simp[s3,grow]) ahB cN (gr B) (by rw[adH];omega) ?_;intro S' sd cz;simp[sd,cz,s1,e1,s5,aq,hw,ai,grow]
 clear s1 e1 s3 S H;rintro S H ⟨s1,e1,s3⟩;generalize hC:A++s.aL.map me=C at s3
 have hCl:C.length<=602:=by rw[<-hC];simp;omega
 have hLT:eE s=C++s.words.map lv:=by
  rw[<-hC,<-hA];unfold eE;simp
 refine aK (λS H=>S 3=grow 9 ((C++s.words.map lv).map AV.str)) ?_ ?_
 .simp[ah,ae,s1,e1,s3];refine bz 7 s.words.length (λi S H=>S 1=.box 1 0/\H 1=some (ai s)/\S 7=.int .i64 (i:Nat)/\S 3=grow 9 ((C++(s.words.take i).map lv).map AV.str)) (λi S H h=>h.2.2.1) ⟨by simp[ah,ae,s1],by simp[ah,ae,e1],by simp[ah,ae],by simp[ah,ae,s3,grow]⟩ ?_;clear s1 e1 s3 S H;rintro i hi S H ⟨s1,e1,s7,s3⟩
  by_cases aq:i<s.words.length
  case neg=>
   have dk:i=s.words.length:=zo
   subst dk;rw[adI (adF _)]at s3;simp[ah,ae,s1,e1,s7,s3,ai]
  have hw:IntKind.i64.wrap ((i:Int)+1)=i+1:=aQ zo;obtain⟨n1,n2⟩:=hN.words _ (adC aq);have f1:=hf.aV _ (adC aq);have f2:=hf.bZ _ (adC aq);have a3:=Ur hG s.words[i].aV f1 n1;have a4:=Ur hG s.words[i].bZ f2 n2;have l1:=p6 n1 f1;have l2:=p6 n2 f2;have TJ:=FL s.words[i]
  have ht:C++(s.words.take (i+1)).map lv=(C++(s.words.take i).map lv)++[lv s.words[i]]:=by
   rw[adJ aq,ad6,aek];rfl
  have hlen:(C++(s.words.take i).map lv).length<=2000:=by simp;omega
  rw[ht]
  generalize C++(s.words.take i).map lv=B at*
  generalize lv s.words[i]=t at*
  have cN:aG 1 [AV.str t]=true:=rfl
  have mX:∃fr:List UInt8,jb s.words[i].free=fr/\fr.length<=3/\((s.words[i].free=true/\fr=[121,101,115])\/(s.words[i].free=false/\fr=[110,111])):=by
   cases s.words[i].free
   .exact⟨_,rfl,zd,.inr ⟨rfl,rfl⟩⟩
   .exact⟨_,rfl,zd,.inl ⟨rfl,rfl⟩⟩
  obtain⟨fr,qR,oG,tT⟩:=mX;rw[qR]at TJ
  generalize gG s.words[i].aV=u at*
  generalize gG s.words[i].bZ=v at*
  have b0:5+fr.length<1073741824:=zo
  rcases tT with⟨hb,rfl⟩|⟨hb,rfl⟩
  .simp at TJ
   have c1:u.length+9<1073741824:=zo
   have c2:9+u.length<1073741824:=zo
   have c3:u.length+9+1<1073741824:=zo
   have Ln:aG 1 [AV.str (119::111::114::100::32::121::101::115::32::(u++32::v))]=true:=rfl;simp[s1,e1,s7,s3,ai,aq,cG,hb];refine oc a3 ?_;simp[s1,e1,s7,s3,ai,aq,cG,hb,c1,c2,c3];refine oc a4 ?_
   have c4:u.length+1+1+1+1+1+1+1+1+1+1+v.length<1073741824:=zo
   have c5:u.length+10+v.length<1073741824:=zo
   simp[s1,e1,s7,s3,ai,aq,cG,hb,c1,c2,c3,c4,c5,Ln];refine kT (B.map AV.str) (AV.str t) (.own 9) (by simp[s3,grow]) (by simp[TJ]) cN (gr B) (by rw[adH];omega) ?_;intro S' sd cz;simp[sd,cz,s1,e1,s7,aq,hw,ai,grow]
  .simp at TJ
   have c1:u.length+8<1073741824:=zo
   have c2:8+u.length<1073741824:=zo
   have c3:u.length+8+1<1073741824:=zo
   have Ln:aG 1 [AV.str (119::111::114::100::32::110::111::32::(u++32::v))]=true:=rfl;simp[s1,e1,s7,s3,ai,aq,cG,hb];refine oc a3 ?_;simp[s1,e1,s7,s3,ai,aq,cG,hb,c1,c2,c3];refine oc a4 ?_
   have c4:u.length+1+1+1+1+1+1+1+1+1+v.length<1073741824:=zo
   have c5:u.length+9+v.length<1073741824:=zo
   simp[s1,e1,s7,s3,ai,aq,cG,hb,c1,c2,c3,c4,c5,Ln];refine kT (B.map AV.str) (AV.str t) (.own 9) (by simp[s3,grow]) (by simp[TJ]) cN (gr B) (by rw[adH];omega) ?_;intro S' sd cz;simp[sd,cz,s1,e1,s7,aq,hw,ai,grow]
 clear s1 e1 s3 S H;rintro S H s3;rw[<-hLT]at s3
 have Vk:S 3=.slice (.own 9) ((eE s).map AV.str):=by rw[s3];simp[grow,eE]
 simp[ah,ae,Vk];refine oc DN ?_;simp[ah,ae]
def TB (GI:World->Prop):Prop:=∀ w,GI w->Lib.TabIs prog w "internal/strconv.uint64pow10" .u64 Lib.pow10Tab
def CW(hT:TB GI){n:Int}(h:fg n):AC prog GI 79 [.int .i64 n] (.ret (.str (aY n))):=by
 intro w old bT hG hl hr;obtain⟨v,rfl⟩:=TZ hl rfl;have e1:=(hr 0 ahB ahB).int_eq;simp only[List.getElem_toArray,List.getElem_cons_zero]at e1;subst e1;obtain⟨h0,h1⟩:=h;refine(Tryz.strconv_Itoa n zo zo w (hT w hG)).mono ?_;rintro e w' ⟨rfl,k,os,rfl⟩;refine⟨Lib.below_grow _ w (adF _) k os,λ_=>0,λ_ _=>rfl,_,rfl,.data _ _ ?_,trivial⟩
 have hi:Lib.itoa n=aY n:=by
  unfold Lib.itoa aY;rw[if_neg zo,C' 20 n.toNat zo zo]
 rw[hi];exact .str _
def C8(hG:ar GI)(hT:TB GI)(l:List Int)(h0:l≠[])(hl:l.length<1000)(h:kQ l):AC prog GI 213 [vI l] (.ret (strs (l.map aY))):=by
 have e0:strs (l.map aY)=.slice .view ((l.map aY).map .str):=rfl;rw[e0];refine cw hG func213 ntmps213 c213 ?_;simp[c213,ah,ae];refine bz 8 l.length (λi S H=>S 6=vI l/\S 7=.int .i64 (l.length:Nat)/\S 8=.int .i64 (i:Nat)/\S 3=grow 9 (((l.take i).map aY).map AV.str)) (λi S H h=>h.2.2.1) ⟨by simp[ah,ae],by simp[ah,ae],by simp[ah,ae],by simp[ah,ae,grow]⟩ ?_;rintro i hi S H ⟨s6,s7,s8,s3⟩
 by_cases aq:i<l.length
 case neg=>
  have dk:i=l.length:=zo
  subst dk;rw[adI (adF _)]at s3;simp[ah,ae,s6,s7,s8,s3,grow,h0]
 have hw:IntKind.i64.wrap ((i:Int)+1)=i+1:=aQ zo;have a157:=CW hT (h _ (adC aq))
 have ht:(l.take (i+1)).map aY=(l.take i).map aY++[aY l[i]]:=by
  rw[adJ aq,ad6];rfl
 have hlen:((l.take i).map aY).length<=1000:=by simp;omega
 rw[ht]
 generalize(l.take i).map aY=B at*
 generalize aY l[i]=t at*
 have cN:aG 1 [AV.str t]=true:=rfl;simp[s6,s7,s8,s3,aq];refine oc a157 ?_;simp[s6,s7,s8,s3,cN];refine iy (B.map AV.str) (AV.str t) (.own 9) (by simp[s3,grow]) ahB cN (gr B) (by rw[adH];omega) ?_;intro S' sd cz;simp[sd,cz,s6,s7,s8,aq,hw,grow]
structure K7(c:UInt8)(s:List UInt8)(i:Nat)(P:List (List UInt8))(st:Nat):Prop where
 le:st<=i
 SE:P.length<=st
 no:¬c∈(s.take i).drop st
 eq:aZ c s=P++aZ c (s.drop st)
def K7.zero(c:UInt8)(s:List UInt8):K7 c s 0 [] 0:=⟨adF _,adF _,ahB,rfl⟩
def K7.skip{c:UInt8}{s:List UInt8}{i:Nat}{P:List (List UInt8)}{st:Nat}(h:K7 c s i P st)(hi:i<s.length)(hc:s[i]≠c):K7 c s (i+1) P st:=by
 obtain⟨h1,h2,h3,h4⟩:=h;refine⟨zo,h2,?_,h4⟩;rw[adJ hi,afw (by rw[adS];omega)];intro hm;rcases adG.1 hm with hm|hm
 .exact h3 hm
 .rw[ad2]at hm;exact hc hm.symm
def K7.cut{c:UInt8}{s:List UInt8}{i:Nat}{P:List (List UInt8)}{st:Nat}(h:K7 c s i P st)(hi:i<s.length)(hc:s[i]=c):K7 c s (i+1) (P++[(s.take i).drop st]) (i+1):=by
 obtain⟨h1,h2,h3,h4⟩:=h;refine⟨adF _,by simp;omega,ahB,?_⟩;rw[h4,aek]
 congr 1
 have e:s.drop st=(s.take i).drop st++c::s.drop (i+1):=by
  have e1:s=s.take i++s[i]::s.drop (i+1):=by
   rw[List.getElem_cons_drop,aeX]
  conv=>lhs;rw[e1]
  rw[afw (by rw[adS];omega),hc]
 rw[e,pq h3]
 rfl
end Go.Proofs.Tryz
namespace Go.Proofs.Tryz
open Go.AL
def LM{n:Int}(h:fg n):jq (aY n)=true:=by
 obtain⟨h1,h2,h3,h4⟩:=sP h;exact nj.2 ⟨h1,h2,h3,by rw[h4]⟩
def qf{c:UInt8}:∀q∈([]:List (List UInt8)),¬c∈q:=λ_ h=>(aey h).elim
def dp{c:UInt8}{p:List UInt8}{l:List (List UInt8)}(h:¬c∈p)(hl:∀q∈l,¬c∈q):∀q∈p::l,¬c∈q:=by
 intro q hq;rcases ad_.1 hq with rfl|hq
 .exact h
 .exact hl q hq
def xm:∀{l:List Int},kQ l->∀c∈dJ 44 (l.map aY),digit c\/c=44\/c=45
 |[],_,c,hc=>by cases hc
 |[n],h,c,hc=>.inl ((sP (h n adX)).2.2.1 c hc)
 |n::m::l,h,c,hc=>by
  rw[adU,fp 44 _ ahB]at hc;rcases adG.1 hc with hc|hc
  .exact .inl ((sP (h n adX)).2.2.1 c hc)
  .rcases ad_.1 hc with rfl|hc
   .exact .inr (.inl rfl)
   .exact xm (λx hx=>h x (adO _ hx)) c hc
def It{l:List Int}(h:kQ l):∀c∈gG l,digit c\/c=44\/c=45:=by
 intro c hc;unfold gG at hc;split at hc
 .rw[ad2]at hc;exact .inr (.inr hc)
 .exact xm h c hc
def B0{nm:List UInt8}{l:List (List UInt8)}(h:∀p∈nm::l,¬(32:UInt8)∈p):aZ 32 (fQ nm l)=nm::l:=q' ahB h
def AF{n:Int}(h:fg n):¬(32:UInt8)∈aY n:=Pp h (by unfold digit;decide)
def MQ(b:Bool):¬(32:UInt8)∈jb b:=by cases b<;>decide
def NU(b:Bool):(jb b==[121,101,115])=b:=by cases b<;>decide
def lz{c:UInt8}(hc:c≠10):∀{l:List (List UInt8)},(∀p∈l,¬(10:UInt8)∈p)->¬(10:UInt8)∈dJ c l
 |[],_,h=>by cases h
 |[p],h,hm=>h p adX hm
 |p::q::r,h,hm=>by
  rw[fp c p ahB]at hm;rcases adG.1 hm with hm|hm
  .exact h p adX hm
  .rcases ad_.1 hm with e|hm
   .exact hc e.symm
   .exact lz hc (λx hx=>h x (adO _ hx)) hm
def gK{n:Int}(h:fg n):¬(10:UInt8)∈aY n:=Pp h (by unfold digit;decide)
def D3{l:List Int}(h:kQ l):¬(10:UInt8)∈gG l:=by
 intro hc;rcases It h 10 hc with h|h|h
 .revert h;unfold digit;decide
 .revert h;decide
 .revert h;decide
def BW{s:aJ}(h:qH s):∀p∈eE s,¬(10:UInt8)∈p:=by
 intro p hp;unfold eE at hp;simp only[ad_,adG,adZ]at hp
 rcases hp with rfl|rfl|⟨n,hn,rfl⟩|⟨q,hq,rfl⟩|⟨w,hw,rfl⟩
 .exact lz zd (dp zd (dp (gK h.wide) (dp (gK h.rows) qf)))
 .exact lz zd (dp zd (dp (gK h.gk) (dp (gK h.gl) (dp (gK h.js) (dp (gK h.jr) (dp (gK h.ck) qf))))))
 .exact lz zd (dp zd (dp (gK (h.aM n hn)) qf))
 .obtain⟨h1,h2,h3,h4⟩:=h.aL q hq;exact lz zd (dp zd (dp (gK h1) (dp (gK h2) (dp (gK h3) (dp (gK h4) qf)))))
 .obtain⟨h1,h2⟩:=h.words w hw;exact lz zd (dp zd (dp (by cases w.free<;>decide) (dp (D3 h1) (dp (D3 h2) qf))))
def IM(l:List (List UInt8)):0<=bo 0 l % 173/\bo 0 l % 173<173:=by omega
def ni(nm:List UInt8)(l:List (List UInt8)):(fQ nm l).length=nm.length+(l.map λp=>p.length+1).sum:=by
 have:=oI 32 (l:=nm::l) ahB;rw[adU,List.sum_cons]at this;unfold fQ;omega
def EL{l:List Int}(h:∀n∈l,0<=n/\n<10){b:Nat}(hb:l.length<=b)(nN:1<=b):(gG l).length+1<=2*b:=by
 unfold gG;split
 .simp;omega
 .rename_i hl;rw[oI 44 (by simpa using hl),aeT];refine aeL (Cv _ 2 λn hn=>?_) zo;have:=(eB ⟨(h n hn).1,by have:=(h n hn).2;omega⟩).2.2 (h n hn).2;show(aY n).length+1<=2;omega
def tG{n:Int}(h:fg n)(h1:n<100):(aY n).length<=2:=(eB h).2.1 h1
def qB{n:Int}(h:fg n)(h1:n<10):(aY n).length<=1:=Nat.le_of_eq ((eB h).2.2 h1)
def ES(l r:List (List UInt8)):((l++r).map λp=>p.length+1).sum=(l.map λp=>p.length+1).sum+(r.map λp=>p.length+1).sum:=by
 rw[ad6,afe]
def tF{α:Type}{f:α->List UInt8}{l:List α}{b:Nat}(h:∀x∈l,(f x).length+1<=b):((l.map f).map λp=>p.length+1).sum<=b*l.length:=by
 rw[aeT];exact Cv _ b h
def Dk{s:aJ}(hs:bj s=true):(gB s).length<=11/\(jj s).length<=19/\(∀n∈s.aM,(jm n).length<=7)/\(∀p∈s.aL,(me p).length<=12)/\∀w∈s.words,(lv w).length<=30:=by
 have hN:=ru hs;have hF:=gx hs;have ho:=hF.o;have hg:=hF.g;have hh:=hF.ck;have hw:=hF.wide;have hr:=hF.rows;have uK:=hF.Gq
 have IC:∀p∈s.aL,p.l<s.aM.length/\p.r<s.aM.length:=by
  unfold bj at hs;simp only[adE]at hs;intro p hp;have h:=(fW.1 hs.1.2).1 p hp;unfold jW jl df at h;simp only[adE,adL]at h;omega
 refine⟨?_,?_,λn hn=>?_,λp hp=>?_,λw hw=>?_⟩
 .unfold gB;rw[ni];have h1:=(eB hN.wide).1;have h2:=qB hN.rows zo;simp[ov];omega
 .unfold jj;rw[ni];have h1:=qB hN.gk zo;have h2:=qB hN.gl zo;have h3:=tG hN.js zo;have h4:=tG hN.jr zo;have h5:=tG hN.ck zo;simp[oq];omega
 .unfold jm;rw[ni];have:=hF.aM n hn;have h1:=tG (hN.aM n hn) zo;simp[ou];omega
 .unfold me;rw[ni];obtain⟨n1,n2,n3,n4⟩:=hN.aL p hp;have h1:=hF.aL p hp;have h2:=IC p hp;have h3:=qB n1 zo;have h4:=qB n2 zo;have h5:=qB n3 zo;have h6:=qB n4 zo;simp[om];omega
 .unfold lv;rw[ni];have f:=mZ hs hw;have hc:=f.bZ;have h6:=f.zh;have h1:=f.BD;have kH:=tI hc zo
  have wP:∀n∈w.bZ,0<=n/\n<10:=by
   intro n hn;unfold gz at hc;have:=(fW.1 hc).1 n hn;unfold df at this;simp only[adE,adL]at this;omega
  have nt:∀n∈w.aV,0<=n/\n<10:=by
   intro n hn;have:=f.sign n hn;omega
  have e1:=EL nt h6 zo;have e2:=EL (b:=5) wP zo zo
  have e3:(jb w.free).length<=3:=by cases w.free<;>decide
  simp[oP];omega
def Ub{c:Int}(h:0<=c)(h':c<173):eC c=[101,110,100,32,dg (c/100).toNat,dg (c/10 % 10).toNat,dg (c % 10).toNat]:=by
 unfold eC aY;rw[mF zo,mF zo,mF zo];rfl
def GR{s:aJ}(hs:bj s=true):(fS s).length<=320:=by
 obtain⟨h1,h2,h3,h4,h5⟩:=Dk hs;have hF:=gx hs;have e:=oI 10 (l:=eE s++[eC (bo 0 (eE s) % 173),[]]) ahB
 have he:(eC (bo 0 (eE s) % 173)).length=7:=by
  obtain⟨a,b⟩:=IM (eE s);rw[Ub a b];rfl
 rw[ES]at e
 have hl:((eE s).map λp=>p.length+1).sum=(gB s).length+1+((jj s).length+1+(((s.aM.map jm).map λp=>p.length+1).sum+(((s.aL.map me).map λp=>p.length+1).sum+((s.words.map lv).map λp=>p.length+1).sum))):=by
  unfold eE;rw[adU,List.sum_cons,adU,List.sum_cons,ES,ES]
 have a1:=tF (b:=8) λn hn=>Nat.succ_le_succ (h3 n hn)
 have a2:=tF (b:=13) λn hn=>Nat.succ_le_succ (h4 n hn)
 have a3:=tF (b:=31) λn hn=>Nat.succ_le_succ (h5 n hn)
 have b1:=hF.Gq;have b2:=hF.Pg;have b3:=hF.words.2
 have hz:(([eC (bo 0 (eE s) % 173),[]]:List (List UInt8)).map λp=>p.length+1).sum=9:=by simp[he]
 rw[hl,hz]at e;unfold fS AQ;omega
end Go.Proofs.Tryz
namespace Go.Proofs.Tryz
open Go Go.AL Go.RowKit Go.Proofs Go.Proofs.Tram
attribute [local simp] ez fF fo eN eM ea eb dG dH eU dI da gZ g_ aF aD ev aP.S aP.H bt au aW AL.start AV.cells AV.storable AV.ct bC cb dU cd HR.okB post cH db c_ AV.out AV.b_ cU d_ fz ia AV.vw cW vI int cy aN di dQ iC jw eP dW bD AV.aI AV.cI
variable{GI:World->Prop}
def aar(hG:ar GI)(hT:TB GI)(s:aJ)(hN:qH s):AC prog GI 212 [cE s] (.ret (strs ([s.wide,s.rows].map aY))):=by
 have a:=C8 hG hT [s.wide,s.rows] ahB ahB (cC hN.wide (cC hN.rows jG));have gj:aG 1 [AV.int .i64 s.wide,AV.int .i64 s.rows]=true:=rfl
 generalize ho:strs ([s.wide,s.rows].map aY)=o at*
 have hs:o.storable=true:=by rw[<-ho];rfl
 have hv:o.vw=o:=by rw[<-ho];rfl
 refine cw hG func212 ntmps212 c212 ?_;simp[c212,cE,ai,gj];refine oc a ?_;subst ho;simp[strs]
def YG(hG:ar GI)(hT:TB GI)(s:aJ)(hN:qH s):AC prog GI 214 [cE s] (.ret (strs ([s.gk,s.gl,s.js,s.jr,s.ck].map aY))):=by
 have a:=C8 hG hT [s.gk,s.gl,s.js,s.jr,s.ck] ahB ahB (cC hN.gk (cC hN.gl (cC hN.js (cC hN.jr (cC hN.ck jG)))));have gj:aG 1 [AV.int .i64 s.gk,AV.int .i64 s.gl,AV.int .i64 s.js,AV.int .i64 s.jr,AV.int .i64 s.ck]=true:=rfl
 generalize ho:strs ([s.gk,s.gl,s.js,s.jr,s.ck].map aY)=o at*
 refine cw hG func214 ntmps214 c214 ?_;simp[c214,cE,ai,gj];refine oc a ?_;subst ho;simp[strs]
def XX(hG:ar GI)(hT:TB GI)(n:Int)(h:fg n):AC prog GI 215 [.agg [.int .i64 n]] (.ret (strs ([n].map aY))):=by
 have a:=C8 hG hT [n] ahB ahB (cC h jG);have gj:aG 1 [AV.int .i64 n]=true:=rfl
 generalize ho:strs ([n].map aY)=o at*
 refine cw hG func215 ntmps215 c215 ?_;simp[c215,gj];refine oc a ?_;subst ho;simp[strs]
def YO(hG:ar GI)(hT:TB GI)(p:kM)(n1:fg p.l)(n2:fg p.r)(n3:fg p.lo)(n4:fg p.hi):AC prog GI 216 [dP p] (.ret (strs ([p.l,p.r,p.lo,p.hi].map aY))):=by
 have a:=C8 hG hT [p.l,p.r,p.lo,p.hi] ahB ahB (cC n1 (cC n2 (cC n3 (cC n4 jG))));have gj:aG 1 [AV.int .i64 p.l,AV.int .i64 p.r,AV.int .i64 p.lo,AV.int .i64 p.hi]=true:=rfl
 generalize ho:strs ([p.l,p.r,p.lo,p.hi].map aY)=o at*
 refine cw hG func216 ntmps216 c216 ?_;simp[c216,dP,gj];refine oc a ?_;subst ho;simp[strs]
def N'{l:List Int}(h:kQ l):(dJ 44 (l.map aY)).length<=4*l.length:=by
 have:=xZ h l.length;unfold oe at this;rwa [adI (adF _)]at this
def UL(hG:ar GI)(hT:TB GI)(l:List Int)(hl:l.length<1000)(h:kQ l):AC prog GI 218 [vI l] (.ret (.str (gG l))):=by
 by_cases h0:l=[]
 .subst h0;have:gG []=[45]:=rfl;rw[this];refine cw hG func218 ntmps218 c218 ?_;simp[c218]
 have uN:((l.length:Int)==0)=false:=by have:=aeR.2 h0;simp;omega
 have a:=C8 hG hT l h0 hl h;have hj:=N' h;have b:=vf (GI:=GI) (l.map aY) [44] (by simp;omega) (by rw[Cz];omega);rw[Cz]at b
 have hT:gG l=dJ 44 (l.map aY):=by unfold gG;rw[if_neg h0]
 rw[hT]
 have b2:AC prog GI 121 [.slice .view (l.map (AV.str∘aY)),.str [44]] (.ret (.str (dJ 44 (l.map aY)))):=by
  have e:l.map (AV.str∘aY)=(l.map aY).map AV.str:=by rw[aeT]
  rw[e];exact b
 generalize dJ 44 (l.map aY)=r at*
 generalize ho:strs (l.map aY)=o at*
 refine cw hG func218 ntmps218 c218 ?_;simp[c218,uN,h0];refine oc a ?_;subst ho;simp[strs];refine oc b2 ?_;simp[strs]
def ZZ(hG:ar GI)(hT:TB GI)(w:Word)(h1:kQ w.aV)(h2:kQ w.bZ)(f1:w.aV.length<1000)(f2:w.bZ.length<1000):AC prog GI 217 [cG w] (.ret (strs [jb w.free,gG w.aV,gG w.bZ])):=by
 have a:=UL hG hT w.aV f1 h1;have b:=UL hG hT w.bZ f2 h2
 have Gu:∀x y z:List UInt8,aG 1 [AV.str x,AV.str y,AV.str z]=true:=λ_ _ _=>rfl
 generalize gG w.aV=u at*
 generalize gG w.bZ=v at*
 have e0:strs [jb w.free,u,v]=.slice .view [.str (jb w.free),.str u,.str v]:=rfl;rw[e0];refine AC.nK (o:=.own 9) ?_;refine cw hG func217 ntmps217 c217 ?_;cases hf:w.free
 all_goals
  simp[c217,cG,hf,jb];refine oc a ?_;simp;refine oc b ?_;simp[Gu,strs]
def Ao(hG:ar GI):AC prog GI 129 [] (.ret (.agg [.str ov,.str oq,.str ou,.str om,.str oP])):=by
 obtain⟨it,hit,bl⟩:=iZ 193 5;refine cw hG func129 ntmps129 c129 ?_;simp[c129,ov,oq,ou,om,oP,hit,bl,eh,bH]
def ZA(hG:ar GI)(s:aJ)(hs:qI s):AC prog GI 48 [cE s,cE s] (.ret (.bool true)):=by
 have q0:=hs.aM;have q1:=hs.aL;have q2:=hs.words
 have WI:=λl hl=>SV (GI:=GI) hG l l hl
 simp only[beq_self_eq_true]at WI;refine cw hG func48 ntmps48 c48 ?_;refine aK (λS H=>S 2=.box 2 0/\S 3=.box 3 0/\H 2=some (ai s)/\H 3=some (ai s)) (by simp[cE,ai]) ?_;rintro S H ⟨s2,s3,e2,e3⟩;refine aK (λS H=>S 2=.box 2 0/\S 3=.box 3 0/\H 2=some (ai s)/\H 3=some (ai s)) ?_ ?_
 .simp[s2,s3,e2,e3,ai];refine⟨_,zk,WI s.aM zo,λ_=>rfl,?_⟩;simp[s2,s3,e2,e3,ai,kC]
 clear s2 s3 e2 e3 S H;rintro S H ⟨s2,s3,e2,e3⟩;refine aK (λS H=>S 2=.box 2 0/\S 3=.box 3 0/\H 2=some (ai s)/\H 3=some (ai s)) ?_ ?_
 .simp[s2,s3,e2,e3];refine bz 5 s.aL.length (λi S H=>S 2=.box 2 0/\S 3=.box 3 0/\H 2=some (ai s)/\H 3=some (ai s)/\S 5=.int .i64 (i:Nat)) (λi S H h=>h.2.2.2.2) ⟨by simp[s2],by simp[s3],by simp[e2],by simp[e3],ahB⟩ ?_;clear s2 s3 e2 e3 S H;rintro i hi S H ⟨s2,s3,e2,e3,s5⟩
  by_cases aq:i<s.aL.length
  case neg=>
   have dk:i=s.aL.length:=zo
   subst dk;simp[s2,s3,e2,e3,s5,ai]
  have hw:IntKind.i64.wrap ((i:Int)+1)=i+1:=aQ zo;simp[s2,s3,e2,e3,s5,ai,aq,hw,dP,kC]
 clear s2 s3 e2 e3 S H;rintro S H ⟨s2,s3,e2,e3⟩;refine aK (λS H=>True) ?_ ahB;simp[s2,s3,e2,e3];refine bz 6 s.words.length (λi S H=>S 2=.box 2 0/\S 3=.box 3 0/\H 2=some (ai s)/\H 3=some (ai s)/\S 6=.int .i64 (i:Nat)) (λi S H h=>h.2.2.2.2) ⟨by simp[s2],by simp[s3],by simp[e2],by simp[e3],ahB⟩ ?_;clear s2 s3 e2 e3 S H;rintro i hi S H ⟨s2,s3,e2,e3,s6⟩
 by_cases aq:i<s.words.length
 case neg=>
  have dk:i=s.words.length:=zo
  subst dk;simp[s2,s3,e2,e3,s6,ai]
 have hw:IntKind.i64.wrap ((i:Int)+1)=i+1:=aQ zo;have f1:=hs.aV _ (adC aq);have f2:=hs.bZ _ (adC aq);simp[s2,s3,e2,e3,s6,ai,aq,hw,cG];refine⟨_,zk,WI s.words[i].aV zo,λ_=>rfl,?_⟩;simp[s2,s3,e2,e3,s6,ai,aq,hw,cG];refine⟨_,zk,WI s.words[i].bZ zo,λ_=>rfl,?_⟩;simp[s2,s3,e2,e3,s6,ai,aq,hw,cG]
end Go.Proofs.Tryz
namespace Go.AL
def vy{P:Program}{GI:World->Prop}{i k:Nat}{x y:af}{Q:dV->an->ao->Prop}{S:an}{H:ao}(K:an->ao->Prop)(hx:bB P GI x (aN K) S H)(hy:∀S' H',K S' H'->BU P GI i k y Q S' H'):BU P GI i (k+1) (.seq x y) Q S H:=by
 refine Rb K (gL x (λe S H h=>?_) hx) (λh=>gL x h) hy
 cases e<;>first|exact⟨rfl,h⟩|exact h.elim
section
variable{P:Program}{GI:World->Prop}
def Zo {S:an} {H:ao} {t e size cap i j:Nat} {l vs:List AV} {o:Ow} (hi:S i=grow e l) (hj:S j = .slice o vs) (hv:aG size vs=true) (hl:aG size l=true) (hn:l.length+vs.length < 1048576) :
  ∃dm,(dm=none\/dm=some i)/\aD S H (.append t e size cap (.t i) (.t j))=some { v:=grow e (l++vs),dm:=dm }:=by
 have ei:ev S (.t i)=grow e l:=hi;have ej:ev S (.t j)=.slice o vs:=hj
 cases l with
 |nil=>
  refine⟨none,.inl rfl,?_⟩;simp only[aD];rw[ei,ej,FN]
  have yR:vs.length<1048576:=by simpa using hn
  simp[hv,grow,yR]
 |cons x l=>
  refine⟨some i,.inr rfl,?_⟩
  have yR:l.length+1+vs.length<1048576:=by simpa using hn
  simp only[aD];rw[ei,ej];simp[grow,hv,hl,bt,yR]
def mU {K:an→ao→Prop} {S:an} {H:ao} {t e size cap d i j:Nat} {rest:List bI} (l vs:List AV) (o:Ow) (hi:S i=grow e l) (hj:S j = .slice o vs) (hv:aG size vs=true) (hl:aG size l=true) (hn:l.length+vs.length < 1048576)
  (h:∀S',S' d=grow e (l++vs)->(∀k,k≠d->k≠i->S' k=S k)->cV P GI rest K S' H):cV P GI (⟨some d,none,.append t e size cap (.t i) (.t j)⟩::rest) K S H:=by
 obtain⟨dm,IF,j3⟩:=Zo (t:=t) (cap:=cap) (H:=H) hi hj hv hl hn;obtain⟨k1,k2⟩:=wu (S:=S) (d:=d) IF (grow e (l++vs));rw[ae];simp only[aF,j3];exact h _ k1 k2
end
section
variable{P:Program}{GI:World->Prop}
def Lh (f args d g rest K S H):cV P GI (⟨d,g,.gy f args⟩::rest) K S H=(match aF S g with
  |some true=>((match ev S f with|.func _ first cap=>(first++args.map (ev S)++cap).any cW|_=>true)=false/\(match ev S f with
   |.func (.func k) first cap=>lx P GI k ((first++args.map (ev S)++cap).map (fz H)) ((first++args.map (ev S)++cap).any cW) (kD P GI rest K S d H) (λ_=>False)
   |_=>False))
  |some false=>cV P GI rest K (aW S d cy) H
  |none=>False):=(Eq.refl _).trans (Eq.refl _)
def mW{i d k t:Nat}{ON:List (TypeId×Nat)}{v r:AV}{rest:List bI}{K:an->ao->Prop}{S:an}{H:ao}(hS:S i=.iface t v)(ht:ON.lookup t=some k)(hb:cW v=false)(hf:fz H v=v)(hc:ee P k=true)(a:AC P GI k [v] (.ret r))(h:cV P GI rest K (au S d r) H):cV P GI (⟨some d,none,.gy (.m i ON) []⟩::rest) K S H:=by
 rw[Lh]
 have e:ev S (.m i ON)=.func (.func k) [v] []:=by simp[ev,hS,ht]
 simp only[aF,e];refine⟨by simp[hb],.ret r,hc,?_,by simp[hb],?_⟩
 .simpa[hf]using a
 .exact h
end
def Rel.tv{P:Program}{w0:World}{n:Nat}{g:Gh}{S:an}{H:ao}{a:Act}{w:World}(R:Rel P w0 n bP g S H a w)(b:Nat):Rel P w0 n bP { g with old:={ g.old with aU:=au g.old.aU b none } } S H a w:={
 size:=R.size
 defers:=R.defers
 facts:=R.facts
 slot:=R.slot
 own t ht hu:=(R.own t ht hu).aU rfl λb hb=>⟨rfl,rfl,hb⟩
 box i c hi:=by
  obtain⟨cs,vs,ty,h1,h2,h3,h4,h5,h6,h7,h8,h9⟩:=R.box i c hi;exact⟨cs,vs,ty,h1,h2,h3,h4,h5,h6,h7,λj hj dZ=>(h8 j hj dZ).aU rfl λb hb=>⟨rfl,rfl,hb⟩,h9⟩
 jU:=R.jU
 jR:=R.jR
 inj:=R.inj
 base:=R.base
 below:=R.below
 fresh:=R.fresh
 still:=R.still
 grown:=R.grown
 kept c o h:=by
  have hc:c≠b:=by rintro rfl;simp[au]at h
  exact R.kept c o (by simpa[au,hc]using h) }
section
variable{P:Program}{a:Act}{w:World}{m:Nat}{Q:Exit->Act->World->Prop}
def IN {ops:Array Oper} {i:Nat} {rest:List Nat} {o:Oper} (ho:ops[i]? = some o) (hw:Region.wanted o (yielded ops a.tmps)=true) (dO:eK o.op=true) {l f:Nat} {tmps:Array Value} {Vt bd:Code} {w':World}
  (hr:(execOp a.eval o).run P w=.ok (.round l f tmps Vt bd) w') {R:Ending->World->Prop} (hc:∀m,RoundIn (FR none) m P l f tmps Vt bd w' R) (hk:∀e jv,R e jv->∃v,e=.returned v/\wpOpsIn (FR none) m P ops Q rest (a.put o.dst v) jv):wpOpsIn (FR none) m P ops Q (i::rest) a w:=by
 simp only[wpOpsIn,ho];rw[if_pos hw];refine⟨λ_ _=>trivial,?_⟩;rw[ae_ _ _ _ (λc hc=>by rw[hc]at dO;cases dO),hr];refine⟨λh=>by simp[FR,Fence.wide]at h,(hc (m-1)).mono λe jv hh=>?_⟩;obtain⟨v,rfl,h⟩:=hk e jv hh;exact h
def Q6{o:Oper}{t:TypeId}{x:Operand}{b:Bool}(ho:o.op=.unOp .not t x)(hx:a.eval x=.bool b):(execOp a.eval o).run P w=.ok (.value (.bool !b)) w:=by
 unfold execOp;simp[ho,hx,Op.unary]
end
end Go.AL
namespace Go.Proofs.Tryz
open Go Go.AL Go.RowKit Go.Proofs Go.Proofs.Tram
attribute [local simp] ez fF fo eN eM ea eb dG dH eU dI da gZ g_ aF aD ev aP.S aP.H bt au aW AL.start AV.cells AV.storable AV.ct bC cb dU cd HR.okB post cH db c_ AV.out AV.b_ cU d_ fz ia AV.vw cW vI int cy aN di dQ iC jw eP dW bD AV.aI AV.cI
variable{GI:World->Prop}
def iu(nm:List UInt8)(ws:List (List UInt8)):Lib.join (nm::ws) [32]=fQ nm ws:=Cz 32 (nm::ws)
def RU(hG:ar GI)(V:List AV)(ws:List (List UInt8))(hb:cW (.agg V)=false)(hf:∀H,fz H (.agg V)=.agg V)(a:AC prog GI 212 [.agg V] (.ret (strs ws)))(hl:ws.length<1000)(hr:(fQ ov ws).length<100000):AC prog GI 104 [.iface 149 (.agg V)] (.ret (.str (fQ ov ws))):=by
 have pn:=Ao hG;have b:=vf (GI:=GI) (ov::ws) [32] (by simp;omega) (by rw[iu];omega);rw[iu]at b;have b2:AC prog GI 121 [.slice .view (AV.str ov::ws.map AV.str),.str [32]] (.ret (.str (fQ ov ws))):=b;have cN:aG 1 [AV.str ov]=true:=rfl;have gj:aG 1 (ws.map AV.str)=true:=gr ws
 have hlen:1+(ws.map AV.str).length<1048576:=by simp;omega
 generalize fQ ov ws=r at*
 refine cw hG func104 ntmps104 c104 ?_;simp[c104];refine oc pn ?_;simp[cN];refine mW (t:=149) (v:=.agg V) (r:=strs ws) ahB zr hb (hf _) zk a ?_;refine mU [AV.str ov] (ws.map .str) .view (by simp[grow]) (by simp[strs]) gj cN hlen ?_;intro S' sd cz;simp[sd,cz,grow];refine oc b2 ?_;simp
def RM(hG:ar GI)(V:List AV)(ws:List (List UInt8))(hb:cW (.agg V)=false)(hf:∀H,fz H (.agg V)=.agg V)(a:AC prog GI 214 [.agg V] (.ret (strs ws)))(hl:ws.length<1000)(hr:(fQ oq ws).length<100000):AC prog GI 104 [.iface 150 (.agg V)] (.ret (.str (fQ oq ws))):=by
 have pn:=Ao hG;have b:=vf (GI:=GI) (oq::ws) [32] (by simp;omega) (by rw[iu];omega);rw[iu]at b;have b2:AC prog GI 121 [.slice .view (AV.str oq::ws.map AV.str),.str [32]] (.ret (.str (fQ oq ws))):=b;have cN:aG 1 [AV.str oq]=true:=rfl;have gj:aG 1 (ws.map AV.str)=true:=gr ws
 have hlen:1+(ws.map AV.str).length<1048576:=by simp;omega
 generalize fQ oq ws=r at*
 refine cw hG func104 ntmps104 c104 ?_;simp[c104];refine oc pn ?_;simp[cN];refine mW (t:=150) (v:=.agg V) (r:=strs ws) ahB zr hb (hf _) zk a ?_;refine mU [AV.str oq] (ws.map .str) .view (by simp[grow]) (by simp[strs]) gj cN hlen ?_;intro S' sd cz;simp[sd,cz,grow];refine oc b2 ?_;simp
def Sv(hG:ar GI)(V:List AV)(ws:List (List UInt8))(hb:cW (.agg V)=false)(hf:∀H,fz H (.agg V)=.agg V)(a:AC prog GI 215 [.agg V] (.ret (strs ws)))(hl:ws.length<1000)(hr:(fQ ou ws).length<100000):AC prog GI 104 [.iface 153 (.agg V)] (.ret (.str (fQ ou ws))):=by
 have pn:=Ao hG;have b:=vf (GI:=GI) (ou::ws) [32] (by simp;omega) (by rw[iu];omega);rw[iu]at b;have b2:AC prog GI 121 [.slice .view (AV.str ou::ws.map AV.str),.str [32]] (.ret (.str (fQ ou ws))):=b;have cN:aG 1 [AV.str ou]=true:=rfl;have gj:aG 1 (ws.map AV.str)=true:=gr ws
 have hlen:1+(ws.map AV.str).length<1048576:=by simp;omega
 generalize fQ ou ws=r at*
 refine cw hG func104 ntmps104 c104 ?_;simp[c104];refine oc pn ?_;simp[cN];refine mW (t:=153) (v:=.agg V) (r:=strs ws) ahB zr hb (hf _) zk a ?_;refine mU [AV.str ou] (ws.map .str) .view (by simp[grow]) (by simp[strs]) gj cN hlen ?_;intro S' sd cz;simp[sd,cz,grow];refine oc b2 ?_;simp
def Sc(hG:ar GI)(V:List AV)(ws:List (List UInt8))(hb:cW (.agg V)=false)(hf:∀H,fz H (.agg V)=.agg V)(a:AC prog GI 216 [.agg V] (.ret (strs ws)))(hl:ws.length<1000)(hr:(fQ om ws).length<100000):AC prog GI 104 [.iface 155 (.agg V)] (.ret (.str (fQ om ws))):=by
 have pn:=Ao hG;have b:=vf (GI:=GI) (om::ws) [32] (by simp;omega) (by rw[iu];omega);rw[iu]at b;have b2:AC prog GI 121 [.slice .view (AV.str om::ws.map AV.str),.str [32]] (.ret (.str (fQ om ws))):=b;have cN:aG 1 [AV.str om]=true:=rfl;have gj:aG 1 (ws.map AV.str)=true:=gr ws
 have hlen:1+(ws.map AV.str).length<1048576:=by simp;omega
 generalize fQ om ws=r at*
 refine cw hG func104 ntmps104 c104 ?_;simp[c104];refine oc pn ?_;simp[cN];refine mW (t:=155) (v:=.agg V) (r:=strs ws) ahB zr hb (hf _) zk a ?_;refine mU [AV.str om] (ws.map .str) .view (by simp[grow]) (by simp[strs]) gj cN hlen ?_;intro S' sd cz;simp[sd,cz,grow];refine oc b2 ?_;simp
def U9(hG:ar GI)(V:List AV)(ws:List (List UInt8))(hb:cW (.agg V)=false)(hf:∀H,fz H (.agg V)=.agg V)(a:AC prog GI 217 [.agg V] (.ret (strs ws)))(hl:ws.length<1000)(hr:(fQ oP ws).length<100000):AC prog GI 104 [.iface 157 (.agg V)] (.ret (.str (fQ oP ws))):=by
 have pn:=Ao hG;have b:=vf (GI:=GI) (oP::ws) [32] (by simp;omega) (by rw[iu];omega);rw[iu]at b;have b2:AC prog GI 121 [.slice .view (AV.str oP::ws.map AV.str),.str [32]] (.ret (.str (fQ oP ws))):=b;have cN:aG 1 [AV.str oP]=true:=rfl;have gj:aG 1 (ws.map AV.str)=true:=gr ws
 have hlen:1+(ws.map AV.str).length<1048576:=by simp;omega
 generalize fQ oP ws=r at*
 refine cw hG func104 ntmps104 c104 ?_;simp[c104];refine oc pn ?_;simp[cN];refine mW (t:=157) (v:=.agg V) (r:=strs ws) ahB zr hb (hf _) zk a ?_;refine mU [AV.str oP] (ws.map .str) .view (by simp[grow]) (by simp[strs]) gj cN hlen ?_;intro S' sd cz;simp[sd,cz,grow];refine oc b2 ?_;simp
end Go.Proofs.Tryz
namespace Go.Proofs.Tryz
open Go Go.AL Go.RowKit Go.Proofs Go.Proofs.Tram
attribute [local simp] ez fF qt oH eM ea eb dG dH eU dI da gZ g_ aF aD ev aP.S aP.H bt au aW AL.start AV.cells AV.storable AV.ct bC cb dU cd HR.okB post cH db c_ AV.out AV.b_ cU d_ fz ia AV.vw cW vI int cy aN di dQ iC jw eP dW bD AV.aI AV.cI
variable{GI:World->Prop}
def xO(p:kM):List AV:=[.int .i64 p.l,.int .i64 p.r,.int .i64 p.lo,.int .i64 p.hi]
def xM(w:Word):List AV:=[vI w.aV,vI w.bZ,.bool w.free]
def zP(s:aJ):List (Nat×List AV×List UInt8):=[(149,ai s,gB s),(150,ai s,jj s)]++(s.aM.map (λn=>(153,[AV.int .i64 n],jm n))++(s.aL.map (λp=>(155,xO p,me p))++s.words.map (λw=>(157,xM w,lv w))))
def nV(p:kM):Nat×List AV×List UInt8:=(155,xO p,me p)
def n_(w:Word):Nat×List AV×List UInt8:=(157,xM w,lv w)
def ib(q:Nat×List AV×List UInt8):AV:=.iface q.1 (.agg q.2.1)
def BY(s:aJ):(zP s).map (·.2.2)=eE s:=by
 unfold zP eE;simp[Function.comp_def]
def Om(hG:ar GI)(hT:TB GI)(s:aJ)(hN:qH s)(hf:O1 s):∀q∈zP s,AC prog GI 104 [ib q] (.ret (.str q.2.2)):=by
 have nt:=tx hN hf;rw[<-BY]at nt;intro q hq;have hl:=nt q.2.2 (afM hq);unfold zP at hq;simp only[ad_,adG,adZ,aey,agz]at hq
 rcases hq with(rfl|rfl)|⟨n,hn,rfl⟩|⟨p,hp,rfl⟩|⟨w,hw,rfl⟩
 .exact RU hG (ai s) ([s.wide,s.rows].map aY) rfl (λ_=>rfl) (aar hG hT s hN) ahB (agk hl zo)
 .exact RM hG (ai s) ([s.gk,s.gl,s.js,s.jr,s.ck].map aY) rfl (λ_=>rfl) (YG hG hT s hN) ahB (agk hl zo)
 .exact Sv hG [.int .i64 n] ([n].map aY) rfl (λ_=>rfl) (XX hG hT n (hN.aM n hn)) ahB (agk hl zo)
 .obtain⟨h1,h2,h3,h4⟩:=hN.aL p hp;exact Sc hG (xO p) ([p.l,p.r,p.lo,p.hi].map aY) rfl (λ_=>rfl) (YO hG hT p h1 h2 h3 h4) ahB (agk hl zo)
 .obtain⟨h1,h2⟩:=hN.words w hw;exact U9 hG (xM w) [jb w.free,gG w.aV,gG w.bZ] rfl (λ_=>rfl) (ZZ hG hT w h1 h2 (hf.aV w hw) (hf.bZ w hw)) ahB (agk hl zo)
def HV(l:List (Nat×List AV×List UInt8)):aG 1 (l.map ib)=true:=iE λa=>⟨rfl,rfl⟩
def Xf(hG:ar GI)(hT:TB GI)(s:aJ)(hN:qH s)(hf:O1 s):AC prog GI 45 [cE s] (.ret (.str (fS s))):=by
 have q1:=hf.aM;have q2:=hf.aL;have q3:=hf.words;have RS:=Om hG hT s hN hf;have xA:=BY s;have nt:=tx hN hf
 have uH:(eE s).length<1000:=by unfold eE;simp;omega
 have VG:fS s=AQ (eE s):=rfl;rw[VG]
 generalize hR:zP s=R at*
 refine cw hG func45 ntmps45 c45 ?_;refine aK (λS H=>S 1=.box 1 0/\H 1=some (ai s)/\S 2=.str []) (by simp[ah,ae,cE,ai]) ?_;rintro S H ⟨s1,e1,s2⟩;refine aK (λS H=>S 1=.box 1 0/\H 1=some (ai s)/\S 3=grow 159 ([(149,ai s,gB s),(150,ai s,jj s)].map ib)) ?_ ?_
 .have bV:∀a b:List AV,aG 1 [AV.iface 149 (.agg a),AV.iface 150 (.agg b)]=true:=λ_ _=>rfl
  simp[ah,ae,s1,e1,ai,bH,bV,grow,ib]
 clear s1 e1 s2 S H;rintro S H ⟨s1,e1,s3⟩;refine aK (λS H=>S 1=.box 1 0/\H 1=some (ai s)/\S 3=grow 159 (([(149,ai s,gB s),(150,ai s,jj s)]++s.aM.map (λn=>(153,[AV.int .i64 n],jm n))).map ib)) ?_ ?_
 .simp[ah,ae,s1,e1,s3];refine bz 26 s.aM.length (λi S H=>S 1=.box 1 0/\H 1=some (ai s)/\S 24=vI s.aM/\S 25=.int .i64 (s.aM.length:Nat)/\S 26=.int .i64 (i:Nat)/\S 3=grow 159 (([(149,ai s,gB s),(150,ai s,jj s)]++(s.aM.take i).map (λn=>(153,[AV.int .i64 n],jm n))).map ib)) (λi S H h=>h.2.2.2.2.1) ⟨by simp[ah,ae,s1],by simp[ah,ae,e1],by simp[ah,ae,ai,s1,e1],by simp[ah,ae,ai,s1,e1],by simp[ah,ae],by simp[ah,ae,s3,grow]⟩ ?_;clear s1 e1 s3 S H;rintro i hi S H ⟨s1,e1,rM,fC,gO,s3⟩
  by_cases aq:i<s.aM.length
  case neg=>
   have dk:i=s.aM.length:=zo
   subst dk;rw[adI (adF _)]at s3;simp[ah,ae,s1,e1,rM,fC,gO,s3]
  have hw:IntKind.i64.wrap ((i:Int)+1)=i+1:=aQ zo
  have ht:[(149,ai s,gB s),(150,ai s,jj s)]++(s.aM.take (i+1)).map (λn=>(153,[AV.int .i64 n],jm n))=([(149,ai s,gB s),(150,ai s,jj s)]++(s.aM.take i).map (λn=>(153,[AV.int .i64 n],jm n)))++[(153,[AV.int .i64 s.aM[i]],jm s.aM[i])]:=by
   rw[adJ aq,ad6,aek];rfl
  have hlen:([(149,ai s,gB s),(150,ai s,jj s)]++(s.aM.take i).map (λn=>(153,[AV.int .i64 n],jm n))).length<=2000:=by simp;omega
  rw[ht]
  generalize[(149,ai s,gB s),(150,ai s,jj s)]++(s.aM.take i).map (λn=>(153,[AV.int .i64 n],jm n))=B at*
  have cN:aG 1 [AV.iface 153 (.agg [.int .i64 s.aM[i]])]=true:=rfl;simp[s1,e1,rM,fC,gO,s3,aq,bH,cN];refine iy (B.map ib) (.iface 153 (.agg [.int .i64 s.aM[i]])) (.own 159) (by simp[s3,grow]) ahB cN (HV B) (by rw[adH];omega) ?_;intro S' sd cz;simp[sd,cz,s1,e1,rM,fC,gO,aq,hw,grow,ib]
 clear s1 e1 s3 S H;rintro S H ⟨s1,e1,s3⟩;generalize hA:[(149,ai s,gB s),(150,ai s,jj s)]++s.aM.map (λn=>(153,[AV.int .i64 n],jm n))=A at s3
 have hAl:A.length<=302:=by rw[<-hA];simp;omega
 refine aK (λS H=>S 1=.box 1 0/\H 1=some (ai s)/\S 3=grow 159 ((A++s.aL.map nV).map ib)) ?_ ?_
 .simp[ah,ae,s1,e1,s3];refine bz 40 s.aL.length (λi S H=>S 1=.box 1 0/\H 1=some (ai s)/\S 38=.slice .view (s.aL.map dP)/\S 39=.int .i64 (s.aL.length:Nat)/\S 40=.int .i64 (i:Nat)/\S 3=grow 159 ((A++(s.aL.take i).map nV).map ib)) (λi S H h=>h.2.2.2.2.1) ⟨by simp[ah,ae,s1],by simp[ah,ae,e1],by simp[ah,ae,ai,s1,e1],by simp[ah,ae,ai,s1,e1],by simp[ah,ae],by simp[ah,ae,s3,grow]⟩ ?_;clear s1 e1 s3 S H;rintro i hi S H ⟨s1,e1,VY,E9,N3,s3⟩
  by_cases aq:i<s.aL.length
  case neg=>
   have dk:i=s.aL.length:=zo
   subst dk;rw[adI (adF _)]at s3;simp[ah,ae,s1,e1,VY,E9,N3,s3]
  have hw:IntKind.i64.wrap ((i:Int)+1)=i+1:=aQ zo
  have ht:A++(s.aL.take (i+1)).map nV=(A++(s.aL.take i).map nV)++[nV s.aL[i]]:=by
   rw[adJ aq,ad6,aek];rfl
  have hlen:(A++(s.aL.take i).map nV).length<=2000:=by simp;omega
  rw[ht]
  generalize A++(s.aL.take i).map nV=B at*
  have cN:aG 1 [ib (nV s.aL[i])]=true:=rfl;simp[s1,e1,VY,E9,N3,s3,aq,bH,nV,xO,dP]
  try simp only[nV,xO,dP,ib]at cN
  try simp[s1,e1,VY,E9,N3,s3,aq,bH,cN]
  refine iy (B.map ib) (ib (nV s.aL[i])) (.own 159) (by simp[s3,grow]) (by simp[ib,nV,xO,dP]) rfl (HV B) (by rw[adH];omega) ?_;intro S' sd cz;simp[sd,cz,s1,e1,VY,E9,N3,aq,hw,grow,ib,nV,xO,dP]
 clear s1 e1 s3 S H;rintro S H ⟨s1,e1,s3⟩;generalize hC:A++s.aL.map nV=C at s3
 have hCl:C.length<=602:=by rw[<-hC];simp;omega
 refine aK (λS H=>S 1=.box 1 0/\H 1=some (ai s)/\S 3=grow 159 ((C++s.words.map n_).map ib)) ?_ ?_
 .simp[ah,ae,s1,e1,s3];refine bz 54 s.words.length (λi S H=>S 1=.box 1 0/\H 1=some (ai s)/\S 52=.slice .view (s.words.map cG)/\S 53=.int .i64 (s.words.length:Nat)/\S 54=.int .i64 (i:Nat)/\S 3=grow 159 ((C++(s.words.take i).map n_).map ib)) (λi S H h=>h.2.2.2.2.1) ⟨by simp[ah,ae,s1],by simp[ah,ae,e1],by simp[ah,ae,ai,s1,e1],by simp[ah,ae,ai,s1,e1],by simp[ah,ae],by simp[ah,ae,s3,grow]⟩ ?_;clear s1 e1 s3 S H;rintro i hi S H ⟨s1,e1,Ej,Wy,V2,s3⟩
  by_cases aq:i<s.words.length
  case neg=>
   have dk:i=s.words.length:=zo
   subst dk;rw[adI (adF _)]at s3;simp[ah,ae,s1,e1,Ej,Wy,V2,s3]
  have hw:IntKind.i64.wrap ((i:Int)+1)=i+1:=aQ zo
  have ht:C++(s.words.take (i+1)).map n_=(C++(s.words.take i).map n_)++[n_ s.words[i]]:=by
   rw[adJ aq,ad6,aek];rfl
  have hlen:(C++(s.words.take i).map n_).length<=2000:=by simp;omega
  rw[ht]
  generalize C++(s.words.take i).map n_=B at*
  have cN:aG 1 [ib (n_ s.words[i])]=true:=rfl;simp[s1,e1,Ej,Wy,V2,s3,aq,bH,n_,xM,cG]
  try simp only[n_,xM,cG,ib]at cN
  try simp[s1,e1,Ej,Wy,V2,s3,aq,bH,cN]
  refine iy (B.map ib) (ib (n_ s.words[i])) (.own 159) (by simp[s3,grow]) (by simp[ib,n_,xM,cG]) rfl (HV B) (by rw[adH];omega) ?_;intro S' sd cz;simp[sd,cz,s1,e1,Ej,Wy,V2,aq,hw,grow,ib,n_,xM,cG]
 clear s1 e1 s3 S H;rintro S H ⟨s1,e1,s3⟩
 have XU:C++s.words.map n_=R:=by
  rw[<-hC,<-hA,<-hR];unfold zP;simp
  try rfl
 rw[XU]at s3;clear s1 e1
 have Oh:R≠[]:=by rw[<-XU];intro h;rw[<-hC,<-hA]at h;simp at h
 have YC:R.length=(eE s).length:=by rw[<-xA];simp
 have zp:∀i (h:i<R.length)(h':i<(eE s).length),R[i].2.2=(eE s)[i]:=by
  intro i h h'
  have:(R.map (·.2.2))[i]'(by simpa using h)=(eE s)[i]:=by simp only[xA]
  simpa using this
 clear hA hC XU hR hAl hCl hN hf q1 q2 q3 xA
 generalize eE s=l at*
 rw[BC]
 have oG:∀i,(dF (l.take i)).length<=10000*1000:=λi=>by
  have:=td (l:=l.take i) (b:=10000) λx hx=>nt x (aef hx)
  have h2:10000*(l.take i).length<=10000*1000:=afN _ (by rw[adS];omega);omega
 have jJ:∀i,0<=bo 0 (l.take i)/\bo 0 (l.take i)<=25500000000000000:=λi=>by
  have:=mA (l.take i) 0 (by rw[adS];omega) λx hx=>by have:=nt x (aef hx);omega
  rw[adS]at this;omega
 refine aK (λS H=>S 3=grow 159 (R.map ib)/\S 10=.str []/\S 11=.int .i64 0) (by simp[ah,ae,s3]) ?_;clear s3 S H;rintro S H ⟨s3,bJ,bG⟩;refine aK (λS H=>S 10=.str (dF l)/\S 11=.int .i64 (bo 0 l)) ?_ ?_
 .simp[ah,ae,s3,bJ,bG,grow,Oh];refine bz 67 l.length (λi S H=>S 65=.slice .view (R.map ib)/\S 66=.int .i64 (l.length:Nat)/\S 67=.int .i64 (i:Nat)/\S 10=.str (dF (l.take i))/\S 11=.int .i64 (bo 0 (l.take i))) (λi S H h=>h.2.2.1) ⟨by simp[ah,ae,s3,grow,Oh],by simp[ah,ae,s3,grow,Oh,YC],by simp[ah,ae],by simp[ah,ae,bJ,dF],by simp[ah,ae,bG,bo]⟩ ?_;clear s3 bJ bG S H;rintro i hi S H ⟨pj,nY,ox,bJ,bG⟩
  by_cases aq:i<l.length
  case neg=>
   have dk:i=l.length:=zo
   subst dk;rw[adI (adF _)]at bJ bG;simp[ah,ae,pj,nY,ox,bJ,bG]
  have CX:i<R.length:=zo
  have hw:IntKind.i64.wrap ((i:Int)+1)=i+1:=aQ zo;have hp:=nt _ (adC aq);have hf:=oG i;have hc:=jJ i;have a156:=RS _ (adC CX);rw[zp i CX aq]at a156;have a2:AC prog GI 104 [.iface R[i].1 (.agg R[i].2.1)] (.ret (.str l[i])):=a156;have vJ:dF (l.take (i+1))=dF (l.take i)++l[i]++[10]:=rp aq;have ve:=pX aq
  have CA:∀k,0<=cP 0 (l[i].take k)/\cP 0 (l[i].take k)<=25500000000:=λk=>by
   have:=lY (l[i].take k) 0 (by rw[adS];omega);rw[adS]at this;omega
  rw[vJ,ve];clear vJ ve a156
  generalize dF (l.take i)=F at*
  generalize bo 0 (l.take i)=c at*
  generalize vj:l[i]=p at*
  refine aK (λS H=>S 65=.slice .view (R.map ib)/\S 66=.int .i64 (l.length:Nat)/\S 67=.int .i64 (i:Nat)/\S 10=.str F/\S 11=.int .i64 c/\S 68=.bool true) (by simp[ah,ae,pj,nY,ox,bJ,bG,aq]) ?_;clear pj nY ox bJ bG S H;rintro S H ⟨pj,nY,ox,bJ,bG,s68⟩;refine aK (λS H=>S 65=.slice .view (R.map ib)/\S 66=.int .i64 (l.length:Nat)/\S 67=.int .i64 (i:Nat)/\S 10=.str F/\S 11=.int .i64 c) (by simp[ah,ae,pj,nY,ox,bJ,bG,s68]) ?_;clear pj nY ox bJ bG s68 S H;rintro S H ⟨pj,nY,ox,bJ,bG⟩;refine aK (λS H=>S 65=.slice .view (R.map ib)/\S 66=.int .i64 (l.length:Nat)/\S 67=.int .i64 (i:Nat)/\S 10=.str (F++p++[10])/\S 11=.int .i64 (c+cP 0 p*(i+1))) ?_ ?_
  .refine mz ?_;refine aK (λS H=>S 65=.slice .view (R.map ib)/\S 66=.int .i64 (l.length:Nat)/\S 67=.int .i64 (i:Nat)/\S 12=.int .i64 (i:Nat)/\S 13=.iface R[i].1 (.agg R[i].2.1)/\S 10=.str F/\S 11=.int .i64 c) (by simp[ah,ae,pj,nY,ox,bJ,bG,CX,ib]) ?_;clear pj nY ox bJ bG S H;rintro S H ⟨pj,nY,ox,cM,dM,bJ,bG⟩;refine aK (λS H=>S 65=.slice .view (R.map ib)/\S 66=.int .i64 (l.length:Nat)/\S 67=.int .i64 (i:Nat)/\S 12=.int .i64 (i:Nat)/\S 14=.str p/\S 10=.str F/\S 11=.int .i64 c) ?_ ?_
   .simp[ah,ae,pj,nY,ox,bJ,bG,cM,dM];refine oc a2 ?_;simp[ah,ae,pj,nY,ox,bJ,bG,cM,dM]
   clear pj nY ox bJ bG cM dM S H;rintro S H ⟨pj,nY,ox,cM,eg,bJ,bG⟩;refine aK (λS H=>S 65=.slice .view (R.map ib)/\S 66=.int .i64 (l.length:Nat)/\S 67=.int .i64 (i:Nat)/\S 14=.str p/\S 10=.str F/\S 11=.int .i64 (c+cP 0 p*(i+1))) ?_ ?_
   .simp[ah,ae,pj,nY,ox,cM,eg,bJ,bG];refine bz 76 p.length (λk S H=>S 65=.slice .view (R.map ib)/\S 66=.int .i64 (l.length:Nat)/\S 67=.int .i64 (i:Nat)/\S 12=.int .i64 (i:Nat)/\S 14=.str p/\S 10=.str F/\S 75=.int .i64 (p.length:Nat)/\S 76=.int .i64 (k:Nat)/\S 11=.int .i64 (c+cP 0 (p.take k)*(i+1))) (λi S H h=>h.2.2.2.2.2.2.2.1) ⟨by simp[ah,ae,pj],by simp[ah,ae,nY],by simp[ah,ae,ox],by simp[ah,ae,cM],by simp[ah,ae,eg],by simp[ah,ae,bJ],by simp[ah,ae,eg],by simp[ah,ae],by simp[ah,ae,bG,cP]⟩ ?_;clear pj nY ox cM eg bJ bG S H;rintro k hk S H ⟨pj,nY,ox,cM,eg,bJ,s75,VN,bG⟩
    by_cases gE:k<p.length
    case neg=>
     have cz:k=p.length:=zo
     subst cz;rw[adI (adF _)]at bG;simp[ah,ae,pj,nY,ox,cM,eg,bJ,s75,VN,bG]
    have sh:IntKind.i64.wrap ((k:Int)+1)=k+1:=aQ zo;have nN:=CA k;have E1:=sL p[k];rw[rq gE]
    generalize cP 0 (p.take k)=u at*
    generalize OJ:p[k].toNat=y at*
    have ZD:p[k]?=some p[k]:=adB gE;have m1:(y:Int)*(k+1)<=255*10000:=aex zo zo zo zo;have m0:0<=(y:Int)*(k+1):=aes zo zo;have m2:(y:Int)*(k+1)*(i+1)<=2550000*1000:=aex zo zo zo zo;have m3:0<=(y:Int)*(k+1)*(i+1):=aes zo zo;have m4:u*(i+1)<=25500000000*1000:=aex zo zo zo zo;have m5:0<=u*(i+1):=aes zo zo;have w0:IntKind.i64.wrap (y:Int)=y:=aQ zo;have w1:IntKind.i64.wrap ((y:Int)*(k+1))=(y:Int)*(k+1):=aQ zo;have w2:IntKind.i64.wrap ((y:Int)*(k+1)*(i+1))=(y:Int)*(k+1)*(i+1):=aQ zo
    have w3:IntKind.i64.wrap (c+u*(i+1)+(y:Int)*(k+1)*(i+1))=c+(u+(y:Int)*(k+1))*(i+1):=by
     rw[aQ zo,agW];omega
    simp[ah,ae,pj,nY,ox,cM,eg,bJ,s75,VN,bG,gE,OJ,w0,w1,w2,w3,hw,sh]
   clear pj nY ox cM eg bJ bG S H;rintro S H ⟨pj,nY,ox,eg,bJ,bG⟩
   have b0:p.length+1<1073741824:=zo
   have b1:F.length+p.length<1073741824:=zo
   have b2:F.length+p.length+1<1073741824:=zo
   have b3:F.length+(p.length+1)<1073741824:=zo
   simp[ah,ae,pj,nY,ox,eg,bJ,bG,b0,b1,b2,b3]
  clear pj nY ox bJ bG S H;rintro S H ⟨pj,nY,ox,bJ,bG⟩;simp[ah,ae,pj,nY,ox,bJ,bG,hw,aq]
 clear s3 bJ bG S H;rintro S H ⟨bJ,bG⟩;have hf:=oG l.length;have hc:=jJ l.length;rw[adI (adF _)]at hf hc
 generalize dF l=F at*
 obtain⟨c,MP⟩:∃c:Nat,bo 0 l=c:=⟨(bo 0 l).toNat,zo⟩
 rw[MP]at bG⊢
 have hm:(c:Int).tmod 173=((c % 173:Nat):Int):=by rw[aen zo];omega
 have uD:(c:Int) % 173=((c % 173:Nat):Int):=zo
 have Sx:c % 173<173:=af3 _ zo;rw[uD]
 generalize c % 173=r at*
 have n1:fg ((r:Int)/100):=⟨zo,zo⟩
 have n2:fg ((r:Int)/10 % 10):=⟨zo,zo⟩
 have n3:fg ((r:Int) % 10):=⟨zo,zo⟩
 have q1:IntKind.i64.wrap ((r:Int)/100)=(r:Int)/100:=aQ zo;have q2:IntKind.i64.wrap ((r:Int)/10)=(r:Int)/10:=aQ zo;have t1:(r:Int).tdiv 100=(r:Int)/100:=aev zo;have t2:(r:Int).tdiv 10=(r:Int)/10:=aev zo;have t3:((r:Int)/10).tmod 10=(r:Int)/10 % 10:=aen zo;have t4:(r:Int).tmod 10=(r:Int) % 10:=aen zo;have a1:=CW hT n1;have a2:=CW hT n2;have a3:=CW hT n3;have d1:=(eB n1).1;have d2:=(eB n2).1;have d3:=(eB n3).1;have hE:eC (r:Int)=[101,110,100,32]++aY ((r:Int)/100)++aY ((r:Int)/10 % 10)++aY ((r:Int) % 10):=rfl;rw[hE]
 generalize aY ((r:Int)/100)=u at*
 generalize aY ((r:Int)/10 % 10)=v at*
 generalize aY ((r:Int) % 10)=w at*
 have e1:F.length+(u.length+1+1+1+1)+v.length<1073741824:=zo
 have e2:F.length+(u.length+v.length+1+1+1+1)+w.length<1073741824:=zo
 have e3:F.length+(u.length+(v.length+w.length)+1+1+1+1)+1<1073741824:=zo
 have e4:F.length+(u.length+v.length+w.length+1+1+1+1)+1<1073741824:=zo
 have b1:F.length+4<1073741824:=zo
 have b2:F.length+(u.length+4)<1073741824:=zo
 have b3:F.length+(v.length+u.length+4)<1073741824:=zo
 have b4:F.length+4+u.length<1073741824:=zo
 have b5:F.length+4+u.length+v.length<1073741824:=zo
 have b6:F.length+4+u.length+v.length+w.length<1073741824:=zo
 have b7:F.length+4+u.length+v.length+w.length+1<1073741824:=zo
 refine aK (λS H=>S 10=.str F/\S 11=.int .i64 r) (by simp[ah,ae,bJ,bG,hm]) ?_;clear bJ bG S H;rintro S H ⟨bJ,bG⟩;simp[ah,ae,bJ,bG,q1,q2,t1,t2,t3,t4,b1];refine oc a1 ?_;simp[ah,ae,bJ,bG,q1,q2,t1,t2,t3,t4,b1,b4];refine oc a2 ?_;simp[ah,ae,bJ,bG,q1,q2,t1,t2,t3,t4,b1,b4,b5,e1];refine oc a3 ?_;simp[ah,ae,bJ,bG,q1,q2,t1,t2,t3,t4,b1,b4,b5,e1,e2,e3,e4]
end Go.Proofs.Tryz
namespace Go.AL
open Go.RowKit
section
variable{P:Program}{a:Act}{w:World}
def w_{s:ByteArray}{pos:Nat}(h:pos<s.size)(hr:(Utf8.decode s pos).1<128):(Utf8.decode s pos).1=(s[pos]'h).toNat:=by
 by_cases ha:(s[pos]'h).toNat<128
 .rw[ahO s pos h ha]
 .exfalso
  have e:s.get! (pos+0)=s[pos]'h:=by
   show s.get! pos=_;simp[ByteArray.get!,getElem!_pos,h]
   try rfl
  simp only[Utf8.decode,e,ha,ad1]at hr;revert hr
  (repeat' split)<;>simp only[Utf8.runeError,Nat.not_lt]<;>rename_i hh<;>try omega
  all_goals (try simp only[adE,adL]at hh;try omega)
def D9 {o:Oper} {x:Operand} {b:Nat} {s:ByteArray} {pos r p':Nat} (ho:o.op = .next x true) (hx:a.eval x = .pointer (some ⟨b,0,none⟩)) (hb:w.heap[b]? = some (.stringIter s pos)) (h:pos < s.size) (hr:(Utf8.decode s pos).1=r) (hp:pos+(Utf8.decode s pos).2=p') :
  (execOp a.eval o).run P w=.ok (.value (.tuple #[.bool true,.int .i64 pos,.int .i32 r])) (w.putObj b (.stringIter s p')):=by
 unfold execOp;simp only[ho,hx,Instr.next,getObj,setObj,adK,Sem.run,hb,Result.andThen,h,aed]
 generalize hd:Utf8.decode s pos=d at*
 obtain⟨d1,d2⟩:=d;simp only at hr hp;subst hr;subst hp;simp[goInt,Sem.run,World.putObj]
end
end Go.AL
namespace Go.Proofs.Tryz
open Go Go.AL Go.RowKit Go.Proofs Go.Proofs.Tram
attribute [local simp] ez fF fo eN eM ea eb dG dH eU dI da gZ g_ aF aD ev aP.S aP.H bt au aW AL.start AV.cells AV.storable AV.ct bC cb dU cd HR.okB post cH db c_ AV.out AV.b_ cU d_ fz ia AV.vw cW vI int cy aN di dQ iC jw eP dW bD AV.aI AV.cI
variable{GI:World->Prop}
def O9{s:aJ}(hs:qI s)(h:bj s=true):O1 s:=by
 unfold bj df at h;simp only[adE,adL]at h;obtain⟨⟨⟨⟨⟨h1,h2⟩,h3⟩,h4,h5⟩,_⟩,_⟩:=h;exact⟨zo,zo,zo,hs.aV,hs.bZ⟩
def UO(hG:ar GI)(hT:TB GI)(s:aJ)(hs:qI s)(h:bj s=true):AC prog GI 11 [cE s] (.ret (.dY [.str (fS s),.int .i64 0])):=by
 have a:=Gn hG s hs;rw[h]at a;have b:=Xf hG hT s (ru h) (O9 hs h)
 generalize fS s=t at*
 refine cw hG func11 ntmps11 c11 ?_;refine aK (λS H=>S 1=.box 1 0/\H 1=some (ai s)) (by simp[cE,ai]) ?_;rintro S H ⟨s1,e1⟩;simp[s1,e1,ai];refine⟨_,zk,a,λ_=>rfl,?_⟩;simp[s1,e1,ai];refine oc b ?_;simp
def pT(e:List UInt8):AV:=.iface 192 (.agg [.str e])
def nG:Except (List UInt8) (List Int)->iK
 |.ok l=>.ret (.slice (if l.isEmpty then .nil else .view) (ints l))
 |.error e=>.panic (pT e)
def A9:∀{ws:List (List UInt8)}{j:Nat}(h:j<ws.length),(ws.take j).all jq=true->jq ws[j]=false->fj ws=.error ws[j]
 |[],j,h,_,_=>by simp at h
 |w::ws,0,_,_,hb=>by
  unfold fj;rw[if_neg (by rw[show(w::ws)[0]=w from rfl]at hb;rw[hb];simp)];rfl
 |w::ws,j+1,h,ha,hb=>by
  rw[List.take_succ_cons,List.all_cons,adE]at ha;unfold fj;rw[if_pos ha.1,A9 (by simpa using h) ha.2 (by simpa using hb)];rfl
def VF (hG:ar GI) {ws:List (List UInt8)} (hlen:ws.length≤100000) (hI:∀ w∈ws,w.length≤3→(∀ c∈w,digit c)→AC prog GI 79 [.int .i64 (dq w)] (.ret (.str (aY (dq w))))) :
  AC prog GI 131 [strs ws] (nG (fj ws)):=by
 refine AC.ji func131 rfl ntmps131 ahB λcc w=>?_
 refine dT hG c131.qa (λS' H'=>S' 0=strs ws) ?_ ?_
 .simp[c131,af.qa,bB,bq,aF,ba,aD,ev,aP.S,aP.H,au,aW,AL.start,AV.aI,strs,bt,aN]
 rintro S1 H1 s0;refine dT hG c131.qb.qa (λS' H'=>S' 0=strs ws/\S' 3=x_ []) ?_ ?_
 .simp[c131,af.qa,af.qb,bB,bq,aF,ba,aD,ev,aP.S,aP.H,au,aW,s0,bt,aN,x_,ints]
 rintro S2 H2 ⟨s0,s3⟩;show SW prog GI 55 none (.seq (.seq _ (.block 0 (.loop _))) (.seq _ .ret)) _ _ _ _;refine SW.seq (dT hG c131.qb.qb.qa.qa (iS ws 0) ?_ ?_)
 .simp[c131,af.qa,af.qb,bB,bq,aF,ba,aD,ev,aP.S,aP.H,au,aW,s0,s3,iS,strs,AV.aI,aN]
 intro S3 H3 hF;refine SW.block (SW.loop (λo S' H'=>∃k j,o=oK cc w k/\j<=ws.length/\(ws.take j).all jq=true/\iS ws j S' H') (λS' _=>match S' 11 with|.int _ j=>ws.length-j.toNat|_=>0) ⟨_,0,rfl,aeu _,rfl,hF⟩ ?_);rintro o S4 H4 ⟨kk,j,rfl,hj,eH,hF⟩;have m11:S4 11=.int .i64 (j:Nat):=hF.2.2.2
 have bK:∀k d,¬(oK cc w k).bx d:=λ_ _ h=>h
 show SW prog GI 55 none (.seq _ (.seq (.cond _ _ _) (.seq (.block 1 (.seq _ (.seq _ (.seq (.seq _ (.block 2 (.loop _))) (.seq _ _))))) _))) _ _ _ _;refine dT hG fE.qa (λS' H'=>S' 12=.bool (decide (j<ws.length))/\iS ws j S' H') ?_ ?_
 .obtain⟨s3,s9,bJ,bG⟩:=hF;simp[c131,fE,af.qa,af.qb,bB,bq,aF,ba,aD,aN,ev,aP.S,aP.H,au,aW,iS,s3,s9,bJ,bG,dU]
 rintro S5 H5 ⟨cM,hF⟩
 by_cases aq:j<ws.length
 case neg=>
  refine SW.seq (SW.cond rfl false (by show S5 12=_;rw[cM];simp[aq]) (SW.exit ?_))
  have qP:j=ws.length:=zo
  subst qP;obtain⟨s3,s9,bJ,bG⟩:=hF;rw[aeW]at s3 eH;have ku:=Dz eH;rw[ku];show SW prog GI 55 none (.seq _ .ret) _ _ _ _;refine dT hG c131.qb.qb.qb.qa (λS' H'=>S' 2=.slice (if ws.isEmpty then .nil else .view) (ints (ws.map dq))) ?_ ?_
  .cases ws<;>simp[c131,af.qa,af.qb,bB,bq,aF,ba,aD,ev,aP.S,aP.H,au,aW,s3,x_,AV.aI,bt,aN]
  intro S7 H7 s2;refine SW.ret ⟨eo.plain rfl,rfl,_,?_,rfl⟩;show cH prog 55 [.tmp 2] S7 H7=_;simp[cH,db,c_,s2,AV.b_,AV.out]
 case pos=>
  refine SW.seq (SW.cond rfl true (by show S5 12=_;rw[cM];simp[aq]) (SW.skip ?_));show SW prog GI 55 none (.seq (.block 1 (.seq _ (.seq _ (.seq (.seq _ (.block 2 (.loop _))) (.seq _ _))))) _) _ _ _ _;have Gj:ws[j]∈ws:=adC aq
  obtain⟨wd,vt⟩:∃wd,ws[j]=wd:=⟨_,rfl⟩
  have Fp:=hI _ Gj;rw[vt]at Fp
  have yO:jq wd=false->fj ws=.error wd:=λh=>by rw[<-vt]at h⊢;exact A9 aq eH h
  refine SW.seq (SW.block (dT hG gV.qa (λS' H'=>S' 5=.str wd/\iS ws j S' H') ?_ ?_))
  .obtain⟨s3,s9,bJ,bG⟩:=hF;simp[c131,fE,gV,af.qa,af.qb,bB,bq,aF,ba,aD,aN,ev,aP.S,aP.H,au,aW,iS,s3,s9,bJ,bG,strs,aq,vt,cd,AV.cells,AV.aI,bt]
  rintro S6 H6 ⟨s5,hF⟩;refine dT hG gV.qb.qa (λS' H'=>S' 6=.int .i64 0/\S' 5=.str wd/\iS ws j S' H') ?_ ?_
  .obtain⟨s3,s9,bJ,bG⟩:=hF;simp[c131,fE,gV,af.qa,af.qb,bB,bq,aF,ba,aD,aN,ev,aP.S,aP.H,au,aW,iS,s3,s5,s9,bJ,bG,AV.aI,bt]
  rintro S7 H7 ⟨s6,s5,hF⟩
  obtain⟨sb,qW⟩:∃sb:ByteArray,sb=⟨wd.toArray⟩:=⟨_,rfl⟩
  refine SW.seq (SW.seq (SW.mid hG (p:=1) (oh:={ dst:=some 16,op := .range 9 (.tmp 15),type:=0,pos := "text.go:133",after:=_,guard:=none }) (jX:=[_]) (mw:=[]) (l2:=[]) rfl rfl rfl rfl zk rfl (bK _) (mS:=(gV.qb.qb.qa.qa.dl).take 1) (mf:=[]) zk rfl zk rfl
   (K1:=λS' H'=>S' 15=.str wd/\S' 6=.int .i64 0/\S' 5=.str wd/\iS ws j S' H')
   (K2:=λo S' H'=>∃k b,o=oK cc w k/\k b=some (.stringIter sb 0)/\S' 16=.val (.pointer (some ⟨b,0,none⟩))/\S' 6=.int .i64 0/\S' 5=.str wd/\iS ws j S' H')
   (K3:=λo S' H'=>∃k b,o=oK cc w k/\k b=some (.stringIter sb 0)/\S' 16=.val (.pointer (some ⟨b,0,none⟩))/\S' 6=.int .i64 0/\S' 5=.str wd/\iS ws j S' H') ?_ ?_ ?_ ?_))
  .obtain⟨s3,s9,bJ,bG⟩:=hF;simp[c131,fE,gV,af.qa,af.qb,af.dl,bq,aF,ba,aD,ev,aP.S,aP.H,au,aW,iS,s3,s5,s6,s9,bJ,bG,AV.aI]
  .rintro w0 g S8 H8 a w8 ho R ⟨km,s6,s5,s3,s9,bJ,bG⟩;have t15:=R.slot 15 zd (λh=>h);rw[km]at t15
   have t15:a.eval (.tmp 15)=.string sb:=by rw[qW];exact nP t15
   have fB:prog.underlying 9=some .string:=zk
   have R2:=R.nF (.stringIter sb 0);refine⟨_,_,_,au S8 16 (.val (.pointer (some ⟨w8.heap.size,0,none⟩))),H8,.inl (B4 rfl fB t15),R2.put 16 _ _ zd (.data _ _ (.val _ rfl)) trivial,au g.old.aU w8.heap.size (some (.stringIter sb 0)),w8.heap.size,?_,aO _ _ _,by simp[au],by simp[au,s6],by simp[au,s5],by simp[au,s3],by simp[au,s9],by simp[au,bJ],by simp[au,bG]⟩;show({ g.old with aU:=au g.old.aU w8.heap.size _ }:Old)=_;rw[ho];rfl
  .rintro o S8 H8 ⟨k,b,rfl,h⟩;exact⟨bK _,k,b,rfl,h⟩
  .rintro o S8 H8 ⟨k,b,rfl,zX,fR,s6,s5,hF⟩
   refine SW.block (SW.SK (λo S' H'=>∃k b pos,o=oK cc w k/\k b=some (.stringIter sb pos)/\pos<=wd.length/\(∀c∈wd.take pos,digit c)/\(0<pos->wd.length<=3)/\S' 16=.val (.pointer (some ⟨b,0,none⟩))/\S' 6=.int .i64 (dq (wd.take pos))/\S' 5=.str wd/\iS ws j S' H')
    (λo S' _=>match S' 16 with|.val (.pointer (some a))=>(match o.aU a.block with|some (.stringIter _ p)=>wd.length-p|_=>0)|_=>0) ⟨k,b,0,rfl,zX,aeu _,ahB,ahB,fR,s6,s5,hF⟩ ?_)
   rintro o S9 H9 ⟨k,b,pos,rfl,zX,iJ,Eg,wK,fR,s6,s5,hF⟩;have m16:=fR
   have U8:∀(S:an)(k:Nat->Option Obj) p,S 16=.val (.pointer (some ⟨b,0,none⟩))->k b=some (.stringIter sb p)->(match S 16 with|.val (.pointer (some a))=>(match(oK cc w k).aU a.block with|some (.stringIter _ p)=>wd.length-p|_=>0)|_=>0)=wd.length-p:=by
    intro S k p h1 h2;rw[h1];show(match k b with|some (.stringIter _ p)=>wd.length-p|_=>0)=_;rw[h2]
   have bl:sb.size=wd.length:=by rw[qW];rfl
   show SW prog GI 55 none (.seq _ (.seq (.cond _ _ _) (.block 3 (.seq _ (.seq _ _))))) _ _ _ _
   by_cases hp:pos<wd.length
   case neg=>
    refine SW.seq (SW.mid hG (p:=0) (oh:={ dst:=some 17,op := .next (.tmp 16) true,type:=0,pos := "text.go:133",after := #[],guard:=none }) (jX:=[]) (mw:=[_]) (l2:=[1]) rfl rfl rfl rfl zk rfl (bK _) (mS:=[]) (mf:=(kU.qa.dl).drop 1) rfl zk rfl zk
     (K1:=λS' H'=>S' 16=.val (.pointer (some ⟨b,0,none⟩))/\S' 6=.int .i64 (dq wd)/\S' 5=.str wd/\iS ws j S' H')
     (K2:=λo S' H'=>o=oK cc w k/\S' 17=.dY [.bool false]/\S' 6=.int .i64 (dq wd)/\S' 5=.str wd/\iS ws j S' H')
     (K3:=λo S' H'=>o=oK cc w k/\S' 18=.bool false/\S' 6=.int .i64 (dq wd)/\S' 5=.str wd/\iS ws j S' H') ?_ ?_ ?_ ?_)
    .have:pos=wd.length:=zo
     subst this;rw[aeW]at s6;exact⟨fR,s6,s5,hF⟩
    .rintro w0 g tM xD a Qi ho R ⟨fR,s6,s5,s3,s9,bJ,bG⟩;have t16:=R.slot 16 zd (λh=>h);rw[fR]at t16;have t16:a.eval (.tmp 16)=.pointer (some ⟨b,0,none⟩):=t16.iA
     have hk:g.old.aU b=some (.stringIter sb pos):=by rw[ho];exact zX
     have hb:=(R.kept b _ hk).2.1;refine⟨_,_,_,au tM 17 (.dY [.bool false]),xD,.inl (vm rfl t16 hb zo),R.put 17 _ _ zd (.data _ _ (.dY _ _ rfl λi h h'=>?_)) trivial,ho,aO _ _ _,by simp[au,s6],by simp[au,s5],by simp[au,s3],by simp[au,s9],by simp[au,bJ],by simp[au,bG]⟩
     match i,h with
     |0,_=>exact .bool _
    .rintro o tM xD ⟨rfl,kY,s6,s5,s3,s9,bJ,bG⟩;refine⟨bK _,?_⟩;simp[c131,fE,gV,kU,af.qa,af.qb,af.dl,bq,aF,ba,aD,ev,aP.S,aP.H,au,aW,iS,s3,s5,s6,s9,bJ,bG,kY,AV.aI]
    .rintro o tM xD ⟨rfl,kX,s6,s5,hF⟩;refine SW.seq (SW.cond rfl false (by show tM 18=_;rw[kX]) (SW.exit ?_));show SW prog GI 55 none (.seq _ _) _ _ _ _
     have vj:pos=wd.length:=zo
     have wR:∀c∈wd,digit c:=by rw[vj,aeW]at Eg;exact Eg
     have D6:=Jc (GI:=GI) hG wd;have AB:=yG (GI:=GI) hG wd
     have e8:∀H,fz H (.int .i64 (dq wd))=.int .i64 (dq wd):=λH=>rfl
     have e9:∀H,fz H (.str wd)=.str wd:=λH=>rfl
     have iP:∀b H,fz H (.bool b)=.bool b:=λb H=>rfl
     by_cases cD:wd=[]
     .have mT:jq wd=false:=by rw[cD];rfl
      rw[yO mT]
      have yT:(wd !=[])=false:=by simpa using cD
      refine SW.seq (SW.fP hG de zk (λd _=>bK _ d) (ac:=af.qa gV.qb.qb.qb) zk ?_);unfold fa.bB;obtain⟨s3,s9,bJ,bG⟩:=hF;simp[c131,fE,gV,af.qa,af.qb,af.dl,bB,bq,aF,ba,aD,aN,di,ev,aP.S,aP.H,au,aW,iS,s3,s5,s6,s9,bJ,bG,AV.aI,dU,yT,e8,e9,iP,bt];refine oc AB ?_;simp[eY,thenS,mO,oz,nG,pT];exact⟨rfl,rfl⟩
     have Ci:wd.length<=3:=wK (by rw[vj];exact aeR.2 cD);have Fp:=Fp Ci wR
     have yT:(wd !=[])=true:=by simpa using cD
     have hs:=vC wd wR Ci
     by_cases Is:aY (dq wd)=wd
     case neg=>
      have mT:jq wd=false:=by
       rw[agv];intro h;exact Is (nj.1 h).2.2.2
      rw[yO mT]
      have hdb:(aY (dq wd)==wd)=false:=by simpa using Is
      refine SW.seq (SW.fP hG de zk (λd _=>bK _ d) (ac:=af.qa gV.qb.qb.qb) zk ?_);unfold fa.bB;obtain⟨s3,s9,bJ,bG⟩:=hF;simp[c131,fE,gV,af.qa,af.qb,af.dl,bB,bq,aF,ba,aD,aN,di,ev,aP.S,aP.H,au,aW,iS,s3,s5,s6,s9,bJ,bG,AV.aI,dU,yT,e8,bt];refine oc Fp ?_;simp[eY,au,AV.aI,s3,s5,s6,s9,bJ,bG,dU,e9,iP,hdb];refine oc AB ?_;simp[eY,thenS,mO,oz,nG,pT];exact⟨rfl,rfl⟩
     have hgw:jq wd=true:=nj.2 ⟨cD,Ci,wR,Is⟩
     have Yw:(ws.take (j+1)).all jq=true:=by
      rw[adJ aq,List.all_append,eH,vt];simp[hgw]
     rw[Is]at Fp;refine pz hG gV.qb.qb.qb.qa (λd _=>bK _ d) (λS' H'=>S' 6=.int .i64 (dq wd)/\iS ws j S' H') ?_ ?_
     .obtain⟨s3,s9,bJ,bG⟩:=hF;simp[c131,fE,gV,af.qa,af.qb,af.dl,bB,bq,aF,ba,aD,aN,ev,aP.S,aP.H,au,aW,iS,s3,s5,s6,s9,bJ,bG,AV.aI,dU,yT,e8];refine oc Fp ?_;simp[eY,au,AV.aI,s3,s5,s6,s9,bJ,bG,dU,e9,iP];refine oc D6 ?_;simp[eY,au,AV.aI,s3,s5,s6,s9,bJ,bG]
     rintro S11 H11 ⟨s6,hF⟩
     have Ws:(ws.take (j+1)).map dq=(ws.take j).map dq++[dq wd]:=by rw[adJ aq,ad6,vt];rfl
     have Qe:((ws.take j).map dq).length<=100000:=by simp;omega
     refine SW.mono (Q:=λe o S' H'=>e=.normal/\o=oK cc w k/\S' 3=x_ ((ws.take (j+1)).map dq)/\S' 9=strs ws/\S' 10=.int .i64 ws.length/\S' 11=.int .i64 (j:Nat)) ?_ (SW.fP hG de zk (λd _=>bK _ d) (ac:=af.qb gV.qb.qb.qb) zk ?_)
     .rintro e o S' H' ⟨rfl,rfl,s3,s9,bJ,bG⟩;show SW prog GI 55 none _ _ _ _ _;refine SW.fP hG de zk (λd _=>bK _ d) (ac:=af.qb fE.qb.qb) zk ?_;have pZ:IntKind.i64.wrap ((j:Int)+1)=j+1:=aQ zo;simp[c131,fE,af.qa,af.qb,bB,bq,aF,ba,aD,ev,aP.S,aP.H,au,aW,s3,s9,bJ,bG,dU,AV.aI,pZ,fa.bB,thenS,iS];refine⟨⟨⟨_,rfl⟩,j+1,zo,adQ.1 Yw,rfl,zo⟩,?_⟩;rw[m11];show ws.length-(j+1)<ws.length-(j:Int).toNat;rw[Int.toNat_natCast];omega
     .unfold fa.bB;obtain⟨s3,s9,bJ,bG⟩:=hF;rw[Ws];generalize(ws.take j).map dq=L at s3 Qe⊢
      cases L with
      |nil=>simp[c131,fE,gV,af.qa,af.qb,af.dl,bB,bq,aF,ba,aD,ev,aP.S,aP.H,au,aW,s3,s6,s9,bJ,bG,x_,ints,AV.aI,aG,AV.storable,AV.cells,AV.vw,AV.cI,bt]
      |cons x L=>
       have nt:L.length+1+1<1048576:=by simp at Qe;omega
       simp[c131,fE,gV,af.qa,af.qb,af.dl,bB,bq,aF,ba,aD,ev,aP.S,aP.H,au,aW,s3,s6,s9,bJ,bG,x_,ints,AV.aI,aG,AV.storable,AV.cells,AV.vw,AV.cI,bt,nt]
   case pos=>
    obtain⟨c,hc⟩:∃c,wd[pos]=c:=⟨_,rfl⟩
    obtain⟨r,hr⟩:∃r:Nat,(Utf8.decode sb pos).1=r:=⟨_,rfl⟩
    obtain⟨p',u9⟩:∃p':Nat,pos+(Utf8.decode sb pos).2=p':=⟨_,rfl⟩
    have ED:sb[pos]' zo=c:=by subst qW;rw[<-hc];rfl
    refine SW.seq (SW.mid hG (p:=0) (oh:={ dst:=some 17,op := .next (.tmp 16) true,type:=0,pos := "text.go:133",after := #[],guard:=none }) (jX:=[]) (mw:=[_]) (l2:=[1]) rfl rfl rfl rfl zk rfl (bK _) (mS:=[]) (mf:=(kU.qa.dl).drop 1) rfl zk rfl zk
     (K1:=λS' H'=>S' 16=.val (.pointer (some ⟨b,0,none⟩))/\S' 6=.int .i64 (dq (wd.take pos))/\S' 5=.str wd/\iS ws j S' H')
     (K2:=λo S' H'=>o=oK cc w (au k b (some (.stringIter sb p')))/\S' 16=.val (.pointer (some ⟨b,0,none⟩))/\S' 17=.dY [.bool true,.int .i64 pos,.int .i32 r]/\S' 6=.int .i64 (dq (wd.take pos))/\S' 5=.str wd/\iS ws j S' H')
     (K3:=λo S' H'=>o=oK cc w (au k b (some (.stringIter sb p')))/\S' 16=.val (.pointer (some ⟨b,0,none⟩))/\S' 18=.bool true/\S' 17=.dY [.bool true,.int .i64 pos,.int .i32 r]/\S' 6=.int .i64 (dq (wd.take pos))/\S' 5=.str wd/\iS ws j S' H') ⟨fR,s6,s5,hF⟩ ?_ ?_ ?_)
    .rintro w0 g tM xD a Qi ho R ⟨fR,s6,s5,s3,s9,bJ,bG⟩;have t16:=R.slot 16 zd (λh=>h);rw[fR]at t16;have t16:a.eval (.tmp 16)=.pointer (some ⟨b,0,none⟩):=t16.iA
     have hk:g.old.aU b=some (.stringIter sb pos):=by rw[ho];exact zX
     have hb:=(R.kept b _ hk).2.1;refine⟨_,_,_,au tM 17 (.dY [.bool true,.int .i64 pos,.int .i32 r]),xD,.inl (D9 rfl t16 hb zo hr u9),(R.mQ hk _).put 17 _ _ zd (.data _ _ (.dY _ _ rfl λi h h'=>?_)) trivial,?_,by simp[au,fR],aO _ _ _,by simp[au,s6],by simp[au,s5],by simp[au,s3],by simp[au,s9],by simp[au,bJ],by simp[au,bG]⟩
     .match i,h with
      |0,_=>exact .bool _
      |1,_=>exact .int _ _
      |2,_=>
       exact .int _ _
     .show({ g.old with aU:=au g.old.aU b _ }:Old)=_;rw[ho];rfl
    .rintro o tM xD ⟨rfl,fR,kY,s6,s5,s3,s9,bJ,bG⟩;refine⟨bK _,?_⟩;simp[c131,fE,gV,kU,af.qa,af.qb,af.dl,bq,aF,ba,aD,ev,aP.S,aP.H,au,aW,iS,s3,s5,s6,s9,bJ,bG,fR,kY,AV.aI]
    .rintro o tM xD ⟨rfl,fR,kX,kY,s6,s5,hF⟩;refine SW.seq (SW.cond rfl true (by show tM 18=_;rw[kX]) (SW.skip ?_));show SW prog GI 55 none (.block 3 (.seq _ (.seq _ _))) _ _ _ _
     by_cases vg:digit c/\wd.length<=3
     case neg=>
      have mT:jq wd=false:=by
       rw[agv];intro h;obtain⟨_,h2,h3,_⟩:=nj.1 h;exact vg ⟨h3 c (hc▸adC hp),h2⟩
      rw[yO mT]
      have YM:¬(48<=(r:Int)/\(r:Int)<=57/\(wd.length:Int)<=3):=by
       rintro⟨g1,g2,g3⟩;refine vg ⟨?_,zo⟩;have:=w_ (s:=sb) (pos:=pos) zo (by rw[hr];omega);rw[hr]at this
       have Fq:c.toNat=r:=by rw[<-ED];exact this.symm
       unfold digit;omega
      have AB:=yG (GI:=GI) hG wd
      have e9:∀H,fz H (.str wd)=.str wd:=λH=>rfl
      have iP:∀b H,fz H (.bool b)=.bool b:=λb H=>rfl
      refine SW.block (SW.fP hG de zk (λd _=>bK _ d) (ac:=af.qb kU.qb.qb) zk ?_);unfold fa.bB;obtain⟨s3,s9,bJ,bG⟩:=hF
      by_cases g1:(48:Int)<=r
      .by_cases g2:(r:Int)<=57
       .have g3:¬(wd.length:Int)<=3:=λg3=>YM ⟨g1,g2,g3⟩
        simp[c131,fE,gV,kU,af.qa,af.qb,af.dl,bB,bq,aF,ba,aD,di,ev,aP.S,aP.H,au,aW,iS,s3,s5,s6,s9,bJ,bG,fR,kY,AV.aI,dU,g1,g2,g3,e9,iP,bt];refine oc AB ?_;simp[eY,thenS,mO,oz,nG,pT];exact⟨rfl,rfl⟩
       .simp[c131,fE,gV,kU,af.qa,af.qb,af.dl,bB,bq,aF,ba,aD,di,ev,aP.S,aP.H,au,aW,iS,s3,s5,s6,s9,bJ,bG,fR,kY,AV.aI,dU,g1,g2,e9,iP,bt];refine oc AB ?_;simp[eY,thenS,mO,oz,nG,pT];exact⟨rfl,rfl⟩
      .simp[c131,fE,gV,kU,af.qa,af.qb,af.dl,bB,bq,aF,ba,aD,di,ev,aP.S,aP.H,au,aW,iS,s3,s5,s6,s9,bJ,bG,fR,kY,AV.aI,dU,g1,e9,iP,bt];refine oc AB ?_;simp[eY,thenS,mO,oz,nG,pT];exact⟨rfl,rfl⟩
     obtain⟨TF,Ci⟩:=vg;have Su:=TF;unfold digit at Su;have KE:=ahO sb pos zo (by rw[ED];omega)
     have ZM:r=c.toNat:=by rw[<-hr,KE,ED]
     have Cc:p'=pos+1:=by rw[<-u9,KE]
     subst ZM;subst Cc
     have Td:∀x∈wd.take (pos+1),digit x:=by
      rw[adJ hp,hc];intro x hx;rcases adG.1 hx with hx|hx
      .exact Eg x hx
      .rw[ad2]at hx;rw[hx];exact TF
     have qQ:wd.take (pos+1)=wd.take pos++[c]:=by rw[adJ hp,hc]
     have abi:=vC (wd.take pos) Eg (by simp;omega);refine SW.block (SW.mono (Q:=λe o S' H'=>e=.normal/\o=oK cc w (au k b (some (.stringIter sb (pos+1))))/\S' 16=.val (.pointer (some ⟨b,0,none⟩))/\S' 6=.int .i64 (dq (wd.take (pos+1)))/\S' 5=.str wd/\iS ws j S' H') ?_ (SW.fP hG de zk (λd _=>bK _ d) (ac:=af.qb kU.qb.qb) zk ?_))
     .rintro e o S' H' ⟨rfl,rfl,fR,s6,s5,hF⟩;refine⟨⟨au k b (some (.stringIter sb (pos+1))),b,pos+1,rfl,aO _ _ _,hp,Td,λ_=>Ci,fR,s6,s5,hF⟩,?_⟩;show(match S' 16 with|.val (.pointer (some a))=>(match(oK cc w (au k b (some (.stringIter sb (pos+1))))).aU a.block with|some (.stringIter _ p)=>wd.length-p|_=>0)|_=>0)<_;rw[U8 S' _ (pos+1) fR (aO _ _ _),U8 S9 k pos m16 zX];omega
     .unfold fa.bB;obtain⟨s3,s9,bJ,bG⟩:=hF;have D6:=Jc (GI:=GI) hG wd
      have g1:(48:Int)<=c.toNat:=zo
      have g2:(c.toNat:Int)<=57:=zo
      have g3:(wd.length:Int)<=3:=zo
      have w1:IntKind.i64.wrap (10*dq (wd.take pos))=10*dq (wd.take pos):=aQ zo;have w2:IntKind.i32.wrap ((c.toNat:Int)-48)=(c.toNat:Int)-48:=wrap32 zo;have w3:IntKind.i64.wrap ((c.toNat:Int)-48)=(c.toNat:Int)-48:=aQ zo
      have w4:IntKind.i64.wrap (10*dq (wd.take pos)+((c.toNat:Int)-48))=dq (wd.take (pos+1)):=by rw[qQ,CU,aQ zo]
      have e9:∀H,fz H (.str wd)=.str wd:=λH=>rfl
      have iP:∀H,fz H (.bool true)=.bool true:=λH=>rfl
      simp[c131,fE,gV,kU,af.qa,af.qb,af.dl,bB,bq,aF,ba,aD,di,ev,aP.S,aP.H,au,aW,iS,s3,s5,s6,s9,bJ,bG,fR,kY,AV.aI,dU,g1,g2,g3,e9,iP,bt];refine oc D6 ?_;simp[eY,au,AV.aI,s3,s5,s6,s9,bJ,bG,fR,dU,w1,w2,w3,w4,bt]
def Pd(hG:ar GI)(hT:TB GI){ws:List (List UInt8)}(hlen:ws.length<=100000):AC prog GI 131 [strs ws] (nG (fj ws)):=
 VF hG hlen λw _ h3 hd=>CW hT (zN hd h3)
def PS(hG:ar GI)(hT:TB GI)(ot:ML GI)(w:List UInt8)(hw:w.length<=10000):AC prog GI 132 [.str w] (nG (jO w)):=by
 by_cases h0:w=[45]
 .subst h0;have:jO [45]=.ok []:=rfl;rw[this];refine cw hG func132 ntmps132 c132 ?_;simp[c132]
  try rfl
 have hlE:jO w=fj (aZ 44 w):=by unfold jO;rw[if_neg h0]
 rw[hlE]
 have cD:(w==[45])=false:=by simpa using h0
 have a:=J0 ot w 44 zo
 have D2:(aZ 44 w).length<=100000:=by have:=lM 44 w;omega
 have b:=Pd (ws:=aZ 44 w) hG hT D2
 generalize aZ 44 w=ws at*
 generalize hog:fj ws=o at b⊢;refine cw hG func132 ntmps132 c132 ?_;simp[c132,cD];refine oc a ?_;simp[strs];refine oc ((by simpa[strs]using b)) ?_
 cases o with
 |ok l=>simp[nG]
 |error e=>simp[nG,pT]
def tZ:(∀k n,(AV.int k n).aI=.int k n)/\(∀b,(AV.bool b).aI=.bool b)/\(∀l,(AV.str l).aI=.str l)/\(∀l,(AV.slice .view l).aI=.slice .view l)/\(∀l,(AV.slice .nil l).aI=.slice .nil l)/\(∀e l,(AV.slice (.own e) l).aI=.slice .view l)/\(∀cs,(AV.agg cs).aI=.agg cs)/\(∀cs,(AV.dY cs).aI=.dY cs)/\(∀cs,(AV.ref cs).aI=.ref cs)/\(∀i o,(AV.box i o).aI=.box i o)/\(∀t v,(AV.iface t v).aI=.iface t v)/\∀v:AV,v.aI.aI=v.aI:=
 ⟨λ_ _=>rfl,λ_=>rfl,λ_=>rfl,λ_=>rfl,λ_=>rfl,λ_ _=>rfl,λ_=>rfl,λ_=>rfl,λ_=>rfl,λ_ _=>rfl,λ_ _=>rfl,AV.idem⟩
def ue:(∀k n,(AV.int k n).cI=.int k n)/\(∀b,(AV.bool b).cI=.bool b)/\(∀l,(AV.str l).cI=.str l)/\(∀o l,(AV.slice o l).cI=.slice .view l)/\(∀cs,(AV.agg cs).cI=.agg cs)/\(∀cs,(AV.dY cs).cI=.dY cs)/\(∀cs,(AV.ref cs).cI=.ref cs)/\∀t v,(AV.iface t v).cI=.iface t v:=
 ⟨λ_ _=>rfl,λ_=>rfl,λ_=>rfl,λ_ _=>rfl,λ_=>rfl,λ_=>rfl,λ_=>rfl,λ_ _=>rfl⟩
def Rm(e:Nat)(l:List AV):(grow e l).aI=.slice (if l=[]then .nil else .view) l:=by
 unfold grow
 by_cases h:l=[]<;>simp[h,AV.aI]
def jn(e:Nat)(l:List AV):(grow e l).aI.cI=.slice .view l:=by
 rw[Rm];rfl
end Go.Proofs.Tryz
namespace Go.Proofs.Tryz
open Go Go.AL Go.RowKit Go.Proofs Go.Proofs.Tram
attribute [local simp] ez fF qt oH eM ea eb dG dH eU dI da gZ g_ aF aD ev aP.S aP.H bt au aW AL.start AV.cells AV.storable AV.ct bC cb dU cd HR.okB post cH db c_ AV.out AV.b_ cU d_ fz ia AV.vw cW vI int cy aN di dQ iC jw eP dW bD tZ ue jn
variable{GI:World->Prop}
def zK:List (List UInt8):=[ov,oq,ou,om,oP]
def rP(w:List UInt8):Int:=if w=ov then 0 else if w=oq then 1 else if w=ou then 2 else if w=om then 3 else if w=oP then 4 else-1
def Wi(hG:ar GI)(w:List UInt8):AC prog GI 130 [strs zK,.str w] (.ret (.int .i64 (rP w))):=by
 unfold rP;split
 .rename_i h;subst h;exact sD hG zK _ zd 0 zd rfl λj hj=>absurd hj (agO _)
 split
 .rename_i h;subst h;exact sD hG zK _ zd 1 zd rfl fun j hj=>by
   match j,hj with
   |0,_=>exact(by decide:ov≠oq)
 split
 .rename_i h;subst h;exact sD hG zK _ zd 2 zd rfl fun j hj=>by
   match j,hj with
   |0,_=>exact(by decide:ov≠ou)
   |1,_=>exact(by decide:oq≠ou)
 split
 .rename_i h;subst h;exact sD hG zK _ zd 3 zd rfl fun j hj=>by
   match j,hj with
   |0,_=>exact(by decide:ov≠om)
   |1,_=>exact(by decide:oq≠om)
   |2,_=>exact(by decide:ou≠om)
 split
 .rename_i h;subst h;exact sD hG zK _ zd 4 zd rfl fun j hj=>by
   match j,hj with
   |0,_=>exact(by decide:ov≠oP)
   |1,_=>exact(by decide:oq≠oP)
   |2,_=>exact(by decide:ou≠oP)
   |3,_=>exact(by decide:om≠oP)
 rename_i h0 h1 h2 h3 h4
 exact QR hG zK w zd λj hj=>by
  match j,hj with
  |0,_=>exact λe=>h0 e.symm
  |1,_=>exact λe=>h1 e.symm
  |2,_=>exact λe=>h2 e.symm
  |3,_=>exact λe=>h3 e.symm
  |4,_=>exact λe=>h4 e.symm
def Sm(w:List UInt8):(rP w==0)=decide (w=ov)/\(rP w==1)=decide (w=oq)/\(rP w==2)=decide (w=ou)/\(rP w==3)=decide (w=om)/\(rP w==4)=decide (w=oP):=by
 unfold rP
 by_cases h0:w=ov
 .subst h0;decide
 by_cases h1:w=oq
 .subst h1;decide
 by_cases h2:w=ou
 .subst h2;decide
 by_cases h3:w=om
 .subst h3;decide
 by_cases h4:w=oP
 .subst h4;decide
 simp[h0,h1,h2,h3,h4]
def mC(x:aJ):List AV:=[grow 3 (ints x.aM),grow 141 (x.aL.map dP),.int .i64 x.gk,.int .i64 x.gl,.int .i64 x.js,.int .i64 x.jr,.int .i64 x.ck,grow 48 (x.words.map cG),.int .i64 x.wide,.int .i64 x.rows]
def Ni:Except (List UInt8) aJ->iK
 |.ok x=>.ret (cE x)
 |.error e=>.panic (pT e)
def Rk(l:List Int):aG 1 (ints l)=true:=iE λa=>⟨rfl,rfl⟩
def VD(l:List Int)(m:List AV):(AV.slice (if l=[]then .nil else .view) m).aI=.slice (if l=[]then .nil else .view) m:=by split<;>rfl
def Qn(l:List kM):aG 4 (l.map dP)=true:=iE λa=>⟨rfl,rfl⟩
def Q7(l:List Word):aG 3 (l.map cG)=true:=iE λa=>⟨rfl,rfl⟩
structure sQ(t:List UInt8)(L:List (List UInt8))(j:Nat)(x:aJ)(S:an)(H:ao):Prop where
 s0:S 0=.str t
 s2:S 2=.box 2 0
 e2:H 2=some (mC cK)
 s4:S 4=.box 4 0
 e4:H 4=some (mC x)
 s5:S 5=.ref (zK.map AV.str)
 fC:S 25=strs L
 gO:S 26=.int .i64 (L.length:Nat)
 fU:S 27=.int .i64 (j:Nat)
noncomputable def j9:af:=af.qb c94.qb.qb.qb.qb.qb.qa.qb.qb
noncomputable def ka:af:=af.qb j9.qb.qb.qa
noncomputable def ic:af:=af.qb ka.qb.qb.qb
def aaD{l:List Int}(h:l.length=2):∃a b,l=[a,b]:=by
 match l,h with
 |[a,b],_=>exact⟨a,b,rfl⟩
def acR{l:List Int}(h:l.length=5):∃a b c d e,l=[a,b,c,d,e]:=by
 match l,h with
 |[a,b,c,d,e],_=>exact⟨a,b,c,d,e,rfl⟩
def ab6{l:List Int}(h:l.length=4):∃a b c d,l=[a,b,c,d]:=by
 match l,h with
 |[a,b,c,d],_=>exact⟨a,b,c,d,rfl⟩
def BD{α:Type}{l:List α}(h:l.length=1):∃a,l=[a]:=by
 match l,h with
 |[a],_=>exact⟨a,rfl⟩
def aa1{α:Type}{l:List α}(h:l.length=3):∃a b c,l=[a,b,c]:=by
 match l,h with
 |[a,b,c],_=>exact⟨a,b,c,rfl⟩
def ada(hG:ar GI)(hT:TB GI)(ot:ML GI)(t:List UInt8)(ht:t.length<=420):AC prog GI 94 [.str t] (Ni (j_ t)):=by
 have D2:=lM 10 t
 have SC:∀p∈aZ 10 t,p.length<=420:=λp hp=>by have:=kJ hp;omega
 have zx:=vr 10 t;have a159:=J0 ot t 10 zo
 refine AC.ji func94 rfl ntmps94 ahB λcc w=>?_
 refine dT hG c94.qa (λS' H'=>S' 0=.str t/\S' 2=.box 2 0/\H' 2=some (mC cK)) ?_ ?_
 .simp[c94,af.qa,ah,ae,mC,cK,grow,ints]
 rintro S H ⟨s0,s2,e2⟩;refine dT hG c94.qb.qa (λS' H'=>S' 0=.str t/\S' 2=.box 2 0/\H' 2=some (mC cK)/\S' 3=strs (aZ 10 t)) ?_ ?_
 .simp[c94,af.qa,af.qb,ah,ae,s0,s2,e2];refine oc a159 ?_;simp[ah,ae,s0,s2,e2,strs]
 clear s0 s2 e2 S H;rintro S H ⟨s0,s2,e2,s3⟩
 have G8:j_ t=if(aZ 10 t).length<2 then .error t else dv (fu mh cK ((aZ 10 t).take ((aZ 10 t).length-2))) λx=>if fS x=t then .ok x else .error t:=rfl
 rw[G8]
 generalize aZ 10 t=R at*
 by_cases h2:R.length<2
 .rw[if_pos h2]
  have aq:¬(2:Int)<=R.length:=zo
  refine SW.seq (SW.fP hG de zk (λ_ _ h=>h) (ac:=af.qa c94.qb.qb) zk ?_);unfold fa.bB;simp[c94,af.qa,af.qb,ah,ae,s0,s3,strs,aq];refine oc (yG hG t) ?_;simp[eY,thenS,oz,Ni,pT]
  first|exact⟨rfl,rfl⟩|exact⟨rfl,rfl,rfl⟩
 rw[if_neg h2]
 have zU:(2:Int)<=R.length:=zo
 refine dT hG c94.qb.qb.qa (λS' H'=>S' 0=.str t/\S' 2=.box 2 0/\H' 2=some (mC cK)/\S' 3=strs R) ?_ ?_
 .simp[c94,af.qa,af.qb,ah,ae,s0,s2,e2,s3,strs,zU];refine oc (Jc hG t) ?_;simp[ah,ae,s0,s2,e2,s3,strs]
 clear s0 s2 e2 s3 S H;rintro S H ⟨s0,s2,e2,s3⟩;refine dT hG c94.qb.qb.qb.qa (λS' H'=>S' 0=.str t/\S' 2=.box 2 0/\H' 2=some (mC cK)/\S' 3=strs R/\S' 4=.box 4 0/\H' 4=some (mC cK)) ?_ ?_
 .simp[c94,af.qa,af.qb,ah,ae,s0,s2,e2,s3,strs,mC,cK,grow,ints]
 clear s0 s2 e2 s3 S H;rintro S H ⟨s0,s2,e2,s3,s4,e4⟩;refine dT hG c94.qb.qb.qb.qb.qa (λS' H'=>S' 0=.str t/\S' 2=.box 2 0/\H' 2=some (mC cK)/\S' 3=strs R/\S' 4=.box 4 0/\H' 4=some (mC cK)/\S' 5=.box 5 0/\H' 5=some (zK.map AV.str)) ?_ ?_
 .simp[c94,af.qa,af.qb,ah,ae,s0,s2,e2,s3,s4,e4,strs];refine oc (Ao hG) ?_;simp[ah,ae,s0,s2,e2,s3,s4,e4,strs,zK]
 clear s0 s2 e2 s3 s4 e4 S H;rintro S H ⟨s0,s2,e2,s3,s4,e4,s5,e5⟩;refine SW.freeze (i:=5) e5 rfl ?_
 obtain⟨L,hL⟩:∃L,R.take (R.length-2)=L:=⟨_,rfl⟩
 have Qe:L.length=R.length-2:=by rw[<-hL];simp
 rw[hL]
 have VW:∀p∈L,p.length<=420:=λp hp=>SC p (by rw[<-hL]at hp;exact aef hp)
 have hLs:(L.map λp=>p.length+1).sum<=421:=by
  have h1:(R.map λp=>p.length+1).sum=(L.map λp=>p.length+1).sum+((R.drop (R.length-2)).map λp=>p.length+1).sum:=by
   rw[<-hL,<-afe,<-ad6,aeX]
  omega
 have j0:IntKind.i64.wrap ((R.length:Int)-2)=(L.length:Nat):=by rw[aQ zo];omega
 have hLn:(L.length:Int)<=R.length:=zo
 show SW prog GI 171 none (.seq (.seq _ (.block 0 (.loop _))) (.seq _ (.seq _ .ret))) _ _ _ _;refine SW.seq (dT hG c94.qb.qb.qb.qb.qb.qa.qa (sQ t L 0 cK) ?_ ?_)
 .have hLt:L.length<=R.length:=zo
  have Xs:R.take L.length=L:=by rw[Qe];exact hL
  have Pa:(R.map AV.str).take L.length=L.map AV.str:=by rw[<-afv,Xs]
  simp[c94,af.qa,af.qb,ah,ae,s0,s2,e2,s3,s4,e4,s5,strs,wQ,j0,hLt,Xs,hLn,bound,gr];exact⟨by simp[ah,ae,s0,wQ],by simp[ah,ae,s2,wQ],by simp[ah,ae,e2],by simp[ah,ae,s4,wQ],by simp[ah,ae,e4],by simp[ah,ae,s5,wQ,zK],by simp[ah,ae,strs,Pa],by simp[ah,ae],by simp[ah,ae]⟩
 clear s0 s2 e2 s3 s4 e4 s5 e5 S H;intro S H hI
 have bK:∀d,¬(Old.plain cc w).bx d:=λ_ h=>h
 refine SW.block (SW.loop (λo S' H'=>o=Old.plain cc w/\∃j x,j<=L.length/\fu mh cK (L.take j)=.ok x/\Grown 421 x j/\qH x/\sQ t L j x S' H') (λS' _=>match S' 27 with|.int _ j=>L.length-j.toNat|_=>0) ⟨rfl,0,cK,aeu _,rfl,rH _,zj,hI⟩ ?_);clear hI S H;rintro o S H ⟨rfl,j,x,hj,hf,iH,hN,hI⟩;have m27:=hI.fU;show SW prog GI 171 none (.seq _ (.seq (.cond _ _ _) (.seq (.block 1 _) _))) _ _ _ _;refine pz hG j9.qa (λd _=>bK d) (λS' H'=>S' 28=.bool (decide (j<L.length))/\sQ t L j x S' H') ?_ ?_
 .obtain⟨s0,s2,e2,s4,e4,s5,fC,gO,fU⟩:=hI;simp[c94,j9,af.qa,af.qb,ah,ae,gO,fU];exact⟨by simp[ah,ae,s0],by simp[ah,ae,s2],e2,by simp[ah,ae,s4],e4,by simp[ah,ae,s5],by simp[ah,ae,fC],by simp[ah,ae,gO],by simp[ah,ae,fU]⟩
 clear hI;rintro S H ⟨wN,hI⟩
 by_cases aq:j<L.length
 case neg=>
  have qP:j=L.length:=zo
  rw[qP,adI (adF _)]at hf;rw[hf];refine SW.seq (SW.cond rfl false (by show S 28=_;rw[wN];simp[aq]) (SW.exit ?_));show SW prog GI 171 none (.seq _ (.seq _ .ret)) _ _ _ _;obtain⟨J6,h5⟩:=sV (b:=421) (λr hr=>by have:=VW r hr;omega) (rH _) hf
  have abr:O1 x:=⟨by have:=J6.aM;omega,by have:=J6.aL;omega,by have:=J6.words;omega,λw hw=>by have:=J6.aV w hw;omega,λw hw=>by have:=J6.bZ w hw;omega⟩
  have a116:=Xf hG hT x hN abr;obtain⟨s0,s2,e2,s4,e4,s5,fC,gO,fU⟩:=hI
  by_cases V_:fS x=t
  case neg=>
   have hb:(fS x==t)=false:=by simpa using V_
   simp only[dv,if_neg V_];refine SW.seq (SW.fP hG de zk (λd _=>bK d) (ac:=af.qa c94.qb.qb.qb.qb.qb.qb) zk ?_);unfold fa.bB;simp[c94,af.qa,af.qb,ah,ae,s0,s4,e4,mC,jn];refine oc a116 ?_;simp[ah,ae,s0,hb];refine oc (yG hG t) ?_;simp[eY,thenS,oz,Ni,pT]
   first|exact⟨rfl,rfl⟩|exact⟨rfl,rfl,rfl⟩
  have hb:(fS x==t)=true:=by simpa using V_
  simp only[dv,if_pos V_];refine pz hG c94.qb.qb.qb.qb.qb.qb.qa (λd _=>bK d) (λS' H'=>S' 2=.box 2 0/\H' 2=some (mC cK)/\S' 4=.box 4 0/\H' 4=some (mC x)) ?_ ?_
  .simp[c94,af.qa,af.qb,ah,ae,s0,s4,e4,mC,jn];refine oc a116 ?_;simp[ah,ae,s0,hb];refine oc (Jc hG t) ?_;simp[ah,ae,s2,e2,s4,e4,mC]
  clear s0 s2 e2 s4 e4 s5 fC gO fU wN m27 S H;rintro S H ⟨s2,e2,s4,e4⟩;refine pz hG c94.qb.qb.qb.qb.qb.qb.qb.qa (λd _=>bK d) (λS' H'=>S' 2=.box 2 0/\H' 2=some ((mC x).map AV.aI)) ?_ ?_
  .simp[c94,af.qa,af.qb,ah,ae,s2,e2,s4,e4,mC]
  clear s2 e2 s4 e4 S H;rintro S H ⟨s2,e2⟩;obtain⟨i28,sg,sj⟩:=iZ 29 10;obtain⟨fs,fH⟩:=uZ 29;refine SW.ret ⟨eo.plain rfl,rfl,cE x,?_,rfl⟩;show cH prog 171 [.cell 2 29] S H=_;simp[cH,db,c_,s2,e2,sg,fH,sj,cd,eh,mC,AV.out,jn,AV.b_,AV.vw,ue,tZ,cE,ai,vI]
 case pos=>
  obtain⟨r,hr⟩:∃r,L[j]=r:=⟨_,rfl⟩
  have xA:r.length<=420:=by rw[<-hr];exact VW _ (adC aq)
  have Uc:=J0 ot r 32 zo;refine SW.seq (SW.cond rfl true (by show S 28=_;rw[wN];simp[aq]) (SW.skip ?_));clear wN;show SW prog GI 171 none (.seq (.block 1 (.seq _ (.seq _ (.seq _ (.block 2 _))))) _) _ _ _ _;refine SW.seq (SW.block (pz hG ka.qa (λd _=>bK d) (λS' H'=>S' 7=.str r/\sQ t L j x S' H') ?_ ?_))
  .obtain⟨s0,s2,e2,s4,e4,s5,fC,gO,fU⟩:=hI;simp[c94,j9,ka,af.qa,af.qb,ah,ae,fC,fU,strs,aq,hr];exact⟨by simp[ah,ae,s0],by simp[ah,ae,s2],e2,by simp[ah,ae,s4],e4,by simp[ah,ae,s5],by simp[ah,ae,fC],by simp[ah,ae,gO],by simp[ah,ae,fU]⟩
  clear hI;rintro S H ⟨s7,hI⟩
  obtain⟨nm,tl,DS⟩:∃nm tl,aZ 32 r=nm::tl:=by
   cases hs:aZ 32 r with
   |nil=>exact absurd hs (tC 32 r)
   |cons a l=>exact⟨a,l,rfl⟩
  have uK:tl.length<=421:=by have:=lM 32 r;rw[DS]at this;simp at this;omega
  have DP:∀p∈tl,p.length<=420:=λp hp=>by have:=kJ (c:=32) (l:=r) (p:=p) (by rw[DS];exact adO _ hp);omega
  rw[DS]at Uc;refine pz hG ka.qb.qa (λd _=>bK d) (λS' H'=>S' 7=.str r/\S' 8=strs (nm::tl)/\sQ t L j x S' H') ?_ ?_
  .obtain⟨s0,s2,e2,s4,e4,s5,fC,gO,fU⟩:=hI;simp[c94,j9,ka,af.qa,af.qb,ah,ae,s7];refine oc Uc ?_;simp[ah,ae,s7,strs];exact⟨by simp[ah,ae,s0],by simp[ah,ae,s2],e2,by simp[ah,ae,s4],e4,by simp[ah,ae,s5],by simp[ah,ae,fC],by simp[ah,ae,gO],by simp[ah,ae,fU]⟩
  clear hI s7 S H;rintro S H ⟨s7,s8,hI⟩;refine pz hG ka.qb.qb.qa (λd _=>bK d) (λS' H'=>S' 7=.str r/\S' 8=strs (nm::tl)/\S' 9=.int .i64 (rP nm)/\sQ t L j x S' H') ?_ ?_
  .obtain⟨s0,s2,e2,s4,e4,s5,fC,gO,fU⟩:=hI;have a162:=Wi (GI:=GI) hG nm;simp only[strs,zK,adU,aee]at a162;simp[c94,j9,ka,af.qa,af.qb,ah,ae,s7,s8,s5,strs,zK];refine oc a162 ?_;simp[ah,ae,s7,s8,strs];exact⟨by simp[ah,ae,s0],by simp[ah,ae,s2],e2,by simp[ah,ae,s4],e4,by simp[ah,ae,s5,zK],by simp[ah,ae,fC,strs],by simp[ah,ae,gO],by simp[ah,ae,fU]⟩
  clear hI s7 s8 S H;rintro S H ⟨s7,s8,s9,hI⟩;refine SW.block (SW.mono (Q:=λe o S' H'=>o=Old.plain cc w/\match e with|.normal=>∃y,mh x r=.ok y/\sQ t L j y S' H'|.panic v=>∃er,mh x r=.error er/\v=pT er|_=>False) ?_ ?_)
  .rintro e o S' H' ⟨rfl,h⟩
   cases e with
   |normal=>
    obtain⟨y,hy,hI⟩:=h;have uJ:=BA aq hf;rw[hr,hy]at uJ;show SW prog GI 171 none _ _ _ _ _;refine SW.fP hG de zk (λd _=>bK d) (ac:=af.qb j9.qb.qb) zk ?_;unfold fa.bB;obtain⟨s0,s2,e2,s4,e4,s5,fC,gO,fU⟩:=hI;have pZ:IntKind.i64.wrap ((j:Int)+1)=j+1:=aQ zo;simp[c94,j9,ka,af.qa,af.qb,ah,ae,fU,pZ,thenS];refine⟨⟨j+1,zo,y,uJ,(yX zo iH hy).1,Bg hN hy,by simp[ah,ae,s0],by simp[ah,ae,s2],e2,by simp[ah,ae,s4],e4,by simp[ah,ae,s5],by simp[ah,ae,fC],by simp[ah,ae,gO],by simp[ah,ae]⟩,?_⟩;rw[m27];show L.length-((j:Int)+1).toNat<L.length-(j:Int).toNat;omega
   |panic v=>
    obtain⟨er,he,rfl⟩:=h;have eJ:=vh aq hf (by rw[hr];exact he);rw[eJ];exact⟨rfl,rfl,rfl⟩
   |exit id=>exact h.elim
   |ret=>exact h.elim
  have adk:∀d∈([]:List Nat),¬(Old.plain cc w).bx d:=λd _=>bK d
  obtain⟨k0,k1,k2,k3,k4⟩:=Sm nm
  have eJ:mh x r=(if nm=ov/\tl.length=2 then dv (fj tl) λn=>.ok { x with wide:=at' n 0,rows:=at' n 1 }
   else if nm=oq/\tl.length=5 then dv (fj tl) λn=>.ok { x with gk:=at' n 0,gl:=at' n 1,js:=at' n 2,jr:=at' n 3,ck:=at' n 4 }
   else if nm=ou/\tl.length=1 then dv (fj tl) λn=>.ok { x with aM:=x.aM++n }
   else if nm=om/\tl.length=4 then dv (fj tl) λn=>.ok { x with aL:=x.aL++[⟨at' n 0,at' n 1,at' n 2,at' n 3⟩] }
   else if nm=oP/\tl.length=3 then dv (jO (tl[1]?.getD [])) λa=>dv (jO (tl[2]?.getD [])) λb=>.ok { x with words:=x.words++[⟨a,b,tl[0]?.getD []==[121,101,115]⟩] }
   else .error r):=by unfold mh;rw[DS];rfl
  generalize mh x r=st at*
  have rm:=Pd (GI:=GI) hG hT (ws:=tl) zo
  generalize rP nm=kd at*
  have Gd:aG 1 (AV.str nm::tl.map AV.str)=true:=gr (nm::tl)
  have nN:(1:Int)<=(tl.length:Int)+1:=zo
  have iL:((tl.length:Int)+1).toNat=tl.length+1:=zo
  have oF:(tl.map AV.str).take tl.length=tl.map AV.str:=adI ahB;show SW prog GI 171 none (.seq _ (.cond _ _ _)) _ _ _ _;refine pz hG ic.qa (λd _=>bK d) (λS' H'=>S' 40=.bool (decide (nm=ov/\tl.length=2))/\S' 7=.str r/\S' 8=strs (nm::tl)/\S' 9=.int .i64 kd/\sQ t L j x S' H') ?_ ?_
  .have hl:((tl.length:Int)+1==3)=decide (tl.length=2):=by rw[aep];simp;omega
   obtain⟨s0,s2,e2,s4,e4,s5,fC,gO,fU⟩:=hI
   by_cases h:nm=ov
   .have hk:kd=0:=by simpa[h]using k0
    simp[c94,j9,ka,ic,af.qa,af.qb,ah,ae,s7,s8,s9,strs,hk,hl,h];exact⟨by simp[ah,ae,s0],by simp[ah,ae,s2],e2,by simp[ah,ae,s4],e4,by simp[ah,ae,s5],by simp[ah,ae,fC,strs],by simp[ah,ae,gO],by simp[ah,ae,fU]⟩
   .have hk:(kd==0)=false:=by rw[k0];simpa using h
    simp[c94,j9,ka,ic,af.qa,af.qb,ah,ae,s7,s8,s9,strs,hk,h];exact⟨by simp[ah,ae,s0],by simp[ah,ae,s2],e2,by simp[ah,ae,s4],e4,by simp[ah,ae,s5],by simp[ah,ae,fC,strs],by simp[ah,ae,gO],by simp[ah,ae,fU]⟩
  clear hI s7 s8 s9;rintro S H ⟨sc,s7,s8,s9,hI⟩
  by_cases h0:nm=ov/\tl.length=2
  case pos=>
   rw[if_pos h0]at eJ;refine SW.cond rfl true (by show S 40=_;rw[sc];simp[h0]) ?_;obtain⟨s0,s2,e2,s4,e4,s5,fC,gO,fU⟩:=hI;refine SW.fP hG de zk (λd _=>bK d) (ac:=af.qa ic.qb) zk ?_;unfold fa.bB
   cases hg:fj tl with
   |error er=>
    rw[hg]at rm eJ;simp[c94,j9,ka,ic,af.qa,af.qb,ah,ae,s8,strs,bound,Gd,nN,iL,oF];refine oc rm ?_;simp[eY,nG];exact⟨er,eJ,rfl⟩
   |ok l=>
    rw[hg]at rm eJ;obtain⟨a,b,rfl⟩:=aaD (by rw[nr hg];exact h0.2);simp[c94,j9,ka,ic,af.qa,af.qb,ah,ae,s8,strs,bound,Gd,nN,iL,oF];refine oc rm ?_;simp[ah,ae,nG,ints,s4,e4,mC];refine⟨_,eJ,by simp[ah,ae,s0],by simp[ah,ae,s2],by simp[ah,ae,e2],by simp[ah,ae,s4],by simp[ah,ae,e4,mC,at',ints,grow],by simp[ah,ae,s5],by simp[ah,ae,fC,strs],by simp[ah,ae,gO],by simp[ah,ae,fU]⟩
  rw[if_neg h0]at eJ;refine SW.cond rfl false (by show S 40=_;rw[sc];simp[h0]) ?_;clear sc;show SW prog GI 171 none (.seq _ (.cond _ _ _)) _ _ _ _;refine pz hG ic.qb.qb.qa (λd _=>bK d) (λS' H'=>S' 59=.bool (decide (nm=oq/\tl.length=5))/\S' 7=.str r/\S' 8=strs (nm::tl)/\S' 9=.int .i64 kd/\sQ t L j x S' H') ?_ ?_
  .have hl:((tl.length:Int)+1==6)=decide (tl.length=5):=by rw[aep];simp;omega
   obtain⟨s0,s2,e2,s4,e4,s5,fC,gO,fU⟩:=hI
   by_cases h:nm=oq
   .have hk:kd=1:=by simpa[h]using k1
    simp[c94,j9,ka,ic,af.qa,af.qb,ah,ae,s7,s8,s9,strs,hk,hl,h];exact⟨by simp[ah,ae,s0],by simp[ah,ae,s2],e2,by simp[ah,ae,s4],e4,by simp[ah,ae,s5],by simp[ah,ae,fC,strs],by simp[ah,ae,gO],by simp[ah,ae,fU]⟩
   .have hk:(kd==1)=false:=by rw[k1];simpa using h
    simp[c94,j9,ka,ic,af.qa,af.qb,ah,ae,s7,s8,s9,strs,hk,h];exact⟨by simp[ah,ae,s0],by simp[ah,ae,s2],e2,by simp[ah,ae,s4],e4,by simp[ah,ae,s5],by simp[ah,ae,fC,strs],by simp[ah,ae,gO],by simp[ah,ae,fU]⟩
  clear hI s7 s8 s9;rintro S H ⟨sc,s7,s8,s9,hI⟩
  by_cases h1:nm=oq/\tl.length=5
  case pos=>
   rw[if_pos h1]at eJ;refine SW.cond rfl true (by show S 59=_;rw[sc];simp[h1]) ?_;obtain⟨s0,s2,e2,s4,e4,s5,fC,gO,fU⟩:=hI;refine SW.fP hG de zk (λd _=>bK d) (ac:=af.qa ic.qb.qb.qb) zk ?_;unfold fa.bB
   cases hg:fj tl with
   |error er=>
    rw[hg]at rm eJ;simp[c94,j9,ka,ic,af.qa,af.qb,ah,ae,s8,strs,bound,Gd,nN,iL,oF];refine oc rm ?_;simp[eY,nG];exact⟨er,eJ,rfl⟩
   |ok l=>
    rw[hg]at rm eJ;obtain⟨a,b,c,d,e,rfl⟩:=acR (by rw[nr hg];exact h1.2);refine aK (λS' H'=>S' 11=.slice .view [.int .i64 a,.int .i64 b,.int .i64 c,.int .i64 d,.int .i64 e]/\sQ t L j x S' H') ?_ ?_
    .simp[c94,j9,ka,ic,af.qa,af.qb,ah,ae,s8,strs,bound,Gd,nN,iL,oF];refine oc rm ?_;simp[ah,ae,nG,ints];exact⟨by simp[ah,ae,s0],by simp[ah,ae,s2],e2,by simp[ah,ae,s4],e4,by simp[ah,ae,s5],by simp[ah,ae,fC,strs],by simp[ah,ae,gO],by simp[ah,ae,fU]⟩
    clear s0 s2 e2 s4 e4 s5 fC gO fU s7 s8 s9 sc S H;rintro S H ⟨sl,s0,s2,e2,s4,e4,s5,fC,gO,fU⟩;simp[ah,ae,sl,s4,e4,mC,bH];refine⟨_,eJ,by simp[ah,ae,s0],by simp[ah,ae,s2],by simp[ah,ae,e2],by simp[ah,ae,s4],by simp[ah,ae,e4,mC,at',ints,grow],by simp[ah,ae,s5],by simp[ah,ae,fC,strs],by simp[ah,ae,gO],by simp[ah,ae,fU]⟩
  rw[if_neg h1]at eJ;refine SW.cond rfl false (by show S 59=_;rw[sc];simp[h1]) ?_;clear sc;show SW prog GI 171 none (.seq _ (.cond _ _ _)) _ _ _ _;refine pz hG ic.qb.qb.qb.qb.qa (λd _=>bK d) (λS' H'=>S' 90=.bool (decide (nm=ou/\tl.length=1))/\S' 7=.str r/\S' 8=strs (nm::tl)/\S' 9=.int .i64 kd/\sQ t L j x S' H') ?_ ?_
  .have hl:((tl.length:Int)+1==2)=decide (tl.length=1):=by rw[aep];simp;omega
   obtain⟨s0,s2,e2,s4,e4,s5,fC,gO,fU⟩:=hI
   by_cases h:nm=ou
   .have hk:kd=2:=by simpa[h]using k2
    simp[c94,j9,ka,ic,af.qa,af.qb,ah,ae,s7,s8,s9,strs,hk,hl,h];exact⟨by simp[ah,ae,s0],by simp[ah,ae,s2],e2,by simp[ah,ae,s4],e4,by simp[ah,ae,s5],by simp[ah,ae,fC,strs],by simp[ah,ae,gO],by simp[ah,ae,fU]⟩
   .have hk:(kd==2)=false:=by rw[k2];simpa using h
    simp[c94,j9,ka,ic,af.qa,af.qb,ah,ae,s7,s8,s9,strs,hk,h];exact⟨by simp[ah,ae,s0],by simp[ah,ae,s2],e2,by simp[ah,ae,s4],e4,by simp[ah,ae,s5],by simp[ah,ae,fC,strs],by simp[ah,ae,gO],by simp[ah,ae,fU]⟩
  clear hI s7 s8 s9;rintro S H ⟨sc,s7,s8,s9,hI⟩
  by_cases h2:nm=ou/\tl.length=1
  case pos=>
   rw[if_pos h2]at eJ;refine SW.cond rfl true (by show S 90=_;rw[sc];simp[h2]) ?_;obtain⟨s0,s2,e2,s4,e4,s5,fC,gO,fU⟩:=hI;obtain⟨w1,mR⟩:=BD h2.2;have cN:aG 1 [AV.str w1]=true:=rfl;refine SW.Hl hG de [6] [0,1,2,3,4,5,6,7,8,9] zk zk (l:=af.dl ic.qb.qb.qb.qb.qb.qa) zk (((ic.qb.qb.qb.qb.qb.qa.dl).take 6).map (λo=>(false,o))++((true,⟨some 104,none,.call 131 [.t 103]⟩)::((ic.qb.qb.qb.qb.qb.qa.dl).drop 7).map λo=>(false,o))) zk ?_;refine lP _ ?_;simp[c94,j9,ka,ic,af.qa,af.qb,ah,ae,af.dl,s4,e4,s8,mR,strs,mC,cN];rw[mR]at rm eJ;refine jM (by simp[ah,ae]) zk (by simpa[ah,ae,strs]using rm) ?_
   cases hg:fj [w1]with
   |error er=>
    rw[hg]at eJ;exact⟨er,eJ,rfl⟩
   |ok l=>
    rw[hg]at eJ;obtain⟨a,rfl⟩:=BD (nr hg);simp only[nG];refine tJ [⟨some 105,none,.append 23 3 1 8 (.t 99) (.t 104)⟩,⟨some 106,none,.fieldAddr 0 (.t 4)⟩,⟨none,none,.store (.box 4) 1 (.t 106) (.t 105)⟩] ?_;simp;refine kT (ints x.aM) (.int .i64 a) .view ahB (by simp[ints]) rfl (Rk x.aM) (by rw[cU];have:=iH.aM;omega) ?_;intro S' sd cz;simp[sd,cz,s4,e4,mC];refine⟨_,eJ,by simp[ah,ae,cz,s0],by simp[ah,ae,cz,s2],by simp[ah,ae,e2],by simp[ah,ae,cz,s4],by simp[ah,ae,e4,mC,ints,grow],by simp[ah,ae,cz,s5],by simp[ah,ae,cz,fC,strs],by simp[ah,ae,cz,gO],by simp[ah,ae,cz,fU]⟩
  rw[if_neg h2]at eJ;refine SW.cond rfl false (by show S 90=_;rw[sc];simp[h2]) ?_;clear sc;show SW prog GI 171 none (.seq _ (.cond _ _ _)) _ _ _ _;refine pz hG ic.qb.qb.qb.qb.qb.qb.qa (λd _=>bK d) (λS' H'=>S' 107=.bool (decide (nm=om/\tl.length=4))/\S' 7=.str r/\S' 8=strs (nm::tl)/\S' 9=.int .i64 kd/\sQ t L j x S' H') ?_ ?_
  .have hl:((tl.length:Int)+1==5)=decide (tl.length=4):=by rw[aep];simp;omega
   obtain⟨s0,s2,e2,s4,e4,s5,fC,gO,fU⟩:=hI
   by_cases h:nm=om
   .have hk:kd=3:=by simpa[h]using k3
    simp[c94,j9,ka,ic,af.qa,af.qb,ah,ae,s7,s8,s9,strs,hk,hl,h];exact⟨by simp[ah,ae,s0],by simp[ah,ae,s2],e2,by simp[ah,ae,s4],e4,by simp[ah,ae,s5],by simp[ah,ae,fC,strs],by simp[ah,ae,gO],by simp[ah,ae,fU]⟩
   .have hk:(kd==3)=false:=by rw[k3];simpa using h
    simp[c94,j9,ka,ic,af.qa,af.qb,ah,ae,s7,s8,s9,strs,hk,h];exact⟨by simp[ah,ae,s0],by simp[ah,ae,s2],e2,by simp[ah,ae,s4],e4,by simp[ah,ae,s5],by simp[ah,ae,fC,strs],by simp[ah,ae,gO],by simp[ah,ae,fU]⟩
  clear hI s7 s8 s9;rintro S H ⟨sc,s7,s8,s9,hI⟩
  by_cases h3:nm=om/\tl.length=4
  case pos=>
   rw[if_pos h3]at eJ;refine SW.cond rfl true (by show S 107=_;rw[sc];simp[h3]) ?_;obtain⟨s0,s2,e2,s4,e4,s5,fC,gO,fU⟩:=hI;refine SW.fP hG de zk (λd _=>bK d) (ac:=af.qa ic.qb.qb.qb.qb.qb.qb.qb) zk ?_;unfold fa.bB
   cases hg:fj tl with
   |error er=>
    rw[hg]at rm eJ;simp[c94,j9,ka,ic,af.qa,af.qb,ah,ae,s8,strs,bound,Gd,nN,iL,oF];refine oc rm ?_;simp[eY,nG];exact⟨er,eJ,rfl⟩
   |ok l=>
    rw[hg]at rm eJ;obtain⟨a,b,c,d,rfl⟩:=ab6 (by rw[nr hg];exact h3.2);simp[c94,j9,ka,ic,af.qa,af.qb,ah,ae,s8,strs,bound,Gd,nN,iL,oF];refine oc rm ?_;have cN:aG 4 [AV.agg [.int .i64 a,.int .i64 b,.int .i64 c,.int .i64 d]]=true:=rfl;simp[nG,ints,s4,e4,mC,bH,cN];refine kT (x.aL.map dP) (.agg [.int .i64 a,.int .i64 b,.int .i64 c,.int .i64 d]) (.own 141) ahB ahB rfl (Qn x.aL) (by rw[adH];have:=iH.aL;omega) ?_;intro S' sd cz;simp[sd,cz,s4,e4,mC];refine⟨_,eJ,by simp[ah,ae,cz,s0],by simp[ah,ae,cz,s2],by simp[ah,ae,e2],by simp[ah,ae,cz,s4],by simp[ah,ae,e4,mC,at',dP,ints,grow],by simp[ah,ae,cz,s5],by simp[ah,ae,cz,fC,strs],by simp[ah,ae,cz,gO],by simp[ah,ae,cz,fU]⟩
  rw[if_neg h3]at eJ;refine SW.cond rfl false (by show S 107=_;rw[sc];simp[h3]) ?_;clear sc;show SW prog GI 171 none (.seq _ (.cond _ _ _)) _ _ _ _;refine pz hG ic.qb.qb.qb.qb.qb.qb.qb.qb.qa (λd _=>bK d) (λS' H'=>S' 137=.bool (decide (nm=oP/\tl.length=3))/\S' 7=.str r/\S' 8=strs (nm::tl)/\S' 9=.int .i64 kd/\sQ t L j x S' H') ?_ ?_
  .have hl:((tl.length:Int)+1==4)=decide (tl.length=3):=by rw[aep];simp;omega
   obtain⟨s0,s2,e2,s4,e4,s5,fC,gO,fU⟩:=hI
   by_cases h:nm=oP
   .have hk:kd=4:=by simpa[h]using k4
    simp[c94,j9,ka,ic,af.qa,af.qb,ah,ae,s7,s8,s9,strs,hk,hl,h];exact⟨by simp[ah,ae,s0],by simp[ah,ae,s2],e2,by simp[ah,ae,s4],e4,by simp[ah,ae,s5],by simp[ah,ae,fC,strs],by simp[ah,ae,gO],by simp[ah,ae,fU]⟩
   .have hk:(kd==4)=false:=by rw[k4];simpa using h
    simp[c94,j9,ka,ic,af.qa,af.qb,ah,ae,s7,s8,s9,strs,hk,h];exact⟨by simp[ah,ae,s0],by simp[ah,ae,s2],e2,by simp[ah,ae,s4],e4,by simp[ah,ae,s5],by simp[ah,ae,fC,strs],by simp[ah,ae,gO],by simp[ah,ae,fU]⟩
  clear hI s7 s8 s9;rintro S H ⟨sc,s7,s8,s9,hI⟩
  by_cases h4:nm=oP/\tl.length=3
  case pos=>
   rw[if_pos h4]at eJ;refine SW.cond rfl true (by show S 137=_;rw[sc];simp[h4]) ?_;obtain⟨s0,s2,e2,s4,e4,s5,fC,gO,fU⟩:=hI;obtain⟨w1,w2,w3,qv⟩:=aa1 h4.2;have adq:w2.length<=420:=DP w2 (by rw[qv];simp);have adx:w3.length<=420:=DP w3 (by rw[qv];simp);have a2:=PS (GI:=GI) hG hT ot w2 zo;have a3:=PS (GI:=GI) hG hT ot w3 zo;rw[qv]at eJ;refine SW.Hl hG de [5,9] [0,1,2,3,4,6,7,8,10,11,12,13,5,9,14,15,16,17,18] zk zk (l:=af.dl ic.qb.qb.qb.qb.qb.qb.qb.qb.qb.qa) zk (((ic.qb.qb.qb.qb.qb.qb.qb.qb.qb.qa.dl).take 5++((ic.qb.qb.qb.qb.qb.qb.qb.qb.qb.qa.dl).drop 6).take 3++((ic.qb.qb.qb.qb.qb.qb.qb.qb.qb.qa.dl).drop 10).take 4).map (λo=>(false,o))++((true,⟨some 150,none,.call 132 [.t 149]⟩)::(true,⟨some 154,none,.call 132 [.t 153]⟩)::((ic.qb.qb.qb.qb.qb.qb.qb.qb.qb.qa.dl).drop 14).map λo=>(false,o))) zk ?_;refine lP _ ?_;simp[c94,j9,ka,ic,af.qa,af.qb,ah,ae,af.dl,s4,e4,s8,qv,strs,mC];refine jM (by simp[ah,ae]) zk (by simpa[ah,ae]using a2) ?_
   cases nQ:jO w2 with
   |error er=>
    have eJ:st=.error er:=by rw[eJ];simp[nQ,dv]
    exact⟨er,eJ,rfl⟩
   |ok l2=>
    simp only[nG];refine jM (by simp[ah,ae]) zk (by simpa[ah,ae]using a3) ?_
    cases Y2:jO w3 with
    |error er=>
     have eJ:st=.error er:=by rw[eJ];simp[nQ,Y2,dv]
     exact⟨er,eJ,rfl⟩
    |ok l3=>
     have eJ:st=.ok { x with words:=x.words++[⟨l2,l3,w1==[121,101,115]⟩] }:=by rw[eJ];simp[nQ,Y2,dv]
     simp only[nG];refine tJ [⟨some 159,none,.build [.slice .nil [],.slice .nil [],.bool false] [(0,1,.t 150),(1,1,.t 154),(2,1,.t 158)]⟩,⟨some 160,none,.buildSlice 27 48 3 [.t 159]⟩,⟨some 161,none,.append 27 48 3 56 (.t 146) (.t 160)⟩,⟨some 162,none,.fieldAddr 7 (.t 4)⟩,⟨none,none,.store (.box 4) 1 (.t 162) (.t 161)⟩] ?_;have cN:aG 3 [AV.agg [.slice .view (ints l2),.slice .view (ints l3),.bool (w1==[121,101,115])]]=true:=rfl
     generalize nN:(w1==[121,101,115])=bb at*
     simp[bH,nN,VD,cN];refine kT (x.words.map cG) (cG ⟨l2,l3,bb⟩) (.own 48) ahB (by simp[cG,vI]) rfl (Q7 x.words) (by rw[adH];have:=iH.words;omega) ?_;intro S' sd cz;simp[sd,cz,s4,e4,mC];refine⟨_,eJ,by simp[ah,ae,cz,s0],by simp[ah,ae,cz,s2],by simp[ah,ae,e2],by simp[ah,ae,cz,s4],by simp[ah,ae,e4,mC,cG,vI,ints,grow],by simp[ah,ae,cz,s5],by simp[ah,ae,cz,fC,strs],by simp[ah,ae,cz,gO],by simp[ah,ae,cz,fU]⟩
  rw[if_neg h4]at eJ;refine SW.cond rfl false (by show S 137=_;rw[sc];simp[h4]) ?_;clear sc;refine SW.fP hG de zk (λd _=>bK d) (ac:=af.qb ic.qb.qb.qb.qb.qb.qb.qb.qb.qb) zk ?_;unfold fa.bB;simp[c94,j9,ka,ic,af.qa,af.qb,ah,ae,s7];refine oc (yG hG r) ?_;simp[eY];exact⟨r,eJ,rfl⟩
def Dv{c:cT}{x y z:af}{Q:dV->an->ao->Prop}{S:an}{H:ao}(h:ev S c=.bool true)(hx:bB prog GI x (iC prog GI y Q) S H):bB prog GI (.seq (.cond c x z) y) Q S H:=by
 simp only[bB,h];exact hx
end Go.Proofs.Tryz
namespace Go.Proofs.Tryz
open Go Go.AL Go.RowKit Go.Proofs Go.Proofs.Tram
variable{GI:World->Prop}
def Wd{Pr:Nat->Nat->Prop}{w:World}{e:List UInt8}{c:Value}(h:RD Pr w (pT e) c):c=.iface 192 (.agg #[.string ⟨e.toArray⟩]):=by
 unfold pT at h
 cases h with
 |iface t v c h=>
  cases h with
  |agg cs vs hl h1 hr=>
   have hs:vs.size=1:=by rw[<-hl];rfl
   have h0:=hr 0 ahB zo;simp only[List.getElem_cons_zero]at h0
   have:vs=#[vs[0]]:=by
    apply afc
    .simpa using hs
    .intro i h1 h2
     have:i=0:=by simp at h2;omega
     subst this;rfl
   rw[this];generalize vs[0]=x at h0;cases h0;rfl
def QC (hG:ar GI) {w0:World} {n:Nat} {g:Gh} {S:an} {H:ao} {a:Act} {w:World} {i1 i4:Nat} {s e:List UInt8} {z:List AV} (cm:GI w0) (R:Rel prog w0 n bP g S H a w) (EH:i1 < n) (D4:i4 < n)
  (C_:S i1=.box i1 0) (Df:H i1=some [.str s]) (AJ:S i4=.box i4 0) (E4:H i4=some z) (sr:AC prog GI 94 [.str s] (.panic (pT e))):
  Calls prog 93 #[a.tmps.getD i1 undef,a.tmps.getD i4 undef] w λen w2=>en=.panicked [{ v:=.iface 192 (.agg #[.string ⟨e.toArray⟩]),recovered:=false }]/\Below w.heap.size w w2:=by
 have bl:=R.size;have v1:=R.slot i1 EH id;rw[C_]at v1;have v4:=R.slot i4 D4 id;rw[AJ]at v4
 obtain⟨b1,e1,zi⟩:∃b,a.tmps.getD i1 undef=.pointer (some ⟨b,0,none⟩)/\g.al i1=some b:=by
  generalize a.tmps.getD i1 undef=c at v1
  cases v1 with
  |data _ _ h=>cases h
  |box _ _ b h=>exact⟨b,rfl,h⟩
 obtain⟨b4,e4,aa9⟩:∃b,a.tmps.getD i4 undef=.pointer (some ⟨b,0,none⟩)/\g.al i4=some b:=by
  generalize a.tmps.getD i4 undef=c at v4
  cases v4 with
  |data _ _ h=>cases h
  |box _ _ b h=>exact⟨b,rfl,h⟩
 obtain⟨cs,vs,ty,k0,k1,k2,k3,k4,k5,k6,k7,k8⟩:=R.box i1 b1 zi;rw[Df]at k0;cases k0
 have h0:0<vs.size:=by rw[<-k5];exact agN
 have hv:=nP (RV.data (al:=cQ) _ _ (k6 0 ahB h0))
 have eO:w.cell? ⟨b1,0,none⟩=some (.string ⟨s.toArray⟩):=by simp[World.cell?,k2,h0,hv]
 have uQ:=R.below;rw[R.base]at uQ;have gD:GI w:=hG w0 w cm uQ;rw[e1,e4];refine afJ func93 rfl ?_;refine(fy (m:=0)).1 ?_;refine ik (λa=>a.tmps.size=4/\a.defers=[]/\a.tmps.getD 0 undef=.pointer (some ⟨b1,0,none⟩)/\a.tmps.getD 1 undef=.pointer (some ⟨b4,0,none⟩)) ⟨by simp[ntmps93],rfl,cJ _ _ 0 ahB,cJ _ _ 1 ahB⟩ ?_;rintro aC ⟨zC,dC,t0,t1⟩
 have jL:∀(a:Act)(d:Nat)(c:Value),a.tmps.size=4->d<4->(a.put (some d) c).tmps.getD d undef=c:=λa d c h hd=>by
  simp[Act.put,h,hd]
 refine aea ?_;show wpOpsIn _ _ _ _ _ [0,1,2] aC w;refine bf rfl rfl zr (jT (t:=9) (d:=.string) (b:=b1) (off:=0) rfl t0 zk rfl eO) ?_;show wpOpsIn _ _ _ _ _ [1,2] (aC.put (some 2) (.string ⟨s.toArray⟩)) w
 refine pd rfl rfl zr (gq (k:=94) (args:=#[.string ⟨s.toArray⟩]) w rfl rfl ?_ zk) (sr w (fI g false) #[.string ⟨s.toArray⟩] gD rfl (λi h h'=>by
  match i,h with
  |0,_=>exact .data _ _ (.str s))) ?_
 .simp only[aeg,adU,aee];show #[(aC.put (some 2) _).tmps.getD 2 undef]=_;rw[jL _ _ _ zC zd]
 rintro en w2 ⟨iL,hi,qR,c,rfl,dh⟩;have hc:=Wd dh;subst hc;exact⟨dC,rfl,iL⟩
def Qk (hG:ar GI) {w0:World} {n:Nat} {g:Gh} {S:an} {H:ao} {a:Act} {w:World} {i1 i4:Nat} {s e:List UInt8} {z:List AV} (cm:GI w0) (R:Rel prog w0 n bP g S H a w) (EH:i1 < n) (D4:i4 < n)
  (C_:S i1=.box i1 0) (Df:H i1=some [.str s]) (AJ:S i4=.box i4 0) (E4:H i4=some z) (sr:AC prog GI 94 [.str s] (.panic (pT e))):
  Calls prog 92 #[.func (.func 93) #[] #[a.tmps.getD i1 undef,a.tmps.getD i4 undef]] w λen w2=>en=.returned (.int .i64 4)/\∃g',g'.old=g.old/\Rel prog w0 n bP g' S H a w2:=by
 have R1:=R.nF (.cells #[.int .i64 0] 34)
 have yA:g.old.aU w.heap.size=none:=by
  cases h:g.old.aU w.heap.size with
  |none=>rfl
  |some o=>
   have:=(adD.1 (R.kept _ o h).2.1).1;omega
 refine qx zk (QC hG cm R1 EH D4 C_ Df AJ E4 sr) ?_;rintro en w2 ⟨rfl,iL⟩;have R2:=R1.jV iL;have hk:au g.old.aU w.heap.size (some (.cells #[.int .i64 0] 34)) w.heap.size=some (.cells #[.int .i64 0] 34):=aO _ _ _;have ky:=(R2.kept _ _ hk).2.1;have aq:=(adD.1 ky).1;refine⟨aq,⟨_,_,ky⟩,.inr (.inr ⟨e,rfl,λw3 oF=>⟨rfl,?_⟩⟩)⟩;have R3:=R2.jV oF;have Du:=(R3.kept _ _ hk).2.1;have R4:=R3.mQ hk (.cells #[.int .i64 4] 34);rw[nI w3 Du];refine⟨_,?_,tv R4 w.heap.size⟩
 have:au (au (au g.old.aU w.heap.size (some (.cells #[.int .i64 0] 34))) w.heap.size (some (.cells #[.int .i64 4] 34))) w.heap.size none=g.old.aU:=by
  funext b
  by_cases hb:b=w.heap.size
  .subst hb;simp[au,yA]
  .simp[au,hb]
 show({ g.old with aU:=au (au (au g.old.aU w.heap.size (some (.cells #[.int .i64 0] 34))) w.heap.size (some (.cells #[.int .i64 4] 34))) w.heap.size none }:Old)=_;rw[this]
end Go.Proofs.Tryz
namespace Go.Proofs.Tryz
open Go Go.AL Go.RowKit Go.Proofs Go.Proofs.Tram
attribute [local simp] ez fF fo eN eM ea eb dG dH eU dI da gZ g_ aF aD ev aP.S aP.H bt au aW AL.start AV.cells AV.storable AV.ct bC cb dU cd HR.okB post cH db c_ AV.out AV.b_ cU d_ fz ia AV.vw cW vI int cy aN di dQ iC jw eP dW bD AV.aI AV.cI
variable{GI:World->Prop}
def AW:List AV:=[.slice .nil [],.slice .nil [],.int .i64 0,.int .i64 0,.int .i64 0,.int .i64 0,.int .i64 0,.slice .nil [],.int .i64 0,.int .i64 0]
def Ys(hG:ar GI){s e:List UInt8}(hs:s.length<=320)(sr:AC prog GI 94 [.str s] (.panic (pT e))):AC prog GI 43 [.str s] (.ret (.dY [cE cK,.int .i64 4])):=by
 refine AC.ji func43 rfl ntmps43 ahB λcc w=>?_
 refine dT hG c43.qa (λS' H'=>S' 1=.box 1 0/\S' 2=.box 2 0/\H' 1=some [.str s]/\∃z,H' 2=some z/\z.length=10) ?_ ?_
 .simp[c43,af.qa,bB,bq,aF,ba,aD,ev,aP.S,aP.H,au,aW,AL.start,AV.aI,AV.cells,AV.storable,cb,bt,aN]
 rintro S1 H1 ⟨s1,s2,h1,z2,h2,RZ⟩;refine SW.seq (dT hG c43.qb.qa.qa (λS' H'=>S' 1=.box 1 0/\S' 2=.box 2 0/\H' 1=some [.str s]/\H' 2=some z2/\S' 8=.bool false) ?_ ?_)
 .have Uj:¬(320:Int)<s.length:=zo
  simp[c43,af.qa,af.qb,bB,bq,aF,ba,aD,ev,aP.S,aP.H,au,aW,s1,s2,h1,h2,cd,HR.okB,AV.aI,dU,Uj,aN]
 rintro S2 H2 ⟨s1,s2,h1,h2,s8⟩;refine SW.cond rfl false (by show S2 8=_;rw[s8]) (SW.skip ?_);show SW prog GI 21 none (.seq _ (.seq (.seq _ (.seq _ (.cond _ _ _))) (.seq (.seq _ (.cond _ _ _)) (.seq _ .ret)))) _ _ _ _;refine dT hG c43.qb.qb.qa (λS' H'=>S' 1=.box 1 0/\S' 2=.box 2 0/\S' 4=.box 4 0/\H' 1=some [.str s]/\H' 2=some z2/\∃z,H' 4=some z/\z.length=10) ?_ ?_
 .simp[c43,af.qa,af.qb,bB,bq,aF,ba,au,cb,s1,s2,h1,h2,aN]
 rintro S3 H3 ⟨s1,s2,s4,h1,h2,z4,h4,QJ⟩
 refine SW.seq (SW.seq (SW.hand hG (p:=0) (lm:=[0,1]) (l2:=[2]) (jX:=[]) (oh:=[_,_]) (mw:=[_]) rfl rfl rfl rfl zk (λ_ h=>h) (mS:=[]) (mf:=(c43.qb.qb.qb.qa.qa.dl).drop 2) rfl zk rfl zk
  (K1:=λS' H'=>S' 1=.box 1 0/\S' 2=.box 2 0/\S' 4=.box 4 0/\H' 1=some [.str s]/\H' 2=some z2/\H' 4=some z4)
  (K2:=λo S' H'=>o=Old.plain cc w/\S' 2=.box 2 0/\S' 4=.box 4 0/\S' 11=.int .i64 4/\H' 2=some z2/\H' 4=some z4)
  (K3:=λo S' H'=>o=Old.plain cc w/\S' 2=.box 2 0/\S' 4=.box 4 0/\S' 5=.int .i64 4/\H' 2=some z2/\H' 4=some z4) ⟨s1,s2,s4,h1,h2,h4⟩ ?_ ?_ ?_))
 .rintro w0 g S5 H5 a w5 m cm ho R ⟨s1,s2,s4,h1,h2,h4⟩;have bl:=R.size;refine bf rfl rfl zr (mB (fn:=.func 93) (c:=#[.tmp 1,.tmp 4]) rfl) ?_
  obtain⟨fv,lV⟩:∃fv:Value,fv=.func (.func 93) #[] (#[Operand.tmp 1,.tmp 4].map a.eval):=⟨_,rfl⟩
  show wpOpsIn _ _ _ _ _ [1] (a.put (some 10) (.func (.func 93) #[] (#[Operand.tmp 1,.tmp 4].map a.eval))) w5;rw[<-lV];have R1:=R.put 10 .bp fv zd (.bp _) trivial
  obtain⟨a1,ny⟩:∃a1,a.put (some 10) fv=a1:=⟨_,rfl⟩
  rw[ny]at R1⊢
  have vv:fv=.func (.func 93) #[] #[a1.tmps.getD 1 undef,a1.tmps.getD 4 undef]:=by
   have e1:=cg a 10 1 fv zo;have e4:=cg a 10 4 fv zo;rw[if_neg zd,ny]at e1 e4;have wO:a1.tmps.getD 1 undef=a.eval (.tmp 1):=e1;have EG:a1.tmps.getD 4 undef=a.eval (.tmp 4):=e4;rw[wO,EG,lV];simp only[aeg,adU,aee]
  have iP:a1.eval (.tmp 10)=fv:=by rw[<-ny,cg _ _ _ _ zo,if_pos rfl]
  refine gC rfl rfl zr (gq (k:=92) (args:=#[.func (.func 93) #[] #[a1.tmps.getD 1 undef,a1.tmps.getD 4 undef]]) w5 rfl rfl ?_ zk) (Qk hG cm R1 (i1:=1) (i4:=4) zd zd (by simp[au,s1]) h1 (by simp[au,s4]) h4 sr) ?_
  .simp only[aeg,adU,aee,iP,<-vv]
  .rintro e w6 ⟨rfl,g',nM,R2⟩;refine⟨_,rfl,?_⟩;have R3:=R2.put 11 (.int .i64 4) (.int .i64 4) zd (.data _ _ (.int _ _)) trivial;refine⟨g',_,H5,R3,nM.trans ho,?_,?_,aO _ _ _,h2,h4⟩
   .simp[au,s2]
   .simp[au,s4]
 .rintro o S5 H5 ⟨rfl,s2,s4,bG,h2,h4⟩;refine⟨λ_ h=>h,?_⟩;simp[c43,af.qa,af.qb,af.dl,bq,aF,ba,aD,ev,aP.S,aP.H,au,aW,s2,s4,bG,h2,h4,AV.aI,bt]
 .rintro o S5 H5 ⟨rfl,s2,s4,s5,h2,h4⟩;refine dT hG c43.qb.qb.qb.qa.qb.qa (λS' H'=>S' 2=.box 2 0/\S' 5=.int .i64 4/\S' 13=.bool true/\H' 2=some z2) ?_ ?_
  .simp[c43,af.qa,af.qb,bB,bq,aF,ba,aD,ev,aP.S,aP.H,au,aW,s2,s4,s5,h2,h4,AV.aI,dU,aN]
  rintro S6 H6 ⟨s2,s5,dM,h2⟩;refine SW.cond rfl true (by show S6 13=_;rw[dM]) ?_;show SW prog GI 21 none (.seq _ .ret) _ _ _ _;have OL:List.drop 10 z2=[]:=aeU zo;refine dT hG c43.qb.qb.qb.qa.qb.qb.qa.qa (λS' H'=>S' 2=.box 2 0/\S' 3=.int .i64 4/\H' 2=some AW) ?_ ?_
  .simp[c43,af.qa,af.qb,s2,s5,h2,bH,AW,RZ,OL]
  rintro S8 H8 ⟨s2,s3,h2⟩;obtain⟨i28,sg,sj⟩:=iZ 29 10;obtain⟨fs,fH⟩:=uZ 29;refine SW.ret ⟨eo.plain rfl,rfl,_,?_,rfl⟩;show cH prog 21 [.cell 2 29,.tmp 3] S8 H8=_;simp[cH,db,c_,s2,s3,h2,sg,fH,sj,cd,eh,AV.out,AW,AV.aI,AV.b_,AV.vw,AV.cI,cE,ai,cK,vI,ints]
def Zz (hG:ar GI) {s:List UInt8} {x:List AV} (hs:s.length≤320) (hx:x.length=10) (sr:AC prog GI 94 [.str s] (.ret (.agg x))) (R9:AC prog GI 44 [.agg (x.map AV.cI)] (.ret (.bool false))) :
  AC prog GI 43 [.str s] (.ret (.dY [cE cK,.int .i64 2])):=by
 refine AC.ji func43 rfl ntmps43 ahB λcc w=>?_
 refine dT hG c43.qa (λS' H'=>S' 1=.box 1 0/\S' 2=.box 2 0/\H' 1=some [.str s]/\∃z,H' 2=some z/\z.length=10) ?_ ?_
 .simp[c43,af.qa,bB,bq,aF,ba,aD,ev,aP.S,aP.H,au,aW,AL.start,AV.aI,AV.cells,AV.storable,cb,bt,aN]
 rintro S1 H1 ⟨s1,s2,h1,z2,h2,RZ⟩;refine SW.seq (dT hG c43.qb.qa.qa (λS' H'=>S' 1=.box 1 0/\S' 2=.box 2 0/\H' 1=some [.str s]/\H' 2=some z2/\S' 8=.bool false) ?_ ?_)
 .have Uj:¬(320:Int)<s.length:=zo
  simp[c43,af.qa,af.qb,bB,bq,aF,ba,aD,ev,aP.S,aP.H,au,aW,s1,s2,h1,h2,cd,HR.okB,AV.aI,dU,Uj,aN]
 rintro S2 H2 ⟨s1,s2,h1,h2,s8⟩;refine SW.cond rfl false (by show S2 8=_;rw[s8]) (SW.skip ?_);show SW prog GI 21 none (.seq _ (.seq (.seq _ (.seq _ (.cond _ _ _))) (.seq (.seq _ (.cond _ _ _)) (.seq _ .ret)))) _ _ _ _;refine dT hG c43.qb.qb.qa (λS' H'=>S' 1=.box 1 0/\S' 2=.box 2 0/\S' 4=.box 4 0/\H' 1=some [.str s]/\H' 2=some z2/\∃z,H' 4=some z/\z.length=10) ?_ ?_
 .simp[c43,af.qa,af.qb,bB,bq,aF,ba,au,cb,s1,s2,h1,h2,aN]
 rintro S3 H3 ⟨s1,s2,s4,h1,h2,z4,h4,QJ⟩
 refine SW.seq (SW.seq (SW.hand hG (p:=0) (lm:=[0,1]) (l2:=[2]) (jX:=[]) (oh:=[_,_]) (mw:=[_]) rfl rfl rfl rfl zk (λ_ h=>h) (mS:=[]) (mf:=(c43.qb.qb.qb.qa.qa.dl).drop 2) rfl zk rfl zk
  (K1:=λS' H'=>S' 1=.box 1 0/\S' 2=.box 2 0/\S' 4=.box 4 0/\H' 1=some [.str s]/\H' 2=some z2/\H' 4=some z4)
  (K2:=λo S' H'=>o=Old.plain cc w/\S' 2=.box 2 0/\S' 4=.box 4 0/\S' 11=.int .i64 0/\H' 2=some z2/\H' 4=some (x.map AV.aI))
  (K3:=λo S' H'=>o=Old.plain cc w/\S' 2=.box 2 0/\S' 4=.box 4 0/\S' 5=.int .i64 0/\H' 2=some z2/\H' 4=some (x.map AV.aI)) ⟨s1,s2,s4,h1,h2,h4⟩ ?_ ?_ ?_))
 .rintro w0 g S5 H5 a w5 m cm ho R ⟨s1,s2,s4,h1,h2,h4⟩;have bl:=R.size;refine bf rfl rfl zr (mB (fn:=.func 93) (c:=#[.tmp 1,.tmp 4]) rfl) ?_
  obtain⟨fv,lV⟩:∃fv:Value,fv=.func (.func 93) #[] (#[Operand.tmp 1,.tmp 4].map a.eval):=⟨_,rfl⟩
  show wpOpsIn _ _ _ _ _ [1] (a.put (some 10) (.func (.func 93) #[] (#[Operand.tmp 1,.tmp 4].map a.eval))) w5;rw[<-lV];have R1:=R.put 10 .bp fv zd (.bp _) trivial
  obtain⟨a1,ny⟩:∃a1,a.put (some 10) fv=a1:=⟨_,rfl⟩
  rw[ny]at R1⊢
  have vv:fv=.func (.func 93) #[] #[a1.tmps.getD 1 undef,a1.tmps.getD 4 undef]:=by
   have e1:=cg a 10 1 fv zo;have e4:=cg a 10 4 fv zo;rw[if_neg zd,ny]at e1 e4;have wO:a1.tmps.getD 1 undef=a.eval (.tmp 1):=e1;have EG:a1.tmps.getD 4 undef=a.eval (.tmp 4):=e4;rw[wO,EG,lV];simp only[aeg,adU,aee]
  have iP:a1.eval (.tmp 10)=fv:=by rw[<-ny,cg _ _ _ _ zo,if_pos rfl]
  refine gC rfl rfl zr (gq (k:=92) (args:=#[.func (.func 93) #[] #[a1.tmps.getD 1 undef,a1.tmps.getD 4 undef]]) w5 rfl rfl ?_ zk) (L_ hG cm R1 (d:=11) (i1:=1) (i4:=4) zd zd zd zd (by simp[au,s1]) h1 (by simp[au,s4]) h4 QJ hx sr) ?_
  .simp only[aeg,adU,aee,iP,<-vv]
  .rintro e w6 ⟨rfl,c,g',S',H',nM,R2,qZ,uM⟩;refine⟨_,rfl,?_⟩;have R3:=R2.put 11 (.int .i64 0) (.int .i64 0) zd (.data _ _ (.int _ _)) trivial;rw[yS]at R3;refine⟨g',_,H',R3,nM.trans ho,?_,?_,aO _ _ _,?_,?_⟩
   .show au S' 11 _ 2=_;rw[aT _ _ zd,qZ 2 zd];simp[au,s2]
   .show au S' 11 _ 4=_;rw[aT _ _ zd,qZ 4 zd];simp[au,s4]
   .rw[uM,aT _ _ zd];exact h2
   .rw[uM];exact aO _ _ _
 .rintro o S5 H5 ⟨rfl,s2,s4,bG,h2,h4⟩;refine⟨λ_ h=>h,?_⟩;simp[c43,af.qa,af.qb,af.dl,bq,aF,ba,aD,ev,aP.S,aP.H,au,aW,s2,s4,bG,h2,h4,AV.aI,bt]
 .rintro o S5 H5 ⟨rfl,s2,s4,s5,h2,h4⟩;refine dT hG c43.qb.qb.qb.qa.qb.qa (λS' H'=>S' 2=.box 2 0/\S' 4=.box 4 0/\S' 13=.bool false/\H' 2=some z2/\H' 4=some (x.map AV.aI)) ?_ ?_
  .simp[c43,af.qa,af.qb,bB,bq,aF,ba,aD,ev,aP.S,aP.H,au,aW,s2,s4,s5,h2,h4,AV.aI,dU,aN]
  rintro S6 H6 ⟨s2,s4,dM,h2,h4⟩;refine SW.cond rfl false (by show S6 13=_;rw[dM]) (SW.skip ?_);have BP:List.take 10 (x.map AV.aI)=x.map AV.aI:=adI (by simp;omega)
  have e7:∀(l:List AV) H,fz H (.agg (l.map AV.aI))=.agg (l.map AV.cI):=λl H=>by simp only[fz,ia,AV.vw,aeT,pk]
  refine SW.seq (dT hG c43.qb.qb.qb.qb.qa.qa (λS' H'=>S' 2=.box 2 0/\S' 18=.bool true/\H' 2=some z2) ?_ ?_)
  .simp[c43,af.qa,af.qb,bB,bq,aF,ba,aD,ev,aP.S,aP.H,au,aW,s2,s4,h2,h4,cd,HR.okB,hx,iM,BP,e7,aN,-fz];refine oc R9 ?_;simp[eY,au,s2,s4,h2,h4]
  rintro S7 H7 ⟨s2,kX,h2⟩;refine SW.cond rfl true (by show S7 18=_;rw[kX]) ?_;show SW prog GI 21 none (.seq _ .ret) _ _ _ _;have OL:List.drop 10 z2=[]:=aeU zo;refine dT hG c43.qb.qb.qb.qb.qa.qb.qa.qa (λS' H'=>S' 2=.box 2 0/\S' 3=.int .i64 2/\H' 2=some AW) ?_ ?_
  .simp[c43,af.qa,af.qb,s2,h2,bH,AW,RZ,OL]
  rintro S8 H8 ⟨s2,s3,h2⟩;obtain⟨i28,sg,sj⟩:=iZ 29 10;obtain⟨fs,fH⟩:=uZ 29;refine SW.ret ⟨eo.plain rfl,rfl,_,?_,rfl⟩;show cH prog 21 [.cell 2 29,.tmp 3] S8 H8=_;simp[cH,db,c_,s2,s3,h2,sg,fH,sj,cd,eh,AV.out,AW,AV.aI,AV.b_,AV.vw,AV.cI,cE,ai,cK,vI,ints]
def G3(t:List UInt8):AV:=if 320<t.length then .dY [cE cK,.int .i64 3]else match j_ t with
 |.error _=>.dY [cE cK,.int .i64 4]
 |.ok x=>if bj x then .dY [cE x,.int .i64 0]else .dY [cE cK,.int .i64 2]
def xh{t:List UInt8}(ht:t.length<=420){x:aJ}(h:j_ t=.ok x):qI x:=by
 have G8:j_ t=if(aZ 10 t).length<2 then .error t else dv (fu mh cK ((aZ 10 t).take ((aZ 10 t).length-2))) λx=>if fS x=t then .ok x else .error t:=rfl
 rw[G8]at h;split at h
 .cases h
 obtain⟨y,hy,h⟩:=fT h;split at h
 case isFalse=>cases h
 cases h;have hl:=lM 10 t;obtain⟨hg,_⟩:=sV (b:=421) (λr hr=>by have:=kJ (c:=10) (aef hr);omega) (rH _) hy
 have hL:((aZ 10 t).take ((aZ 10 t).length-2)).length<=421:=by rw[adS];omega
 exact⟨by have:=hg.aM;omega,by have:=hg.aL;omega,by have:=hg.words;omega,λw hw=>by have:=hg.aV w hw;omega,λw hw=>by have:=hg.bZ w hw;omega⟩
def vo(x:aJ):(ai x).map AV.cI=ai x:=rfl
def YJ(hG:ar GI)(hT:TB GI)(ot:ML GI)(t:List UInt8)(ht:t.length<=420):AC prog GI 43 [.str t] (.ret (G3 t)):=by
 unfold G3
 by_cases hl:320<t.length
 .rw[if_pos hl]
  have MW:(320:Int)<t.length:=zo
  obtain⟨i28,sg,sj⟩:=iZ 29 10;obtain⟨fs,fH⟩:=uZ 29;refine cw hG func43 ntmps43 c43 ?_;simp[c43,MW,bH,sg,fH,sj,eh,cE,ai,cK,ints]
 rw[if_neg hl];have a119:=ada hG hT ot t ht
 cases hp:j_ t with
 |error e=>
  rw[hp]at a119;exact Ys hG zo a119
 |ok x=>
  rw[hp]at a119;have hs:=xh ht hp;have Wr:=Gn hG x hs;simp only
  cases fJ:bj x with
  |true=>
   rw[fJ]at Wr;have:=aa8 hG (s:=t) (x:=ai x) zo rfl a119 (by rw[vo];exact Wr);rw[vo]at this;exact this
  |false=>
   rw[fJ]at Wr;exact Zz hG zo (x:=ai x) rfl a119 (by rw[vo];exact Wr)
end Go.Proofs.Tryz
namespace Go.Proofs.Tryz
open Go.AL
def G'{a b:Nat}(ha:a<10)(hb:b<10)(h:dg a=dg b):a=b:=by
 have:=congrArg UInt8.toNat h;rw[oY ha,oY hb]at this;omega
def FH{s:aJ}(hs:bj s=true):(eE s).length<=18:=by
 have hF:=gx hs;have b1:=hF.Gq;have b2:=hF.Pg;have b3:=hF.words.2;unfold eE;simp;omega
def L3{s:aJ}(hs:bj s=true):∀p∈eE s,p.length<=30:=by
 obtain⟨h1,h2,h3,h4,h5⟩:=Dk hs;intro p hp;unfold eE at hp;simp only[ad_,adG,adZ]at hp
 rcases hp with rfl|rfl|⟨n,hn,rfl⟩|⟨q,hq,rfl⟩|⟨w,hw,rfl⟩
 .omega
 .omega
 .have:=h3 n hn;omega
 .have:=h4 q hq;omega
 .exact h5 w hw
def A0 {c d:UInt8}:∀ {R:List (List UInt8)} {at':Nat} (h:at' < (dJ c R).length),(dJ c R)[at']≠c →
  ∃i k,∃hi:i<R.length,∃hk:k<R[i].length,R[i][k]=(dJ c R)[at']/\(dJ c R).set at' d=dJ c (R.set i (R[i].set k d))
 |[],_,h,_=>by simp[dJ]at h
 |[p],n,h,_=>⟨0,n,agN,h,rfl,rfl⟩
 |p::q::r,n,h,hn=>by
  have e:=fp c p (l:=q::r) ahB
  by_cases h1:n<p.length
  .refine⟨0,n,ahB,h1,?_,?_⟩
   .simp only[List.getElem_cons_zero,e];rw[ad5 h1]
   .show _=dJ c (p.set n d::q::r);rw[fp c (p.set n d) ahB];simp only[e];rw[List.set_append_left _ _ h1]
  .have h2:n≠p.length:=by
    intro e2;apply hn;simp only[e];rw[aec zo];simp[e2]
   have hl:(dJ c (p::q::r)).length=p.length+1+(dJ c (q::r)).length:=by rw[e];simp;omega
   have h3:n-p.length-1<(dJ c (q::r)).length:=zo
   have hg:(dJ c (p::q::r))[n]=(dJ c (q::r))[n-p.length-1]:=by
    simp only[e];rw[aec zo]
    obtain⟨m,hm⟩:∃m,n-p.length=m+1:=⟨n-p.length-1,zo⟩
    simp[hm]
   obtain⟨i,k,hi,hk,e1,e2⟩:=A0 (R:=q::r) (d:=d) h3 (by rw[<-hg];exact hn);refine⟨i+1,k,by simpa using hi,by simpa using hk,by rw[hg];simpa using e1,?_⟩;show _=dJ c (p::(q::r).set i _);rw[fp c p (l:=(q::r).set i _) ahB];simp only[e];rw[List.set_append_right _ _ zo]
   obtain⟨m,hm⟩:∃m,n-p.length=m+1:=⟨n-p.length-1,zo⟩
   rw[hm,List.set_cons_succ];rw[show n-p.length-1=m by omega]at e2;rw[e2];rfl
def DX{d:UInt8}:∀{l:List UInt8}{m k:Nat}(h:k<l.length),cP m (l.set k d)=cP m l+((d.toNat:Int)-(l[k].toNat:Int))*((m+k:Nat)+1)
 |[],_,_,h=>by simp at h
 |b::l,m,0,h=>by
  show(d.toNat:Int)*(m+1)+cP (m+1) l=(b.toNat:Int)*(m+1)+cP (m+1) l+_;simp only[List.getElem_cons_zero,Nat.add_zero];rw[Int.sub_mul];omega
 |b::l,m,k+1,h=>by
  show(b.toNat:Int)*(m+1)+cP (m+1) (l.set k d)=(b.toNat:Int)*(m+1)+cP (m+1) l+_;rw[DX (by simpa using h)];simp only[List.getElem_cons_succ];rw[show m+1+k=m+(k+1) by omega];omega
def B1{x:List UInt8}:∀{L:List (List UInt8)}{m i:Nat}(h:i<L.length),bo m (L.set i x)=bo m L+(cP 0 x-cP 0 L[i])*((m+i:Nat)+1)
 |[],_,_,h=>by simp at h
 |b::l,m,0,h=>by
  show cP 0 x*(m+1)+bo (m+1) l=cP 0 b*(m+1)+bo (m+1) l+_;simp only[List.getElem_cons_zero,Nat.add_zero];rw[Int.sub_mul];omega
 |b::l,m,i+1,h=>by
  show cP 0 b*(m+1)+bo (m+1) (l.set i x)=cP 0 b*(m+1)+bo (m+1) l+_;rw[B1 (by simpa using h)];simp only[List.getElem_cons_succ];rw[show m+1+i=m+(i+1) by omega];omega
end Go.Proofs.Tryz
namespace Go.Proofs.Tryz
open Go.AL
variable{s:aJ}{x y:List End}
def gX(s:aJ):List End->List End->Bool:=Lq List.length (zS s [])
end Go.Proofs.Tryz
namespace Go.Proofs.Tryz
open Go Go.AL Go.RowKit Go.Proofs Go.Proofs.Tram
attribute [local simp] ez fF fo eN eM ea eb dG dH eU dI da gZ g_ aF aD ev aP.S aP.H bt au aW AL.start AV.cells AV.storable AV.ct bC cb dU cd HR.okB post cH db c_ AV.out AV.b_ cU d_ fz ia AV.vw cW vI int cy aN di dQ iC jw eP dW bD AV.aI AV.cI
variable{GI:World->Prop}
def CY(s:aJ):(a_ s).map AV.cI=a_ s:=by
 simp[a_,ai,cq,vI,ints,AV.cI]
def Ba(s:aJ):(a_ s).length=11:=rfl
def IZ(s:aJ):AV.agg ((a_ s).take 10|>.map AV.cI)=cE s:=by
 simp[a_,ai,cE,vI,ints,AV.cI]
def Ld{s:aJ}(h:bj s=true):qI s:=by
 have hF:=gx h;refine⟨by have:=hF.Gq;omega,by have:=hF.Pg;omega,by have:=hF.words;omega,λw hw=>?_,λw hw=>?_⟩
 .have:=(mZ h hw).zh;omega
 .have f:=mZ h hw;have:=tI f.bZ (by have:=f.BD;omega);have:=f.zh;omega
def V7(hG:ar GI)(s:aJ)(fJ:bj s=true)(out:List Int)(ho:out.length<=1000):yp prog GI 165 [.ref (a_ s),.ref [vI out]] ((Dn s out s.rows.toNat).map (br out)):=by
 have hr:=(gx fJ).rows;have he:=CP fJ out;refine Z_ hG (oE:=.view) (all:=mr s out) (rows:=s.rows.toNat) zo zo ho (Ba s) ?_ ?_ ?_
 .intro x hx;simp[a_,ai]at hx
  rcases hx with rfl|rfl|rfl|rfl|rfl|rfl|rfl|rfl|rfl|rfl<;>exact⟨rfl,rfl,rfl⟩
 .show some (AV.int .i64 s.rows)=some (.int .i64 (s.rows.toNat:Nat));rw[aga zo]
 .rw[IZ];exact aad hG s (Ld fJ) out zo
def CC{s:aJ}(fJ:bj s=true){out:List Int}(ku:ig s out=true){es:List End}(h:es∈Dn s out s.rows.toNat):mG s out es=true/\es.length<=3:=by
 have hr:=(gx fJ).rows;obtain⟨h1,h2⟩:=(F0 fJ ku).1 h;exact⟨h1,zo⟩
def Wl(hG:ar GI)(s:aJ)(fJ:bj s=true)(out:List Int)(ho:out.length<=1000)(ku:ig s out=true){es:List End}(h:es∈Dn s out s.rows.toNat):AC prog GI 153 [.agg ((a_ s).map AV.cI),br out es,.int .i64 0] (.ret (.bool (ll s out es 0))):=by
 obtain⟨h1,h2⟩:=CC fJ ku h;rw[CY];exact T9 hG s fJ out zo es zo (yK fJ h1) zo zo
def Pe(hG:ar GI)(s:aJ)(fJ:bj s=true)(out:List Int)(ho:out.length<=1000)(ku:ig s out=true):AC prog GI 140 [iw s,vI out] (.ret (.slice .view ((lD s out).map (br out)))):=by
 have hr:=(gx fJ).rows;have hl:=Gb fJ out (m:=s.rows.toNat) zo;refine AC.nK (o:=if(lD s out).isEmpty then .nil else .view) ?_
 exact Ze hG (Ba s) (by
  intro x hx;simp[a_,ai]at hx
  rcases hx with rfl|rfl|rfl|rfl|rfl|rfl|rfl|rfl|rfl|rfl|rfl<;>rfl) zo (λes h=>by have:=(CC fJ ku h).2;omega) (by rw[CY];exact V7 hG s fJ out ho) (λes h=>Wl hG s fJ out ho ku h)
def Yj(hG:ar GI)(s:aJ)(fJ:bj s=true){a b:List End}(ha:mG s [] a=true)(hb:mG s [] b=true)(jC:a.length<=10)(lr:b.length<=10):AC prog GI 142 [br [] a,br [] b,.ref (a_ s)] (.ret (.bool (gX s a b))):=by
 have ga:=Ng hG s fJ [] ahB a zo (yK fJ ha);have gb:=Ng hG s fJ [] ahB b zo (yK fJ hb);refine cw hG func142 ntmps142 c142 ?_;refine aK (λS H=>S 2=.ref (a_ s)/\S 3=.box 3 0/\S 4=.box 4 0/\H 3=some [vI [],.slice .view (a.map bX)]/\H 4=some [vI [],.slice .view (b.map bX)]) (by simp[br,aX]) ?_;rintro S H ⟨s2,s3,s4,e3,e4⟩;refine aK (λS H=>S 2=.ref (a_ s)/\S 3=.box 3 0/\S 4=.box 4 0/\H 3=some [vI [],.slice .view (a.map bX)]/\H 4=some [vI [],.slice .view (b.map bX)]/\S 6=.int .i64 a.length/\S 7=.int .i64 b.length) (by simp[s2,s3,s4,e3,e4]) ?_;clear s2 s3 s4 e3 e4 S H;rintro S H ⟨s2,s3,s4,e3,e4,s6,s7⟩;unfold gX Lq
 by_cases aq:a.length<b.length
 .have nc:(a.length:Int)<b.length:=zo
  simp[s2,s3,s4,e3,e4,s6,s7,aq,nc]
 by_cases he:a.length=b.length
 case neg=>
  have nc:¬(a.length:Int)<b.length:=zo
  have nL:((a.length:Int)==b.length)=false:=by simp;omega
  have G9:(a.length==b.length)=false:=by simpa using he
  simp[s2,s3,s4,e3,e4,s6,s7,aq,nc,nL,G9]
 simp[s2,s3,s4,e3,e4,s6,s7,he,a_,ai,cq];refine oc ga ?_;simp[s2,s3,s4,e3,e4,s6,s7,he,a_,ai,cq];refine oc gb ?_;simp[s2,s3,s4,e3,e4,s6,s7,he,a_,ai,cq]
def Tf(l:List (List End)):aG 2 (l.map (br []))=true:=iE λa=>⟨rfl,rfl⟩
def KU{α:Type}(better:α->α->Bool)(x:α){l:List α}{i:Nat}(h:i<l.length):kv better x (l.take (i+1))=if better l[i] (kv better x (l.take i))then l[i]else kv better x (l.take i):=by
 unfold kv;rw[adJ h,aeJ];rfl
def tA{α:Type}(better:α->α->Bool):∀(l:List α)(x:α),kv better x l∈x::l
 |[],x=>adX
 |a::l,x=>by
  show kv better (if better a x then a else x) l∈_;have:=tA better l (if better a x then a else x);rcases ad_.1 this with e|h
  .rw[e];split<;>simp
  .exact adO _ (adO _ h)
def aas(hG:ar GI)(s:aJ)(fJ:bj s=true)(x:List End)(l:List (List End))(hl:l.length<100000)(h:∀a∈x::l,mG s [] a=true/\a.length<=10):AC prog GI 141 [.slice .view ((x::l).map (br [])),.func (.func 142) [] [.ref (a_ s)]] (.ret (br [] (kv (gX s) x l))):=by
 have bV:=Tf (x::l);obtain⟨it,hit,bl⟩:=iZ 176 2;have hT:List.take l.length (l.map (br []))=l.map (br []):=adI ahB;have hm:(x::l).map (br [])=br [] x::l.map (br []):=rfl
 have LD:∀d,kI d (.ref (a_ s))=false:=λd=>rfl
 have CH:∀a,br [] a=.agg [vI [],.slice .view (a.map bX)]:=λ_=>rfl
 refine cw hG func141 ntmps141 c141 ?_;refine aK (λS H=>S 4=.box 4 0/\S 0=.slice .view (br [] x::l.map (br []))/\S 1=.func (.func 142) [] [.ref (a_ s)]/\H 4=some [.slice .nil [],.slice .nil []]) (by simp[LD]) ?_;rintro S H ⟨s4,s0,s1,e4⟩;refine aK (λS H=>S 4=.box 4 0/\S 0=.slice .view (br [] x::l.map (br []))/\S 1=.func (.func 142) [] [.ref (a_ s)]/\H 4=some [.slice .nil [],.slice .nil []]/\S 5=.box 5 0/\H 5=some [vI [],.slice .view (x.map bX)]) (by simp[s4,s0,s1,e4,CH,LD]) ?_;clear s4 s0 s1 e4 S H;rintro S H ⟨s4,s0,s1,e4,s5,e5⟩;rw[hm]at bV;refine aK (λS H=>S 4=.box 4 0/\H 4=some [.slice .nil [],.slice .nil []]/\S 5=.box 5 0/\H 5=some [vI [],.slice .view ((kv (gX s) x l).map bX)]) ?_ ?_
 .have h1:(1:Int)<=l.length+1:=zo
  simp[s4,s0,s1,e4,s5,e5,bound,bV,h1];refine bz 14 l.length (λi S H=>S 1=.func (.func 142) [] [.ref (a_ s)]/\S 4=.box 4 0/\H 4=some [.slice .nil [],.slice .nil []]/\S 5=.box 5 0/\H 5=some [vI [],.slice .view ((kv (gX s) x (l.take i)).map bX)]/\S 12=.slice .view (l.map (br []))/\S 13=.int .i64 l.length/\S 14=.int .i64 (i:Nat)) (λi S H h=>h.2.2.2.2.2.2.2) ⟨by simp[s1],by simp[s4],by simp[e4],by simp[s5],by simp[e5,kv],by simp[hT],ahB,ahB⟩ ?_;clear s4 s0 s1 e4 s5 e5 S H;rintro i hi S H ⟨s1,s4,e4,s5,e5,cM,dM,eg⟩
  by_cases aq:i<l.length
  case neg=>
   have dk:i=l.length:=zo
   subst dk;rw[adI (adF _)]at e5;simp[s1,s4,e4,s5,e5,cM,dM,eg]
  have hw:IntKind.i64.wrap ((i:Int)+1)=i+1:=aQ zo;have Gj:=tA (gX s) (l.take i) x
  have hb:=h (kv (gX s) x (l.take i)) (by
   rcases ad_.1 Gj with e|e
   .rw[e];exact adX
   .exact adO _ (aef e))
  have du:=h l[i] (adO _ (adC aq));have a99:=Yj hG s fJ du.1 hb.1 du.2 hb.2;rw[KU _ _ aq];generalize kv (gX s) x (l.take i)=o at e5 a99⊢;simp[s1,s4,e4,s5,e5,cM,dM,eg,aq,CH,LD];refine oc a99 ?_;cases gX s l[i] o
  .simp[s1,s4,e4,s5,e5,cM,dM,eg,aq,CH,LD,hw]
  .simp[s1,s4,e4,s5,e5,cM,dM,eg,aq,CH,LD,hw]
 clear s4 s0 s1 e4 s5 e5 S H;rintro S H ⟨s4,e4,s5,e5⟩;simp[s4,e4,s5,e5,CH,hit,bl,eh]
def y4(s:aJ):List AV:=if bj s then match lD s []with
 |[]=>[br [] [],.int .i64 0,.int .i64 5]
 |x::l=>[br [] (kv (gX s) x l),.int .i64 (zS s [] (kv (gX s) x l)),.int .i64 0]
 else[br [] [],.int .i64 0,.int .i64 2]
def KL{s:aJ}(fJ:bj s=true){a:List End}(h:a∈lD s []):mG s [] a=true/\a.length<=3/\ll s [] a 0=true:=by
 have hr:=(gx fJ).rows;obtain⟨h1,h2⟩:=(xR fJ (AT fJ)).1 h;refine⟨h1,?_,h2⟩;unfold ll at h2;simp only[adE,adL]at h2;omega
def FU(hG:ar GI)(s:aJ)(hs:qI s)(gQ:bj s=false\/lD s []=[]):AC prog GI 117 [cE s] (.ret (.dY (y4 s))):=by
 obtain⟨it,hit,bl⟩:=iZ 176 2
 have CH:∀a,br [] a=.agg [vI [],.slice .view (a.map bX)]:=λ_=>rfl
 refine cw hG func117 ntmps117 c117 ?_;refine aK (λS H=>S 1=.box 1 0/\S 2=.box 2 0/\H 1=some (ai s)/\H 2=some [.slice .nil [],.slice .nil []]) (by simp[cE,ai]) ?_;rintro S H ⟨s1,s2,e1,e2⟩;unfold y4;cases fJ:bj s
 .simp[s1,s2,e1,e2,ai];refine⟨_,zk,Gn hG s hs,λ_=>rfl,?_⟩;rw[fJ];simp[s1,s2,e1,e2,ai,hit,bl,eh,CH,bH,ints]
 have hg:lD s []=[]:=by
  rcases gQ with h|h
  .rw[h]at fJ;cases fJ
  .exact h
 simp[s1,s2,e1,e2,ai];refine⟨_,zk,Gn hG s hs,λ_=>rfl,?_⟩;rw[fJ];simp[s1,s2,e1,e2,ai];refine oc (O8 hG s fJ) ?_;simp[s1,s2,e1,e2,iw,a_,ai,cq];refine oc (Pe hG s fJ [] ahB (AT fJ)) ?_;rw[hg];simp[s1,s2,e1,e2,hit,bl,eh,CH,bH,ints]
def Tw(hG:ar GI)(s:aJ)(hs:qI s):AC prog GI 117 [cE s] (.ret (.dY (y4 s))):=by
 cases fJ:bj s with
 |false=>exact FU hG s hs (.inl fJ)
 |true=>
 cases hg:lD s []with
 |nil=>exact FU hG s hs (.inr hg)
 |cons x l=>
 obtain⟨it,hit,bl⟩:=iZ 176 2
 have CH:∀a,br [] a=.agg [vI [],.slice .view (a.map bX)]:=λ_=>rfl
 have hl:=Nh fJ [];rw[hg]at hl;simp at hl
 have eH:∀a∈x::l,mG s [] a=true/\a.length<=10:=λa ha=>by
  have:=KL fJ (a:=a) (by rw[hg];exact ha);exact⟨this.1,zo⟩
 have a98:=aas hG s fJ x l zo eH;have hb:=eH _ (tA (gX s) l x);have a87:=Ng hG s fJ [] ahB (kv (gX s) x l) zo (yK fJ hb.1)
 have uN:((l.length:Int)+1==0)=false:=by simp;omega
 have ho:y4 s=[br [] (kv (gX s) x l),.int .i64 (zS s [] (kv (gX s) x l)),.int .i64 0]:=by
  unfold y4;rw[fJ,if_pos rfl,hg]
 rw[ho];refine AC.Q2 hG de 5 5 func117 rfl ntmps117 ahB (ac:=c117) zk ?_;refine vy (λS H=>S 1=.box 1 0/\S 2=.box 2 0/\H 1=some (ai s)/\H 2=some [.slice .nil [],.slice .nil []]) (by simp[cE,ai]) ?_;rintro S H ⟨s1,s2,e1,e2⟩;refine vy (λS H=>S 1=.box 1 0/\S 2=.box 2 0/\H 1=some (ai s)/\H 2=some [.slice .nil [],.slice .nil []]) ?_ ?_
 .simp[s1,s2,e1,e2,ai];refine⟨_,zk,Gn hG s hs,λ_=>rfl,?_⟩;rw[fJ];simp[s1,s2,e1,e2,ai]
 clear s1 s2 e1 e2 S H;rintro S H ⟨s1,s2,e1,e2⟩;refine vy (λS H=>S 2=.box 2 0/\H 2=some [.slice .nil [],.slice .nil []]/\S 5=.box 5 0/\H 5=some (a_ s)) ?_ ?_
 .simp[s1,s2,e1,e2,ai];refine oc (O8 hG s fJ) ?_;simp[s1,s2,e1,e2,iw,a_,ai,cq]
 clear s1 s2 e1 e2 S H;rintro S H ⟨s2,e2,s5,e5⟩;refine vy (λS H=>S 2=.box 2 0/\H 2=some [.slice .nil [],.slice .nil []]/\S 5=.box 5 0/\H 5=some (a_ s)/\S 6=.slice .view ((x::l).map (br []))) ?_ ?_
 .have a97:=Pe hG s fJ [] ahB (AT fJ);rw[hg]at a97;simp[s2,e2,s5,e5,a_,ai,cq];refine oc a97 ?_;simp[s2,e2,s5,e5,a_,ai,cq]
 clear s2 e2 s5 e5 S H;rintro S H ⟨s2,e2,s5,e5,s6⟩;refine vy (λS H=>S 2=.box 2 0/\H 2=some [.slice .nil [],.slice .nil []]/\S 5=.box 5 0/\H 5=some (a_ s)/\S 6=.slice .view ((x::l).map (br []))) (by simp[s2,e2,s5,e5,s6,uN]) ?_;clear s2 e2 s5 e5 s6 S H;rintro S H ⟨s2,e2,s5,e5,s6⟩;refine O7 (a_ s) (λS H=>S 2=.box 2 0/\H 2=some [.slice .nil [],.slice .nil []]/\S 5=.ref (a_ s)/\S 6=.slice .view ((x::l).map (br []))) e5 ⟨by simp[s2,wQ],by simp[au,e2],by simp[s5,wQ,a_,ai,cq,AV.aI,vI],by simp[s6,wQ,cb]⟩ ?_;clear s2 e2 s5 e5 s6 S H;rintro S H ⟨s2,e2,s5,s6⟩;refine aK (λS H=>S 2=.box 2 0/\H 2=some [.slice .nil [],.slice .nil []]/\S 5=.ref (a_ s)/\S 7=.box 7 0/\H 7=some [vI [],.slice .view ((kv (gX s) x l).map bX)]) ?_ ?_
 .simp[s2,e2,s5,s6];refine⟨_,zk,a98,by simp[cW,rO],?_⟩;simp[s2,e2,s5,s6,CH]
 clear s2 e2 s5 s6 S H;rintro S H ⟨s2,e2,s5,s7,e7⟩;simp[s2,e2,s5,s7,e7,a_,ai,cq];refine oc a87 ?_;simp[s2,e2,s5,s7,e7,hit,bl,eh,CH]
def kl(s:aJ):Option (List End):=match lD s []with
 |[]=>none
 |x::l=>some (kv (gX s) x l)
def pw(es:List End)(i n:Nat):Nat:=es.countP λe=>decide (e.1=((i:Nat):Int))&&decide (e.2<((n:Nat):Int))
def Aq(s:aw)(es:List End)(i:Nat):Int:=s.eZ*ef s.name i+s.dS*pw es i (ef s.name i)
def bW(s:aw)(es:List End):List Int:=(List.range s.name.words.length).map (Aq s es)
def bw(s:aw)(av:List Int):List AV:=az s++[vI av]
def dR(s:aw)(av:List Int):AV:=.agg (bw s av)
def rk(n:Int):AV:=.iface 131 (.agg [.int .i64 n])
structure iN(s:aw):Prop where
 cells:1<=s.cells.length/\s.cells.length<=12
 AS:∀c∈s.cells,1<=c.lo/\c.lo<=c.hi/\c.hi<=20
 pos:1<=s.pos/\s.pos<=s.cells.length
 reach:1<=s.reach/\s.reach<=12
 eZ:1<=s.eZ/\s.eZ<=9
 dS:0<=s.dS/\s.dS<=9
 name:bj s.name=true
def gM{s:aw}(h:dj s=true):iN s:=by
 simp only[dj,adE,df,adL,aeF,aeE]at h;obtain⟨⟨⟨⟨⟨⟨⟨h1,h2⟩,h3⟩,h4,h5⟩,h6,h7⟩,h8,h9⟩,pJ,Ue⟩,h12⟩:=h;refine⟨⟨zo,zo⟩,λc hc=>?_,⟨h4,h5⟩,⟨h6,h7⟩,⟨h8,h9⟩,⟨pJ,Ue⟩,h12⟩;have:=h3 c hc;simp[j4,df]at this;omega
def j8{s:aJ}(fJ:bj s=true){es:List End}(h:kl s=some es):es.length<=3:=by
 unfold kl at h
 cases hg:lD s []with
 |nil=>rw[hg]at h;cases h
 |cons x l=>
  rw[hg]at h;cases h;exact(KL fJ (by rw[hg];exact tA (gX s) l x)).2.1
def PD(es:List End)(i n:Nat):pw es i n<=es.length:=List.countP_le_length
def BN{s:aw}(h:iN s){es:List End}(he:es.length<=3){i:Nat}(hi:ef s.name i<=6):0<=Aq s es i/\Aq s es i<=81:=by
 have h1:=PD es i (ef s.name i);have hp:=h.eZ;have ht:=h.dS;unfold Aq;have a1:0<=s.eZ*(ef s.name i:Int):=aes zo zo;have a2:s.eZ*(ef s.name i:Int)<=9*6:=aex zo zo zo zo;have a3:0<=s.dS*(pw es i (ef s.name i):Int):=aes zo zo;have a4:s.dS*(pw es i (ef s.name i):Int)<=9*3:=aex zo zo zo zo;omega
def MX(s:aw)(es:List End)(i:Nat)(S:an)(H:ao):Prop:=
 S 1=.box 1 0/\H 1=some (az s)/\S 2=.box 2 0/\(∃z,H 2=some z/\z.length=16)/\S 3=.box 3 0/\H 3=some [vI [],.slice .view (es.map bX)]/\S 6=.box 6 0/\H 6=some (az s++[grow 3 (ints ((bW s es).take i))])/\
 S 31=.slice .view (s.name.words.map cG)/\S 32=.int .i64 s.name.words.length/\S 33=.int .i64 (i:Nat)
def Kz(hG:ar GI)(s:aw)(hs:f_ s)(h:iN s)(gQ:kl s.name=none):AC prog GI 69 [bm s] (.panic (rk s.name.words.length)):=by
 have UH:=Tw hG s.name hs.name
 have gw:y4 s.name=[br [] [],.int .i64 0,.int .i64 5]:=by
  unfold kl at gQ;unfold y4;rw[if_pos h.name];split at gQ
  .rename_i hg;first|rw[hg]|rfl
  .cases gQ
 rw[gw]at UH;refine cw hG func69 ntmps69 c69 ?_;simp[c69,bm,az,ai];refine oc UH ?_;simp[br,aX,rk,bH,bq,ba]
def TC(hG:ar GI)(s:aw)(hs:f_ s)(h:iN s){es:List End}(nB:kl s.name=some es):AC prog GI 69 [bm s] (.ret (dR s (bW s es))):=by
 have UH:=Tw hG s.name hs.name
 have gw:∃m:Int,y4 s.name=[br [] es,.int .i64 m,.int .i64 0]:=by
  unfold kl at nB;unfold y4;rw[if_pos h.name];split at nB
  .cases nB
  .rename_i x l hg;cases nB;(try rw[hg]);exact⟨_,rfl⟩
 obtain⟨m,gw⟩:=gw;rw[gw]at UH;have hle:=j8 h.name nB;have hF:=gx h.name
 have hlen:∀i,ef s.name i<=6:=λi=>by
  unfold ef;split
  .rename_i x hx;obtain⟨aq,rfl⟩:=ad0.1 hx;exact(mZ h.name (adC aq)).zh
  .omega
 obtain⟨i100,xW,yv⟩:=iZ 87 16;obtain⟨fs,fH⟩:=uZ 87;refine cw hG func69 ntmps69 c69 ?_;refine aK (λS H=>S 1=.box 1 0/\H 1=some (az s)/\S 2=.box 2 0/\∃z,H 2=some z/\z.length=16) (by simp[bm,az,ai]) ?_;rintro S H ⟨s1,h1,s2,z,h2,hz⟩;refine aK (λS H=>S 1=.box 1 0/\H 1=some (az s)/\S 2=.box 2 0/\(∃z,H 2=some z/\z.length=16)/\S 3=.box 3 0/\H 3=some [vI [],.slice .view (es.map bX)]/\S 5=.int .i64 0) ?_ ?_
 .simp[az,ai,s1,h1,s2,h2,hz];refine oc UH ?_;simp[br,aX,bH,s1,h1,s2,h2,hz]
  try rfl
 clear s1 h1 s2 h2 hz z S H;rintro S H ⟨s1,h1,s2,⟨z,h2,hz⟩,s3,h3,s5⟩;refine aK (λS H=>S 1=.box 1 0/\H 1=some (az s)/\S 2=.box 2 0/\(∃z,H 2=some z/\z.length=16)/\S 3=.box 3 0/\H 3=some [vI [],.slice .view (es.map bX)]) ?_ ?_
 .simp[az,ai,s1,h1,s2,h2,hz,s3,h3,s5]
  try rfl
 clear s1 h1 s2 h2 hz z s3 h3 s5 S H;rintro S H ⟨s1,h1,s2,⟨z,h2,hz⟩,s3,h3⟩;refine aK (λS H=>S 1=.box 1 0/\H 1=some (az s)/\S 2=.box 2 0/\(∃z,H 2=some z/\z.length=16)/\S 3=.box 3 0/\H 3=some [vI [],.slice .view (es.map bX)]/\S 6=.box 6 0/\H 6=some (az s++[.slice .nil []])) ?_ ?_
 .simp[az,ai,s1,h1,s2,h2,hz,s3,h3,bH]
  try rfl
 clear s1 h1 s2 h2 hz z s3 h3 S H;rintro S H ⟨s1,h1,s2,⟨z,h2,hz⟩,s3,h3,s6,h6⟩
 have VC:(bW s es).length=s.name.words.length:=by simp[bW]
 have uK:=hF.words;refine aK (MX s es s.name.words.length) ?_ ?_
 .refine aK (MX s es 0) ?_ ?_
  .have hg:grow 3 (ints ([]:List Int))=.slice .nil []:=rfl;simp[az,ai,s1,h1,s2,h2,hz,s3,h3,s6,h6,MX,hg]
   try rfl
  clear s1 h1 s2 h2 hz z s3 h3 s6 h6 S H;intro S H hF0;refine bz 33 s.name.words.length (MX s es) (λi S H h=>h.2.2.2.2.2.2.2.2.2.2) hF0 ?_;clear hF0 S H;rintro i hi S H ⟨s1,h1,s2,⟨z,h2,hz⟩,s3,h3,s6,h6,jI,kz,yu⟩
  by_cases aq:i<s.name.words.length
  case neg=>
   have dk:i=s.name.words.length:=zo
   subst dk;simp[s1,h1,s2,h2,hz,s3,h3,s6,h6,jI,kz,yu,MX]
  have hw:IntKind.i64.wrap ((i:Int)+1)=i+1:=aQ zo;simp[s1,h1,s2,h2,hz,s3,h3,s6,h6,jI,kz,yu,aq,az,ai,cG,bH];have LJ:=hlen i
  have adu:s.name.words[i].aV.length<=6:=by rw[<-kP aq];exact LJ
  have hp:=h.eZ;have ht:=h.dS;have ZF:0<=s.eZ*(s.name.words[i].aV.length:Int):=aes zo zo;have Y0:s.eZ*(s.name.words[i].aV.length:Int)<=9*6:=aex zo zo zo zo;have RQ:IntKind.i64.wrap (s.eZ*(s.name.words[i].aV.length:Int))=s.eZ*(s.name.words[i].aV.length:Int):=aQ zo
  refine bz 47 es.length (λj S H=>S 1=.box 1 0/\H 1=some (az s)/\S 2=.box 2 0/\(∃z,H 2=some z/\z.length=16)/\S 3=.box 3 0/\H 3=some [vI [],.slice .view (es.map bX)]/\S 6=.box 6 0/\H 6=some (az s++[grow 3 (ints ((bW s es).take i))])/\
   S 31=.slice .view (s.name.words.map cG)/\S 32=.int .i64 s.name.words.length/\S 33=.int .i64 (i:Nat)/\S 7=.int .i64 (i:Nat)/\S 8=.box 8 0/\H 8=some [vI s.name.words[i].aV,vI s.name.words[i].bZ,.bool s.name.words[i].free]/\
   S 9=.int .i64 (s.eZ*(s.name.words[i].aV.length:Int)+s.dS*(pw (es.take j) i s.name.words[i].aV.length:Int))/\S 45=.slice .view (es.map bX)/\S 46=.int .i64 es.length/\S 47=.int .i64 (j:Nat)) (λj S H h=>h.2.2.2.2.2.2.2.2.2.2.2.2.2.2.2.2.2) ?_ ?_
  .simp[s1,h1,s2,h2,hz,s3,h3,s6,h6,jI,kz,yu,az,ai,RQ,pw]
  clear s1 h1 s2 h2 hz z s3 h3 s6 h6 jI kz yu S H;rintro j hj S H ⟨s1,h1,s2,⟨z,h2,hz⟩,s3,h3,s6,h6,jI,kz,yu,s7,s8,h8,s9,Mr,UE,AM⟩;have Wt:=PD (es.take j) i s.name.words[i].aV.length
  have hc4:(es.take j).length<=3:=by simp;omega
  have Jx:0<=s.dS*(pw (es.take j) i s.name.words[i].aV.length:Int):=aes zo zo;have RH:s.dS*(pw (es.take j) i s.name.words[i].aV.length:Int)<=9*3:=aex zo zo zo zo
  by_cases qP:j<es.length
  case pos=>
   have j0:IntKind.i64.wrap ((j:Int)+1)=j+1:=aQ zo;have qv:IntKind.i64.wrap (s.eZ*(s.name.words[i].aV.length:Int)+s.dS*(pw (es.take j) i s.name.words[i].aV.length:Int)+s.dS)=s.eZ*(s.name.words[i].aV.length:Int)+s.dS*(pw (es.take j) i s.name.words[i].aV.length:Int)+s.dS:=aQ zo
   have mg:pw (es.take (j+1)) i s.name.words[i].aV.length=pw (es.take j) i s.name.words[i].aV.length+if es[j].1=((i:Nat):Int)/\es[j].2<((s.name.words[i].aV.length:Nat):Int)then 1 else 0:=by
    rw[agr,adB qP];unfold pw;rw[Option.toList_some,List.countP_append,List.countP_singleton]
    by_cases q1:es[j].1=((i:Nat):Int)<;>by_cases q2:es[j].2<((s.name.words[i].aV.length:Nat):Int)<;>simp[q1,q2]
   by_cases c1:es[j].1=((i:Nat):Int)
   .by_cases c2:es[j].2<((s.name.words[i].aV.length:Nat):Int)
    .rw[if_pos ⟨c1,c2⟩]at mg;simp[s1,h1,s2,h2,hz,s3,h3,s6,h6,jI,kz,yu,s7,s8,h8,s9,Mr,UE,AM,qP,az,ai,bX,bH,j0,qv,c1,c2,mg];rw[Int.mul_add,Int.mul_one,Int.add_assoc]
    .rw[if_neg (λh=>c2 h.2)]at mg;simp[s1,h1,s2,h2,hz,s3,h3,s6,h6,jI,kz,yu,s7,s8,h8,s9,Mr,UE,AM,qP,az,ai,bX,bH,j0,qv,c1,c2,mg]
   .rw[if_neg (λh=>c1 h.1)]at mg
    have c1':(es[j].1==((i:Nat):Int))=false:=by simpa using c1
    simp[s1,h1,s2,h2,hz,s3,h3,s6,h6,jI,kz,yu,s7,s8,h8,s9,Mr,UE,AM,qP,az,ai,bX,bH,j0,qv,c1,c1',mg]
  case neg=>
   have ac4:j=es.length:=zo
   subst ac4;have hT:es.take es.length=es:=adI (adF _);rw[hT]at s9
   have Ws:(bW s es).take (i+1)=(bW s es).take i++[s.eZ*(s.name.words[i].aV.length:Int)+s.dS*(pw es i s.name.words[i].aV.length:Int)]:=by
    rw[agr,adB (by rw[VC];exact aq)];simp[bW,Aq,kP aq]
   have bV:aG 1 (ints ((bW s es).take i))=true:=qK _
   have j3:ints ((bW s es).take i)++[.int .i64 (s.eZ*(s.name.words[i].aV.length:Int)+s.dS*(pw es i s.name.words[i].aV.length:Int))]=ints ((bW s es).take (i+1)):=by rw[Ws];simp[ints]
   have cD:ints ((bW s es).take (i+1))≠[]:=by rw[<-j3];simp
   have wJ:grow 3 (ints ((bW s es).take (i+1)))=.slice (.own 3) (ints ((bW s es).take (i+1))):=by unfold grow;rw[if_neg cD]
   have cN:aG 1 [.int .i64 (s.eZ*(s.name.words[i].aV.length:Int)+s.dS*(pw es i s.name.words[i].aV.length:Int))]=true:=rfl
   have Uk:min i (bW s es).length+1<1048576:=zo
   by_cases h0:ints ((bW s es).take i)=[]
   .have HW:grow 3 (ints ((bW s es).take i))=.slice .nil []:=by unfold grow;rw[if_pos h0,h0]
    rw[HW]at h6;rw[h0,List.nil_append]at j3;simp[s1,h1,s2,h2,hz,s3,h3,s6,h6,jI,kz,yu,s7,s8,h8,s9,Mr,UE,AM,az,ai,hw,cN,MX,wJ,<-j3];rw[j3];exact wJ.symm
   .have HW:grow 3 (ints ((bW s es).take i))=.slice (.own 3) (ints ((bW s es).take i)):=by unfold grow;rw[if_neg h0]
    rw[HW]at h6;simp[s1,h1,s2,h2,hz,s3,h3,s6,h6,jI,kz,yu,s7,s8,h8,s9,Mr,UE,AM,az,ai,hw,cN,bV,Uk,MX,wJ,<-j3];rw[j3];exact wJ.symm
 clear s1 h1 s2 h2 hz z s3 h3 s6 h6 S H;rintro S H ⟨s1,h1,s2,⟨z,h2,hz⟩,s3,h3,s6,h6,jI,kz,yu⟩;have hT:(bW s es).take s.name.words.length=bW s es:=adI zo;rw[hT]at h6
 have iH:∃o,grow 3 (ints (bW s es))=.slice o (ints (bW s es)):=⟨_,rfl⟩
 obtain⟨o,iH⟩:=iH;rw[iH]at h6
 have kV:bC z 0 (az s++[.slice .view (ints (bW s es))])=az s++[.slice .view (ints (bW s es))]:=by simp[bC,hz,az,ai]
 simp[s1,h1,s2,h2,hz,s3,h3,s6,h6,jI,kz,yu,xW,yv,fH,az,ai,dR,bw,eh]
 cases o<;>rfl
end Go.Proofs.Tryz
