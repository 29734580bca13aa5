/-
  A part of the proof.
-/
import Derived.Test.YtdiflocclemeaaaGreatDoorWa1
set_option maxRecDepth 100000
set_option maxHeartbeats 8000000
set_option linter.all false
set_option linter.unusedVariables false
set_option linter.unusedSimpArgs false
set_option linter.deprecated false
namespace Go.Proofs.Tryz
open Go Go.AL Go.RowKit Go.Proofs Go.Proofs.Tram
attribute [local simp] eF fO yF wj eY eh eg dI dK eX dH dc iI iH aF aG ev aO.S aO.H bz ar aU AL.start AV.cells AV.storable AV.cb bu b_ eG ck HR.okB post cE cW cV AV.out AV.bZ cM eB fz iu AV.vw dh vI int b0 aK dq dz iF j0 fh dW bV AV.aH AV.cn
variable{GI:World->Prop}
def mP(l:List End):AV:=grow 46 (l.map bm)
theorem Hn{s:aD}{out:List Int}{n:Nat}(h:n<s.words.length)(hc:out.contains (n:Int)=false):gh s out n=(s.words[n].bO.map λk=>((n:Int),k))++[((n:Int),(s.words[n].aP.length:Int))]:=by
 unfold gh;rw[hc,aa_ h]
 rfl
theorem EC{s:aD}{out:List Int}{n:Nat}(hc:out.contains (n:Int)=true):gh s out n=[]:=by
 unfold gh;rw[hc]
 rfl
def nY(s:aD)(out:List Int)(i:Nat):List End:=(List.range i).flatMap (gh s out)
theorem BP(s:aD)(out:List Int)(i:Nat):nY s out (i+1)=nY s out i++gh s out i:=by unfold nY;rw[ab3,acR,acZ]
theorem RI(hG:au GI)(s:aD)(hs:rY s)(out:List Int)(ho:out.length<1000000):AC prog GI 188 [di s,vI out] (.ret (.slice .view (aJ (ja s out)))):=by
 have q3:=hs.words;refine AC.nj (o:=if ja s out=[]then .nil else .view) ?_;refine cd hG func188 ntmps188 c188 ?_;simp[c188,az,aq,di,af];refine bP 12 s.words.length (λi S H=>S 1=vI out/\S 2=.box 2 0/\H 2=some (af s)/\S 11=.int .i64 s.words.length/\S 12=.int .i64 (i:Nat)/\S 5=mP (nY s out i)/\(nY s out i).length<=1001*i) (λi S H h=>h.2.2.2.2.1) ⟨by simp[az,aq],by simp[az,aq],by simp[az,aq,af],by simp[az,aq],by simp[az,aq],by simp[az,aq,mP,nY,grow],by simp[nY]⟩ ?_;rintro i hi S H ⟨s1,s2,e2,br,bC,s5,hl⟩
 by_cases aw:i<s.words.length
 case neg=>
  have cU:i=s.words.length:=by omega
  subst cU;have s5:S 5=mP (ja s out):=s5
  by_cases h0:ja s out=[]
  .rw[h0]at s5
   have mm:S 5=.slice .nil []:=by rw[s5];simp[mP,grow]
   simp[az,aq,s1,s2,e2,br,bC,mm,h0,aJ]
  .have mm:S 5=.slice (.own 46) ((ja s out).map bm):=by rw[s5];simp[mP,grow,h0]
   simp[az,aq,s1,s2,e2,br,bC,mm,h0,aJ]
 have hw:IntKind.i64.wrap ((i:Int)+1)=i+1:=aS (by omega);have Cx:=hs.bO _ (aba aw);have hr:=BP s out i;generalize hL:nY s out i=L at s5 hl hr;simp[az,aq,s1,s2,e2,br,bC,aw];refine⟨_,by kernel_rfl,E0 hG out ho i,λ_=>rfl,?_⟩;cases hc:out.contains (i:Int)
 case true=>
  have iL:nY s out (i+1)=L:=by rw[hr,EC hc,ab1]
  rw[iL];simp[az,aq,s1,s2,e2,br,bC,s5,hw,aw];omega
 have Z1:=Hn aw hc;simp[az,aq,s1,s2,e2,br,bC,aw,af,cG];refine bP 25 s.words[i].bO.length (λj S H=>S 1=vI out/\S 2=.box 2 0/\H 2=some (af s)/\S 11=.int .i64 s.words.length/\S 12=.int .i64 (i:Nat)/\S 6=.int .i64 (i:Nat)/\S 23=vI s.words[i].bO/\S 24=.int .i64 s.words[i].bO.length/\S 25=.int .i64 (j:Nat)/\S 5=mP (L++(s.words[i].bO.take j).map λk=>((i:Int),k))) (λi S H h=>h.2.2.2.2.2.2.2.2.1) ⟨by simp[az,aq,s1],by simp[az,aq,s2],by simp[az,aq,e2,af],by simp[az,aq,br],by simp[az,aq,bC],by simp[az,aq],by simp[az,aq],by simp[az,aq],by simp[az,aq],by simp[az,aq,s5]⟩ ?_;clear s1 s2 e2 br bC s5 S H;rintro j hj S H ⟨s1,s2,e2,br,bC,s6,oT,uB,lr,s5⟩
 by_cases Ra:j<s.words[i].bO.length
 .have Sm:IntKind.i64.wrap ((j:Int)+1)=j+1:=aS (by omega);have lT:s.words[i].bO.take (j+1)=s.words[i].bO.take j++[s.words[i].bO[j]]:=abo Ra
  have hlen:(L++(s.words[i].bO.take j).map λk=>((i:Int),k)).length<1040000:=by
   simp only[abu,abh,abT];omega
  rw[lT,abK,<-ab8];generalize(L++(s.words[i].bO.take j).map λk=>((i:Int),k))=M at s5 hlen⊢;have gq:aM 2 [AV.agg [AV.int .i64 (i:Nat),AV.int .i64 s.words[i].bO[j]]]=true:=rfl;simp[s1,s2,e2,br,bC,s6,oT,uB,lr,Ra,gq];refine kl (M.map bm) (bm ((i:Int),s.words[i].bO[j])) (.own 46) (by simp[s5,mP]) (by simp[bm]) rfl (yw _) (by rw[abh];omega) ?_;intro S' sd hk;simp[sd,hk,s1,s2,e2,br,bC,s6,oT,uB,lr,Sm,Ra,mP]
 .have nG:j=s.words[i].bO.length:=by omega
  subst nG;rw[acf]at s5
  have hlen:(L++s.words[i].bO.map λk=>((i:Int),k)).length<=1001*i+1000:=by
   simp only[abu,abh];omega
  rw[hr,Z1,<-ab8];generalize(L++s.words[i].bO.map λk=>((i:Int),k))=M at s5 hlen⊢;have gq:aM 2 [AV.agg [AV.int .i64 (i:Nat),AV.int .i64 s.words[i].aP.length]]=true:=rfl;simp[s1,s2,e2,br,bC,s6,oT,uB,lr,aw,gq,af,cG];refine kl (M.map bm) (bm ((i:Int),(s.words[i].aP.length:Int))) (.own 46) (by simp[s5,mP]) (by simp[bm]) rfl (yw _) (by rw[abh];omega) ?_;intro S' sd hk;simp[sd,hk,s1,s2,e2,br,bC,hw,aw,mP,af];omega
theorem p8{s:aD}(hs:bg s=true){g:Nat×Nat}(h:DH s g):EW s (bh s g):=IP hs h
theorem SG(hG:au GI)(s:aD)(hs:bg s=true){l:List (Nat×Nat)}(hl:l.length<10000)(kJ:∀g∈l,DH s g)(cut:Bool)(x:Int):AC prog GI 212 [fc s,D1 l cut,.int .i64 x] (.ret (.int .i64 (f_ s (l.map (bh s)) l.length+(if cut then s.cz else 0)))):=by
 have hF:=fk hs;have sB:=hF.PF
 have hb:∀x∈(l.map λg=>jB s (bh s g)),0<=x/\x<=1000:=by
  intro x hx;obtain⟨g,hg,rfl⟩:=abz.1 hx;have:=ua hF (p8 hs (kJ g hg));omega
 have tD:f_ s (l.map (bh s)) l.length=(l.map λg=>jB s (bh s g)).sum:=by
  have:=tM s (l.map (bh s)) l.length (by simp);rw[this,abp (by simp),ack];rfl
 have DZ:(l.map λg=>jB s (bh s g)).length<10000:=by rw[abh];exact hl
 rw[tD];refine cd hG func212 ntmps212 c212 ?_;refine aI (λS H=>S 3=.box 3 0/\S 4=.box 4 0/\H 3=some (aL s)/\H 4=some [.slice .view (l.map gA),.bool cut]) (by simp[az,aq,fc,aL,D1,Ae,af,bt]) ?_;rintro S H ⟨s3,s4,e3,e4⟩;refine aI (λS H=>S 3=.box 3 0/\S 4=.box 4 0/\H 3=some (aL s)/\H 4=some [.slice .view (l.map gA),.bool cut]/\S 7=fM []) (by simp[az,aq,s3,s4,e3,e4,fM,grow]) ?_;clear s3 s4 e3 e4 S H;rintro S H ⟨s3,s4,e3,e4,s7⟩;refine aI (λS H=>S 3=.box 3 0/\S 4=.box 4 0/\H 3=some (aL s)/\H 4=some [.slice .view (l.map gA),.bool cut]/\S 7=fM (l.map λg=>jB s (bh s g))) ?_ ?_
 .simp[az,aq,s3,s4,e3,e4];refine bP 13 l.length (λi S H=>S 3=.box 3 0/\S 4=.box 4 0/\H 3=some (aL s)/\H 4=some [.slice .view (l.map gA),.bool cut]/\S 11=.slice .view (l.map gA)/\S 12=.int .i64 l.length/\S 13=.int .i64 (i:Nat)/\S 7=fM ((l.take i).map λg=>jB s (bh s g))) (λi S H h=>h.2.2.2.2.2.2.1) ⟨by simp[az,aq,s3],by simp[az,aq,s4],by simp[az,aq,e3],by simp[az,aq,e4],by simp[az,aq],by simp[az,aq],by simp[az,aq],by simp[az,aq,s7]⟩ ?_;clear s3 s4 e3 e4 s7 S H;rintro i hi S H ⟨s3,s4,e3,e4,br,bC,bW,s7⟩
  by_cases aw:i<l.length
  case neg=>
   have cU:i=l.length:=by omega
   subst cU;rw[acf]at s7;simp[az,aq,s3,s4,e3,e4,br,bC,bW,s7]
  have hw:IntKind.i64.wrap ((i:Int)+1)=i+1:=aS (by omega)
  obtain⟨k,hk⟩:∃k:Nat,(bh s l[i]).2=k:=⟨(bh s l[i]).2.toNat,by have:=(p8 hs (kJ _ (aba aw))).1;omega⟩
  have mg:k<s.a_.length:=by have:=(p8 hs (kJ _ (aba aw))).2;omega
  have rl:jB s (bh s l[i])=s.a_[k]:=by
   unfold jB;rw[hk,if_neg (by omega),Int.toNat_natCast,aa_ mg];rfl
  rw[abo aw,abK,List.map_singleton,rl]
  have hlen:((l.take i).map λg=>jB s (bh s g)).length<1000000:=by
   rw[abh,abT];omega
  generalize((l.take i).map λg=>jB s (bh s g))=L at s7 hlen⊢;simp[s3,s4,e3,e4,br,bC,bW,s7,aw,gA,aL,af,bt];refine oc (Eu hG s (kJ _ (aba aw))) ?_;have gq:aM 1 [AV.int .i64 s.a_[k]]=true:=rfl;simp[s3,s4,e3,e4,br,bC,bW,s7,aw,aL,af,bt,hk,mg,gq];refine sT (L.map (AV.int .i64)) (AV.int .i64 s.a_[k]) (.own 3) (by simp[s7,fM,grow]) (by simp) rfl (p9 _) (by rw[abh];omega) ?_;intro S' sd fo;simp[sd,fo,s3,s4,e3,e4,br,bC,bW,aw,hw,fM,aL,af,bt]
 clear s3 s4 e3 e4 s7 S H;rintro S H ⟨s3,s4,e3,e4,s7⟩;refine aI (λS H=>S 7=fM ((l.map λg=>jB s (bh s g))++if cut then[s.cz]else[])) ?_ ?_
 .cases cut with
  |false=>simp[az,aq,s3,s4,e3,e4,s7]
  |true=>
   have gq:aM 1 [AV.int .i64 s.cz]=true:=rfl;generalize(l.map λg=>jB s (bh s g))=L at s7 DZ⊢;simp[s3,s4,e3,e4,s7,aL,af,bt,gq];refine kl (L.map (AV.int .i64)) (AV.int .i64 s.cz) (.own 3) (by simp[fM]) (by simp) rfl (p9 _) (by rw[abh];omega) ?_;intro S' sd fo;simp[sd,fo,fM]
 clear s3 s4 e3 e4 s7 S H;rintro S H s7;have hh:=hF.cz
 have iM:∀x∈((l.map λg=>jB s (bh s g))++if cut then[s.cz]else[]),0<=x/\x<=1000:=by
  intro x hx;rcases abk.1 hx with hx|hx
  .exact hb x hx
  .cases cut with
   |false=>simp at hx
   |true=>simp at hx;omega
 have DK:((l.map λg=>jB s (bh s g))++if cut then[s.cz]else[]).sum=(l.map λg=>jB s (bh s g)).sum+if cut then s.cz else 0:=by
  rw[acA]
  cases cut<;>simp
 have pC:((l.map λg=>jB s (bh s g))++if cut then[s.cz]else[]).length<100000:=by
  rw[abu]
  cases cut<;>simp<;>omega
 rw[<-DK];generalize((l.map λg=>jB s (bh s g))++if cut then[s.cz]else[])=L at s7 iM pC⊢;rcases t_ L with⟨hg,rfl⟩|hg
 .rw[hg]at s7;simp[az,aq,s7];refine oc (zL hG [] pC iM) ?_;simp[az,aq]
 .rw[hg]at s7;simp[az,aq,s7];refine oc (zL hG L pC iM) ?_;simp[az,aq]
theorem Qw(hG:au GI)(s:aD)(hs:bg s=true){l:List (Nat×Nat)}(cC:l≠[])(hl:l.length<10000)(kJ:∀g∈l,DH s g)(cut:Bool){st:Int}(h0:0<=st)(h1:st<=10):AC prog GI 213 [fc s,D1 l cut,.int .i64 st] (.ret (.int .i64 (gk s st (l.map (bh s)) (l.length-1)+(if cut then jJ s.gX s.gL st else 0)))):=by
 have hF:=fk hs;have gK:=acv.2 cC
 have tD:gk s st (l.map (bh s)) (l.length-1)=(gj s st (l.map (bh s)) l.length).sum:=by
  have:=y4 (s:=s) (st:=st) (l:=l.map (bh s)) (l.length-1) (by rw[abh];omega);rw[show l.length-1+1=l.length by omega]at this;exact this.symm
 rw[tD];refine cd hG func213 ntmps213 c213 ?_;refine aI (λS H=>S 2=.int .i64 st/\S 3=.box 3 0/\S 4=.box 4 0/\H 3=some (aL s)/\H 4=some [.slice .view (l.map gA),.bool cut]) (by simp[az,aq,fc,aL,D1,Ae,af,bt]) ?_;rintro S H ⟨s2,s3,s4,e3,e4⟩;refine aI (λS H=>S 2=.int .i64 st/\S 3=.box 3 0/\S 4=.box 4 0/\H 3=some (aL s)/\H 4=some [.slice .view (l.map gA),.bool cut]/\S 7=fM []) (by simp[az,aq,s2,s3,s4,e3,e4,fM,grow]) ?_;clear s2 s3 s4 e3 e4 S H;rintro S H ⟨s2,s3,s4,e3,e4,s7⟩;refine aI (λS H=>S 2=.int .i64 st/\S 3=.box 3 0/\S 4=.box 4 0/\H 3=some (aL s)/\H 4=some [.slice .view (l.map gA),.bool cut]/\S 7=fM (gj s st (l.map (bh s)) l.length)) ?_ ?_
 .simp[az,aq,s2,s3,s4,e3,e4];refine bP 13 l.length (λi S H=>S 2=.int .i64 st/\S 3=.box 3 0/\S 4=.box 4 0/\H 3=some (aL s)/\H 4=some [.slice .view (l.map gA),.bool cut]/\S 11=.slice .view (l.map gA)/\S 12=.int .i64 l.length/\S 13=.int .i64 (i:Nat)/\S 7=fM (gj s st (l.map (bh s)) i)) (λi S H h=>h.2.2.2.2.2.2.2.1) ⟨by simp[az,aq,s2],by simp[az,aq,s3],by simp[az,aq,s4],by simp[az,aq,e3],by simp[az,aq,e4],by simp[az,aq],by simp[az,aq],by simp[az,aq],by simp[az,aq,s7,gj]⟩ ?_;clear s2 s3 s4 e3 e4 s7 S H;rintro i hi S H ⟨s2,s3,s4,e3,e4,br,bC,bW,s7⟩
  by_cases aw:i<l.length
  case neg=>
   have cU:i=l.length:=by omega
   subst cU;simp[az,aq,s2,s3,s4,e3,e4,br,bC,bW,s7]
  have hw:IntKind.i64.wrap ((i:Int)+1)=i+1:=aS (by omega)
  cases i with
  |zero=>
   have Z0:S 7=.slice .nil []:=by rw[s7];rfl
   simp[az,aq,s2,s3,s4,e3,e4,br,bC,bW,Z0,aw,gA];exact⟨aS (by omega),by simp[gj,fM,grow]⟩
  |succ m=>
   have Ok:m<l.length:=by omega
   have RZ:gj s st (l.map (bh s)) (m+1+1)=gj s st (l.map (bh s)) (m+1)++[kT s st (bh s l[m]) (bh s l[m+1])]:=by
    rw[wK (by simpa using aw)];simp
   have hlen:(gj s st (l.map (bh s)) (m+1)).length<1000000:=by have:=sQ (s:=s) (st:=st) (l:=l.map (bh s)) (m+1);omega
   rw[RZ];have Ly:IntKind.i64.wrap (m:Int)=m:=aS (by omega);have gR:IntKind.i64.wrap ((m:Int)+1+1)=m+1+1:=aS (by omega)
   have QM:(0:Int)<(m:Int)+1:=by omega
   have YI:(0:Int)<=(m:Int)+1:=by omega
   have lj:(m:Int)+1<l.length:=by omega
   generalize gj s st (l.map (bh s)) (m+1)=L at s7 hlen⊢;have gq:aM 1 [AV.int .i64 (kT s st (bh s l[m]) (bh s l[m+1]))]=true:=rfl;simp[s2,s3,s4,e3,e4,br,bC,bW,s7,aw,gA,aL,af,bt,Ly,QM,YI,Ok,lj];refine oc (Rj hG s hF (kJ _ (aba Ok)) (kJ _ (aba aw)) h0 h1) ?_;simp[s2,s3,s4,e3,e4,br,bC,bW,s7,gq];refine sT (L.map (AV.int .i64)) (AV.int .i64 (kT s st (bh s l[m]) (bh s l[m+1]))) (.own 3) (by simp[s7,fM,grow]) (by simp) rfl (p9 _) (by rw[abh];omega) ?_;intro S' sd fo;simp[sd,fo,s2,s3,s4,e3,e4,br,bC,bW,aw,lj,gR,fM,aL,af,bt]
 clear s2 s3 s4 e3 e4 s7 S H;rintro S H ⟨s2,s3,s4,e3,e4,s7⟩;have Oe:=j4 hF.o.2.1 h0 h1
 have DZ:(gj s st (l.map (bh s)) l.length).length<10000:=by have:=sQ (s:=s) (st:=st) (l:=l.map (bh s)) l.length;omega
 have hb:∀x∈gj s st (l.map (bh s)) l.length,0<=x/\x<=1000:=λx hx=>by have:=yO hF h0 h1 _ x hx;omega
 refine aI (λS H=>S 7=fM (gj s st (l.map (bh s)) l.length++if cut then[jJ s.gX s.gL st]else[])) ?_ ?_
 .cases cut with
  |false=>simp[az,aq,s2,s3,s4,e3,e4,s7]
  |true=>
   have gq:aM 1 [AV.int .i64 (jJ s.gX s.gL st)]=true:=rfl;generalize gj s st (l.map (bh s)) l.length=L at s7 DZ⊢;simp[s2,s3,s4,e3,e4,s7,aL,af,bt];refine oc (Ap hG hF.o.1 hF.o.2.1 (by have:=hF.o.2.2;omega) h0 h1) ?_;simp[gq];refine kl (L.map (AV.int .i64)) (AV.int .i64 (jJ s.gX s.gL st)) (.own 3) (by simp[fM]) (by simp) rfl (p9 _) (by rw[abh];omega) ?_;intro S' sd fo;simp[sd,fo,fM]
 clear s2 s3 s4 e3 e4 s7 S H;rintro S H s7;have ho:=hF.o
 have iM:∀x∈(gj s st (l.map (bh s)) l.length++if cut then[jJ s.gX s.gL st]else[]),0<=x/\x<=1000:=by
  intro x hx;rcases abk.1 hx with hx|hx
  .exact hb x hx
  .cases cut with
   |false=>simp at hx
   |true=>simp at hx;omega
 have DK:(gj s st (l.map (bh s)) l.length++if cut then[jJ s.gX s.gL st]else[]).sum=(gj s st (l.map (bh s)) l.length).sum+if cut then jJ s.gX s.gL st else 0:=by
  rw[acA]
  cases cut<;>simp
 have pC:(gj s st (l.map (bh s)) l.length++if cut then[jJ s.gX s.gL st]else[]).length<100000:=by
  rw[abu]
  cases cut<;>simp<;>omega
 rw[<-DK];generalize(gj s st (l.map (bh s)) l.length++if cut then[jJ s.gX s.gL st]else[])=L at s7 iM pC⊢;rcases t_ L with⟨hg,rfl⟩|hg
 .rw[hg]at s7;simp[az,aq,s7];refine oc (zL hG [] pC iM) ?_;simp[az,aq]
 .rw[hg]at s7;simp[az,aq,s7];refine oc (zL hG L pC iM) ?_;simp[az,aq]
theorem T3(hG:au GI)(s:aD)(hs:bg s=true){l:List (Nat×Nat)}(cC:l≠[])(hl:l.length<=24)(kJ:∀g∈l,DH s g)(cut:Bool){st:Int}(h0:0<=st)(h1:st<=10):AC prog GI 193 [fc s,D1 l cut,.int .i64 st] (.ret (.int .i64 (iK s st (l.map (bh s)) cut))):=by
 have hF:=fk hs
 have cJ:∀a∈l.map (bh s),EW s a:=λa ha=>by
  obtain⟨g,hg,rfl⟩:=abz.1 ha;exact p8 hs (kJ g hg)
 have Yo:l.map (bh s)≠[]:=by simpa using cC
 have hb:=xy hF h0 h1 Yo cJ (by simpa using hl) cut;have gK:=acv.2 cC;have hg:=mS hF h0 h1 (l:=l.map (bh s)) (i:=l.length-1) (by rw[abh];omega);have NP:=mG hF cJ (i:=l.length) (by simp);have Oe:=j4 hF.o.2.1 h0 h1;have ho:=hF.o;have hh:=hF.cz;have a1:=SG hG s hs (by omega:l.length<10000) kJ cut st;have a2:=Qw hG s hs cC (by omega) kJ cut h0 h1
 have hwp:iK s st (l.map (bh s)) cut=(f_ s (l.map (bh s)) l.length+(if cut then s.cz else 0))+(gk s st (l.map (bh s)) (l.length-1)+(if cut then jJ s.gX s.gL st else 0)):=by
  unfold iK;rw[abh]
 rw[hwp]at hb⊢
 have qy:0<=f_ s (l.map (bh s)) l.length+(if cut then s.cz else 0):=by cases cut<;>simp<;>omega
 have nx:0<=gk s st (l.map (bh s)) (l.length-1)+(if cut then jJ s.gX s.gL st else 0):=by cases cut<;>simp<;>omega
 generalize f_ s (l.map (bh s)) l.length+(if cut then s.cz else 0)=X at a1 qy hb⊢;generalize gk s st (l.map (bh s)) (l.length-1)+(if cut then jJ s.gX s.gL st else 0)=Y at a2 nx hb⊢;have w1:IntKind.i64.wrap X=X:=aS (by omega);have w2:IntKind.i64.wrap (X+Y)=X+Y:=aS (by omega);refine cd hG func193 ntmps193 c193 ?_;refine aI (λS H=>S 2=.int .i64 st/\S 3=.box 3 0/\S 4=.box 4 0/\H 3=some (aL s)/\H 4=some [.slice .view (l.map gA),.bool cut]) (by simp[az,aq,fc,aL,D1,Ae,af,bt]) ?_;rintro S H ⟨s2,s3,s4,e3,e4⟩;simp[az,aq,s2,s3,s4,e3,e4];refine bP 11 2 (λi S H=>S 2=.int .i64 st/\S 3=.box 3 0/\S 4=.box 4 0/\H 3=some (aL s)/\H 4=some [.slice .view (l.map gA),.bool cut]/\S 10=.jG [.func (.func 212) [] [],.func (.func 213) [] []]/\S 11=.int .i64 (i:Nat)/\S 7=.int .i64 (if i=0 then 0 else if i=1 then X else X+Y)) (λi S H h=>h.2.2.2.2.2.2.1) ⟨by simp[az,aq,s2],by simp[az,aq,s3],by simp[az,aq,s4],by simp[az,aq,e3],by simp[az,aq,e4],by simp[az,aq],by simp[az,aq],by simp[az,aq]⟩ ?_;clear s2 s3 s4 e3 e4 S H;rintro i hi S H ⟨s2,s3,s4,e3,e4,bK,br,s7⟩
 match i,hi with
 |0,_=>
  simp[az,aq,s2,s3,s4,e3,e4,bK,br,s7,aL,af,bt,BU];refine oc a1 ?_;simp[az,aq,s2,s3,s4,e3,e4,bK,br,s7,aL,af,bt,w1];exact aS (by omega)
 |1,_=>
  simp[az,aq,s2,s3,s4,e3,e4,bK,br,s7,aL,af,bt,BU];refine oc a2 ?_;simp[az,aq,s2,s3,s4,e3,e4,bK,br,s7,aL,af,bt,w2];exact aS (by omega)
 |2,_=>
  simp[az,aq,s2,s3,s4,e3,e4,bK,br,s7]
def Od(s:aD)(out:List Int)(es:List End)(i:Nat):AV:=D1 (gr s out es i) (iJ s es i)
def eV(s:aD)(out:List Int)(es:List End)(n:Nat):List AV:=(List.range n).map (Od s out es)
theorem AG(s:aD)(out:List Int)(es:List End)(n:Nat):eV s out es (n+1)=eV s out es n++[Od s out es n]:=by
 unfold eV;rw[ab3,abK];rfl
theorem EV(s:aD)(out:List Int)(es:List End)(n:Nat):aM 2 (eV s out es n)=true:=jA λa=>⟨rfl,rfl⟩
theorem NA(l:List (Nat×Nat)):aM 2 (l.map gA)=true:=jA λa=>⟨rfl,rfl⟩
theorem tO(s:aD)(out:List Int)(es:List End)(n:Nat):(eV s out es n).length=n:=by unfold eV;simp
def Gt(a:Nat)(S:an)(_:av):Nat:=match S 6,S 7 with
 |.int _ w,.int _ f=>((a-w)*1000+(1000-f)).toNat
 |_,_=>0
def I81(s:aD)(out:List Int)(es:List End)(i a b:Nat)(S:an)(H:av):Prop:=S 2=.box 2 0/\S 3=.box 3 0/\H 2=some (aL s)/\H 3=some [vI out,.slice .view (es.map bm)]/\S 12=.slice .view (es.map bm)/\S 13=.int .i64 es.length/\S 14=.int .i64 (i:Nat)/\S 5=grow 239 (eV s out es i)/\S 9=.box 9 0/\H 9=some [.int .i64 a,.int .i64 b]/\S 10=.box 10 0/\∃(w f:Nat)(D:List (Nat×Nat)),H 10=some [grow 261 (D.map gA),.bool (iJ s es i)]/\S 6=.int .i64 w/\S 7=.int .i64 f/\D++iX s out (w,f) (a,b)=gr s out es i/\w<=a/\(w=a->f<=b)/\(w<a->f<=cy s w)
theorem Sv(hG:au GI)(s:aD)(hs:bg s=true)(out:List Int)(ho:out.length<1000000)(es:List End)(he:es.length<100000)(g:Good s out es):AC prog GI 192 [fc s,aW out es] (.ret (.slice .view (eV s out es es.length))):=by
 have hF:=fk hs;refine AC.nj (o:=if eV s out es es.length=[]then .nil else .view) ?_;refine cd hG func192 ntmps192 c192 ?_;refine aI (λS H=>S 2=.box 2 0/\S 3=.box 3 0/\H 2=some (aL s)/\H 3=some [vI out,.slice .view (es.map bm)]) (by simp[az,aq,fc,aL,af,bt,aW,aJ]) ?_;rintro S H ⟨s2,s3,e2,e3⟩;simp[az,aq,s2,s3,e2,e3];refine bP 14 es.length (λi S H=>S 2=.box 2 0/\S 3=.box 3 0/\H 2=some (aL s)/\H 3=some [vI out,.slice .view (es.map bm)]/\S 12=.slice .view (es.map bm)/\S 13=.int .i64 es.length/\S 14=.int .i64 (i:Nat)/\S 5=grow 239 (eV s out es i)/\S 6=.int .i64 (jQ es i).1/\S 7=.int .i64 (jQ es i).2) (λi S H h=>h.2.2.2.2.2.2.1) ⟨by simp[az,aq,s2],by simp[az,aq,s3],by simp[az,aq,e2],by simp[az,aq,e3],by simp[az,aq],by simp[az,aq],by simp[az,aq],by simp[az,aq,grow,eV],by simp[az,aq,jQ],by simp[az,aq,jQ]⟩ ?_;clear s2 s3 e2 e3 S H;rintro i hi S H ⟨s2,s3,e2,e3,bC,bW,cN,s5,s6,s7⟩
 by_cases aw:i<es.length
 case neg=>
  have cU:i=es.length:=by omega
  subst cU
  by_cases h0:eV s out es es.length=[]
  .have mm:S 5=.slice .nil []:=by rw[s5,h0];rfl
   simp[az,aq,s2,s3,e2,e3,bC,bW,cN,mm,h0]
  .have mm:S 5=.slice (.own 239) (eV s out es es.length):=by rw[s5];simp[grow,h0]
   simp[az,aq,s2,s3,e2,e3,bC,bW,cN,mm,h0]
 obtain⟨g1,g2,g3,g4,g5⟩:=g.one i aw
 obtain⟨a,ha⟩:∃a:Nat,es[i].1=a:=⟨es[i].1.toNat,by omega⟩
 obtain⟨b,hb⟩:∃b:Nat,es[i].2=b:=⟨es[i].2.toNat,by omega⟩
 have hE:es[i]=((a:Int),(b:Int)):=Prod.ext ha hb
 have Rx:nE es[i]=(a,b):=by rw[hE];rfl
 have jT:a<s.words.length:=by omega
 have Cx:iJ s es i=decide (b<s.words[a].aP.length):=by
  rw[vA aw,hE];show decide ((b:Int)<(cy s (a:Int).toNat:Int))=_;rw[Int.toNat_natCast,gP jT,decide_eq_decide];omega
 rw[ha]at g3 g5;rw[hb]at g4 g5
 have g5:b<=s.words[a].aP.length:=by rw[Int.toNat_natCast,gP jT]at g5;omega
 have F4:gr s out es i=iX s out (jQ es i) (a,b):=by rw[nf aw,Rx]
 have Kl:=yL hs g i;have hw:IntKind.i64.wrap ((i:Int)+1)=i+1:=aS (by omega)
 have We:jQ es (i+1)=(a,b):=by
  show(match es[i]? with|some e=>nE e|none=>(0,0))=_;rw[aa_ aw];exact Rx
 have Yb:=AX g aw;rw[Rx]at Yb;simp[az,aq,s2,s3,e2,e3,bC,bW,cN,aw,hE,bm,aL,af,bt,jT,cG,bG];refine⟨I81 s out es i a b,Gt a,⟨by simp[az,aq,s2],by simp[az,aq,s3],by simp[az,aq,e2,aL,af,bt],by simp[az,aq,e3],by simp[az,aq,bC],by simp[az,aq,bW],by simp[az,aq,cN],by simp[az,aq,s5,grow],by simp[az,aq],by simp[az,aq],by simp[az,aq],(jQ es i).1,(jQ es i).2,[],by simp[az,aq,grow,Cx],by simp[az,aq,s6],by simp[az,aq,s7],by rw[F4];rfl,by omega,by omega,?_⟩,?_⟩
 .intro _
  cases i with
  |zero=>exact abZ _
  |succ j=>
   have hj:=g.one j (by omega)
   have:jQ es (j+1)=nE es[j]:=by show(match es[j]? with|some e=>nE e|none=>(0,0))=_;rw[aa_ (by omega)]
   rw[this];show es[j].2.toNat<=cy s es[j].1.toNat;omega
 clear s2 s3 e2 e3 bC bW cN s5 s6 s7 S H;rintro S H ⟨s2,s3,e2,e3,bC,bW,cN,s5,s9,e9,bK,w,f,D,jE,s6,s7,hD,hwa,V3,te⟩
 have hDl:D.length<=24:=by
  have:=congrArg List.length hD;rw[abu]at this;omega
 have YT:=(qR hs (out:=out) w).2;have XW:=(qR hs (out:=out) a).2;rw[gP jT]at XW
 have hf6:f<=6:=by
  by_cases h:w<a
  .have:=te h;omega
  .have:=V3 (by omega);omega
 by_cases mD:w<a\/w=a/\f<b
 case neg=>
  obtain rfl:w=a:=by omega
  obtain rfl:f=b:=by have:=V3 rfl;omega
  rw[EK (abg _),ab1]at hD
  have VH:D≠[]:=by rw[hD];exact CV g aw
  have hg:grow 261 (D.map gA)=.slice (.own 261) (D.map gA):=by simp[grow,VH]
  rw[hg]at jE
  have BN:Od s out es i=.agg [.slice .view (D.map gA),.bool (iJ s es i)]:=by rw[hD];rfl
  have gq:aM 2 [AV.agg [AV.slice .view (D.map gA),AV.bool (iJ s es i)]]=true:=rfl;simp[s2,s3,e2,e3,bC,bW,cN,s5,s9,e9,bK,jE,s6,s7,gq];refine kl (eV s out es i) (Od s out es i) (.own 239) (by simp[s5,grow]) (by rw[BN];simp) (by rw[BN];rfl) (EV _ _ _ _) (by rw[tO];omega) ?_;intro S' sd fo;simp[sd,fo,s2,s3,e2,e3,bC,bW,cN,s6,s7,hw,aw,We,AG,grow,aL,af,bt]
 have sB:w<s.words.length:=by omega
 have Tw:=gP sB;refine aI (λS H=>S 2=.box 2 0/\S 3=.box 3 0/\H 2=some (aL s)/\H 3=some [vI out,.slice .view (es.map bm)]/\S 12=.slice .view (es.map bm)/\S 13=.int .i64 es.length/\S 14=.int .i64 (i:Nat)/\S 5=grow 239 (eV s out es i)/\S 9=.box 9 0/\H 9=some [.int .i64 a,.int .i64 b]/\S 10=.box 10 0/\H 10=some [grow 261 (D.map gA),.bool (iJ s es i)]/\S 6=.int .i64 w/\S 7=.int .i64 f) ?_ ?_
 .rcases mD with Bi|⟨rfl,WQ⟩
  .have vi:(w:Int)<a:=by omega
   simp[az,aq,s2,s3,e2,e3,bC,bW,cN,s5,s9,e9,bK,jE,s6,s7,vi,Bi]
  .have TK:(f:Int)<b:=by omega
   simp[az,aq,s2,s3,e2,e3,bC,bW,cN,s5,s9,e9,bK,jE,s6,s7,TK,WQ]
 have Jr:Gt a S H=(a-w)*1000+(1000-f):=by unfold Gt;rw[s6,s7];simp only;omega
 rw[Jr];clear s2 s3 e2 e3 bC bW cN s5 s9 e9 bK jE s6 s7 Jr S H;rintro S H ⟨s2,s3,e2,e3,bC,bW,cN,s5,s9,e9,bK,jE,s6,s7⟩;simp[s2,s3,e2,e3,bC,bW,cN,s5,s9,e9,bK,jE,s6,s7];refine⟨_,by kernel_rfl,E0 hG out ho w,λ_=>rfl,?_⟩;have j7:=hF.words.2;have lq:IntKind.i64.wrap ((w:Int)+1)=w+1:=aS (by omega);have VX:IntKind.i64.wrap ((f:Int)+1)=f+1:=aS (by omega);have Wc:IntKind.i64.wrap 0=0:=aS (by omega);cases Bn:out.contains (w:Int)
 case true=>
  have Bi:w<a:=by
   rcases mD with h|⟨rfl,_⟩
   .exact h
   .rw[Bn]at g3;cases g3
  simp[s2,s3,e2,e3,bC,bW,cN,s5,s9,e9,bK,jE,s6,s7,lq,Wc];refine⟨⟨by simp[az,aq,s2],by simp[az,aq,s3],e2,e3,by simp[az,aq,bC],by simp[az,aq,bW],by simp[az,aq,cN],by simp[az,aq,s5,grow],by simp[az,aq,s9],e9,by simp[az,aq,bK],w+1,0,D,jE,by simp[az,aq],by simp[az,aq],by rw[<-hD,Ho Bi Bn],by omega,λ_=>abZ _,λ_=>abZ _⟩,?_⟩;simp[Gt,ar];omega
 have hlen:(((w:Nat):Int))<s.words.length:=by omega
 cases uz:((f:Int)==s.words[w].aP.length)
 case true=>
  have Pl:cy s w<=f:=by rw[Tw];simp at uz;omega
  have Bi:w<a:=by
   rcases mD with h|⟨rfl,h⟩
   .exact h
   .rw[Tw]at Pl;omega
  simp[s2,s3,e2,e3,bC,bW,cN,s5,s9,e9,bK,jE,s6,s7,lq,Wc,aL,af,bt,cG,sB,uz];refine⟨⟨by simp[az,aq,s2],by simp[az,aq,s3],e2,e3,by simp[az,aq,bC],by simp[az,aq,bW],by simp[az,aq,cN],by simp[az,aq,s5,grow],by simp[az,aq,s9],e9,by simp[az,aq,bK],w+1,0,D,jE,by simp[az,aq],by simp[az,aq],by rw[<-hD,Ee Bi Pl],by omega,λ_=>abZ _,λ_=>abZ _⟩,?_⟩;simp[Gt,ar];omega
 have cC:f≠s.words[w].aP.length:=by simp at uz;omega
 have hfw:f<cy s w:=by
  rcases mD with h|⟨rfl,h⟩
  .have:=te h;omega
  .omega
 have gq:aM 2 [AV.agg [AV.int .i64 (w:Nat),AV.int .i64 (f:Nat)]]=true:=rfl;simp[s2,s3,e2,e3,bC,bW,cN,s5,s9,e9,bK,jE,s6,s7,aL,af,bt,cG,sB,uz,bG,gq];refine kl (D.map gA) (gA (w,f)) (.own 261) (by simp[grow]) (by simp[gA]) rfl (NA _) (by rw[abh];omega) ?_;intro S' sd fo;simp[sd,fo,s2,s3,e2,e3,bC,bW,cN,s5,s9,e9,bK,s6,s7,VX,grow];refine⟨⟨by simp[az,aq,fo,s2],by simp[az,aq,fo,s3],?_,?_,by simp[az,aq,fo,bC],by simp[az,aq,fo,bW],by simp[az,aq,fo,cN],by simp[az,aq,fo,s5,grow],by simp[az,aq,fo,s9],?_,by simp[az,aq,fo,bK],w,f+1,D++[(w,f)],?_,by simp[az,aq,fo,s6],by simp[az,aq],?_,hwa,?_,?_⟩,?_⟩
 .simp[az,aq,e2,aL,af,bt]
 .simp[az,aq,e3]
 .simp[az,aq,e9]
 .simp[az,aq,grow]
 .have kd:iX s out (w,f) (a,b)=(w,f)::iX s out (w,f+1) (a,b):=KU (by
   rcases mD with h|h
   .exact .inl ⟨h,Bn,hfw⟩
   .exact .inr h)
  rw[<-hD,kd];simp
 .intro h;rcases mD with h'|h'<;>omega
 .intro _;omega
 .simp[Gt,ar,fo,s6];omega
theorem Je(l:List (List UInt8)):aM 1 (l.map AV.str)=true:=jA λa=>⟨rfl,rfl⟩
end Go.Proofs.Tryz
namespace Go.Proofs.Tryz
open Go Go.AL Go.RowKit Go.Proofs Go.Proofs.Tram
theorem Og {Pr:Nat→Nat→Prop} {w:World} {b:Nat} {ty:TypeId} {cells:Array Value} {es:List AV} {size:Nat} (hb:w.heap[b]? = some (.cells cells ty (0,0))) (hs:cells.size=es.length * size) (bn:∀ e∈es,e.cells.length=size∧∀ c∈e.cells,c.one=true)
  (hP:∀k,k<cells.size->Pr b k) (hr:∀i (h:i<es.length) j (hj:j<(es[i]).cells.length),RD Pr w ((es[i]).cells[j]) (cells.getD (i*size+j) undef)):RD Pr w (.slice .view es) (.slice (some ⟨b,0,none⟩) es.length es.length):=by
 refine .slice .view es b 0 es.length size (λk=>cells.getD k undef) (abg _) (λh=>by cases h) (λi h=>(bn _ (aba h)).1) (λi h j hj=>(bn _ (aba h)).2 _ (aba hj)) (λk hk=>?_) hr;rw[<-hs]at hk;refine⟨by rw[abV];exact hP k hk,?_⟩;simp[World.cell?,hb,hk]
variable{GI:World->Prop}
end Go.Proofs.Tryz
namespace Go.Proofs.Tryz
open Go Go.AL Go.RowKit Go.Proofs Go.Proofs.Tram
theorem zW {bE:Nat} {u:Value} {ty:TypeId} (w:World) (hE:w.heap[bE]? = some (.cells #[u] ty (0,0))) (n:Int) :
    CallsD prog 163 #[.pointer (some ⟨bE,0,none⟩)] (.panicking [{ v := .iface 192 (.agg #[.int .i64 n]),recovered:=false }]) w fun e u' w' =>
      e=.returned (.tuple #[])/\u'=.panicking [{ v:=.iface 192 (.agg #[.int .i64 n]),recovered:=true }]/\∃w1,Below w.heap.size w w1/\w'=w1.setRow bE #[.int .i64 7]:=by
  refine ac7 func163 rfl λvn cs hu=>?_
  apply aek;apply adD;simp[wpOpsS,go_sem,recoverD,hu,ntmps163,Exit.thenS];refine adP ?_;refine(eL (m:=0)).1 ?_;refine fD (λa=>a.tmps.size=14/\a.defers=[]/\a.tmps.getD 0 undef=.pointer (some ⟨bE,0,none⟩)/\a.tmps.getD 5 undef=.iface 192 (.agg #[.int .i64 n])) ⟨by simp,rfl,by simp,by simp⟩ ?_;rintro a ⟨bn,dN,h0,h5⟩;have aw:=(abb.1 hE).1;refine acg (abf (abx ?_));show wpOpsIn _ _ _ _ _ [0] a w;refine aT rfl rfl (by rfl) (nX (x:=.tmp 5) w rfl h5) ?_;show Code.wpIn _ _ _ _ _ (a.put (some 7) (.bool false)) w
  have h7:(a.put (some 7) (.bool false)).tmps.getD 7 undef=.bool false:=by simp[Act.put,bn]
  refine abS (t:=false) h7 ?_;simp only[abi,abw];refine fD (λa=>a.tmps.size=14/\a.defers=[]/\a.tmps.getD 0 undef=.pointer (some ⟨bE,0,none⟩)/\a.tmps.getD 5 undef=.iface 192 (.agg #[.int .i64 n])) ⟨by simp[Act.put,bn],dN,by simpa[Act.put,abd]using h0,by simpa[Act.put,abd]using h5⟩ ?_;clear h7 h5 h0 dN bn a;rintro a ⟨bn,dN,h0,h5⟩
  have hS:∀ (a:Act) (w:World),a.tmps.getD 5 undef = .iface 192 (.agg #[.int .i64 n])→∀ t,t < 14→((fun t=>if t=5 then AV.iface 192 (.agg [.int .i64 n]) else AV.bl:an) t).aH=(fun t=>if t=5 then AV.iface 192 (.agg [.int .i64 n]) else AV.bl:an) t ∧
      RV (λ_ _=>True) bT w ((λt=>if t=5 then AV.iface 192 (.agg [.int .i64 n])else AV.bl:an) t) (a.tmps.getD t undef):=by
    intro a w h5 t ht
    by_cases h:t=5
    . subst h
      rw[h5];refine⟨rfl,.data _ _ (.iface _ _ _ (.agg _ _ rfl (λi hi=>?_) (λi hi dv=>?_)))⟩
      . have:i=0:=by simpa using hi
        subst this;rfl
      . have:i=0:=by simpa using hi
        subst this;exact .int _ _
    . simp only[h,abw];exact⟨rfl,.bl _⟩
  refine abf ?_;refine bD (GI:=λ_=>True) (λ_ _ _ _=>trivial) cH (ac:=ae.qa c163.qb.qb.qb.qb) (W:=λt=>decide (8<=t)) (by kernel_rfl) (by kernel_rfl) (by kernel_rfl) trivial (λ_ _=>True) _ bn dN (hS a w h5) (K:=λS' _=>S' 9=.bool true/\S' 10=.agg [.int .i64 n]) ?_ ?_
  . simp[c163,ae.qa,ae.qb,bB,bp,aF,bb,aG,aK,aO.S,aO.H,ev,ar,aU,AV.aH]
  rintro g S' H' a' w' hg R1 ⟨h9,nw⟩ aZ;have t9:=R1.slot 9 (by decide) (λh=>h);rw[h9]at t9;have t9:=t9.dU;have t10:=R1.slot 10 (by decide) (λh=>h);rw[nw]at t10
  have b1:Below w.heap.size w w':=by have:=R1.below;rwa [R1.base]at this
  show Code.wpIn _ _ _ _ _ a' w';refine abS (t:=true) t9 ?_;simp only[abJ];refine abf ?_;refine fY R1 (GI:=λ_=>True) (λ_ _ _ _=>trivial) trivial cH (ac:=ae.qa c163.qb.qb.qb.qb.qb.qa) (W:=λt=>decide (1<=t)) (by kernel_rfl) (by kernel_rfl) (by kernel_rfl) (by rw[hg];exact λ_ h=>h) (K:=λ_ _=>True) ?_ ?_
  . simp[c163,ae.qa,ae.qb,bB,bp,aF,bb,aG,aK,aO.S,aO.H,ev,ar,aU,AV.aH,nw,b_,HR.okB,AV.cells,AV.storable,bu,AV.cb,bz]
  rintro g2 S2 H2 a2 w2 l4 R2 _ gD
  have b2:Below w.heap.size w w2:=by have:=R2.below;rwa [R2.base]at this
  have e0:a2.tmps.getD 0 undef=.pointer (some ⟨bE,0,none⟩):=(gD 0 rfl).trans ((aZ 0 rfl).trans h0);have zn:w2.heap[bE]?=some (.cells #[u] ty (0,0)):=(b2.block bE aw).trans hE;obtain⟨i36,nr,nn⟩:=bo (P:=prog) (t:=34) (s:=1) (by kernel_rfl);show Code.wpIn _ _ _ _ _ a2 w2;refine abx ?_;show wpOpsIn _ _ _ _ _ [0] a2 w2;refine dk rfl rfl (by rfl) (fQ (x:=.tmp 0) (y:=.const (.int .i64 7)) (v:=.int .i64 7) rfl e0 nr nn zn rfl rfl) ?_;refine⟨by show a2.defers=[];rw[R2.defers,l4,hg];rfl,_,rfl,.tuple #[],?_,rfl,rfl,w2,b2,rfl⟩;simp[results,results163]
theorem zE {bE:Nat} {u:Value} {ty:TypeId} (w:World) (hE:w.heap[bE]? = some (.cells #[u] ty (0,0))) (n:List UInt8) :
    CallsD prog 163 #[.pointer (some ⟨bE,0,none⟩)] (.panicking [{ v := .iface 203 (.agg #[.string ⟨n.toArray⟩]),recovered:=false }]) w fun e u' w' =>
      e=.returned (.tuple #[])/\u'=.panicking [{ v:=.iface 203 (.agg #[.string ⟨n.toArray⟩]),recovered:=true }]/\∃w1,Below w.heap.size w w1/\w'=w1.setRow bE #[.int .i64 4]:=by
  refine ac7 func163 rfl λvn cs hu=>?_
  apply aek;apply adD;simp[wpOpsS,go_sem,recoverD,hu,ntmps163,Exit.thenS];refine adP ?_;refine(eL (m:=0)).1 ?_;refine fD (λa=>a.tmps.size=14/\a.defers=[]/\a.tmps.getD 0 undef=.pointer (some ⟨bE,0,none⟩)/\a.tmps.getD 5 undef=.iface 203 (.agg #[.string ⟨n.toArray⟩])) ⟨by simp,rfl,by simp,by simp⟩ ?_;rintro a ⟨bn,dN,h0,h5⟩;have aw:=(abb.1 hE).1;refine acg (abf (abx ?_));show wpOpsIn _ _ _ _ _ [0] a w;refine aT rfl rfl (by rfl) (nX (x:=.tmp 5) w rfl h5) ?_;show Code.wpIn _ _ _ _ _ (a.put (some 7) (.bool false)) w
  have h7:(a.put (some 7) (.bool false)).tmps.getD 7 undef=.bool false:=by simp[Act.put,bn]
  refine abS (t:=false) h7 ?_;simp only[abi,abw];refine fD (λa=>a.tmps.size=14/\a.defers=[]/\a.tmps.getD 0 undef=.pointer (some ⟨bE,0,none⟩)/\a.tmps.getD 5 undef=.iface 203 (.agg #[.string ⟨n.toArray⟩])) ⟨by simp[Act.put,bn],dN,by simpa[Act.put,abd]using h0,by simpa[Act.put,abd]using h5⟩ ?_;clear h7 h5 h0 dN bn a;rintro a ⟨bn,dN,h0,h5⟩
  have hS:∀ (a:Act) (w:World),a.tmps.getD 5 undef = .iface 203 (.agg #[.string ⟨n.toArray⟩])→∀ t,t < 14→((fun t=>if t=5 then AV.iface 203 (.agg [.str n]) else AV.bl:an) t).aH=(fun t=>if t=5 then AV.iface 203 (.agg [.str n]) else AV.bl:an) t ∧
      RV (λ_ _=>True) bT w ((λt=>if t=5 then AV.iface 203 (.agg [.str n])else AV.bl:an) t) (a.tmps.getD t undef):=by
    intro a w h5 t ht
    by_cases h:t=5
    . subst h
      rw[h5];refine⟨rfl,.data _ _ (.iface _ _ _ (.agg _ _ rfl (λi hi=>?_) (λi hi dv=>?_)))⟩
      . have:i=0:=by simpa using hi
        subst this;rfl
      . have:i=0:=by simpa using hi
        subst this;exact .str _
    . simp only[h,abw];exact⟨rfl,.bl _⟩
  refine abf ?_;refine bD (GI:=λ_=>True) (λ_ _ _ _=>trivial) cH (ac:=ae.qa c163.qb.qb.qb.qb) (W:=λt=>decide (8<=t)) (by kernel_rfl) (by kernel_rfl) (by kernel_rfl) trivial (λ_ _=>True) _ bn dN (hS a w h5) (K:=λS' _=>S' 9=.bool false/\S' 5=.iface 203 (.agg [.str n])) ?_ ?_
  . simp[c163,ae.qa,ae.qb,bB,bp,aF,bb,aG,aK,aO.S,aO.H,ev,ar,aU,AV.aH]
  rintro g0 S0 H0 a0 Tj Aj R0 ⟨BQ,Ry⟩ Aa;have t90:=R0.slot 9 (by decide) (λh=>h);rw[BQ]at t90;have t90:=t90.dU;show Code.wpIn _ _ _ _ _ a0 Tj;refine abS (t:=false) t90 ?_;simp only[abi,abw];refine abf ?_;refine fY R0 (GI:=λ_=>True) (λ_ _ _ _=>trivial) trivial cH (ac:=ae.qa c163.qb.qb.qb.qb.qb.qb) (W:=λt=>decide (8<=t)) (by kernel_rfl) (by kernel_rfl) (by kernel_rfl) (by rw[Aj];exact λ_ h=>h) (K:=λS' _=>S' 12=.bool true/\S' 13=.agg [.str n]) ?_ ?_
  . simp[c163,ae.qa,ae.qb,bB,bp,aF,bb,aG,aK,aO.S,aO.H,ev,ar,aU,AV.aH,Ry]
  rintro g S' H' a' w' hg R1 ⟨h9,nw⟩ zl;have aZ:=Aa.trans zl;rw[Aj]at hg;have t9:=R1.slot 12 (by decide) (λh=>h);rw[h9]at t9;have t9:=t9.dU;have t10:=R1.slot 13 (by decide) (λh=>h);rw[nw]at t10
  have b1:Below w.heap.size w w':=by have:=R1.below;rwa [R1.base]at this
  show Code.wpIn _ _ _ _ _ a' w';refine abS (t:=true) t9 ?_;simp only[abJ];refine abf ?_;refine fY R1 (GI:=λ_=>True) (λ_ _ _ _=>trivial) trivial cH (ac:=ae.qa c163.qb.qb.qb.qb.qb.qb.qb.qa) (W:=λt=>decide (1<=t)) (by kernel_rfl) (by kernel_rfl) (by kernel_rfl) (by rw[hg];exact λ_ h=>h) (K:=λ_ _=>True) ?_ ?_
  . simp[c163,ae.qa,ae.qb,bB,bp,aF,bb,aG,aK,aO.S,aO.H,ev,ar,aU,AV.aH,nw,b_,HR.okB,AV.cells,AV.storable,bu,AV.cb,bz]
  rintro g2 S2 H2 a2 w2 l4 R2 _ gD
  have b2:Below w.heap.size w w2:=by have:=R2.below;rwa [R2.base]at this
  have e0:a2.tmps.getD 0 undef=.pointer (some ⟨bE,0,none⟩):=(gD 0 rfl).trans ((aZ 0 rfl).trans h0);have zn:w2.heap[bE]?=some (.cells #[u] ty (0,0)):=(b2.block bE aw).trans hE;obtain⟨i36,nr,nn⟩:=bo (P:=prog) (t:=34) (s:=1) (by kernel_rfl);show Code.wpIn _ _ _ _ _ a2 w2;refine abx ?_;show wpOpsIn _ _ _ _ _ [0] a2 w2;refine dk rfl rfl (by rfl) (fQ (x:=.tmp 0) (y:=.const (.int .i64 4)) (v:=.int .i64 4) rfl e0 nr nn zn rfl rfl) ?_;refine⟨by show a2.defers=[];rw[R2.defers,l4,hg];rfl,_,rfl,.tuple #[],?_,rfl,rfl,w2,b2,rfl⟩;simp[results,results163]
theorem AH (p:Addr) (w:World) :
    CallsD prog 163 #[.pointer (some p)] .returning w λe u' w'=>e=.returned (.tuple #[])/\u'=.returning/\w'=w:=by
  refine ac7 func163 rfl λvn cs hu=>?_
  apply aek;apply adD;simp[wpOpsS,go_sem,recoverD,hu,ntmps163,Exit.thenS];refine adP ?_
  go_wp2
  cases vn
  simp_all[bodyPostS,results,results163]
theorem Ff {a:Act} {w:World} {b:Nat} {v:Value} {ty:TypeId} (h2:a.tmps.getD 2 undef = .pointer (some ⟨b,0,none⟩)) (h:w.heap[b]? = some (.cells #[v] ty (0,0))):(results f119 a.tmps).run prog w = .ok v w:=by
  obtain⟨d,Dj,Ai⟩:=gv (P:=prog) (t:=34) (by kernel_rfl)
  have ot:(isAgg 34).run prog w = .ok false w:=by
    unfold isAgg;rw[abq,abD Dj w]
    cases d<;>simp_all[eQ]
  have hl:(loadVar 34 ⟨b,0,none⟩).run prog w = .ok v w:=by
    simp[loadVar,abq,ot,World.cell?,h]
  have hr:f119.results=#[.cell 2 34]:=rfl
  have tZ:a.tmps[2]?.getD undef=.pointer (some ⟨b,0,none⟩):=by rw[<-h2];simp
  simp[results,hr,tZ,asAddr,hl]
theorem js {k:Nat} {us:Array Value} {w:World} {R1 R:Ending→World→Prop} (mU:dL prog k=true) (hc:Calls prog k us (w.alloc (.cells #[.int .i64 0] 34)) R1)
    (h:∀ e w2,R1 e w2→w.heap.size < w2.heap.size∧(∃ u ty,w2.heap[w.heap.size]? = some (.cells #[u] ty (0,0))) ∧
      ((∃c,e=.returned c/\R (.returned (.int .i64 0)) (w2.setRow w.heap.size #[.int .i64 0]))\/
       (∃n,e=.panicked [{ v:=.iface 192 (.agg #[.int .i64 n]),recovered:=false }]/\∀w3,Below w2.heap.size w2 w3->R (.returned (.int .i64 7)) (w3.setRow w.heap.size #[.int .i64 7]))\/
       (∃s:List UInt8,e=.panicked [{ v:=.iface 203 (.agg #[.string ⟨s.toArray⟩]),recovered:=false }]/\∀w3,Below w2.heap.size w2 w3->R (.returned (.int .i64 4)) (w3.setRow w.heap.size #[.int .i64 4])))):
    Calls prog 119 #[.func (.func k) #[] us] w R:=by
  refine aeH func119 rfl ?_;refine(eL (m:=0)).1 ?_;refine fD (λa=>a.tmps.size=6/\a.defers=[]/\a.tmps.getD 0 undef=.func (.func k) #[] us) ⟨by simp[ntmps119],rfl,bJ _ _ 0 (by simp)⟩ ?_;rintro a ⟨bn,dN,h0⟩
  obtain⟨bE,Ed⟩:∃bE,w.heap.size=bE:=⟨_,rfl⟩
  have dT:∀ (a:Act) (d t:Nat) (c:Value),t≠d→(a.put (some d) c).tmps.getD t undef=a.tmps.getD t undef:=fun a d t c h=>by
    simp[Act.put,abd (abO h)]
  have gz:∀ (a:Act) (d:Nat) (c:Value),a.tmps.size=6→d < 6→(a.put (some d) c).tmps.getD d undef=c:=fun a d c h hd=>by
    simp[Act.put,h,hd]
  have jC:∀(a:Act)(d:Option Nat)(c:Value),(a.put d c).tmps.size=a.tmps.size:=λa d c=>by cases d<;>simp[Act.put]
  refine abf (abx ?_);show wpOpsIn _ _ _ _ _ [0] a w;refine aT rfl rfl (by rfl) (je (t:=34) (z:=.int .i64 0) rfl (by kernel_rfl)) ?_;show Code.wpIn _ _ _ _ _ (a.put (some 2) (.pointer (some ⟨w.heap.size,0,none⟩))) (w.alloc (.cells #[.int .i64 0] 34));rw[Ed]at h;simp only[Ed]
  obtain⟨w1,lq⟩:∃w1,w.alloc (.cells #[.int .i64 0] 34)=w1:=⟨_,rfl⟩
  rw[lq]at hc⊢;refine fD (λa=>a.tmps.size=6/\a.defers=[]/\a.tmps.getD 0 undef=.func (.func k) #[] us/\a.tmps.getD 2 undef=.pointer (some ⟨bE,0,none⟩)) ⟨by rw[jC];exact bn,dN,by rw[dT _ _ _ _ (by decide)];exact h0,gz _ _ _ bn (by decide)⟩ ?_;clear h0 dN bn a;rintro a ⟨bn,dN,h0,h2⟩;refine abf (abx ?_);show wpOpsIn _ _ _ _ _ [0,1] a w1;refine aT rfl rfl (by rfl) (ld (fn:=.func 163) (c:=#[.tmp 2]) rfl) ?_
  have fp:(#[Operand.tmp 2].map a.eval) = #[.pointer (some ⟨bE,0,none⟩)]:=by
    simp only[abI,abA,abL,Act.eval];rw[h2]
  rw[fp];show wpOpsIn _ _ _ _ _ [1] (a.put (some 3) (.func (.func 163) #[] #[.pointer (some ⟨bE,0,none⟩)])) w1
  obtain⟨a2,gG⟩:∃a2,a.put (some 3) (.func (.func 163) #[] #[.pointer (some ⟨bE,0,none⟩)])=a2:=⟨_,rfl⟩
  rw[gG]
  have z2:a2.tmps.size=6:=by rw[<-gG,jC];exact bn
  have u3:a2.tmps.getD 3 undef=.func (.func 163) #[] #[.pointer (some ⟨bE,0,none⟩)]:=by rw[<-gG];exact gz _ _ _ bn (by decide)
  have u0:a2.tmps.getD 0 undef=.func (.func k) #[] us:=by rw[<-gG,dT _ _ _ _ (by decide)];exact h0
  have u2:a2.tmps.getD 2 undef=.pointer (some ⟨bE,0,none⟩):=by rw[<-gG,dT _ _ _ _ (by decide)];exact h2
  have ud:a2.defers=[]:=by rw[<-gG];exact dN
  refine xh rfl rfl (d:={ target:=.fn (.func 163) #[.pointer (some ⟨bE,0,none⟩)],args:=#[] }) (w':=w1) ?_ ?_
  . unfold execOp
    simp[eI,Deferred.ofValue,Act.eval,u3]
  have JQ:∀ (w:World),(invoke (.fn (.func 163) #[.pointer (some ⟨bE,0,none⟩)]) #[]).run prog w = .ok (.enter 163 #[.pointer (some ⟨bE,0,none⟩)]) w:=fun w=>by
    simp[invoke,fW (P:=prog) (f:=163) (by kernel_rfl)]
  show Code.wpIn _ _ _ _ _ { a2 with defers:={ target:=.fn (.func 163) #[.pointer (some ⟨bE,0,none⟩)],args:=#[] }::a2.defers } w1;refine fD (λa=>a.tmps.size=6/\a.defers=[{ target:=.fn (.func 163) #[.pointer (some ⟨bE,0,none⟩)],args:=#[] }]/\a.tmps.getD 0 undef=.func (.func k) #[] us/\a.tmps.getD 2 undef=.pointer (some ⟨bE,0,none⟩)) ⟨z2,by show _::a2.defers=_;rw[ud],u0,u2⟩ ?_;clear u0 u2 u3 ud z2 gG a2 h0 h2 dN bn fp a;rintro a ⟨bn,dN,h0,h2⟩;refine abf (abx ?_);show wpOpsIn _ _ _ _ _ [0,1] a w1;refine aT rfl rfl (by rfl) (run_move (x:=.tmp 0) w1 rfl) ?_;have e0:a.eval (.tmp 0)=.func (.func k) #[] us:=h0;rw[e0];show wpOpsIn _ _ _ _ _ [1] (a.put (some 4) (.func (.func k) #[] us)) w1
  obtain⟨a2,gG⟩:∃a2,a.put (some 4) (.func (.func k) #[] us)=a2:=⟨_,rfl⟩
  rw[gG]
  have z2:a2.tmps.size=6:=by rw[<-gG,jC];exact bn
  have u4:a2.eval (.tmp 4)=.func (.func k) #[] us:=by show a2.tmps.getD 4 undef=_;rw[<-gG];exact gz _ _ _ bn (by decide)
  have u2:a2.tmps.getD 2 undef=.pointer (some ⟨bE,0,none⟩):=by rw[<-gG,dT _ _ _ _ (by decide)];exact h2
  have ud:a2.defers=[{ target:=.fn (.func 163) #[.pointer (some ⟨bE,0,none⟩)],args:=#[] }]:=by rw[<-gG];exact dN
  refine rn rfl rfl (by rfl) (tN (f:=.tmp 4) w1 rfl rfl rfl u4 mU) hc ?_;intro e w2 he;obtain⟨aw,⟨uE,QB,hE⟩,qM⟩:=h e w2 he
  have wD:∀ {args:Array Value} {u:FrameMode} {w:World} {R R':Ending→FrameMode→World→Prop},CallsD prog 163 args u w R→(∀ e u w,R e u w→R' e u w)→CallsD prog 163 args u w R':=fun h hr c cs hu =>
    let⟨e,u',w',fr,r,rest⟩:=h c cs hu;⟨e,u',w',fr,hr _ _ _ r,rest⟩
  have rP:∀ (p:PanicEntry) (v:Value) (hv:CallsD prog 163 #[.pointer (some ⟨bE,0,none⟩)] (.panicking [p]) w2 fun e u' w'=>e = .returned (.tuple #[])∧u' = .panicking [{ p with recovered:=true }]∧∃ w1,Below w2.heap.size w2 w1∧w'=w1.setRow bE #[v]),
      p.goexit=false->(∀w3,Below w2.heap.size w2 w3->R (.returned v) (w3.setRow bE #[v]))->Leaves prog f119 a2.tmps R a2.defers (.panicking [p]) w2:=by
    intro p v hv mD hR;rw[ud];refine aee (by simp) (JQ w2) (wD hv ?_);rintro e u' w' ⟨rfl,rfl,w3,oN,rfl⟩;have QH:w3.heap[bE]?=some (.cells #[uE] QB (0,0)):=(oN.block bE aw).trans hE;show Leaves prog f119 a2.tmps R [] .returning (w3.setRow bE #[v]);exact⟨v,Ff u2 (uU QH),hR w3 oN⟩
  rcases qM with⟨c,rfl,hR⟩|⟨n,rfl,hR⟩|⟨s,rfl,hR⟩
  . show Code.wpIn _ _ _ _ _ (a2.put (some 5) c) w2
    have IW:(a2.put (some 5) c).tmps.getD 2 undef=.pointer (some ⟨bE,0,none⟩):=by rw[dT _ _ _ _ (by decide)];exact u2
    refine abf (abx ?_);show wpOpsIn _ _ _ _ _ [0] (a2.put (some 5) c) w2;obtain⟨i36,nr,nn⟩:=bo (P:=prog) (t:=34) (s:=1) (by kernel_rfl);refine dk rfl rfl (by rfl) (fQ (x:=.tmp 2) (y:=.const (.int .i64 0)) (v:=.int .i64 0) rfl IW nr nn hE rfl rfl) ?_;show Code.wpIn _ _ _ _ _ (a2.put (some 5) c) (w2.setRow bE #[.int .i64 0]);refine acU ?_;show Leaves prog f119 (a2.put (some 5) c).tmps R a2.defers .returning (w2.setRow bE #[.int .i64 0]);rw[ud];refine aee (by simp) (JQ _) (wD (AH _ _) ?_);rintro e u' w' ⟨rfl,rfl,rfl⟩;exact⟨_,Ff IW (uU hE),hR⟩
  . exact rP _ _ (zW w2 hE n) rfl hR
  . exact rP _ _ (zE w2 hE s) rfl hR
def Fl(s:aD):List (List Int):=(List.range s.words.length).flatMap λd=>qt s d []
theorem G8{s:aD}(h:0<s.words.length):eU s []=true:=by simp[eU,eW,jW,h]
def gV(out:List Int):Nat->List Word->List Word
 |_,[]=>[]
 |i,w::l=>if out.contains (i:Int)then gV out (i+1) l else w::gV out (i+1) l
theorem yk(out:List Int):∀(a b:List Word)(k:Nat),gV out k (a++b)=gV out k a++gV out (k+a.length) b
 |[],b,k=>by simp[gV]
 |x::a,b,k=>by
  have ih:=yk out a b (k+1)
  have e:k+1+a.length=k+(x::a).length:=by simp;omega
  rw[e]at ih;show(if out.contains (k:Int)then gV out (k+1) (a++b)else x::gV out (k+1) (a++b))=(if out.contains (k:Int)then gV out (k+1) a else x::gV out (k+1) a)++_;rw[ih]
  split<;>rfl
theorem Dy(out:List Int){l:List Word}{i:Nat}(h:i<l.length):gV out 0 (l.take (i+1))=gV out 0 (l.take i)++if out.contains (i:Int)then[]else[l[i]]:=by
 rw[abo h,yk,abT,abV,Nat.min_eq_left (by omega)]
 rfl
theorem ng{out:List Int}:∀{l:List Word}{k:Nat}{w:Word},w∈gV out k l->w∈l
 |[],_,_,h=>by cases h
 |x::l,k,w,h=>by
  unfold gV at h;split at h
  .exact abm _ (ng h)
  .rcases acb.1 h with h|h
   .rw[h];simp
   .exact abm _ (ng h)
theorem p7(out:List Int):∀(l:List Word)(k:Nat),(gV out k l).length<=l.length
 |[],_=>abg _
 |x::l,k=>by
  have:=p7 out l (k+1);unfold gV
  split<;>simp<;>omega
theorem yJ{out:List Int}:∀{l:List Word}{k:Nat},gV out k l=[]->∀i,i<l.length->((k+i:Nat):Int)∈out
 |[],_,_,i,hi=>by simp at hi
 |x::l,k,h,i,hi=>by
  unfold gV at h;split at h
  case isFalse=>cases h
  rename_i hc
  match i with
  |0=>simpa using hc
  |i+1=>
   have:=yJ h i (by simpa using hi);rw[show k+(i+1)=k+1+i by omega];exact this
theorem count_le:∀(n:Nat)(out:List Int),(∀i,i<n->(i:Int)∈out)->n<=out.length
 |0,_,_=>abZ _
 |n+1,out,h=>by
  have hn:=h n (by omega)
  have:=count_le n (out.erase (n:Int)) λi hi=>(aer (by omega)).2 (h i (by omega))
  rw[ad4 hn]at this;have:0<out.length:=adM hn;omega
def yf(s:aD)(out:List Int):aD:={ s with words:=gV out 0 s.words }
theorem Jh{s:aD}{l:List Int}(ho:eU s l=true):1<=(yf s l).words.length:=by
 have h1:=CT ho;rcases adh (yf s l).words.length with h|h
 .have h0:gV l 0 s.words=[]:=abN h
  have:=count_le s.words.length l λi hi=>by
   have:=yJ h0 i hi;simpa using this
  omega
 .exact h
theorem By{s:aD}(hs:bg s=true){l:List Int}(ho:eU s l=true):bg (yf s l)=true:=by
 have hn:=Jh ho;have hl:=p7 l s.words 0;unfold bg oH at hs⊢;simp only[abc,ab0]at hs⊢;obtain⟨⟨⟨⟨h1,h2⟩,h3⟩,h4⟩,⟨⟨⟨⟨⟨⟨e1,e2⟩,e3⟩,e4⟩,e5⟩,e6⟩,e7⟩⟩:=hs;refine⟨⟨⟨⟨h1,h2⟩,?_⟩,h4⟩,⟨⟨⟨⟨⟨⟨e1,e2⟩,e3⟩,e4⟩,?_⟩,e6⟩,e7⟩⟩
 .unfold bL at h3⊢;simp only[abc,abe]at h3⊢;have:(yf s l).words.length<=s.words.length:=hl;omega
 .rw[ab7]at e5⊢;intro w hw;exact e5 w (ng hw)
end Go.Proofs.Tryz
namespace Go.Proofs.Tryz
open Go Go.AL Go.RowKit Go.Proofs Go.Proofs.Tram
variable{GI:World->Prop}
theorem ly{Pr:Nat->Nat->Prop}{al:Nat->Option Nat}{w:World}{l:List UInt8}{c:Value}(h:RV Pr al w (.str l) c):c=.string ⟨l.toArray⟩:=by
 cases h with
 |data _ _ h=>cases h;rfl
def strs(ls:List (List UInt8)):AV:=.slice .view (ls.map .str)
theorem SZ(k_:∀w,GI w->∃m,w.cell? ⟨1,0,none⟩=some (.int .i64 m))(s:List UInt8)(c:UInt8)(hs:s.length<4294967281):AC prog GI 164 [.str s,.str [c]] (.ret (strs (ik c s))):=by
 intro w old bI hG hl hr
 obtain⟨v1,v2,rfl⟩:∃v1 v2,bI=#[v1,v2]:=by
  have h2:bI.size=2:=hl.symm;refine⟨bI[0],bI[1],?_⟩;apply acw
  .simp[h2]
  .intro i h h'
   match i,h' with
   |0,_=>rfl
   |1,_=>rfl
 have e1:=ly (hr 0 (by simp) (by simp));have e2:=ly (hr 1 (by simp) (by simp));simp only[List.getElem_toArray,List.getElem_cons_zero,List.getElem_cons_succ]at e1 e2;subst e1 e2;obtain⟨m,hm⟩:=k_ w hG;refine(Tryz.strings_Split ⟨s.toArray⟩ ⟨[c].toArray⟩ m w hs hm (abg _)).mono ?_;rintro e w' ⟨rfl,rfl⟩;have uQ:Lib.countB ⟨s.toArray⟩ ⟨[c].toArray⟩=s.count c:=Lib.count_one c s;have vP:=Lib.splitB_data ⟨[c].toArray⟩ 0 (s.count c) ⟨s.toArray⟩;have vP:(Lib.splitB ⟨[c].toArray⟩ 0 (s.count c) ⟨s.toArray⟩).map (·.data.toList)=ik c s:=vP.trans (sH c s);have e_:=Lib.splitB_all ⟨[c].toArray⟩ (abg _) 0 (s.count c) ⟨s.toArray⟩ uQ;rw[uQ];generalize Lib.splitB ⟨[c].toArray⟩ 0 (s.count c) ⟨s.toArray⟩=ps at vP e_;rw[<-e_]
 have M8:ps.length=((ik c s).map AV.str).length:=by rw[<-vP];simp
 refine⟨(ab4 _ w).alloc (abg _) _,λb=>if b=w.heap.size then ps.length else 0,λb hb=>?_,_,rfl,.data _ _ ?_,trivial⟩
 .show(if b=w.heap.size then ps.length else 0)=0;rw[World.size_alloc]at hb;rw[if_neg (by omega)]
 .unfold strs;rw[M8];refine Og (es:=(ik c s).map AV.str) (size:=1) (abY w _) (by simp;rw[<-vP];simp) (λe he=>?_) (λk hk=>.inr ⟨abg _,?_⟩) (λi h j hj=>?_)
  .obtain⟨x,_,rfl⟩:=abz.1 he;exact⟨rfl,λc hc=>by simp only[AV.cells,abG]at hc;subst hc;rfl⟩
  .show k<(if w.heap.size=w.heap.size then((ik c s).map AV.str).length else 0);rw[if_pos rfl,<-M8];simpa using hk
  .have hi:i<ps.length:=by rw[M8];exact h
   have hx:((ik c s).map AV.str)[i]=.str ps[i].data.toList:=by simp[<-vP]
   have xD:j=0:=by
    have:(((ik c s).map AV.str)[i]).cells.length=1:=by rw[hx];rfl
    omega
   subst xD
   have hc:(((ik c s).map AV.str)[i]).cells[0]=.str ps[i].data.toList:=by simp only[hx];rfl
   rw[hc]
   have:((ps.map Value.string).toArray.getD (i*1+0) undef)=.string ps[i]:=by simp[hi]
   rw[this];exact .str _
theorem TI{n:Nat}{bI:Array Value}(hl:n=bI.size)(h:n=1):∃v,bI=#[v]:=by
 refine⟨bI[0]'(by omega),?_⟩;apply acw
 .simp;omega
 .intro i hi h'
  match i,h' with
  |0,_=>rfl
theorem T9{n:Nat}{bI:Array Value}(hl:n=bI.size)(h:n=2):∃v1 v2,bI=#[v1,v2]:=by
 refine⟨bI[0]'(by omega),bI[1]'(by omega),?_⟩;apply acw
 .simp;omega
 .intro i hi h'
  match i,h' with
  |0,_=>rfl
  |1,_=>rfl
def BX:Nat->Nat->List UInt8
 |0,_=>[]
 |f+1,u=>if u<10 then[UInt8.ofNat (48+u)]else BX f (u/10)++[UInt8.ofNat (48+u % 10)]
theorem Cs:∀(f u:Nat),0<f->u<10^f->Lib.decDigits u=BX f u
 |0,_,h,_=>by omega
 |f+1,u,_,h=>by
  rw[Lib.decDigits,BX];split
  .rfl
  .rename_i nw
   cases f with
   |zero=>simp at h;omega
   |succ f=>rw[Cs (f+1) (u/10) (by omega) (by rw[Nat.pow_succ]at h;exact aes (by rw[acW];exact h))]
theorem TZ(ls:List (List UInt8))(sep:List UInt8)(hn:ls.length<=100000)(hlen:(Lib.join ls sep).length<=140737488355328):AC prog GI 199 [strs ls,.str sep] (.ret (.str (Lib.join ls sep))):=by
 intro w old bI hG hl hr;obtain⟨v1,v2,rfl⟩:=T9 hl rfl;have e1:=(hr 0 (by simp) (by simp)).eK rfl;have e2:=ly (hr 1 (by simp) (by simp));simp only[List.getElem_toArray,List.getElem_cons_zero,List.getElem_cons_succ]at e1 e2;subst e2;unfold strs at e1;generalize mT:ls.map AV.str=es at e1
 have hle:es.length=ls.length:=by rw[<-mT];simp
 have fin:∀{w':World}{l:List UInt8},Below w.heap.size w w'->l=Lib.join ls sep->AL.Ends prog old w (.ret (.str (Lib.join ls sep))) (.returned (.string ⟨l.toArray⟩)) w':=by
  rintro w' l hb rfl;exact⟨hb,λ_=>0,λ_ _=>rfl,_,rfl,.data _ _ (.str _),trivial⟩
 have emp:∀(a:Option Addr)(c:Nat),ls=[]->Calls prog 199 #[.slice a 0 c,.string ⟨sep.toArray⟩] w (AL.Ends prog old w (.ret (.str (Lib.join ls sep)))):=by
  rintro a c rfl;refine(Tryz.strings_Join_none a c ⟨sep.toArray⟩ w).mono ?_;rintro e w' ⟨rfl,rfl⟩;exact fin (l:=[]) (ab4 _ _) rfl
 cases e1 with
 |jI=>exact emp none 0 (abN (by rw[<-hle];rfl))
 |ky _ a0=>exact emp (some a0) 0 (abN (by rw[<-hle];rfl))
 |slice _ _ b off cap size cs fp yQ bn h1 hc iL=>
  by_cases h0:ls=[]
  .have uO:es.length=0:=by rw[hle,h0];rfl
   rw[uO];exact emp _ _ h0
  .have gK:0<ls.length:=acv.2 h0
   have hZ:∀j (h:j<es.length),es[j]=.str (ls[j]'(by omega)):=λj h=>by simp[<-mT]
   have uT:size=1:=by rw[<-bn 0 (by omega),hZ];rfl
   subst uT
   have dX:∀j (h:j<ls.length),w.cell? ⟨b,off+j,none⟩=some (.string ⟨ls[j].toArray⟩):=λj h=>by
    rw[(hc j (by omega)).2]
    have hz:0<(es[j]'(by omega)).cells.length:=by rw[bn j (by omega)];omega
    have h2:=iL j (by omega) 0 hz
    have h3:((es[j]'(by omega)).cells[0]'hz)=.str ls[j]:=by simp only[hZ j (by omega)];rfl
    rw[h3]at h2;have e:=ly (RV.data (al:=bT) _ _ h2);simp only[acJ,Nat.add_zero]at e;rw[e]
   have hb:b<w.heap.size:=adJ _ _ (dX 0 gK)
   have Ki:(ls.map λl=>(⟨l.toArray⟩:ByteArray)).map (·.data.toList)=ls:=by rw[ack];simp[Function.comp_def]
   have Qg:=Tryz.strings_Join b off cap (ls.map λl=>(⟨l.toArray⟩:ByteArray)) ⟨sep.toArray⟩ w (λj x hx=>by
    simp only[abH,abn]at hx;obtain⟨l,LS,rfl⟩:=hx;obtain⟨hj,rfl⟩:=abE.1 LS
    exact dX j hj) hb (by simp;omega) (by simp;omega) (by rw[Ki];exact hlen)
   rw[Ki,abh]at Qg;rw[hle];refine Qg.mono ?_;rintro e w' ⟨rfl,hb⟩;exact fin hb rfl
theorem Kr(hG:au GI)(s:List UInt8):AC prog GI 205 [.bool true,.str s] (.ret (.dE [])):=by
 refine cd hG func205 ntmps205 c205 ?_;simp[c205,bB,bp,aF,bb,aG,ev,aO.S,aO.H,bz,dq,ar,aU,AL.start,AV.aH,eG,post,cE,cW,cV,AV.out,AV.bZ]
theorem wrap32{n:Int}(h: -2147483648<=n/\n<2147483648):IntKind.i32.wrap n=n:=by
 have key:∀m:Int,m=n % 4294967296->(if decide (m>=2147483648)=true then m-4294967296 else m)=n:=by
  intro m hm;split
  .rename_i hd;have:=acL hd;omega
  .rename_i hd
   have Hx:¬m>=2147483648:=λhh=>hd (ad0 hh)
   omega
 exact key _ rfl
def cL(w:List UInt8):Int:=w.foldl (λn c=>10*n+((c.toNat:Int)-48)) 0
def digit(c:UInt8):Prop:=48<=c.toNat/\c.toNat<=57
theorem wu(w:List UInt8)(c:UInt8):cL (w++[c])=10*cL w+((c.toNat:Int)-48):=by simp[cL,abW]
theorem ph:∀(w:List UInt8),(∀c∈w,digit c)->w.length<=3->0<=cL w/\cL w<1000
 |[],_,_=>by simp[cL]
 |[a],h,_=>by have:=h a (by simp);unfold digit at this;simp[cL];omega
 |[a,b],h,_=>by have h1:=h a (by simp);have h2:=h b (by simp);unfold digit at h1 h2;simp[cL];omega
 |[a,b,c],h,_=>by have h1:=h a (by simp);have h2:=h b (by simp);have h3:=h c (by simp);unfold digit at h1 h2 h3;simp[cL];omega
 |_::_::_::_::_,_,h=>by simp at h
def oK(cc:Nat->Nat->Prop)(w:World)(k:Nat->Option Obj):Old:={ Old.plain cc w with aV:=k }
def qJ(l:List Int):AV:=.slice (if l.isEmpty then .nil else .own 3) (ints l)
def gf(ws:List (List UInt8))(j:Nat)(S:an)(_:av):Prop:=
 S 3=qJ ((ws.take j).map cL)/\S 9=strs ws/\S 10=.int .i64 ws.length/\S 11=.int .i64 (j:Nat)
noncomputable def fb:ae:=ae.qb c208.qb.qb.qa.qb.qb
noncomputable def gE:ae:=ae.qb fb.qb.qb.qa
noncomputable def lP:ae:=ae.qb gE.qb.qb.qa.qb.qb
theorem SS (hG:au GI) {ws:List (List UInt8)} (hlen:ws.length≤100000) (hd:∀ w∈ws,w≠[]∧w.length≤3∧∀ c∈w,digit c) (hI:∀ w∈ws,AC prog GI 162 [.int .i64 (cL w)] (.ret (.str w))) :
  AC prog GI 208 [strs ws] (.ret (.slice (if ws.isEmpty then .nil else .view) (ints (ws.map cL)))):=by
 refine AC.ib func208 rfl ntmps208 (by simp) λcc w=>?_
 refine dO hG c208.qa (λS' H'=>S' 0=strs ws) ?_ ?_
 .simp[c208,ae.qa,bB,bp,aF,bb,aG,ev,aO.S,aO.H,ar,aU,AL.start,AV.aH,strs,bz,aK]
 rintro S1 H1 s0;refine dO hG c208.qb.qa (λS' H'=>S' 0=strs ws/\S' 3=qJ []) ?_ ?_
 .simp[c208,ae.qa,ae.qb,bB,bp,aF,bb,aG,ev,aO.S,aO.H,ar,aU,s0,bz,aK,qJ,ints]
 rintro S2 H2 ⟨s0,s3⟩;show SW prog GI 55 none (.seq (.seq _ (.block 0 (.loop _))) (.seq _ .ret)) _ _ _ _;refine SW.seq (dO hG c208.qb.qb.qa.qa (gf ws 0) ?_ ?_)
 .simp[c208,ae.qa,ae.qb,bB,bp,aF,bb,aG,ev,aO.S,aO.H,ar,aU,s0,s3,gf,strs,AV.aH,aK]
 intro S3 H3 hF;refine SW.block (SW.loop (λo S' H'=>∃k j,o=oK cc w k/\j<=ws.length/\gf ws j S' H') (λS' _=>match S' 11 with|.int _ j=>ws.length-j.toNat|_=>0) ⟨_,0,rfl,abZ _,hF⟩ ?_);rintro o S4 H4 ⟨kk,j,rfl,hj,hF⟩;have m11:S4 11=.int .i64 (j:Nat):=hF.2.2.2
 have da:∀k d,¬(oK cc w k).bx d:=λ_ _ h=>h
 show SW prog GI 55 none (.seq _ (.seq (.cond _ _ _) (.seq (.block 1 (.seq _ (.seq _ (.seq (.seq _ (.block 2 (.loop _))) (.seq _ _))))) _))) _ _ _ _;refine dO hG fb.qa (λS' H'=>S' 12=.bool (decide (j<ws.length))/\gf ws j S' H') ?_ ?_
 .obtain⟨s3,s9,bK,br⟩:=hF;simp[c208,fb,ae.qa,ae.qb,bB,bp,aF,bb,aG,aK,ev,aO.S,aO.H,ar,aU,gf,s3,s9,bK,br,eG]
 rintro S5 H5 ⟨bC,hF⟩
 by_cases aw:j<ws.length
 case neg=>
  refine SW.seq (SW.cond rfl false (by show S5 12=_;rw[bC];simp[aw]) (SW.exit ?_))
  have nG:j=ws.length:=by omega
  subst nG;obtain⟨s3,s9,bK,br⟩:=hF;rw[acf]at s3;show SW prog GI 55 none (.seq _ .ret) _ _ _ _;refine dO hG c208.qb.qb.qb.qa (λS' H'=>S' 2=.slice (if ws.isEmpty then .nil else .view) (ints (ws.map cL))) ?_ ?_
  .cases ws<;>simp[c208,ae.qa,ae.qb,bB,bp,aF,bb,aG,ev,aO.S,aO.H,ar,aU,s3,qJ,AV.aH,bz,aK]
  intro S7 H7 s2;refine SW.ret ⟨dZ.plain rfl,rfl,_,?_,rfl⟩;show cE prog 55 [.tmp 2] S7 H7=_;simp[cE,cW,cV,s2,AV.bZ,AV.out]
 case pos=>
  refine SW.seq (SW.cond rfl true (by show S5 12=_;rw[bC];simp[aw]) (SW.skip ?_));show SW prog GI 55 none (.seq (.block 1 (.seq _ (.seq _ (.seq (.seq _ (.block 2 (.loop _))) (.seq _ _))))) _) _ _ _ _;have FV:ws[j]∈ws:=aba aw
  obtain⟨wd,rl⟩:∃wd,ws[j]=wd:=⟨_,rfl⟩
  have X2:=hd _ FV;have IH:=hI _ FV;rw[rl]at X2 IH;obtain⟨cC,wk,yP⟩:=X2;refine SW.seq (SW.block (dO hG gE.qa (λS' H'=>S' 5=.str wd/\gf ws j S' H') ?_ ?_))
  .obtain⟨s3,s9,bK,br⟩:=hF;simp[c208,fb,gE,ae.qa,ae.qb,bB,bp,aF,bb,aG,aK,ev,aO.S,aO.H,ar,aU,gf,s3,s9,bK,br,strs,aw,rl,ck,AV.cells,AV.aH,bz]
  rintro S6 H6 ⟨s5,hF⟩;refine dO hG gE.qb.qa (λS' H'=>S' 6=.int .i64 0/\S' 5=.str wd/\gf ws j S' H') ?_ ?_
  .obtain⟨s3,s9,bK,br⟩:=hF;simp[c208,fb,gE,ae.qa,ae.qb,bB,bp,aF,bb,aG,aK,ev,aO.S,aO.H,ar,aU,gf,s3,s5,s9,bK,br,AV.aH,bz]
  rintro S7 H7 ⟨s6,s5,hF⟩
  obtain⟨sb,mj⟩:∃sb:ByteArray,sb=⟨wd.toArray⟩:=⟨_,rfl⟩
  refine SW.seq (SW.seq (SW.mid hG (p:=1) (oh:={ dst:=some 16,op := .range 9 (.tmp 15),type:=0,pos := "text.go:133",after:=_,guard:=none }) (jU:=[_]) (ll:=[]) (l2:=[]) rfl rfl rfl rfl (by kernel_rfl) rfl (da _) (lR:=(gE.qb.qb.qa.qa.dl).take 1) (kK:=[]) (by kernel_rfl) rfl (by kernel_rfl) rfl
   (K1:=λS' H'=>S' 15=.str wd/\S' 6=.int .i64 0/\S' 5=.str wd/\gf ws j S' H')
   (K2:=λo S' H'=>∃k b,o=oK cc w k/\k b=some (.stringIter sb 0)/\S' 16=.val (.pointer (some ⟨b,0,none⟩))/\S' 6=.int .i64 0/\S' 5=.str wd/\gf ws j S' H')
   (K3:=λo S' H'=>∃k b,o=oK cc w k/\k b=some (.stringIter sb 0)/\S' 16=.val (.pointer (some ⟨b,0,none⟩))/\S' 6=.int .i64 0/\S' 5=.str wd/\gf ws j S' H') ?_ ?_ ?_ ?_))
  .obtain⟨s3,s9,bK,br⟩:=hF;simp[c208,fb,gE,ae.qa,ae.qb,ae.dl,bp,aF,bb,aG,ev,aO.S,aO.H,ar,aU,gf,s3,s5,s6,s9,bK,br,AV.aH]
  .rintro w0 g S8 H8 a w8 ho R ⟨fy,s6,s5,s3,s9,bK,br⟩;have t15:=R.slot 15 (by decide) (λh=>h);rw[fy]at t15
   have t15:a.eval (.tmp 15)=.string sb:=by rw[mj];exact ly t15
   have fI:prog.underlying 9=some .string:=by kernel_rfl
   have R2:=R.lk (.stringIter sb 0);refine⟨_,_,_,ar S8 16 (.val (.pointer (some ⟨w8.heap.size,0,none⟩))),H8,.inl (xf rfl fI t15),R2.put 16 _ _ (by decide) (.data _ _ (.val _ rfl)) trivial,ar g.old.aV w8.heap.size (some (.stringIter sb 0)),w8.heap.size,?_,aN _ _ _,by simp[ar],by simp[ar,s6],by simp[ar,s5],by simp[ar,s3],by simp[ar,s9],by simp[ar,bK],by simp[ar,br]⟩;show({ g.old with aV:=ar g.old.aV w8.heap.size _ }:Old)=_;rw[ho];rfl
  .rintro o S8 H8 ⟨k,b,rfl,h⟩;exact⟨da _,k,b,rfl,h⟩
  .rintro o S8 H8 ⟨k,b,rfl,tw,d_,s6,s5,hF⟩
   refine SW.block (SW.NJ (λo S' H'=>∃k b pos,o=oK cc w k/\k b=some (.stringIter sb pos)/\pos<=wd.length/\S' 16=.val (.pointer (some ⟨b,0,none⟩))/\S' 6=.int .i64 (cL (wd.take pos))/\S' 5=.str wd/\gf ws j S' H')
    (λo S' _=>match S' 16 with|.val (.pointer (some a))=>(match o.aV a.block with|some (.stringIter _ p)=>wd.length-p|_=>0)|_=>0) ⟨k,b,0,rfl,tw,abZ _,d_,s6,s5,hF⟩ ?_)
   rintro o S9 H9 ⟨k,b,pos,rfl,tw,gK,d_,s6,s5,hF⟩;have m16:=d_
   have Jw:∀(S:an)(k:Nat->Option Obj) p,S 16=.val (.pointer (some ⟨b,0,none⟩))->k b=some (.stringIter sb p)->(match S 16 with|.val (.pointer (some a))=>(match(oK cc w k).aV a.block with|some (.stringIter _ p)=>wd.length-p|_=>0)|_=>0)=wd.length-p:=by
    intro S k p h1 h2;rw[h1];show(match k b with|some (.stringIter _ p)=>wd.length-p|_=>0)=_;rw[h2]
   have bn:sb.size=wd.length:=by rw[mj];rfl
   show SW prog GI 55 none (.seq _ (.seq (.cond _ _ _) (.block 3 (.seq _ (.seq _ _))))) _ _ _ _
   by_cases hp:pos<wd.length
   case neg=>
    refine SW.seq (SW.mid hG (p:=0) (oh:={ dst:=some 17,op := .next (.tmp 16) true,type:=0,pos := "text.go:133",after := #[],guard:=none }) (jU:=[]) (ll:=[_]) (l2:=[1]) rfl rfl rfl rfl (by kernel_rfl) rfl (da _) (lR:=[]) (kK:=(lP.qa.dl).drop 1) rfl (by kernel_rfl) rfl (by kernel_rfl)
     (K1:=λS' H'=>S' 16=.val (.pointer (some ⟨b,0,none⟩))/\S' 6=.int .i64 (cL wd)/\S' 5=.str wd/\gf ws j S' H')
     (K2:=λo S' H'=>o=oK cc w k/\S' 17=.dE [.bool false]/\S' 6=.int .i64 (cL wd)/\S' 5=.str wd/\gf ws j S' H')
     (K3:=λo S' H'=>o=oK cc w k/\S' 18=.bool false/\S' 6=.int .i64 (cL wd)/\S' 5=.str wd/\gf ws j S' H') ?_ ?_ ?_ ?_)
    .have:pos=wd.length:=by omega
     subst this;rw[acf]at s6;exact⟨d_,s6,s5,hF⟩
    .rintro w0 g nV qU a GW ho R ⟨d_,s6,s5,s3,s9,bK,br⟩;have t16:=R.slot 16 (by decide) (λh=>h);rw[d_]at t16;have t16:a.eval (.tmp 16)=.pointer (some ⟨b,0,none⟩):=t16.fR
     have hk:g.old.aV b=some (.stringIter sb pos):=by rw[ho];exact tw
     have hb:=(R.kept b _ hk).2.1;refine⟨_,_,_,ar nV 17 (.dE [.bool false]),qU,.inl (ss rfl t16 hb (by omega)),R.put 17 _ _ (by decide) (.data _ _ (.dE _ _ rfl λi h h'=>?_)) trivial,ho,aN _ _ _,by simp[ar,s6],by simp[ar,s5],by simp[ar,s3],by simp[ar,s9],by simp[ar,bK],by simp[ar,br]⟩
     match i,h with
     |0,_=>exact .bool _
    .rintro o nV qU ⟨rfl,ji,s6,s5,s3,s9,bK,br⟩;refine⟨da _,?_⟩;simp[c208,fb,gE,lP,ae.qa,ae.qb,ae.dl,bp,aF,bb,aG,ev,aO.S,aO.H,ar,aU,gf,s3,s5,s6,s9,bK,br,ji,AV.aH]
    .rintro o nV qU ⟨rfl,jv,s6,s5,hF⟩;refine SW.seq (SW.cond rfl false (by show nV 18=_;rw[jv]) (SW.exit ?_));show SW prog GI 55 none (.seq _ _) _ _ _ _;have hs:=ph wd yP wk;refine Ot hG gE.qb.qb.qb.qa (λd _=>da _ d) (λS' H'=>S' 6=.int .i64 (cL wd)/\gf ws j S' H') ?_ ?_
     .obtain⟨s3,s9,bK,br⟩:=hF;have wG:=Kr (GI:=GI) hG wd
      have e8:∀H,fz H (.int .i64 (cL wd))=.int .i64 (cL wd):=λH=>rfl
      have Kb:(wd !=[])=true:=by simpa using cC
      have e9:∀H,fz H (.str wd)=.str wd:=λH=>rfl
      have jE:∀H,fz H (.bool true)=.bool true:=λH=>rfl
      simp[c208,fb,gE,ae.qa,ae.qb,ae.dl,bB,bp,aF,bb,aG,aK,ev,aO.S,aO.H,ar,aU,gf,s3,s5,s6,s9,bK,br,AV.aH,eG,Kb,e8];refine oc IH ?_;simp[iC,ar,AV.aH,s3,s5,s6,s9,bK,br,eG,e9,jE];refine oc wG ?_;simp[iC,ar,AV.aH,s3,s5,s6,s9,bK,br]
     rintro S11 H11 ⟨s6,hF⟩
     have Mv:(ws.take (j+1)).map cL=(ws.take j).map cL++[cL wd]:=by rw[abo aw,abK,rl];rfl
     have Xa:((ws.take j).map cL).length<=100000:=by simp;omega
     refine SW.mono (Q:=λe o S' H'=>e=.normal/\o=oK cc w k/\S' 3=qJ ((ws.take (j+1)).map cL)/\S' 9=strs ws/\S' 10=.int .i64 ws.length/\S' 11=.int .i64 (j:Nat)) ?_ (SW.m_ hG cH (by kernel_rfl) (λd _=>da _ d) (ac:=ae.qb gE.qb.qb.qb) (by kernel_rfl) ?_)
     .rintro e o S' H' ⟨rfl,rfl,s3,s9,bK,br⟩;show SW prog GI 55 none _ _ _ _ _;refine SW.m_ hG cH (by kernel_rfl) (λd _=>da _ d) (ac:=ae.qb fb.qb.qb) (by kernel_rfl) ?_;have oD:IntKind.i64.wrap ((j:Int)+1)=j+1:=aS (by omega);simp[c208,fb,ae.qa,ae.qb,bB,bp,aF,bb,aG,ev,aO.S,aO.H,ar,aU,s3,s9,bK,br,eG,AV.aH,oD,iW.bB,thenS,gf];refine⟨⟨⟨_,rfl⟩,j+1,by omega,rfl,by omega⟩,?_⟩;rw[m11];show ws.length-(j+1)<ws.length-(j:Int).toNat;rw[Int.toNat_natCast];omega
     .unfold iW.bB;obtain⟨s3,s9,bK,br⟩:=hF;rw[Mv];generalize(ws.take j).map cL=L at s3 Xa⊢
      cases L with
      |nil=>simp[c208,fb,gE,ae.qa,ae.qb,ae.dl,bB,bp,aF,bb,aG,ev,aO.S,aO.H,ar,aU,s3,s6,s9,bK,br,qJ,ints,AV.aH,aM,AV.storable,AV.cells,AV.vw,AV.cn,bz]
      |cons x L=>
       have qQ:L.length+1+1<1048576:=by simp at Xa;omega
       simp[c208,fb,gE,ae.qa,ae.qb,ae.dl,bB,bp,aF,bb,aG,ev,aO.S,aO.H,ar,aU,s3,s6,s9,bK,br,qJ,ints,AV.aH,aM,AV.storable,AV.cells,AV.vw,AV.cn,bz,qQ]
   case pos=>
    obtain⟨c,hc⟩:∃c,wd[pos]=c:=⟨_,rfl⟩
    have Ou:digit c:=yP c (hc▸aba hp);have Ja:=Ou;unfold digit at Ja
    have Bv:sb[pos]'(by omega)=c:=by subst mj;rw[<-hc];rfl
    refine SW.seq (SW.mid hG (p:=0) (oh:={ dst:=some 17,op := .next (.tmp 16) true,type:=0,pos := "text.go:133",after := #[],guard:=none }) (jU:=[]) (ll:=[_]) (l2:=[1]) rfl rfl rfl rfl (by kernel_rfl) rfl (da _) (lR:=[]) (kK:=(lP.qa.dl).drop 1) rfl (by kernel_rfl) rfl (by kernel_rfl)
     (K1:=λS' H'=>S' 16=.val (.pointer (some ⟨b,0,none⟩))/\S' 6=.int .i64 (cL (wd.take pos))/\S' 5=.str wd/\gf ws j S' H')
     (K2:=λo S' H'=>o=oK cc w (ar k b (some (.stringIter sb (pos+1))))/\S' 16=.val (.pointer (some ⟨b,0,none⟩))/\S' 17=.dE [.bool true,.int .i64 pos,.int .i32 c.toNat]/\S' 6=.int .i64 (cL (wd.take pos))/\S' 5=.str wd/\gf ws j S' H')
     (K3:=λo S' H'=>o=oK cc w (ar k b (some (.stringIter sb (pos+1))))/\S' 16=.val (.pointer (some ⟨b,0,none⟩))/\S' 18=.bool true/\S' 17=.dE [.bool true,.int .i64 pos,.int .i32 c.toNat]/\S' 6=.int .i64 (cL (wd.take pos))/\S' 5=.str wd/\gf ws j S' H') ⟨d_,s6,s5,hF⟩ ?_ ?_ ?_)
    .rintro w0 g nV qU a GW ho R ⟨d_,s6,s5,s3,s9,bK,br⟩;have t16:=R.slot 16 (by decide) (λh=>h);rw[d_]at t16;have t16:a.eval (.tmp 16)=.pointer (some ⟨b,0,none⟩):=t16.fR
     have hk:g.old.aV b=some (.stringIter sb pos):=by rw[ho];exact tw
     have hb:=(R.kept b _ hk).2.1;refine⟨_,_,_,ar nV 17 (.dE [.bool true,.int .i64 pos,.int .i32 c.toNat]),qU,.inl (Jg rfl t16 hb (by omega) (by rw[Bv];omega)),(R.kz hk _).put 17 _ _ (by decide) (.data _ _ (.dE _ _ rfl λi h h'=>?_)) trivial,?_,by simp[ar,d_],aN _ _ _,by simp[ar,s6],by simp[ar,s5],by simp[ar,s3],by simp[ar,s9],by simp[ar,bK],by simp[ar,br]⟩
     .match i,h with
      |0,_=>exact .bool _
      |1,_=>exact .int _ _
      |2,_=>
       show RD _ _ _ (Value.int .i32 (sb[pos]'(by omega)).toNat);rw[Bv];exact .int _ _
     .show({ g.old with aV:=ar g.old.aV b _ }:Old)=_;rw[ho];rfl
    .rintro o nV qU ⟨rfl,d_,ji,s6,s5,s3,s9,bK,br⟩;refine⟨da _,?_⟩;simp[c208,fb,gE,lP,ae.qa,ae.qb,ae.dl,bp,aF,bb,aG,ev,aO.S,aO.H,ar,aU,gf,s3,s5,s6,s9,bK,br,d_,ji,AV.aH]
    .rintro o nV qU ⟨rfl,d_,jv,ji,s6,s5,hF⟩;refine SW.seq (SW.cond rfl true (by show nV 18=_;rw[jv]) (SW.skip ?_));show SW prog GI 55 none (.block 3 (.seq _ (.seq _ _))) _ _ _ _
     have lT:wd.take (pos+1)=wd.take pos++[c]:=by rw[abo hp,hc]
     have XP:=ph (wd.take pos) (λx hx=>yP x (aca hx)) (by simp;omega);refine SW.block (SW.mono (Q:=λe o S' H'=>e=.normal/\o=oK cc w (ar k b (some (.stringIter sb (pos+1))))/\S' 16=.val (.pointer (some ⟨b,0,none⟩))/\S' 6=.int .i64 (cL (wd.take (pos+1)))/\S' 5=.str wd/\gf ws j S' H') ?_ (SW.m_ hG cH (by kernel_rfl) (λd _=>da _ d) (ac:=ae.qb lP.qb.qb) (by kernel_rfl) ?_))
     .rintro e o S' H' ⟨rfl,rfl,d_,s6,s5,hF⟩;refine⟨⟨ar k b (some (.stringIter sb (pos+1))),b,pos+1,rfl,aN _ _ _,hp,d_,s6,s5,hF⟩,?_⟩;show(match S' 16 with|.val (.pointer (some a))=>(match(oK cc w (ar k b (some (.stringIter sb (pos+1))))).aV a.block with|some (.stringIter _ p)=>wd.length-p|_=>0)|_=>0)<_;rw[Jw S' _ (pos+1) d_ (aN _ _ _),Jw S9 k pos m16 tw];omega
     .unfold iW.bB;obtain⟨s3,s9,bK,br⟩:=hF;have wG:=Kr (GI:=GI) hG wd
      have g1:(48:Int)<=c.toNat:=by omega
      have g2:(c.toNat:Int)<=57:=by omega
      have g3:(wd.length:Int)<=3:=by omega
      have w1:IntKind.i64.wrap (10*cL (wd.take pos))=10*cL (wd.take pos):=aS (by omega);have w2:IntKind.i32.wrap ((c.toNat:Int)-48)=(c.toNat:Int)-48:=wrap32 (by omega);have w3:IntKind.i64.wrap ((c.toNat:Int)-48)=(c.toNat:Int)-48:=aS (by omega)
      have w4:IntKind.i64.wrap (10*cL (wd.take pos)+((c.toNat:Int)-48))=cL (wd.take (pos+1)):=by rw[lT,wu,aS (by omega)]
      have e9:∀H,fz H (.str wd)=.str wd:=λH=>rfl
      have jE:∀H,fz H (.bool true)=.bool true:=λH=>rfl
      simp[c208,fb,gE,lP,ae.qa,ae.qb,ae.dl,bB,bp,aF,bb,aG,dq,ev,aO.S,aO.H,ar,aU,gf,s3,s5,s6,s9,bK,br,d_,ji,AV.aH,eG,g1,g2,g3,e9,jE,bz];refine oc wG ?_;simp[iC,ar,AV.aH,s3,s5,s6,s9,bK,br,d_,eG,w1,w2,w3,w4,bz]
theorem vz(a:Act)(d:Nat)(c c':Value):(a.put (some d) c).put (some d) c'=a.put (some d) c':=by
 simp[Act.put]
theorem Hd (hG:au GI) {w0:World} {n:Nat} {g:Gh} {S:an} {H:av} {a:Act} {w:World} {d i1 i4:Nat} {s:List UInt8} {z x:List AV} (cD:GI w0) (R:Rel prog w0 n bQ g S H a w) (hd:d < n) (Kp:i1 < n) (EA:i4 < n) (Ei:d≠i4)
  (II:S i1=.box i1 0) (KK:H i1=some [.str s]) (zh:S i4=.box i4 0) (D8:H i4=some z) (hz:z.length=10) (hx:x.length=10) (BK:AC prog GI 172 [.str s] (.ret (.agg x))):
  Calls prog 171 #[a.tmps.getD i1 undef,a.tmps.getD i4 undef] w λe w2=>e=.returned (.tuple #[])/\∃(c:Value)(g':Gh)(S':an)(H':av),g'.old=g.old/\Rel prog w0 n bQ g' S' H' (a.put (some d) c) w2/\(∀t,t≠d->S' t=S t)/\H'=ar H i4 (some (x.map AV.aH)):=by
 have bn:=R.size;have v1:=R.slot i1 Kp id;rw[II]at v1;have v4:=R.slot i4 EA id;rw[zh]at v4
 obtain⟨b1,e1,FM⟩:∃b,a.tmps.getD i1 undef=.pointer (some ⟨b,0,none⟩)/\g.al i1=some b:=by
  generalize a.tmps.getD i1 undef=c at v1
  cases v1 with
  |data _ _ h=>cases h
  |box _ _ b h=>exact⟨b,rfl,h⟩
 obtain⟨b4,e4,aaV⟩:∃b,a.tmps.getD i4 undef=.pointer (some ⟨b,0,none⟩)/\g.al i4=some b:=by
  generalize a.tmps.getD i4 undef=c at v4
  cases v4 with
  |data _ _ h=>cases h
  |box _ _ b h=>exact⟨b,rfl,h⟩
 obtain⟨cs,vs,ty,k0,k1,k2,k3,k4,k5,k6,k7,k8⟩:=R.box i1 b1 FM;rw[KK]at k0;cases k0
 have h0:0<vs.size:=by rw[<-k5];exact Nat.zero_lt_one
 have hv:=ly (RV.data (al:=bT) _ _ (k6 0 (by simp) h0))
 have dX:w.cell? ⟨b1,0,none⟩=some (.string ⟨s.toArray⟩):=by simp[World.cell?,k2,h0,hv]
 have qX:=R.below
 have hle:g.base<=w.heap.size:=by rw[R.base];exact R.below.size
 rw[R.base]at qX;have fE:GI w:=hG w0 w cD qX;rw[e1,e4];refine adA func171 rfl ?_;refine(eL (m:=0)).1 ?_;refine fD (λa=>a.tmps.size=4/\a.defers=[]/\a.tmps.getD 0 undef=.pointer (some ⟨b1,0,none⟩)/\a.tmps.getD 1 undef=.pointer (some ⟨b4,0,none⟩)) ⟨by simp[ntmps171],rfl,bJ _ _ 0 (by simp),bJ _ _ 1 (by simp)⟩ ?_;rintro aC ⟨zC,dC,t0,t1⟩
 have dT:∀(a:Act)(d t:Nat)(c:Value),t≠d->(a.put (some d) c).tmps.getD t undef=a.tmps.getD t undef:=λa d t c h=>by
  simp[Act.put,abd (abO h)]
 have gz:∀(a:Act)(d:Nat)(c:Value),a.tmps.size=4->d<4->(a.put (some d) c).tmps.getD d undef=c:=λa d c h hd=>by
  simp[Act.put,h,hd]
 refine abx ?_;show wpOpsIn _ _ _ _ _ [0,1,2] aC w;refine aT rfl rfl (by rfl) (km (t:=9) (d:=.string) (b:=b1) (off:=0) rfl t0 (by kernel_rfl) rfl dX) ?_;show wpOpsIn _ _ _ _ _ [1,2] (aC.put (some 2) (.string ⟨s.toArray⟩)) w
 refine fg rfl rfl (by rfl) (fT (k:=172) (args:=#[.string ⟨s.toArray⟩]) w rfl rfl ?_ (by kernel_rfl)) (BK w (eT g false) #[.string ⟨s.toArray⟩] fE rfl (λi h h'=>by
  match i,h with
  |0,_=>exact .data _ _ (.str s))) ?_
 .simp only[abI,abA,abL];show #[(aC.put (some 2) _).tmps.getD 2 undef]=_;rw[gz _ _ _ zC (by decide)]
 rintro e w2 ⟨iM,hi,qn,c,rfl,DT,dn⟩;refine⟨c,rfl,?_⟩;obtain⟨g',wO,mD,R2⟩:=R.call (some d) (λt ht=>by cases ht;exact⟨hd,id⟩) false iM qn DT dn (λh=>by cases h);obtain⟨i28,Lq,IL⟩:=bo (P:=prog) (t:=29) (s:=10) (by kernel_rfl)
 let oS:Oper:={ dst:=none,op := .store 29 (.tmp i4) (.tmp d),type:=0,pos := "",after := #[],guard:=none }
 have jR:bu z 0 (x.map AV.aH)=x.map AV.aH:=by simp[bu,hz,hx]
 have j_:aG (AL.aU S (some d) (.agg x)) H (.store .any i28.size (.t i4) (.t d))=some { v:=b0,dm:=some d,hw:=some (i4,x.map AV.aH) }:=by
  simp[aG,AL.aU,ev,ar,abO Ei,zh,D8,HR.okB,AV.cells,AV.storable,AV.cb,IL,hx,hz,bz,jR]
 obtain⟨c2,w3,g3,cP,Jk,vW,R3⟩:=kF R2 (o:=oS) (x1:=.tmp i4) (x2:=.tmp d) (y1:=.t i4) (y2:=.t d) (hr:=.any) rfl rfl Lq (by simp[ea,EA]) (by simp[ea,hd]) (λ_ _=>id) (λ_ _=>id) j_;show wpOpsIn _ _ _ _ _ [2] ((aC.put (some 2) (.string ⟨s.toArray⟩)).put (some 3) c) w2
 obtain⟨a3,Li⟩:∃a3,(aC.put (some 2) (.string ⟨s.toArray⟩)).put (some 3) c=a3:=⟨_,rfl⟩
 rw[Li]
 have z3:a3.tmps.size=4:=by rw[<-Li,jj,jj];exact zC
 have d3:a3.defers=[]:=by rw[<-Li];exact dC
 have e31:a3.eval (.tmp 1)=.pointer (some ⟨b4,0,none⟩):=by
  rw[<-Li,bw _ _ _ _ (by rw[jj];omega),if_neg (by decide),bw _ _ _ _ (by omega),if_neg (by decide)];exact t1
 have e33:a3.eval (.tmp 3)=c:=by rw[<-Li,bw _ _ _ _ (by rw[jj];omega),if_pos rfl]
 have f4:(a.put (some d) c).eval (.tmp i4)=.pointer (some ⟨b4,0,none⟩):=by rw[bw _ _ _ _ (by omega),if_neg (abO Ei)];exact e4
 have fd:(a.put (some d) c).eval (.tmp d)=c:=by rw[bw _ _ _ _ (by omega),if_pos rfl]
 have aZ:∀o:Oper,o.op=.store 29 (.tmp 1) (.tmp 3)->(execOp a3.eval o).run prog w2=(execOp (a.put (some d) c).eval oS).run prog w2:=by
  intro o ho;unfold execOp;simp only[ho,e31,e33,oS,f4,fd]
 have fin:∀ops,wpOpsIn (FR none) 0 prog ops (bodyPost prog f171 λe w2=>e=.returned (.tuple #[])/\∃(c:Value)(g':Gh)(S':an)(H':av),g'.old=g.old/\Rel prog w0 n bQ g' S' H' (a.put (some d) c) w2/\(∀t,t≠d->S' t=S t)/\H'=ar H i4 (some (x.map AV.aH))) [] a3 w3:=by
  intro ops;refine⟨d3,.tuple #[],?_,rfl,c,g3,_,_,by rw[vW,mD],R3,λt ht=>?_,rfl⟩
  .simp[results,results171]
  .simp[aO.S,AL.aU,ar,ht,oS]
 rcases cP with cP|⟨cP,rfl⟩
 .refine aT rfl rfl (by rfl) ((aZ _ rfl).trans cP) (fin _)
 .refine dk rfl rfl (by rfl) ((aZ _ rfl).trans cP) (fin _)
theorem pU{P:Program}{w0:World}{n:Nat}{g:Gh}{S:an}{H:av}{a:Act}{w:World}(R:Rel P w0 n bQ g S H a w)(b:Nat):Rel P w0 n bQ { g with old:={ g.old with aV:=ar g.old.aV b none } } S H a w:={
 size:=R.size
 defers:=R.defers
 facts:=R.facts
 slot:=R.slot
 own t ht hu:=(R.own t ht hu).aV rfl λb hb=>⟨rfl,rfl,hb⟩
 box i c hi:=by
  obtain⟨cs,vs,ty,h1,h2,h3,h4,h5,h6,h7,h8,h9⟩:=R.box i c hi;exact⟨cs,vs,ty,h1,h2,h3,h4,h5,h6,h7,λj hj dw=>(h8 j hj dw).aV rfl λb hb=>⟨rfl,rfl,hb⟩,h9⟩
 kL:=R.kL
 kQ:=R.kQ
 inj:=R.inj
 base:=R.base
 below:=R.below
 fresh:=R.fresh
 still:=R.still
 grown:=R.grown
 kept c o h:=by
  have hc:c≠b:=by rintro rfl;simp[ar]at h
  exact R.kept c o (by simpa[ar,hc]using h) }
theorem Gy (hG:au GI) {w0:World} {n:Nat} {g:Gh} {S:an} {H:av} {a:Act} {w:World} {d i1 i4:Nat} {s:List UInt8} {z x:List AV} (cD:GI w0) (R:Rel prog w0 n bQ g S H a w) (hd:d < n) (Kp:i1 < n) (EA:i4 < n) (Ei:d≠i4)
  (II:S i1=.box i1 0) (KK:H i1=some [.str s]) (zh:S i4=.box i4 0) (D8:H i4=some z) (hz:z.length=10) (hx:x.length=10) (BK:AC prog GI 172 [.str s] (.ret (.agg x))):
  Calls prog 170 #[.func (.func 171) #[] #[a.tmps.getD i1 undef,a.tmps.getD i4 undef]] w λe w2=>e=.returned (.int .i64 0)/\∃(c:Value)(g':Gh)(S':an)(H':av),g'.old=g.old/\Rel prog w0 n bQ g' S' H' (a.put (some d) c) w2/\(∀t,t≠d->S' t=S t)/\H'=ar H i4 (some (x.map AV.aH)):=by
 have R1:=R.lk (.cells #[.int .i64 0] 34)
 have wT:g.old.aV w.heap.size=none:=by
  cases h:g.old.aV w.heap.size with
  |none=>rfl
  |some o=>
   have:=(abb.1 (R.kept _ o h).2.1).1;omega
 refine pA (by kernel_rfl) (Hd hG cD R1 hd Kp EA Ei II KK zh D8 hz hx BK) ?_;rintro e w2 ⟨rfl,c,g',S',H',ho,R2,rk,qG⟩
 have hk:g'.old.aV w.heap.size=some (.cells #[.int .i64 0] 34):=by rw[ho];exact aN _ _ _
 have iq:=(R2.kept _ _ hk).2.1;have aw:=(abb.1 iq).1;refine⟨aw,⟨_,_,iq⟩,.inl ⟨_,rfl,rfl,c,_,S',H',?_,(pU R2 w.heap.size).jY ?_,rk,qG⟩⟩
 .show({ g'.old with aV:=ar g'.old.aV w.heap.size none }:Old)=_;rw[ho]
  have:ar (ar g.old.aV w.heap.size (some (.cells #[.int .i64 0] 34))) w.heap.size none=g.old.aV:=by
   funext b
   by_cases hb:b=w.heap.size
   .subst hb;simp[ar,wT]
   .simp[ar,hb]
  show({ g.old with aV:=ar (ar g.old.aV w.heap.size (some (.cells #[.int .i64 0] 34))) w.heap.size none }:Old)=_;rw[this]
 .refine⟨rfl,rfl,rfl,by simp,λk fo=>?_⟩
  by_cases hb:k=w.heap.size
  .subst hb;rw[acG w2 _ _ _ _ _ iq,iq]
  .exact ab9 w2 _ k _ hb
theorem TU (hG:au GI) {s:List UInt8} {x:List AV} (hs:s.length≤320) (hx:x.length=10) (BK:AC prog GI 172 [.str s] (.ret (.agg x))) (QK:AC prog GI 78 [.agg (x.map AV.cn)] (.ret (.bool true))) :
  AC prog GI 122 [.str s] (.ret (.dE [.agg (x.map AV.cn),.int .i64 0])):=by
 refine AC.ib func122 rfl ntmps122 (by simp) λcc w=>?_
 refine dO hG c122.qa (λS' H'=>S' 1=.box 1 0/\S' 2=.box 2 0/\H' 1=some [.str s]/\∃z,H' 2=some z/\z.length=10) ?_ ?_
 .simp[c122,ae.qa,bB,bp,aF,bb,aG,ev,aO.S,aO.H,ar,aU,AL.start,AV.aH,AV.cells,AV.storable,b_,bz,aK]
 rintro S1 H1 ⟨s1,s2,h1,z2,h2,hz2⟩;refine SW.seq (dO hG c122.qb.qa.qa (λS' H'=>S' 1=.box 1 0/\S' 2=.box 2 0/\H' 1=some [.str s]/\H' 2=some z2/\S' 8=.bool false) ?_ ?_)
 .have hs':¬(320:Int)<s.length:=by omega
  simp[c122,ae.qa,ae.qb,bB,bp,aF,bb,aG,ev,aO.S,aO.H,ar,aU,s1,s2,h1,h2,ck,HR.okB,AV.aH,eG,hs',aK]
 rintro S2 H2 ⟨s1,s2,h1,h2,s8⟩;refine SW.cond rfl false (by show S2 8=_;rw[s8]) (SW.skip ?_);show SW prog GI 21 none (.seq _ (.seq (.seq _ (.seq _ (.cond _ _ _))) (.seq (.seq _ (.cond _ _ _)) (.seq _ .ret)))) _ _ _ _;refine dO hG c122.qb.qb.qa (λS' H'=>S' 1=.box 1 0/\S' 2=.box 2 0/\S' 4=.box 4 0/\H' 1=some [.str s]/\H' 2=some z2/\∃z,H' 4=some z/\z.length=10) ?_ ?_
 .simp[c122,ae.qa,ae.qb,bB,bp,aF,bb,ar,b_,s1,s2,h1,h2,aK]
 rintro S3 H3 ⟨s1,s2,s4,h1,h2,z4,h4,Q3⟩
 refine SW.seq (SW.seq (SW.hand hG (p:=0) (lm:=[0,1]) (l2:=[2]) (jU:=[]) (oh:=[_,_]) (ll:=[_]) rfl rfl rfl rfl (by kernel_rfl) (λ_ h=>h) (lR:=[]) (kK:=(c122.qb.qb.qb.qa.qa.dl).drop 2) rfl (by kernel_rfl) rfl (by kernel_rfl)
  (K1:=λS' H'=>S' 1=.box 1 0/\S' 2=.box 2 0/\S' 4=.box 4 0/\H' 1=some [.str s]/\H' 2=some z2/\H' 4=some z4)
  (K2:=λo S' H'=>o=Old.plain cc w/\S' 2=.box 2 0/\S' 4=.box 4 0/\S' 11=.int .i64 0/\H' 2=some z2/\H' 4=some (x.map AV.aH))
  (K3:=λo S' H'=>o=Old.plain cc w/\S' 2=.box 2 0/\S' 4=.box 4 0/\S' 5=.int .i64 0/\H' 2=some z2/\H' 4=some (x.map AV.aH)) ⟨s1,s2,s4,h1,h2,h4⟩ ?_ ?_ ?_))
 .rintro w0 g S5 H5 a w5 m cD ho R ⟨s1,s2,s4,h1,h2,h4⟩;have bn:=R.size;refine aT rfl rfl (by rfl) (ld (fn:=.func 171) (c:=#[.tmp 1,.tmp 4]) rfl) ?_
  obtain⟨fv,kH⟩:∃fv:Value,fv=.func (.func 171) #[] (#[Operand.tmp 1,.tmp 4].map a.eval):=⟨_,rfl⟩
  show wpOpsIn _ _ _ _ _ [1] (a.put (some 10) (.func (.func 171) #[] (#[Operand.tmp 1,.tmp 4].map a.eval))) w5;rw[<-kH];have R1:=R.put 10 .bl fv (by decide) (.bl _) trivial
  obtain⟨a1,oI⟩:∃a1,a.put (some 10) fv=a1:=⟨_,rfl⟩
  rw[oI]at R1⊢
  have vy:fv=.func (.func 171) #[] #[a1.tmps.getD 1 undef,a1.tmps.getD 4 undef]:=by
   have e1:=bw a 10 1 fv (by omega);have e4:=bw a 10 4 fv (by omega);rw[if_neg (by decide),oI]at e1 e4;have Ba:a1.tmps.getD 1 undef=a.eval (.tmp 1):=e1;have E6:a1.tmps.getD 4 undef=a.eval (.tmp 4):=e4;rw[Ba,E6,kH];simp only[abI,abA,abL]
  have jE:a1.eval (.tmp 10)=fv:=by rw[<-oI,bw _ _ _ _ (by omega),if_pos rfl]
  refine fg rfl rfl (by rfl) (fT (k:=170) (args:=#[.func (.func 171) #[] #[a1.tmps.getD 1 undef,a1.tmps.getD 4 undef]]) w5 rfl rfl ?_ (by kernel_rfl)) (Gy hG cD R1 (d:=11) (i1:=1) (i4:=4) (by decide) (by decide) (by decide) (by decide) (by simp[ar,s1]) h1 (by simp[ar,s4]) h4 Q3 hx BK) ?_
  .simp only[abI,abA,abL,jE,<-vy]
  .rintro e w6 ⟨rfl,c,g',S',H',mH,R2,rk,qG⟩;refine⟨_,rfl,?_⟩;have R3:=R2.put 11 (.int .i64 0) (.int .i64 0) (by decide) (.data _ _ (.int _ _)) trivial;rw[vz]at R3;refine⟨g',_,H',R3,mH.trans ho,?_,?_,aN _ _ _,?_,?_⟩
   .show ar S' 11 _ 2=_;rw[bc _ _ (by decide),rk 2 (by decide)];simp[ar,s2]
   .show ar S' 11 _ 4=_;rw[bc _ _ (by decide),rk 4 (by decide)];simp[ar,s4]
   .rw[qG,bc _ _ (by decide)];exact h2
   .rw[qG];exact aN _ _ _
 .rintro o S5 H5 ⟨rfl,s2,s4,br,h2,h4⟩;refine⟨λ_ h=>h,?_⟩;simp[c122,ae.qa,ae.qb,ae.dl,bp,aF,bb,aG,ev,aO.S,aO.H,ar,aU,s2,s4,br,h2,h4,AV.aH,bz]
 .rintro o S5 H5 ⟨rfl,s2,s4,s5,h2,h4⟩;refine dO hG c122.qb.qb.qb.qa.qb.qa (λS' H'=>S' 2=.box 2 0/\S' 4=.box 4 0/\S' 13=.bool false/\H' 2=some z2/\H' 4=some (x.map AV.aH)) ?_ ?_
  .simp[c122,ae.qa,ae.qb,bB,bp,aF,bb,aG,ev,aO.S,aO.H,ar,aU,s2,s4,s5,h2,h4,AV.aH,eG,aK]
  rintro S6 H6 ⟨s2,s4,bW,h2,h4⟩;refine SW.cond rfl false (by show S6 13=_;rw[bW]) (SW.skip ?_);have y7:List.take 10 (x.map AV.aH)=x.map AV.aH:=abp (by simp;omega)
  have e7:∀(l:List AV) H,fz H (.agg (l.map AV.aH))=.agg (l.map AV.cn):=λl H=>by simp only[fz,iu,AV.vw,ack,mf]
  refine SW.seq (dO hG c122.qb.qb.qb.qb.qa.qa (λS' H'=>S' 2=.box 2 0/\S' 4=.box 4 0/\S' 18=.bool false/\H' 2=some z2/\H' 4=some (x.map AV.aH)) ?_ ?_)
  .simp[c122,ae.qa,ae.qb,bB,bp,aF,bb,aG,ev,aO.S,aO.H,ar,aU,s2,s4,h2,h4,ck,HR.okB,hx,fS,y7,e7,aK];refine oc QK ?_;simp[iC,ar,s2,s4,h2,h4]
  rintro S7 H7 ⟨s2,s4,jv,h2,h4⟩;refine SW.cond rfl false (by show S7 18=_;rw[jv]) (SW.skip ?_);refine dO hG c122.qb.qb.qb.qb.qb.qa (λS' H'=>S' 2=.box 2 0/\S' 3=.int .i64 0/\H' 2=some (x.map AV.aH)) ?_ ?_
  .have Re:List.drop 10 z2=[]:=acm (by omega);simp[c122,ae.qa,ae.qb,bB,bp,aF,bb,aG,ev,aO.S,aO.H,ar,aU,s2,s4,h2,h4,ck,HR.okB,hx,fS,y7,AV.cells,AV.storable,AV.cb,bu,bz,hz2,Re,aK,AV.aH]
  rintro S8 H8 ⟨s2,s3,h2⟩;obtain⟨i28,Lq,IL⟩:=bo (P:=prog) (t:=29) (s:=10) (by kernel_rfl);obtain⟨fs,fe⟩:=bU (P:=prog) (t:=29) (by kernel_rfl);refine SW.ret ⟨dZ.plain rfl,rfl,_,?_,rfl⟩;show cE prog 21 [.cell 2 29,.tmp 3] S8 H8=_;simp[cE,cW,cV,s2,s3,h2,Lq,fe,IL,ck,eQ,hx,AV.out,fS,mf,y7,AV.bZ,AV.vw,AV.cn,ack]
end Go.Proofs.Tryz
namespace Go.Proofs.Tryz
open Go Go.AL Go.RowKit Go.Proofs Go.Proofs.Tram
attribute [local simp] eF fO eZ ec eY eh eg dI dK eX dH dc iI iH aF aG ev aO.S aO.H bz ar aU AL.start AV.cells AV.storable AV.cb bu b_ eG ck HR.okB post cE cW cV AV.out AV.bZ cM eB fz iu AV.vw dh vI int b0 aK dq dz iF j0 fh dW bV AV.aH AV.cn
variable{GI:World->Prop}
def jl(s:aD)(out:List Int)(es:List End)(st:Int):Int:=firstT (λn=>decide (s.wide<n)) (dJ s out es st)
theorem Hc{s:aD}{out:List Int}{es:List End}{st:Int}:((dJ s out es st).all λn=>decide (n<=s.wide))=decide (jl s out es st<0):=by
 have h:=jN (p:=λn=>decide (s.wide<n)) (l:=dJ s out es st)
 have e:((dJ s out es st).all λn=>decide (n<=s.wide))=!((dJ s out es st).any λn=>decide (s.wide<n)):=by
  rw[ab6];simp
 rw[e,<-h];unfold jl
 by_cases hz:0<=firstT (λn=>decide (s.wide<n)) (dJ s out es st)
 .have:¬firstT (λn=>decide (s.wide<n)) (dJ s out es st)<0:=by omega
  simp[hz,this]
 .have:firstT (λn=>decide (s.wide<n)) (dJ s out es st)<0:=by omega
  simp[hz,this]
def vh(s:aD)(out:List Int)(es:List End)(st:Int):ez:=if jl s out es st<0 then .ret (.dE [])else .panic (.iface 242 (.agg [.int .i64 (jl s out es st)]))
theorem QI(hG:au GI)(s:aD)(dV:bg s=true)(out:List Int)(ho:out.length<1000000)(es:List End)(he:es.length<100000)(g:Good s out es){st:Int}(h0:0<=st)(h1:st<=10):AC prog GI 191 [.ref (aL s),.ref [vI out,.slice .view (es.map bm)],.ref [.int .i64 st]] (vh s out es st):=by
 have Tw:=Av s out es st;refine cd hG func191 ntmps191 c191 ?_;refine aI (λS H=>S 0=.ref (aL s)/\S 2=.ref [.int .i64 st]/\S 7=.slice .view (eV s out es es.length)/\S 8=.int .i64 es.length/\S 9=.int .i64 0) ?_ ?_
 .simp[aL,af,bt];refine oc (Sv hG s dV out ho es he g) ?_;simp[tO]
 rintro S H ⟨s0,s2,s7,s8,s9⟩;simp[s0,s2,s7,s8,s9];refine bP 9 es.length (λi S H=>S 0=.ref (aL s)/\S 2=.ref [.int .i64 st]/\S 7=.slice .view (eV s out es es.length)/\S 8=.int .i64 es.length/\S 9=.int .i64 (i:Nat)/\∀j (hj:j<(dJ s out es st).length),j<i->decide (s.wide<(dJ s out es st)[j])=false) (λi S H h=>h.2.2.2.2.1) ⟨by simp[s0],by simp[s2],by simp[s7],by simp[s8],by simp[s9],λj _ hj=>absurd hj (aeD _)⟩ ?_;clear s0 s2 s7 s8 s9 S H;rintro i hi S H ⟨s0,s2,s7,s8,s9,hb⟩
 by_cases aw:i<es.length
 case neg=>
  have hn:jl s out es st<0:=by
   unfold jl;rw[iO λj hj=>hb j hj (by omega)];decide
  unfold vh;rw[if_pos hn];simp[s0,s2,s7,s8,s9,aw]
 have hw:IntKind.i64.wrap ((i:Int)+1)=i+1:=aS (by omega)
 have BN:(eV s out es es.length)[i]?=some (.agg [.slice .view ((gr s out es i).map gA),.bool (iJ s es i)]):=by
  unfold eV;rw[abH,List.getElem?_range aw];rfl
 have vi:(dJ s out es st)[i]'(by omega)=mK s out es st i:=by unfold dJ;simp
 refine aI (λS H=>S 0=.ref (aL s)/\S 2=.ref [.int .i64 st]/\S 7=.slice .view (eV s out es es.length)/\S 8=.int .i64 es.length/\S 9=.int .i64 (i:Nat)/\S 10=.bool true) (by simp[s0,s2,s7,s8,s9,aw]) ?_;clear s0 s2 s7 s8 s9 S H;rintro S H ⟨s0,s2,s7,s8,s9,bK⟩;refine As (by simp[bK]) ?_;refine AY ?_;refine aI (λS H=>S 0=.ref (aL s)/\S 2=.ref [.int .i64 st]/\S 7=.slice .view (eV s out es es.length)/\S 8=.int .i64 es.length/\S 9=.int .i64 (i:Nat)/\S 3=.int .i64 (i:Nat)/\S 4=.box 4 0/\H 4=some [.slice .view ((gr s out es i).map gA),.bool (iJ s es i)]) (by simp[s0,s2,s7,s8,s9,aw,BN]) ?_;clear s0 s2 s7 s8 s9 bK S H;rintro S H ⟨s0,s2,s7,s8,s9,s3,s4,e4⟩;have a84:=T3 hG s dV (CV g aw) (yL dV g i) (λx hx=>Ht g hx) (iJ s es i) h0 h1
 have MX:s.wide<mK s out es st i->jl s out es st=i:=λh=>by
  unfold jl;exact l8 (i:=i) (by omega) (by rw[vi];simpa using h) hb
 simp[s0,s2,s7,s8,s9,s3,s4,e4,aL,af,bt];refine oc a84 ?_
 by_cases wq:s.wide<mK s out es st i
 .have At:s.wide<iK s st ((gr s out es i).map (bh s)) (iJ s es i):=wq;have hf:=MX wq;unfold vh;rw[if_neg (by omega),hf];simp[s0,s2,s7,s8,s9,s3,s4,e4,aL,af,bt,At,Dv,bG]
 .have At:¬s.wide<iK s st ((gr s out es i).map (bh s)) (iJ s es i):=wq;simp[s0,s2,s7,s8,s9,s3,s4,e4,aL,af,bt,At,hw,aw];intro j hj gp
  by_cases e:j=i
  .subst e;rw[vi];omega
  .have:=hb j hj (by omega);simpa using this
theorem KQ(hG:au GI)(s:aD)(dV:bg s=true)(out:List Int)(ho:out.length<1000000)(es:List End)(he:es.length<100000)(g:Good s out es){st:Int}(h0:0<=st)(h1:st<=10):AC prog GI 149 [fc s,aW out es,.int .i64 st] (.ret (.bool (ig s out es st))):=by
 have a:=QI hG s dV out ho es he g h0 h1
 have e:ig s out es st=(decide ((es.length:Int)<=s.rows)&&decide (jl s out es st<0)):=by unfold ig;rw[Hc]
 rw[e];refine cd hG func149 ntmps149 c149 ?_;refine aI (λS H=>S 3=.box 3 0/\S 4=.box 4 0/\S 5=.box 5 0/\H 3=some (aL s)/\H 4=some [vI out,.slice .view (es.map bm)]/\H 5=some [.int .i64 st]) (by simp[fc,aL,af,bt,aW,aJ]) ?_;rintro S H ⟨s3,s4,s5,e3,e4,e5⟩
 by_cases hr:(es.length:Int)<=s.rows
 case neg=>simp[s3,s4,s5,e3,e4,e5,aL,af,bt,hr]
 unfold vh at a
 by_cases hw:jl s out es st<0
 .rw[if_pos hw]at a;have b:=IN hG (k:=191) (by kernel_rfl) a (.inl ⟨_,rfl,rfl⟩);simp[s3,s4,s5,e3,e4,e5,aL,af,bt,hr];refine⟨_,by kernel_rfl,b,λ_=>rfl,?_⟩;simp[hw]
 .rw[if_neg hw]at a;have b:=IN hG (k:=191) (by kernel_rfl) a (.inr (.inl ⟨_,rfl,rfl⟩));simp[s3,s4,s5,e3,e4,e5,aL,af,bt,hr];refine⟨_,by kernel_rfl,b,λ_=>rfl,?_⟩;simp[hw]
theorem tR{p:Int->Bool}:∀{n i:Nat},i<=n->(∀k:Nat,i<=k->k<n->p k=false)->sK p n=sK p i
 |0,i,h,_=>by rw[show i=0 by omega]
 |n+1,i,h,hp=>by
  by_cases e:i=n+1
  .rw[e]
  .rw[sK,hp n (by omega) (by omega)]
   exact tR (by omega) λk h1 h2=>hp k h1 (by omega)
theorem JJ(hG:au GI)(s:aD)(dV:bg s=true)(out:List Int)(ho:out.length<1000000)(es:List End)(he:es.length<100000)(g:Good s out es):AC prog GI 83 [fc s,aW out es] (.ret (.int .i64 (th s out es))):=by
 refine cd hG func83 ntmps83 c83 ?_;refine aI (λS H=>S 2=.box 2 0/\S 3=.box 3 0/\H 2=some (aL s)/\H 3=some [vI out,.slice .view (es.map bm)]) (by simp[fc,aL,af,bt,aW,aJ]) ?_;rintro S H ⟨s2,s3,e2,e3⟩;simp[s2,s3,e2,e3];refine Er 5 11 (λi S H=>i<=11/\S 2=.box 2 0/\S 3=.box 3 0/\H 2=some (aL s)/\H 3=some [vI out,.slice .view (es.map bm)]/\S 5=.int .i64 ((i:Nat)-1)/\∀k:Nat,i<=k->k<11->ig s out es k=false) (λi S H h=>h.2.2.2.2.2.1) ⟨by omega,by simp[s2],by simp[s3],by simp[e2],by simp[e3],by simp,λk h1 h2=>by omega⟩ ?_;clear s2 s3 e2 e3 S H;rintro i hi S H ⟨_,s2,s3,e2,e3,s5,hb⟩;have hm:=tR (p:=ig s out es) hi hb
 cases i with
 |zero=>
  have hm:th s out es= -1:=hm;simp[s2,s3,e2,e3,s5,hm]
 |succ m=>
  have hm:th s out es=if ig s out es m then(m:Int)else sK (ig s out es) m:=hm
  have mm:S 5=.int .i64 (m:Nat):=by rw[s5];congr 1;omega
  have Ly:IntKind.i64.wrap ((m:Int)-1)=m-1:=aS (by omega);simp[s2,s3,e2,e3,mm,aL,af,bt];refine oc (KQ hG s dV out ho es he g (by omega) (by omega)) ?_;cases hf:ig s out es m
  .simp[s2,s3,e2,e3,mm,aL,af,bt,Ly];refine⟨by omega,λk h1 h2=>?_⟩
   by_cases e:k=m
   .subst e;exact hf
   .exact hb k (by omega) h2
  .rw[hf]at hm;simp at hm;simp[s2,s3,e2,e3,mm,aL,af,bt,hm]
end Go.Proofs.Tryz
namespace Go.AL
theorem px{P:Program}{GI:World->Prop}{i k:Nat}{x y:ae}{Q:de->an->av->Prop}{S:an}{H:av}(K:an->av->Prop)(hx:bB P GI x (aK K) S H)(hy:∀S' H',K S' H'->Dn P GI i k y Q S' H'):Dn P GI i (k+1) (.seq x y) Q S H:=by
 refine Ml K (eA x (λe S H h=>?_) hx) (λh=>eA x h) hy
 cases e<;>first|exact⟨rfl,h⟩|exact h.elim
theorem Rel.pU{P:Program}{w0:World}{n:Nat}{g:Gh}{S:an}{H:av}{a:Act}{w:World}(R:Rel P w0 n bQ g S H a w)(b:Nat):Rel P w0 n bQ { g with old:={ g.old with aV:=ar g.old.aV b none } } S H a w:={
 size:=R.size
 defers:=R.defers
 facts:=R.facts
 slot:=R.slot
 own t ht hu:=(R.own t ht hu).aV rfl λb hb=>⟨rfl,rfl,hb⟩
 box i c hi:=by
  obtain⟨cs,vs,ty,h1,h2,h3,h4,h5,h6,h7,h8,h9⟩:=R.box i c hi;exact⟨cs,vs,ty,h1,h2,h3,h4,h5,h6,h7,λj hj dw=>(h8 j hj dw).aV rfl λb hb=>⟨rfl,rfl,hb⟩,h9⟩
 kL:=R.kL
 kQ:=R.kQ
 inj:=R.inj
 base:=R.base
 below:=R.below
 fresh:=R.fresh
 still:=R.still
 grown:=R.grown
 kept c o h:=by
  have hc:c≠b:=by rintro rfl;simp[ar]at h
  exact R.kept c o (by simpa[ar,hc]using h) }
section
variable{P:Program}{a:Act}{w:World}{m:Nat}{Q:Exit->Act->World->Prop}
theorem Ad {ops:Array Oper} {i:Nat} {rest:List Nat} {o:Oper} (ho:ops[i]? = some o) (hw:Region.wanted o (yielded ops a.tmps)=true) (eO:fX o.op=true) {l f:Nat} {tmps:Array Value} {Mu bd:Code} {w':World}
  (hr:(execOp a.eval o).run P w=.ok (.round l f tmps Mu bd) w') {R:Ending->World->Prop} (hc:∀m,RoundIn (FR none) m P l f tmps Mu bd w' R) (hk:∀e kS,R e kS->∃v,e=.returned v/\wpOpsIn (FR none) m P ops Q rest (a.put o.dst v) kS):wpOpsIn (FR none) m P ops Q (i::rest) a w:=by
 simp only[wpOpsIn,ho];rw[if_pos hw];refine⟨λ_ _=>trivial,?_⟩;rw[acV _ _ _ (λc hc=>by rw[hc]at eO;cases eO),hr];refine⟨λh=>by simp[FR,Fence.wide]at h,(hc (m-1)).mono λe kS hh=>?_⟩;obtain⟨v,rfl,h⟩:=hk e kS hh;exact h
theorem G6{o:Oper}{t:TypeId}{x:Operand}{b:Bool}(ho:o.op=.unOp .not t x)(hx:a.eval x=.bool b):(execOp a.eval o).run P w=.ok (.value (.bool !b)) w:=by
 unfold execOp;simp[ho,hx,Op.unary]
end
end Go.AL
namespace Go.AL
open Go.RowKit
section
variable{P:Program}{a:Act}{w:World}
theorem E3 {o:Oper} {x:Operand} {b:Nat} {s:ByteArray} {pos r p':Nat} (ho:o.op = .next x true) (hx:a.eval x = .pointer (some ⟨b,0,none⟩)) (hb:w.heap[b]? = some (.stringIter s pos)) (h:pos < s.size) (hr:(Utf8.decode s pos).1=r) (hp:pos+(Utf8.decode s pos).2=p') :
  (execOp a.eval o).run P w=.ok (.value (.tuple #[.bool true,.int .i64 pos,.int .i32 r])) (w.putObj b (.stringIter s p')):=by
 unfold execOp;simp only[ho,hx,Instr.next,getObj,setObj,abq,Sem.run,hb,Result.andThen,h,abJ]
 generalize hd:Utf8.decode s pos=d at*
 obtain⟨d1,d2⟩:=d;simp only at hr hp;subst hr;subst hp;simp[goInt,Sem.run,World.putObj]
end
end Go.AL
namespace Go.Proofs.Tryz
open Go.AL
def kc(n:Int):List UInt8:=BX 20 n.toNat
def AD(w:List UInt8):Bool:=!w.isEmpty&&decide (w.length<=3)&&(w.all λc=>decide (48<=c.toNat)&&decide (c.toNat<=57))&&kc (cL w)==w
theorem Ci{w:List UInt8}:AD w=true↔w≠[]/\w.length<=3/\(∀c∈w,digit c)/\kc (cL w)=w:=by
 unfold AD digit;simp[and_assoc]
end Go.Proofs.Tryz
namespace Go.Proofs.Tryz
open Go.AL
variable{s:aD}{x y:List End}
def eN(s:aD):List End->List End->Bool:=CR List.length (th s [])
end Go.Proofs.Tryz
namespace Go.Proofs.Tryz
open Go Go.AL Go.RowKit Go.Proofs Go.Proofs.Tram
attribute [local simp] eF fO eZ ec eY eh eg dI dK eX dH dc iI iH aF aG ev aO.S aO.H bz ar aU AL.start AV.cells AV.storable AV.cb bu b_ eG ck HR.okB post cE cW cV AV.out AV.bZ cM eB fz iu AV.vw dh vI int b0 aK dq dz iF j0 fh dW bV AV.aH AV.cn
variable{GI:World->Prop}
theorem vO(s:aD):(aL s).map AV.cn=aL s:=by
 simp[aL,af,bt,vI,ints,AV.cn]
theorem tH(s:aD):(aL s).length=11:=rfl
theorem zf(s:aD):AV.agg ((aL s).take 10|>.map AV.cn)=di s:=by
 simp[aL,af,di,vI,ints,AV.cn]
theorem CS{s:aD}(h:bg s=true):rY s:=by
 have hF:=fk h;refine⟨by have:=hF.PF;omega,by have:=hF.Pe;omega,by have:=hF.words;omega,λw hw=>?_,λw hw=>?_⟩
 .have:=(mb h hw).vX;omega
 .have f:=mb h hw;have:=rR f.bO (by have:=f.Gm;omega);have:=f.vX;omega
theorem Oh(hG:au GI)(s:aD)(dV:bg s=true)(out:List Int)(ho:out.length<=1000):tg prog GI 187 [.ref (aL s),.ref [vI out]] ((wo s out s.rows.toNat).map (aW out)):=by
 have hr:=(fk dV).rows;have he:=wN dV out;refine Rq hG (oE:=.view) (all:=ja s out) (rows:=s.rows.toNat) (by omega) (by omega) ho (tH s) ?_ ?_ ?_
 .intro x hx;simp[aL,af]at hx
  rcases hx with rfl|rfl|rfl|rfl|rfl|rfl|rfl|rfl|rfl|rfl<;>exact⟨rfl,rfl,rfl⟩
 .show some (AV.int .i64 s.rows)=some (.int .i64 (s.rows.toNat:Nat));rw[aeB (by omega)]
 .rw[zf];exact RI hG s (CS dV) out (by omega)
theorem vL{s:aD}(dV:bg s=true){out:List Int}(jx:eU s out=true){es:List End}(h:es∈wo s out s.rows.toNat):jn s out es=true/\es.length<=3:=by
 have hr:=(fk dV).rows;obtain⟨h1,h2⟩:=(yD dV jx).1 h;exact⟨h1,by omega⟩
theorem NQ(hG:au GI)(s:aD)(dV:bg s=true)(out:List Int)(ho:out.length<=1000)(jx:eU s out=true){es:List End}(h:es∈wo s out s.rows.toNat):AC prog GI 149 [.agg ((aL s).map AV.cn),aW out es,.int .i64 0] (.ret (.bool (ig s out es 0))):=by
 obtain⟨h1,h2⟩:=vL dV jx h;rw[vO];exact KQ hG s dV out (by omega) es (by omega) (sj dV h1) (by omega) (by omega)
theorem IG(hG:au GI)(s:aD)(dV:bg s=true)(out:List Int)(ho:out.length<=1000)(jx:eU s out=true):AC prog GI 80 [fc s,vI out] (.ret (.slice .view ((iA s out).map (aW out)))):=by
 have hr:=(fk dV).rows;have hl:=yu dV out (m:=s.rows.toNat) (by omega);refine AC.nj (o:=if(iA s out).isEmpty then .nil else .view) ?_
 exact Vp hG (tH s) (by
  intro x hx;simp[aL,af]at hx
  rcases hx with rfl|rfl|rfl|rfl|rfl|rfl|rfl|rfl|rfl|rfl|rfl<;>rfl) (by omega) (λes h=>by have:=(vL dV jx h).2;omega) (by rw[vO];exact Oh hG s dV out ho) (λes h=>NQ hG s dV out ho jx h)
theorem YE(hG:au GI)(s:aD)(dV:bg s=true){a b:List End}(ha:jn s [] a=true)(hb:jn s [] b=true)(jT:a.length<=10)(lg:b.length<=10):AC prog GI 82 [aW [] a,aW [] b,.ref (aL s)] (.ret (.bool (eN s a b))):=by
 have ga:=JJ hG s dV [] (by simp) a (by omega) (sj dV ha);have gb:=JJ hG s dV [] (by simp) b (by omega) (sj dV hb);refine cd hG func82 ntmps82 c82 ?_;refine aI (λS H=>S 2=.ref (aL s)/\S 3=.box 3 0/\S 4=.box 4 0/\H 3=some [vI [],.slice .view (a.map bm)]/\H 4=some [vI [],.slice .view (b.map bm)]) (by simp[aW,aJ]) ?_;rintro S H ⟨s2,s3,s4,e3,e4⟩;refine aI (λS H=>S 2=.ref (aL s)/\S 3=.box 3 0/\S 4=.box 4 0/\H 3=some [vI [],.slice .view (a.map bm)]/\H 4=some [vI [],.slice .view (b.map bm)]/\S 6=.int .i64 a.length/\S 7=.int .i64 b.length) (by simp[s2,s3,s4,e3,e4]) ?_;clear s2 s3 s4 e3 e4 S H;rintro S H ⟨s2,s3,s4,e3,e4,s6,s7⟩;unfold eN CR
 by_cases aw:a.length<b.length
 .have lj:(a.length:Int)<b.length:=by omega
  simp[s2,s3,s4,e3,e4,s6,s7,aw,lj]
 by_cases he:a.length=b.length
 case neg=>
  have lj:¬(a.length:Int)<b.length:=by omega
  have kq:((a.length:Int)==b.length)=false:=by simp;omega
  have Bm:(a.length==b.length)=false:=by simpa using he
  simp[s2,s3,s4,e3,e4,s6,s7,aw,lj,kq,Bm]
 simp[s2,s3,s4,e3,e4,s6,s7,he,aL,af,bt];refine oc ga ?_;simp[s2,s3,s4,e3,e4,s6,s7,he,aL,af,bt];refine oc gb ?_;simp[s2,s3,s4,e3,e4,s6,s7,he,aL,af,bt]
theorem Lp(l:List (List End)):aM 2 (l.map (aW []))=true:=jA λa=>⟨rfl,rfl⟩
theorem Bp{α:Type}(better:α->α->Bool)(x:α){l:List α}{i:Nat}(h:i<l.length):gC better x (l.take (i+1))=if better l[i] (gC better x (l.take i))then l[i]else gC better x (l.take i):=by
 unfold gC;rw[abo h,abW];rfl
theorem nM{α:Type}(better:α->α->Bool):∀(l:List α)(x:α),gC better x l∈x::l
 |[],x=>abF
 |a::l,x=>by
  show gC better (if better a x then a else x) l∈_;have:=nM better l (if better a x then a else x);rcases acb.1 this with e|h
  .rw[e];split<;>simp
  .exact abm _ (abm _ h)
theorem VR(hG:au GI)(s:aD)(dV:bg s=true)(x:List End)(l:List (List End))(hl:l.length<100000)(h:∀a∈x::l,jn s [] a=true/\a.length<=10):AC prog GI 81 [.slice .view ((x::l).map (aW [])),.func (.func 82) [] [.ref (aL s)]] (.ret (aW [] (gC (eN s) x l))):=by
 have cJ:=Lp (x::l);obtain⟨it,hit,bn⟩:=bo (P:=prog) (t:=39) (s:=2) (by kernel_rfl);have hT:List.take l.length (l.map (aW []))=l.map (aW []):=abp (by simp);have hm:(x::l).map (aW [])=aW [] x::l.map (aW []):=rfl
 have Bz:∀d,lC d (.ref (aL s))=false:=λd=>rfl
 have wz:∀a,aW [] a=.agg [vI [],.slice .view (a.map bm)]:=λ_=>rfl
 refine cd hG func81 ntmps81 c81 ?_;refine aI (λS H=>S 4=.box 4 0/\S 0=.slice .view (aW [] x::l.map (aW []))/\S 1=.func (.func 82) [] [.ref (aL s)]/\H 4=some [.slice .nil [],.slice .nil []]) (by simp[Bz]) ?_;rintro S H ⟨s4,s0,s1,e4⟩;refine aI (λS H=>S 4=.box 4 0/\S 0=.slice .view (aW [] x::l.map (aW []))/\S 1=.func (.func 82) [] [.ref (aL s)]/\H 4=some [.slice .nil [],.slice .nil []]/\S 5=.box 5 0/\H 5=some [vI [],.slice .view (x.map bm)]) (by simp[s4,s0,s1,e4,wz,Bz]) ?_;clear s4 s0 s1 e4 S H;rintro S H ⟨s4,s0,s1,e4,s5,e5⟩;rw[hm]at cJ;refine aI (λS H=>S 4=.box 4 0/\H 4=some [.slice .nil [],.slice .nil []]/\S 5=.box 5 0/\H 5=some [vI [],.slice .view ((gC (eN s) x l).map bm)]) ?_ ?_
 .have h1:(1:Int)<=l.length+1:=by omega
  simp[s4,s0,s1,e4,s5,e5,bound,cJ,h1];refine bP 14 l.length (λi S H=>S 1=.func (.func 82) [] [.ref (aL s)]/\S 4=.box 4 0/\H 4=some [.slice .nil [],.slice .nil []]/\S 5=.box 5 0/\H 5=some [vI [],.slice .view ((gC (eN s) x (l.take i)).map bm)]/\S 12=.slice .view (l.map (aW []))/\S 13=.int .i64 l.length/\S 14=.int .i64 (i:Nat)) (λi S H h=>h.2.2.2.2.2.2.2) ⟨by simp[s1],by simp[s4],by simp[e4],by simp[s5],by simp[e5,gC],by simp[hT],by simp,by simp⟩ ?_;clear s4 s0 s1 e4 s5 e5 S H;rintro i hi S H ⟨s1,s4,e4,s5,e5,bC,bW,cN⟩
  by_cases aw:i<l.length
  case neg=>
   have cU:i=l.length:=by omega
   subst cU;rw[abp (abg _)]at e5;simp[s1,s4,e4,s5,e5,bC,bW,cN]
  have hw:IntKind.i64.wrap ((i:Int)+1)=i+1:=aS (by omega);have FV:=nM (eN s) (l.take i) x
  have hb:=h (gC (eN s) x (l.take i)) (by
   rcases acb.1 FV with e|e
   .rw[e];exact abF
   .exact abm _ (aca e))
  have dv:=h l[i] (abm _ (aba aw));have Yx:=YE hG s dV dv.1 hb.1 dv.2 hb.2;rw[Bp _ _ aw];generalize gC (eN s) x (l.take i)=o at e5 Yx⊢;simp[s1,s4,e4,s5,e5,bC,bW,cN,aw,wz,Bz];refine oc Yx ?_;cases eN s l[i] o
  .simp[s1,s4,e4,s5,e5,bC,bW,cN,aw,wz,Bz,hw]
  .simp[s1,s4,e4,s5,e5,bC,bW,cN,aw,wz,Bz,hw]
 clear s4 s0 s1 e4 s5 e5 S H;rintro S H ⟨s4,e4,s5,e5⟩;simp[s4,e4,s5,e5,wz,hit,bn,eQ]
def rF(s:aD):List AV:=if bg s then match iA s []with
 |[]=>[aW [] [],.int .i64 0,.int .i64 5]
 |x::l=>[aW [] (gC (eN s) x l),.int .i64 (th s [] (gC (eN s) x l)),.int .i64 0]
 else[aW [] [],.int .i64 0,.int .i64 2]
theorem CH{s:aD}(dV:bg s=true){a:List End}(h:a∈iA s []):jn s [] a=true/\a.length<=3/\ig s [] a 0=true:=by
 have hr:=(fk dV).rows;obtain⟨h1,h2⟩:=(qO dV (sO dV)).1 h;refine⟨h1,?_,h2⟩;unfold ig at h2;simp only[abc,abe]at h2;omega
theorem Bw(hG:au GI)(s:aD)(hs:rY s)(ju:bg s=false\/iA s []=[]):AC prog GI 24 [di s] (.ret (.dE (rF s))):=by
 obtain⟨it,hit,bn⟩:=bo (P:=prog) (t:=39) (s:=2) (by kernel_rfl)
 have wz:∀a,aW [] a=.agg [vI [],.slice .view (a.map bm)]:=λ_=>rfl
 refine cd hG func24 ntmps24 c24 ?_;refine aI (λS H=>S 1=.box 1 0/\S 2=.box 2 0/\H 1=some (af s)/\H 2=some [.slice .nil [],.slice .nil []]) (by simp[di,af]) ?_;rintro S H ⟨s1,s2,e1,e2⟩;unfold rF;cases dV:bg s
 .simp[s1,s2,e1,e2,af];refine⟨_,by kernel_rfl,Co hG s hs,λ_=>rfl,?_⟩;rw[dV];simp[s1,s2,e1,e2,af,hit,bn,eQ,wz,bG,ints]
 have hg:iA s []=[]:=by
  rcases ju with h|h
  .rw[h]at dV;cases dV
  .exact h
 simp[s1,s2,e1,e2,af];refine⟨_,by kernel_rfl,Co hG s hs,λ_=>rfl,?_⟩;rw[dV];simp[s1,s2,e1,e2,af];refine oc (Lc hG s dV) ?_;simp[s1,s2,e1,e2,fc,aL,af,bt];refine oc (IG hG s dV [] (by simp) (sO dV)) ?_;rw[hg];simp[s1,s2,e1,e2,hit,bn,eQ,wz,bG,ints]
theorem Pt(hG:au GI)(s:aD)(hs:rY s):AC prog GI 24 [di s] (.ret (.dE (rF s))):=by
 cases dV:bg s with
 |false=>exact Bw hG s hs (.inl dV)
 |true=>
 cases hg:iA s []with
 |nil=>exact Bw hG s hs (.inr hg)
 |cons x l=>
 obtain⟨it,hit,bn⟩:=bo (P:=prog) (t:=39) (s:=2) (by kernel_rfl)
 have wz:∀a,aW [] a=.agg [vI [],.slice .view (a.map bm)]:=λ_=>rfl
 have hl:=Eb dV [];rw[hg]at hl;simp at hl
 have e_:∀a∈x::l,jn s [] a=true/\a.length<=10:=λa ha=>by
  have:=CH dV (a:=a) (by rw[hg];exact ha);exact⟨this.1,by omega⟩
 have a98:=VR hG s dV x l (by omega) e_;have hb:=e_ _ (nM (eN s) l x);have a87:=JJ hG s dV [] (by simp) (gC (eN s) x l) (by omega) (sj dV hb.1)
 have yQ:((l.length:Int)+1==0)=false:=by simp;omega
 have ho:rF s=[aW [] (gC (eN s) x l),.int .i64 (th s [] (gC (eN s) x l)),.int .i64 0]:=by
  unfold rF;rw[dV,if_pos rfl,hg]
 rw[ho];refine AC.Mr hG cH 5 5 func24 rfl ntmps24 (by simp) (ac:=c24) (by kernel_rfl) ?_;refine px (λS H=>S 1=.box 1 0/\S 2=.box 2 0/\H 1=some (af s)/\H 2=some [.slice .nil [],.slice .nil []]) (by simp[di,af]) ?_;rintro S H ⟨s1,s2,e1,e2⟩;refine px (λS H=>S 1=.box 1 0/\S 2=.box 2 0/\H 1=some (af s)/\H 2=some [.slice .nil [],.slice .nil []]) ?_ ?_
 .simp[s1,s2,e1,e2,af];refine⟨_,by kernel_rfl,Co hG s hs,λ_=>rfl,?_⟩;rw[dV];simp[s1,s2,e1,e2,af]
 clear s1 s2 e1 e2 S H;rintro S H ⟨s1,s2,e1,e2⟩;refine px (λS H=>S 2=.box 2 0/\H 2=some [.slice .nil [],.slice .nil []]/\S 5=.box 5 0/\H 5=some (aL s)) ?_ ?_
 .simp[s1,s2,e1,e2,af];refine oc (Lc hG s dV) ?_;simp[s1,s2,e1,e2,fc,aL,af,bt]
 clear s1 s2 e1 e2 S H;rintro S H ⟨s2,e2,s5,e5⟩;refine px (λS H=>S 2=.box 2 0/\H 2=some [.slice .nil [],.slice .nil []]/\S 5=.box 5 0/\H 5=some (aL s)/\S 6=.slice .view ((x::l).map (aW []))) ?_ ?_
 .have Yy:=IG hG s dV [] (by simp) (sO dV);rw[hg]at Yy;simp[s2,e2,s5,e5,aL,af,bt];refine oc Yy ?_;simp[s2,e2,s5,e5,aL,af,bt]
 clear s2 e2 s5 e5 S H;rintro S H ⟨s2,e2,s5,e5,s6⟩;refine px (λS H=>S 2=.box 2 0/\H 2=some [.slice .nil [],.slice .nil []]/\S 5=.box 5 0/\H 5=some (aL s)/\S 6=.slice .view ((x::l).map (aW []))) (by simp[s2,e2,s5,e5,s6,yQ]) ?_;clear s2 e2 s5 e5 s6 S H;rintro S H ⟨s2,e2,s5,e5,s6⟩;refine Ke (aL s) (λS H=>S 2=.box 2 0/\H 2=some [.slice .nil [],.slice .nil []]/\S 5=.ref (aL s)/\S 6=.slice .view ((x::l).map (aW []))) e5 ⟨by simp[s2,Bk],by simp[ar,e2],by simp[s5,Bk,aL,af,bt,AV.aH,vI],by simp[s6,Bk,b_]⟩ ?_;clear s2 e2 s5 e5 s6 S H;rintro S H ⟨s2,e2,s5,s6⟩;refine aI (λS H=>S 2=.box 2 0/\H 2=some [.slice .nil [],.slice .nil []]/\S 5=.ref (aL s)/\S 7=.box 7 0/\H 7=some [vI [],.slice .view ((gC (eN s) x l).map bm)]) ?_ ?_
 .simp[s2,e2,s5,s6];refine⟨_,by kernel_rfl,a98,by simp[dh,qk],?_⟩;simp[s2,e2,s5,s6,wz]
 clear s2 e2 s5 s6 S H;rintro S H ⟨s2,e2,s5,s7,e7⟩;simp[s2,e2,s5,s7,e7,aL,af,bt];refine oc a87 ?_;simp[s2,e2,s5,s7,e7,hit,bn,eQ,wz]
def fC(s:aD):Option (List End):=match iA s []with
 |[]=>none
 |x::l=>some (gC (eN s) x l)
def kv(es:List End)(i n:Nat):Nat:=es.countP λe=>decide (e.1=((i:Nat):Int))&&decide (e.2<((n:Nat):Int))
def qe(s:ao)(es:List End)(i:Nat):Int:=s.dM*cy s.name i+s.df*kv es i (cy s.name i)
def aR(s:ao)(es:List End):List Int:=(List.range s.name.words.length).map (qe s es)
def aY(s:ao)(ah:List Int):List AV:=ai s++[vI ah]
def cm(s:ao)(ah:List Int):AV:=.agg (aY s ah)
def mF(n:Int):AV:=.iface 192 (.agg [.int .i64 n])
structure eD(s:ao):Prop where
 cells:1<=s.cells.length/\s.cells.length<=12
 n_:∀c∈s.cells,1<=c.lo/\c.lo<=c.hi/\c.hi<=20
 pos:1<=s.pos/\s.pos<=s.cells.length
 reach:1<=s.reach/\s.reach<=12
 dM:1<=s.dM/\s.dM<=9
 df:0<=s.df/\s.df<=9
 name:bg s.name=true
theorem ee{s:ao}(h:ct s=true):eD s:=by
 simp only[ct,abc,bL,abe,ab0,ab7]at h;obtain⟨⟨⟨⟨⟨⟨⟨h1,h2⟩,h3⟩,h4,h5⟩,h6,h7⟩,h8,h9⟩,nw,nU⟩,h12⟩:=h;refine⟨⟨by omega,by omega⟩,λc hc=>?_,⟨h4,h5⟩,⟨h6,h7⟩,⟨h8,h9⟩,⟨nw,nU⟩,h12⟩;have:=h3 c hc;simp[fZ,bL]at this;omega
theorem gl{s:aD}(dV:bg s=true){es:List End}(h:fC s=some es):es.length<=3:=by
 unfold fC at h
 cases hg:iA s []with
 |nil=>rw[hg]at h;cases h
 |cons x l=>
  rw[hg]at h;cases h;exact(CH dV (by rw[hg];exact nM (eN s) l x)).2.1
theorem Gk(es:List End)(i n:Nat):kv es i n<=es.length:=List.countP_le_length
theorem tF{s:ao}(h:eD s){es:List End}(he:es.length<=3){i:Nat}(hi:cy s.name i<=6):0<=qe s es i/\qe s es i<=81:=by
 have h1:=Gk es i (cy s.name i);have hp:=h.dM;have ht:=h.df;unfold qe;have a1:0<=s.dM*(cy s.name i:Int):=acO (by omega) (by omega);have a2:s.dM*(cy s.name i:Int)<=9*6:=ac1 (by omega) (by omega) (by omega) (by omega);have a3:0<=s.df*(kv es i (cy s.name i):Int):=acO (by omega) (by omega);have a4:s.df*(kv es i (cy s.name i):Int)<=9*3:=ac1 (by omega) (by omega) (by omega) (by omega);omega
def D5(s:ao)(es:List End)(i:Nat)(S:an)(H:av):Prop:=
 S 1=.box 1 0/\H 1=some (ai s)/\S 2=.box 2 0/\(∃z,H 2=some z/\z.length=16)/\S 3=.box 3 0/\H 3=some [vI [],.slice .view (es.map bm)]/\S 6=.box 6 0/\H 6=some (ai s++[grow 3 (ints ((aR s es).take i))])/\
 S 31=.slice .view (s.name.words.map cG)/\S 32=.int .i64 s.name.words.length/\S 33=.int .i64 (i:Nat)
theorem yn(hG:au GI)(s:ao)(hs:er s)(h:eD s)(ju:fC s.name=none):AC prog GI 108 [ba s] (.panic (mF s.name.words.length)):=by
 have G_:=Pt hG s.name hs.name
 have eE:rF s.name=[aW [] [],.int .i64 0,.int .i64 5]:=by
  unfold fC at ju;unfold rF;rw[if_pos h.name];split at ju
  .rename_i hg;first|rw[hg]|rfl
  .cases ju
 rw[eE]at G_;refine cd hG func108 ntmps108 c108 ?_;simp[c108,ba,ai,af];refine oc G_ ?_;simp[aW,aJ,mF,bG,bp,bb]
theorem DR(hG:au GI)(s:ao)(hs:er s)(h:eD s){es:List End}(mT:fC s.name=some es):AC prog GI 108 [ba s] (.ret (cm s (aR s es))):=by
 have G_:=Pt hG s.name hs.name
 have eE:∃m:Int,rF s.name=[aW [] es,.int .i64 m,.int .i64 0]:=by
  unfold fC at mT;unfold rF;rw[if_pos h.name];split at mT
  .cases mT
  .rename_i x l hg;cases mT;(try rw[hg]);exact⟨_,rfl⟩
 obtain⟨m,eE⟩:=eE;rw[eE]at G_;have hle:=gl h.name mT;have hF:=fk h.name
 have hlen:∀i,cy s.name i<=6:=λi=>by
  unfold cy;split
  .rename_i x hx;obtain⟨aw,rfl⟩:=abE.1 hx;exact(mb h.name (aba aw)).vX
  .omega
 obtain⟨i100,qW,qP⟩:=bo (P:=prog) (t:=102) (s:=16) (by kernel_rfl);obtain⟨fs,fe⟩:=bU (P:=prog) (t:=102) (by kernel_rfl);refine cd hG func108 ntmps108 c108 ?_;refine aI (λS H=>S 1=.box 1 0/\H 1=some (ai s)/\S 2=.box 2 0/\∃z,H 2=some z/\z.length=16) (by simp[ba,ai,af]) ?_;rintro S H ⟨s1,h1,s2,z,h2,hz⟩;refine aI (λS H=>S 1=.box 1 0/\H 1=some (ai s)/\S 2=.box 2 0/\(∃z,H 2=some z/\z.length=16)/\S 3=.box 3 0/\H 3=some [vI [],.slice .view (es.map bm)]/\S 5=.int .i64 0) ?_ ?_
 .simp[ai,af,s1,h1,s2,h2,hz];refine oc G_ ?_;simp[aW,aJ,bG,s1,h1,s2,h2,hz]
  try rfl
 clear s1 h1 s2 h2 hz z S H;rintro S H ⟨s1,h1,s2,⟨z,h2,hz⟩,s3,h3,s5⟩;refine aI (λS H=>S 1=.box 1 0/\H 1=some (ai s)/\S 2=.box 2 0/\(∃z,H 2=some z/\z.length=16)/\S 3=.box 3 0/\H 3=some [vI [],.slice .view (es.map bm)]) ?_ ?_
 .simp[ai,af,s1,h1,s2,h2,hz,s3,h3,s5]
  try rfl
 clear s1 h1 s2 h2 hz z s3 h3 s5 S H;rintro S H ⟨s1,h1,s2,⟨z,h2,hz⟩,s3,h3⟩;refine aI (λS H=>S 1=.box 1 0/\H 1=some (ai s)/\S 2=.box 2 0/\(∃z,H 2=some z/\z.length=16)/\S 3=.box 3 0/\H 3=some [vI [],.slice .view (es.map bm)]/\S 6=.box 6 0/\H 6=some (ai s++[.slice .nil []])) ?_ ?_
 .simp[ai,af,s1,h1,s2,h2,hz,s3,h3,bG]
  try rfl
 clear s1 h1 s2 h2 hz z s3 h3 S H;rintro S H ⟨s1,h1,s2,⟨z,h2,hz⟩,s3,h3,s6,h6⟩
 have MT:(aR s es).length=s.name.words.length:=by simp[aR]
 have sB:=hF.words;refine aI (D5 s es s.name.words.length) ?_ ?_
 .refine aI (D5 s es 0) ?_ ?_
  .have hg:grow 3 (ints ([]:List Int))=.slice .nil []:=rfl;simp[ai,af,s1,h1,s2,h2,hz,s3,h3,s6,h6,D5,hg]
   try rfl
  clear s1 h1 s2 h2 hz z s3 h3 s6 h6 S H;intro S H V1;refine bP 33 s.name.words.length (D5 s es) (λi S H h=>h.2.2.2.2.2.2.2.2.2.2) V1 ?_;clear V1 S H;rintro i hi S H ⟨s1,h1,s2,⟨z,h2,hz⟩,s3,h3,s6,h6,uL,uK,uG⟩
  by_cases aw:i<s.name.words.length
  case neg=>
   have cU:i=s.name.words.length:=by omega
   subst cU;simp[s1,h1,s2,h2,hz,s3,h3,s6,h6,uL,uK,uG,D5]
  have hw:IntKind.i64.wrap ((i:Int)+1)=i+1:=aS (by omega);simp[s1,h1,s2,h2,hz,s3,h3,s6,h6,uL,uK,uG,aw,ai,af,cG,bG];have BN:=hlen i
  have aas:s.name.words[i].aP.length<=6:=by rw[<-gP aw];exact BN
  have hp:=h.dM;have ht:=h.df;have Nk:0<=s.dM*(s.name.words[i].aP.length:Int):=acO (by omega) (by omega);have Sx:s.dM*(s.name.words[i].aP.length:Int)<=9*6:=ac1 (by omega) (by omega) (by omega) (by omega);have Ly:IntKind.i64.wrap (s.dM*(s.name.words[i].aP.length:Int))=s.dM*(s.name.words[i].aP.length:Int):=aS (by omega)
  refine bP 47 es.length (λj S H=>S 1=.box 1 0/\H 1=some (ai s)/\S 2=.box 2 0/\(∃z,H 2=some z/\z.length=16)/\S 3=.box 3 0/\H 3=some [vI [],.slice .view (es.map bm)]/\S 6=.box 6 0/\H 6=some (ai s++[grow 3 (ints ((aR s es).take i))])/\
   S 31=.slice .view (s.name.words.map cG)/\S 32=.int .i64 s.name.words.length/\S 33=.int .i64 (i:Nat)/\S 7=.int .i64 (i:Nat)/\S 8=.box 8 0/\H 8=some [vI s.name.words[i].aP,vI s.name.words[i].bO,.bool s.name.words[i].free]/\
   S 9=.int .i64 (s.dM*(s.name.words[i].aP.length:Int)+s.df*(kv (es.take j) i s.name.words[i].aP.length:Int))/\S 45=.slice .view (es.map bm)/\S 46=.int .i64 es.length/\S 47=.int .i64 (j:Nat)) (λj S H h=>h.2.2.2.2.2.2.2.2.2.2.2.2.2.2.2.2.2) ?_ ?_
  .simp[s1,h1,s2,h2,hz,s3,h3,s6,h6,uL,uK,uG,ai,af,Ly,kv]
  clear s1 h1 s2 h2 hz z s3 h3 s6 h6 uL uK uG S H;rintro j hj S H ⟨s1,h1,s2,⟨z,h2,hz⟩,s3,h3,s6,h6,uL,uK,uG,s7,s8,h8,s9,KG,JW,xG⟩;have VP:=Gk (es.take j) i s.name.words[i].aP.length
  have hc4:(es.take j).length<=3:=by simp;omega
  have QN:0<=s.df*(kv (es.take j) i s.name.words[i].aP.length:Int):=acO (by omega) (by omega);have Uz:s.df*(kv (es.take j) i s.name.words[i].aP.length:Int)<=9*3:=ac1 (by omega) (by omega) (by omega) (by omega)
  by_cases nG:j<es.length
  case pos=>
   have gR:IntKind.i64.wrap ((j:Int)+1)=j+1:=aS (by omega);have oP:IntKind.i64.wrap (s.dM*(s.name.words[i].aP.length:Int)+s.df*(kv (es.take j) i s.name.words[i].aP.length:Int)+s.df)=s.dM*(s.name.words[i].aP.length:Int)+s.df*(kv (es.take j) i s.name.words[i].aP.length:Int)+s.df:=aS (by omega)
   have jd:kv (es.take (j+1)) i s.name.words[i].aP.length=kv (es.take j) i s.name.words[i].aP.length+if es[j].1=((i:Nat):Int)/\es[j].2<((s.name.words[i].aP.length:Nat):Int)then 1 else 0:=by
    rw[adp,aa_ nG];unfold kv;rw[Option.toList_some,List.countP_append,List.countP_singleton]
    by_cases q1:es[j].1=((i:Nat):Int)<;>by_cases q2:es[j].2<((s.name.words[i].aP.length:Nat):Int)<;>simp[q1,q2]
   by_cases c1:es[j].1=((i:Nat):Int)
   .by_cases c2:es[j].2<((s.name.words[i].aP.length:Nat):Int)
    .rw[if_pos ⟨c1,c2⟩]at jd;simp[s1,h1,s2,h2,hz,s3,h3,s6,h6,uL,uK,uG,s7,s8,h8,s9,KG,JW,xG,nG,ai,af,bm,bG,gR,oP,c1,c2,jd];rw[Int.mul_add,Int.mul_one,Int.add_assoc]
    .rw[if_neg (λh=>c2 h.2)]at jd;simp[s1,h1,s2,h2,hz,s3,h3,s6,h6,uL,uK,uG,s7,s8,h8,s9,KG,JW,xG,nG,ai,af,bm,bG,gR,oP,c1,c2,jd]
   .rw[if_neg (λh=>c1 h.1)]at jd
    have c1':(es[j].1==((i:Nat):Int))=false:=by simpa using c1
    simp[s1,h1,s2,h2,hz,s3,h3,s6,h6,uL,uK,uG,s7,s8,h8,s9,KG,JW,xG,nG,ai,af,bm,bG,gR,oP,c1,c1',jd]
  case neg=>
   have Y0:j=es.length:=by omega
   subst Y0;have hT:es.take es.length=es:=abp (abg _);rw[hT]at s9
   have Mv:(aR s es).take (i+1)=(aR s es).take i++[s.dM*(s.name.words[i].aP.length:Int)+s.df*(kv es i s.name.words[i].aP.length:Int)]:=by
    rw[adp,aa_ (by rw[MT];exact aw)];simp[aR,qe,gP aw]
   have cJ:aM 1 (ints ((aR s es).take i))=true:=lY _
   have j_:ints ((aR s es).take i)++[.int .i64 (s.dM*(s.name.words[i].aP.length:Int)+s.df*(kv es i s.name.words[i].aP.length:Int))]=ints ((aR s es).take (i+1)):=by rw[Mv];simp[ints]
   have cC:ints ((aR s es).take (i+1))≠[]:=by rw[<-j_];simp
   have qp:grow 3 (ints ((aR s es).take (i+1)))=.slice (.own 3) (ints ((aR s es).take (i+1))):=by unfold grow;rw[if_neg cC]
   have gq:aM 1 [.int .i64 (s.dM*(s.name.words[i].aP.length:Int)+s.df*(kv es i s.name.words[i].aP.length:Int))]=true:=rfl
   have Pz:min i (aR s es).length+1<1048576:=by omega
   by_cases h0:ints ((aR s es).take i)=[]
   .have Aj:grow 3 (ints ((aR s es).take i))=.slice .nil []:=by unfold grow;rw[if_pos h0,h0]
    rw[Aj]at h6;rw[h0,List.nil_append]at j_;simp[s1,h1,s2,h2,hz,s3,h3,s6,h6,uL,uK,uG,s7,s8,h8,s9,KG,JW,xG,ai,af,hw,gq,D5,qp,<-j_];rw[j_];exact qp.symm
   .have Aj:grow 3 (ints ((aR s es).take i))=.slice (.own 3) (ints ((aR s es).take i)):=by unfold grow;rw[if_neg h0]
    rw[Aj]at h6;simp[s1,h1,s2,h2,hz,s3,h3,s6,h6,uL,uK,uG,s7,s8,h8,s9,KG,JW,xG,ai,af,hw,gq,cJ,Pz,D5,qp,<-j_];rw[j_];exact qp.symm
 clear s1 h1 s2 h2 hz z s3 h3 s6 h6 S H;rintro S H ⟨s1,h1,s2,⟨z,h2,hz⟩,s3,h3,s6,h6,uL,uK,uG⟩;have hT:(aR s es).take s.name.words.length=aR s es:=abp (by omega);rw[hT]at h6
 have kd:∃o,grow 3 (ints (aR s es))=.slice o (ints (aR s es)):=⟨_,rfl⟩
 obtain⟨o,kd⟩:=kd;rw[kd]at h6
 have jR:bu z 0 (ai s++[.slice .view (ints (aR s es))])=ai s++[.slice .view (ints (aR s es))]:=by simp[bu,hz,ai,af]
 simp[s1,h1,s2,h2,hz,s3,h3,s6,h6,uL,uK,uG,qW,qP,fe,ai,af,cm,aY,eQ]
 cases o<;>rfl
def my(s:ao)(i:Nat):Bool:=match s.cells[i]? with|some c=>c.hid|none=>false
def ir(s:ao):Nat:=(s.pos-s.reach).toNat
def dP(s:ao)(i:Nat):Bool:=decide (ir s<=i)&&(decide (i<s.pos.toNat)&&!my s i)
def ke(s:ao)(i:Nat):List (Int×Value):=(List.range' (ir s) (i-ir s)).map λj:Nat=>((j:Int),Value.bool (!my s j))
def cI(s:ao):List End:=(eo (dP s) s.cells.length).map λv=>((v.1:Int),(v.2:Int))
theorem G5(s:ao){i:Nat}:oQ (i:Int) (ke s i) 0=none:=B4 λx hx=>by
 obtain⟨j,hj,rfl⟩:=abz.1 hx;have:=ada.1 hj;simp only;omega
theorem EN(s:ao){i:Nat}(h:ir s<=i):ke s (i+1)=ke s i++[((i:Int),Value.bool (!my s i))]:=by
 unfold ke
 have e:ir s+1*(i-ir s)=i:=by omega
 rw[show i+1-ir s=(i-ir s)+1 by omega,adk,abK,e]
 rfl
theorem rH(f:Nat->Bool)(i:Nat):∀(n a k:Nat),((oQ (i:Int) ((List.range' a n).map λj:Nat=>((j:Int),Value.bool (f j))) k).map (·.2)).getD (.bool false)=.bool (decide (a<=i)&&(decide (i<a+n)&&f i))
 |0,a,k=>by
  have:¬(a<=i/\i<a+0):=by omega
  simp[oQ];intro h1 h2;omega
 |n+1,a,k=>by
  rw[acz,abA];unfold oQ
  by_cases h:i=a
  .subst h;simp
  .have hb:((i:Int)==(a:Int))=false:=by simp;omega
   rw[hb];simp only[abi,abw];rw[rH f i n (a+1) (k+1)]
   congr 1
   rw[ab6];simp
   constructor
   .rintro⟨h1,h2,h3⟩;exact⟨by omega,by omega,h3⟩
   .rintro⟨h1,h2,h3⟩;exact⟨by omega,by omega,h3⟩
theorem D0(s:ao)(hp:ir s<=s.pos.toNat)(i:Nat):((oQ (i:Int) (ke s s.pos.toNat) 0).map (·.2)).getD (.bool false)=.bool (dP s i):=by
 unfold ke;rw[rH (λj=>!my s j)]
 congr 1
 unfold dP;rw[show ir s+(s.pos.toNat-ir s)=s.pos.toNat by omega]
def zq(b:Nat):Value:=.map (some b)
theorem yc{α β:Type}[BEq α][LawfulBEq α]{t:α}{v:β}:∀{l:List (α×β)},l.lookup t=some v->(t,v)∈l
 |[],h=>by cases h
 |(a,b)::l,h=>by
  rw[List.lookup_cons]at h
  by_cases ht:(t==a)=true
  .rw[ht]at h;have:=eq_of_beq ht;cases h;subst this;exact abF
  .have sC:(t==a)=false:=by simpa using ht
   rw[sC]at h;exact abm _ (yc h)
def cg(s:ao)(i:Nat):Nat×List (Nat×Nat):=(List.range i).foldl (db (dP s)) (0,[])
theorem kB(s:ao)(i:Nat):cg s (i+1)=db (dP s) (cg s i) i:=by
 unfold cg;rw[ab3,abW]
 rfl
theorem v_(s:ao):∀(d i:Nat),∃t,(cg s (i+d)).2=(cg s i).2++t
 |0,i=>⟨[],by simp⟩
 |d+1,i=>by
  obtain⟨t,ht⟩:=v_ s d i;rw[show i+(d+1)=i+d+1 by omega,kB];unfold db;split
  .exact⟨t,ht⟩
  .simp only;split
   .exact⟨t++[((cg s (i+d)).1,i+d-1)],by rw[ht,ab8]⟩
   .exact⟨t,ht⟩
theorem yh(s:ao):∀i,(cg s i).1<=i
 |0=>abg _
 |i+1=>by
  rw[kB];unfold db;have:=yh s i;split
  .omega
  .simp
variable{l:Nat}{xs:List AV}
def mo(l:Nat)(s:ao)(bM:Nat)(ex:List (Nat×AV)):an:=λt=>if t=0 then .val (.func (.yield l) #[] #[])else if t=1 then .ref (ai s)else if t=3 then .val (zq bM)else match ex.lookup t with|some v=>v|none=>.bl
structure VS(C:Cons prog GI l xs)(s:ao)(cX:Value)(bM:Nat)(ex:List (Nat×AV))(l':List (Int×Value))(k:Nat)(a:Act)(w:World):Prop where
 size:a.tmps.size=54
 defers:a.defers=[]
 t0:a.tmps.getD 0 undef=.func (.yield l) #[] #[]
 t1:a.tmps.getD 1 undef=cX
 t3:a.tmps.getD 3 undef=zq bM
 ex:∀p∈ex,4<=p.1/\gO p.2=true/\RD (λ_ _=>False) w p.2 (a.tmps.getD p.1 undef)
 st:∃M Pr,C.J k M Pr w/\(∀b,M b->b<w.heap.size)/\M bM/\(∃es clock,w.heap[bM]?=some (.map es clock)/\Fh (.int .i64) es l')/\RD Pr w (.ref (ai s)) cX
variable{C:Cons prog GI l xs}{s:ao}{cX:Value}{bM:Nat}{ex wH:List (Nat×AV)}{l':List (Int×Value)}{k:Nat}{a:Act}{w:World}
theorem VS.fF(h:VS C s cX bM ex l' k a w):∀t,t<54->(mo l s bM ex t).aH=mo l s bM ex t/\RV (λb _=>b≠bM) bT w (mo l s bM ex t) (a.tmps.getD t undef):=by
 intro t ht;obtain⟨M,Pr,hj,aw,hM,_,hx⟩:=h.st;unfold mo
 by_cases t0:t=0
 .subst t0;simp only[abJ];rw[h.t0];exact⟨rfl,.data _ _ (.val _ rfl)⟩
 rw[if_neg t0]
 by_cases t1:t=1
 .subst t1;simp only[abJ];rw[h.t1];exact⟨rfl,.data _ _ (hx.mono (bf.same λb k _ hp=>by rintro rfl;exact C.apart hj _ k hM hp))⟩
 rw[if_neg t1]
 by_cases t3:t=3
 .subst t3;simp only[abJ];rw[h.t3];exact⟨rfl,.data _ _ (.val _ rfl)⟩
 rw[if_neg t3]
 cases hl:ex.lookup t with
 |none=>exact⟨rfl,.bl _⟩
 |some v=>
  have hm:(t,v)∈ex:=yc hl;obtain⟨_,h2,h3⟩:=h.ex _ hm;refine⟨?_,.data _ _ (h3.gO h2)⟩
  cases v<;>first|rfl|cases h2
theorem VS.grow (h:VS C s cX bM ex l' k a w) {a':Act} {w':World} (hb:Below w.heap.size w w') (bn:a'.tmps.size=54) (dN:a'.defers=[]) (h0:∀ t,t < 4→a'.tmps.getD t undef=a.tmps.getD t undef)
  (hex:∀p∈wH,4<=p.1/\gO p.2=true/\RD (λ_ _=>False) w' p.2 (a'.tmps.getD p.1 undef)):VS C s cX bM wH l' k a' w':=by
 obtain⟨M,Pr,hj,aw,hM,⟨es,clock,hm,he⟩,hx⟩:=h.st
 refine⟨bn,dN,(h0 0 (by decide)).trans h.t0,(h0 1 (by decide)).trans h.t1,(h0 3 (by decide)).trans h.t3,hex,M,Pr,C.df hj (mE.rr hb) λb jS=>⟨abR (aw b jS) hb.size,.inl jS⟩,λb jS=>abR (aw b jS) hb.size,hM,
  ⟨es,clock,(hb.block bM (aw bM hM)).trans hm,he⟩,hx.mono (bf.iB (λb h=>hb.block b h) λ_ _ _ h=>h)⟩
def W4:Nat->Bool:=λt=>decide (4<=t)
theorem VS.region (hG:au GI) {C:Cons prog GI l xs} (h:VS C s cX bM ex l' k a w) {id:Nat} {ops:Array Oper} {ac:ae} {Q:Exit→Act→World→Prop} {m:Nat} (hc:jO (.region id ops false)=true) (ny:dF prog 54 (.region id ops false)=ac) (hW:lG ops W4=true)
  (wH:List (Nat×AV)) (hs:wH.all (λp=>decide (4<=p.1)&&(decide (p.1<54)&&gO p.2))=true) (OD:bB prog GI ac (aK λS' _=>∀p∈wH,S' p.1=p.2) (mo l s bM ex) (λ_=>none)) (hk:∀a' w',VS C s cX bM wH l' k a' w'->Q .normal a' w'):(Code.region id ops false).wpIn (FR none) m prog Q a w:=by
 obtain⟨M,Pr,hj,aw,hM,Jr,hx⟩:=h.st;refine bD hG cH hc ny hW (C.gi hj) (λb _=>b≠bM) (mo l s bM ex) h.size h.defers h.fF OD ?_;intro g S' H' a' w' hg R1 hK aZ;refine hk a' w' (h.grow (by have:=R1.below;rwa [R1.base]at this) R1.size (by rw[R1.defers,hg];rfl) (λt ht=>aZ t (by simp[W4];omega)) λp hp=>?_);have xL:=abt.1 hs p hp;simp only[abc,abe]at xL;refine⟨xL.1,xL.2.2,?_⟩;have r:=R1.slot p.1 xL.2.1 (λh=>h);rw[hK p hp]at r;exact(r.eK (by have:=xL.2.2;revert this;cases p.2<;>simp[Go.AL.gO,AV.bZ])).gO xL.2.2
theorem VS.bool(h:VS C s cX bM ex l' k a w){t:Nat}{b:Bool}(hm:(t,AV.bool b)∈ex):a.tmps.getD t undef=.bool b:=(RV.data (al:=bT) _ _ (h.ex _ hm).2.2).dU
theorem VS.int(h:VS C s cX bM ex l' k a w){t:Nat}{b:Int}(hm:(t,AV.int .i64 b)∈ex):a.tmps.getD t undef=.int .i64 b:=(RV.data (al:=bT) _ _ (h.ex _ hm).2.2).int_eq
theorem VS.aV (h:VS C s cX bM ex l' k a w) {a':Act} {w':World} (N:Nat) (hN:4≤N) (hb:Below w.heap.size w w') (bn:a'.tmps.size=54) (dN:a'.defers=[]) (h0:∀ t,t < N→a'.tmps.getD t undef=a.tmps.getD t undef)
  (hex:ex.all (λp=>decide (p.1<N))=true):VS C s cX bM ex l' k a' w':=
 h.grow hb bn dN (λt ht=>h0 t (by omega)) λp hp=>by
  obtain⟨q1,q2,q3⟩:=h.ex p hp;have:=abt.1 hex p hp;rw[h0 p.1 (by simpa using this)];exact⟨q1,q2,q3.gO q2⟩
theorem VS.sub(h:VS C s cX bM ex l' k a w)(Wd:∀p∈wH,p∈ex):VS C s cX bM wH l' k a w:=
 ⟨h.size,h.defers,h.t0,h.t1,h.t3,λp hp=>h.ex p (Wd p hp),h.st⟩
theorem VS.put(h:VS C s cX bM ex l' k a w)(t:Nat)(v:Value)(ht:4<=t)(hex:ex.all (λp=>p.1 !=t)=true):VS C s cX bM ex l' k (a.put (some t) v) w:=by
 have dT:∀k,k≠t->(a.put (some t) v).tmps.getD k undef=a.tmps.getD k undef:=λk hk=>by
  simp[Act.put,abd (abO hk)]
 refine⟨by simp[Act.put,h.size],h.defers,(dT 0 (by omega)).trans h.t0,(dT 1 (by omega)).trans h.t1,(dT 3 (by omega)).trans h.t3,λp hp=>?_,h.st⟩;have:=abt.1 hex p hp;rw[dT p.1 (by simpa using this)];exact h.ex p hp
noncomputable def Ha:ae:=ae.qb c151.qb.qa.qb.qb
noncomputable def rC:ae:=ae.qb c151.qb.qb.qb.qb.qb
theorem EJ(hG:au GI)(s:ao)(h:eD s):tg prog GI 151 [.ref (ai s)] ((cI s).map bm):=by
 intro l C w Pr bI hJ hlen hr;obtain⟨cX,rfl⟩:∃cX,bI=#[cX]:=nt (by simpa using hlen.symm);have TW:=hr 0 (by simp) (by simp);simp only[List.getElem_cons_zero,List.getElem_toArray]at TW;refine(iD (ro:=none) (m:=0)).1 (adR func151 rfl trivial ?_);refine fD (λa=>a.tmps.size=54/\a.defers=[]/\a.tmps.getD 0 undef=.func (.yield l) #[] #[]/\a.tmps.getD 1 undef=cX) ⟨by simp[ntmps151],rfl,bJ _ _ 0 (by simp),bJ _ _ 1 (by simp)⟩ ?_;rintro a ⟨bn,dN,e0,e1⟩
 have dT:∀(a:Act)(d t:Nat)(c:Value),t≠d->(a.put (some d) c).tmps.getD t undef=a.tmps.getD t undef:=λa d t c h=>by
  simp[Act.put,abd (abO h)]
 have gz:∀(a:Act)(d:Nat)(c:Value),a.tmps.size=54->d<54->(a.put (some d) c).tmps.getD d undef=c:=λa d c h hd=>by
  simp[Act.put,h,hd]
 have jC:∀(a:Act)(d:Option Nat)(c:Value),(a.put d c).tmps.size=a.tmps.size:=λa d c=>by cases d<;>simp[Act.put]
 refine abf (abx ?_);show wpOpsIn _ _ _ _ _ [0,1] a w;refine aT rfl rfl (by rfl) (run_makeMap (t:=182) rfl) ?_
 obtain⟨bM,Oj⟩:∃b,w.heap.size=b:=⟨_,rfl⟩
 obtain⟨w1,lq⟩:∃w1,w.alloc (.map #[] 0)=w1:=⟨_,rfl⟩
 have s1:w1.heap.size=bM+1:=by rw[<-lq];simp[Oj]
 have n1:w1.heap[bM]?=some (.map #[] 0):=by rw[<-lq,<-Oj];exact abY w _
 have b1:Below w.heap.size w w1:=by rw[<-lq];exact(ab4 _ _).alloc (abg _) _
 show wpOpsIn _ _ _ _ _ [1] (a.put (some 7) (.map (some w.heap.size))) (w.alloc (.map #[] 0));rw[lq,Oj];have h7:(a.put (some 7) (.map (some bM))).eval (.tmp 7)=.map (some bM):=gz _ _ _ bn (by decide);refine aT rfl rfl (by rfl) (run_assign (x:=.tmp 7) w1 rfl) ?_;rw[h7];show Code.wpIn _ _ _ _ _ ((a.put (some 7) (.map (some bM))).put (some 3) (.map (some bM))) w1
 have vs:VS C s cX bM [] [] 0 ((a.put (some 7) (.map (some bM))).put (some 3) (.map (some bM))) w1:=by
  refine⟨by rw[jC,jC];exact bn,dN,by rw[dT _ _ _ _ (by decide),dT _ _ _ _ (by decide)];exact e0,by rw[dT _ _ _ _ (by decide),dT _ _ _ _ (by decide)];exact e1,gz _ _ _ (by rw[jC];exact bn) (by decide),λp hp=>(by cases hp),λb=>b=bM,Pr,C.df hJ (mE.rr b1) λb hb=>?_,λb hb=>?_,rfl,⟨#[],0,n1,rfl,λi hi=>(by simp at hi)⟩,?_⟩
  .exact⟨by omega,.inr (by omega)⟩
  .omega
  .exact(TW.eK rfl).mono (bf.iB (λb h=>b1.block b h) λ_ _ _ h=>h)
 generalize(a.put (some 7) (.map (some bM))).put (some 3) (.map (some bM))=a1 at vs⊢;clear h7 e0 e1 dN bn n1 s1 b1 lq Oj hJ hr TW hlen a
 obtain⟨p,hp⟩:∃p:Nat,s.pos=p:=⟨s.pos.toNat,by have:=h.pos;omega⟩
 have hpt:s.pos.toNat=p:=by omega
 have gK:=h.pos;have Zj:=h.reach;have rK:=h.cells
 have NY:ir s<=p:=by unfold ir;omega
 have oD:IntKind.i64.wrap (s.pos-s.reach)=s.pos-s.reach:=aS (by omega)
 have VQ:max 0 (s.pos-s.reach)=(ir s:Int):=by unfold ir;omega
 have aah:(if s.pos-s.reach<=0 then(0:Int)else s.pos-s.reach)=(ir s:Int):=by unfold ir;split<;>omega
 refine abf (abf ?_);refine vs.region hG (ac:=ae.qa c151.qb.qa) (by kernel_rfl) (by kernel_rfl) (by kernel_rfl) [(4,.int .i64 (ir s))] rfl ?_ ?_
 .simp[c151,ae.qa,ae.qb,mo,List.lookup,ai,oD];exact VQ
 clear vs;intro a w vs
 have MM:VS C s cX bM [(4,.int .i64 ((ir s:Nat):Int))] (ke s (ir s)) 0 a w:=by
  have:ke s (ir s)=[]:=by simp[ke]
  rw[this];exact vs
 clear vs;show Code.wpIn _ _ _ _ _ a w;refine acg (aea (λa w=>∃i,ir s<=i/\i<=p/\VS C s cX bM [(4,.int .i64 (i:Nat))] (ke s i) 0 a w) (λa _=>match a.tmps.getD 4 undef with|.int _ i=>p-i.toNat|_=>0) ⟨ir s,abg _,NY,MM⟩ ?_);clear MM a w;rintro a w ⟨i,OX,Gi,vs⟩;have h4:a.tmps.getD 4 undef=.int .i64 (i:Nat):=vs.int (by simp);refine abf (abf ?_);refine vs.region hG (ac:=ae.qa Ha.qa) (by kernel_rfl) (by kernel_rfl) (by kernel_rfl) [(4,.int .i64 (i:Nat)),(17,.bool (decide (i<p)))] rfl ?_ ?_
 .simp[c151,Ha,ae.qa,ae.qb,mo,List.lookup,ai,hp]
 clear vs;intro a2 w2 vs;show Code.wpIn _ _ _ _ _ a2 w2;refine abS (t:=decide (i<p)) (vs.bool (by simp)) ?_
 by_cases aw:i<p
 case neg=>
  simp only[aw,adE,abi,abw];refine ac_ ?_
  have Wf:i=p:=by omega
  subst Wf;show Code.wpIn _ _ _ _ _ a2 w2;clear OX Gi h4 aw a w
  have Sw:ke s i=ke s s.pos.toNat:=by rw[hpt]
  refine abf ?_;refine vs.region hG (ac:=ae.qa c151.qb.qb) (by kernel_rfl) (by kernel_rfl) (by kernel_rfl) [(5,.int .i64 0)] rfl ?_ ?_
  .simp[c151,ae.qa,ae.qb,mo,List.lookup]
  clear vs;intro a w vs;show Code.wpIn _ _ _ _ _ a w;have hwn:IntKind.i64.wrap ((s.cells.length:Int)+1)=s.cells.length+1:=aS (by omega);refine abf ?_;refine vs.region hG (ac:=ae.qa c151.qb.qb.qb) (by kernel_rfl) (by kernel_rfl) (by kernel_rfl) [(5,.int .i64 ((0:Nat):Int)),(32,.int .i64 (s.cells.length+1)),(33,.int .i64 ((0:Nat):Int))] rfl ?_ ?_
  .simp[c151,ae.qa,ae.qb,mo,List.lookup,ai,hwn]
  clear vs;intro a w vs;show Code.wpIn _ _ _ _ _ a w;refine acg (aea (λa w=>∃j,j<=s.cells.length+1/\VS C s cX bM [(5,.int .i64 ((cg s j).1:Nat)),(32,.int .i64 (s.cells.length+1)),(33,.int .i64 (j:Nat))] (ke s i) (cg s j).2.length a w) (λa _=>match a.tmps.getD 33 undef with|.int _ j=>s.cells.length+1-j.toNat|_=>0) ⟨0,abZ _,vs⟩ ?_);clear vs a w;rintro a w ⟨j,hj,vs⟩;have ZS:a.tmps.getD 33 undef=.int .i64 (j:Nat):=vs.int (by simp);refine abf ?_;refine vs.region hG (ac:=ae.qa rC) (by kernel_rfl) (by kernel_rfl) (by kernel_rfl) [(5,.int .i64 ((cg s j).1:Nat)),(32,.int .i64 (s.cells.length+1)),(33,.int .i64 (j:Nat)),(34,.bool (decide (j<s.cells.length+1)))] rfl ?_ ?_
  .simp[c151,rC,ae.qa,ae.qb,mo,List.lookup];omega
  clear vs;intro a3 w3 vs;show Code.wpIn _ _ _ _ _ a3 w3;refine abf (abS (t:=decide (j<s.cells.length+1)) (vs.bool (by simp)) ?_)
  by_cases nG:j<s.cells.length+1
  case neg=>
   simp only[nG,adE,abi,abw];refine ac_ ?_
   have DC:j=s.cells.length+1:=by omega
   subst DC
   change bodyPost prog f151 (λe w'=>∃v M eC,e=Ending.returned v/\(C.J (List.map bm (cI s)).length M eC w'\/C.X M eC w')) .normal a3 w3
   obtain⟨M,eC,dw,_⟩:=vs.st
   have hl:((cI s).map bm).length=(cg s (s.cells.length+1)).2.length:=by simp[cI,eo,cg]
   refine⟨vs.defers,.tuple #[],?_,.tuple #[],M,eC,rfl,.inl (by rw[hl];exact dw)⟩;simp[results,results151]
  simp only[nG,adN,abJ];refine acj ?_;show Code.wpIn _ _ _ _ _ a3 w3;refine abf (adi (Q:=λe a w=>(e=.normal/\VS C s cX bM [(5,.int .i64 ((cg s (j+1)).1:Nat)),(32,.int .i64 (s.cells.length+1)),(33,.int .i64 (j:Nat))] (ke s i) (cg s (j+1)).2.length a w)\/(e=.ret/\a.defers=[]/\∃M Pr,C.X M Pr w)) ?_ ?_)
  .refine acg ?_;refine abf ?_;refine vs.region hG (ac:=ae.qa rC.qb.qb.qa.qb) (by kernel_rfl) (by kernel_rfl) (by kernel_rfl) [(5,.int .i64 ((cg s j).1:Nat)),(32,.int .i64 (s.cells.length+1)),(33,.int .i64 (j:Nat)),(6,.int .i64 (j:Nat))] rfl ?_ ?_
   .simp[c151,rC,ae.qa,ae.qb,mo,List.lookup]
   clear vs;intro a4 w4 vs;show Code.wpIn _ _ _ _ _ a4 w4;refine abf (abf ?_);obtain⟨M,eC,dw,ox,hM,⟨es,clock,hm,he⟩,hx⟩:=vs.st
   refine jf hG (GI:=GI) (p:=2) (l2:=[2]) rfl (by kernel_rfl) (by kernel_rfl) (l:=(rC.qb.qb.qa.qb.qb.qa.qa.dl).take 2) (by kernel_rfl) (by decide) (W:=λt=>decide (36<=t)) (by kernel_rfl) (C.gi dw) (λb _=>b≠bM) (mo l s bM [(5,.int .i64 ((cg s j).1:Nat)),(32,.int .i64 (s.cells.length+1)),(33,.int .i64 (j:Nat)),(6,.int .i64 (j:Nat))]) vs.size vs.defers vs.fF
    (K:=λS _=>S 36=.val (zq bM)/\S 37=.int .i64 (j:Nat)) ?_ ?_
   .simp[c151,rC,ae.qa,ae.qb,ae.dl,mo,List.lookup]
   intro g S' H' a5 w5 hg R1 ⟨Wu,X'⟩ aZ
   have DQ:Below w4.heap.size w4 w5:=by have:=R1.below;rwa [R1.base]at this
   have Wz:a5.eval (.tmp 36)=.map (some bM):=by
    have:=R1.slot 36 (by decide) (λh=>h);rw[Wu]at this;exact this.fR
   have WY:a5.eval (.tmp 37)=.int .i64 (j:Nat):=pN R1 (by decide) X';have zb:=vs.aV 36 (by decide) DQ R1.size (by rw[R1.defers,hg];rfl) (λt ht=>aZ t (by simp;omega)) rfl;have XK:w5.heap[bM]?=some (.map es clock):=(DQ.block bM (ox bM hM)).trans hm
   have RM:prog.underlying 182=some (.map 3 4):=by kernel_rfl
   have RY:prog.underlying 3=some (.int .i64):=by kernel_rfl
   obtain⟨i4,M0,Q3⟩:=ach.1 (show(prog.info? 4).bind (·.zero)=some (.bool false) by kernel_rfl);refine aT rfl rfl (by rfl) (v:=.bool (dP s j)) (w':=w5) ((Ge (t:=182) (x1:=.tmp 36) (x2:=.tmp 37) rfl RM RY M0 Q3 Wz WY XK he).trans (congrArg (λv=>Result.ok (Next.value v) w5) (by rw[Sw];exact D0 s (by omega) j))) ?_;show Code.wpIn _ _ _ _ _ (a5.put (some 38) (.bool (dP s j))) w5;have zm:=zb.put 38 (.bool (dP s j)) (by decide) rfl;have Au:(a5.put (some 38) (.bool (dP s j))).tmps.getD 38 undef=.bool (dP s j):=gz _ _ _ zb.size (by decide);generalize a5.put (some 38) (.bool (dP s j))=a6 at zm Au⊢;clear vs zb dw ox hM hm he hx M eC es clock DQ R1 aZ hg Wu X' Wz WY XK;refine abS (t:=dP s j) Au ?_
   cases VK:dP s j with
   |true=>
    simp only[abJ]
    have hf:cg s (j+1)=cg s j:=by rw[kB];unfold db;rw[if_pos VK]
    refine ac_ (.inl ⟨rfl,?_⟩);rw[hf]
    exact zm.sub λq hq=>by simp at hq⊢;rcases hq with rfl|rfl|rfl<;>simp
   |false=>
    simp only[abi,abw];refine acj ?_;show Code.wpIn _ _ _ _ _ a6 w5;have te:=yh s j
    have hf:cg s (j+1)=(j+1,if(cg s j).1<j then(cg s j).2++[((cg s j).1,j-1)]else(cg s j).2):=by
     rw[kB];unfold db;rw[if_neg (by rw[VK];simp)]
    refine abf (adi (Q:=λe a w=>(e=.normal/\VS C s cX bM [(5,.int .i64 ((cg s j).1:Nat)),(32,.int .i64 (s.cells.length+1)),(33,.int .i64 (j:Nat)),(6,.int .i64 (j:Nat))] (ke s i) (cg s (j+1)).2.length a w)\/(e=.ret/\a.defers=[]/\∃M Pr,C.X M Pr w)) ?_ ?_)
    .refine abf ?_
     by_cases N8:(cg s j).1<j
     case neg=>
      have HC:(cg s (j+1)).2=(cg s j).2:=by rw[hf];simp[N8]
      refine zm.region hG (ac:=ae.qa rC.qb.qb.qa.qb.qb.qb.qa) (by kernel_rfl) (by kernel_rfl) (by kernel_rfl) [(5,.int .i64 ((cg s j).1:Nat)),(32,.int .i64 (s.cells.length+1)),(33,.int .i64 (j:Nat)),(6,.int .i64 (j:Nat)),(50,.bool false)] rfl ?_ ?_
      .have:¬((cg s j).1:Int)<j:=by omega
       simp[c151,rC,ae.qa,ae.qb,mo,List.lookup,N8]
      intro a7 w7 uA;show Code.wpIn _ _ _ _ _ a7 w7;refine abS (t:=false) (uA.bool (by simp)) ?_;simp only[abi,abw];refine acj (.inl ⟨rfl,?_⟩);rw[HC]
      exact uA.sub λq hq=>by simp at hq⊢;rcases hq with rfl|rfl|rfl|rfl<;>simp
     case pos=>
      have HC:(cg s (j+1)).2=(cg s j).2++[((cg s j).1,j-1)]:=by rw[hf];simp[N8]
      obtain⟨M,eC,dw,ox,hM,⟨es,clock,hm,he⟩,hx⟩:=zm.st
      have Sm:IntKind.i64.wrap ((j:Int)-1)=((j-1:Nat):Int):=by rw[aS (by omega)];omega
      have lj:((cg s j).1:Int)<j:=by omega
      refine jf hG (GI:=GI) (p:=9) (l2:=[9,10,11]) rfl (by kernel_rfl) (by kernel_rfl) (l:=(rC.qb.qb.qa.qb.qb.qb.qa.qa.dl).take 9) (by kernel_rfl) (by decide) (W:=λt=>decide (39<=t)) (by kernel_rfl) (C.gi dw) (λb _=>b≠bM) (mo l s bM [(5,.int .i64 ((cg s j).1:Nat)),(32,.int .i64 (s.cells.length+1)),(33,.int .i64 (j:Nat)),(6,.int .i64 (j:Nat))]) zm.size zm.defers zm.fF
       (K:=λS _=>S 42=.bool true/\S 43=.val (.func (.yield l) #[] #[])/\S 47=.agg [.int .i64 ((cg s j).1:Nat),.int .i64 ((j-1:Nat):Int)]) ?_ ?_
      .simp[c151,rC,ae.qa,ae.qb,ae.dl,mo,List.lookup,N8,Sm,bG]
      intro g S' H' a7 w7 hg R1 ⟨A8,Gg,WX⟩ aZ
      have VB:Below w5.heap.size w5 w7:=by have:=R1.below;rwa [R1.base]at this
      have SA:a7.tmps.getD 42 undef=.bool true:=by
       have:=R1.slot 42 (by decide) (λh=>h);rw[A8]at this;exact this.dU
      have vt:a7.eval (.tmp 43)=.func (.yield l) #[] #[]:=by
       have:=R1.slot 43 (by decide) (λh=>h);rw[Gg]at this;exact this.fR
      have e47:a7.eval (.tmp 47)=.agg #[.int .i64 ((cg s j).1:Nat),.int .i64 ((j-1:Nat):Int)]:=by
       have:=R1.slot 47 (by decide) (λh=>h);rw[WX]at this;exact TN this
      have uA:=zm.aV 39 (by decide) VB R1.size (by rw[R1.defers,hg];rfl) (λt ht=>aZ t (by simp;omega)) rfl;clear zm dw ox hM hm he hx M eC es clock VB R1 aZ hg A8 Gg WX Au;obtain⟨M,eC,dw,ox,hM,⟨es,clock,hm,he⟩,hx⟩:=uA.st;have Q4:=uA.size
      have Xz:a7.tmps[42]?=some (.bool true):=by
       have h2:a7.tmps[42]?=some (a7.tmps.getD 42 undef):=by simp[Q4]
       rw[h2,SA]
      obtain⟨tl,B_⟩:=v_ s (s.cells.length+1-(j+1)) (j+1);rw[show j+1+(s.cells.length+1-(j+1))=s.cells.length+1 by omega,HC]at B_
      have oF:(cI s).map bm=((cg s (s.cells.length+1)).2.map λv=>bm ((v.1:Int),(v.2:Int))):=by simp[cI,eo,cg]
      have CG:(cg s j).2.length<((cI s).map bm).length:=by
       rw[oF,B_];simp
      have Ac:((cI s).map bm)[(cg s j).2.length]=bm (((cg s j).1:Int),((j-1:Nat):Int)):=by
       have:((cI s).map bm)[(cg s j).2.length]?=some (bm (((cg s j).1:Int),((j-1:Nat):Int))):=by
        rw[oF,B_];simp
       rw[aa_ CG]at this;exact abv this
      have dQ:RD (λb j=>eC b j\/((λ_=>False) b/\j<(λ_=>0) b)) w7 ((cI s).map bm)[(cg s j).2.length] (a7.eval (.tmp 47)):=by
       rw[Ac,e47];refine .agg _ _ rfl (λi hi=>?_) (λi hi dv=>?_)
       .match i,hi with
        |0,_|1,_=>rfl
       .match i,hi with
        |0,_|1,_=>exact .int _ _
      obtain⟨ff,tmps,Mu,bd,BZ,vc⟩:=C.round CG (λ_=>False) (λ_=>0) _ dw (λb hb=>hb.elim) dQ;refine Ad rfl (by simp[Region.wanted,yielded,EB,Xz]) (by rfl) ((ni (f:=.tmp 43) (x:=.tmp 47) w7 rfl rfl rfl vt).trans BZ) vc ?_;rintro e w8 ⟨N',ZY,G3,si⟩
      have RQ:(cg s (j+1)).2.length=(cg s j).2.length+1:=by rw[HC];simp
      obtain⟨b,rfl,hT,hF⟩:∃b:Bool,e=.returned (.bool b)/\(b=true->VS C s cX bM [(5,.int .i64 ((cg s j).1:Nat)),(32,.int .i64 (s.cells.length+1)),(33,.int .i64 (j:Nat)),(6,.int .i64 (j:Nat))] (ke s i) (cg s (j+1)).2.length a7 w8)/\(b=false->∃M Pr,C.X M Pr w8):=by
       rcases si with⟨rfl,hj8⟩|⟨rfl,hX8⟩
       .refine⟨true,rfl,λ_=>?_,λh=>(by cases h)⟩
        have Fb:∀b,M b->w8.heap[b]?=w7.heap[b]?:=λb hb=>N' b hb (λh=>h)
        refine⟨uA.size,uA.defers,uA.t0,uA.t1,uA.t3,λq hq=>?_,λb=>M b/\¬(λ_=>False) b,ZY,by rw[RQ];exact hj8,λb hb=>?_,⟨hM,λh=>h⟩,⟨es,clock,(Fb bM hM).trans hm,he⟩,hx.mono G3⟩
        .obtain⟨q1,q2,q3⟩:=uA.ex q hq;exact⟨q1,q2,q3.gO q2⟩
        .have h1:=Fb b hb.1;rw[aby (ox b hb.1)]at h1;exact(abb.1 h1).1
       .exact⟨false,rfl,λh=>(by cases h),λ_=>⟨_,_,hX8⟩⟩
      refine⟨_,rfl,?_⟩;show wpOpsIn _ _ _ _ _ [10,11] (a7.put (some 48) (.bool b)) w8
      have z8:(a7.put (some 48) (.bool b)).tmps.size=54:=by rw[jC];exact Q4
      have h48:(a7.put (some 48) (.bool b)).eval (.tmp 48)=.bool b:=gz _ _ _ Q4 (by decide)
      have X4:(a7.put (some 48) (.bool b)).tmps[42]?=some (.bool true):=by
       have h2:(a7.put (some 48) (.bool b)).tmps[42]?=some ((a7.put (some 48) (.bool b)).tmps.getD 42 undef):=by simp[z8]
       rw[h2,dT _ _ _ _ (by decide),SA]
      refine I7 rfl (by simp[Region.wanted,yielded,EB,X4]) (by rfl) (G6 (x:=.tmp 48) rfl h48) ?_;show wpOpsIn _ _ _ _ _ [11] ((a7.put (some 48) (.bool b)).put (some 49) (.bool !b)) w8;have ZN:((a7.put (some 48) (.bool b)).put (some 49) (.bool !b)).eval (.tmp 49)=.bool !b:=gz _ _ _ z8 (by decide)
      have X9:((a7.put (some 48) (.bool b)).put (some 49) (.bool !b)).eval (.tmp 42)=.bool true:=by
       show Array.getD _ _ _=_;rw[dT _ _ _ _ (by decide),dT _ _ _ _ (by decide),SA]
      have z9:((a7.put (some 48) (.bool b)).put (some 49) (.bool !b)).tmps.size=54:=by rw[jC];exact z8
      have hpk:∀o:Oper,o.op=.pick (.tmp 42) (.tmp 49) (.const (.bool false))->(execOp ((a7.put (some 48) (.bool b)).put (some 49) (.bool !b)).eval o).run prog w8=.ok (.value (.bool !b)) w8:=by
       intro o ho;unfold execOp;simp[ho,X9,ZN,asBool]
      refine aT rfl rfl (by rfl) (hpk _ rfl) ?_;show Code.wpIn _ _ _ _ _ (((a7.put (some 48) (.bool b)).put (some 49) (.bool !b)).put (some 50) (.bool !b)) w8;refine abS (t:=!b) (gz _ _ _ z9 (by decide)) ?_
      cases b with
      |true=>
       simp only[Bool.not_true,abi,abw];exact acj (.inl ⟨rfl,(((hT rfl).put 48 _ (by decide) rfl).put 49 _ (by decide) rfl).put 50 _ (by decide) rfl⟩)
      |false=>
       simp only[adZ,abJ];exact acU (.inr ⟨rfl,uA.defers,hF rfl⟩)
    .rintro e a w (⟨rfl,vs⟩|⟨rfl,hd,M,eC,hX⟩)
     .show Code.wpIn _ _ _ _ _ a w
      refine vs.region hG (ac:=ae.qb rC.qb.qb.qa.qb.qb.qb) (by kernel_rfl) (by kernel_rfl) (by kernel_rfl) [(5,.int .i64 ((cg s (j+1)).1:Nat)),(32,.int .i64 (s.cells.length+1)),(33,.int .i64 (j:Nat))] rfl ?_ λa w vs=>.inl ⟨rfl,vs⟩
      have hw:IntKind.i64.wrap ((j:Int)+1)=j+1:=aS (by omega);simp[c151,rC,ae.qa,ae.qb,mo,List.lookup,hw,hf]
     .exact .inr ⟨rfl,hd,M,eC,hX⟩
  .rintro e a w (⟨rfl,vs⟩|⟨rfl,hd,M,eC,hX⟩)
   .show Code.wpIn _ _ _ _ _ a w;refine vs.region hG (ac:=ae.qb rC.qb.qb) (by kernel_rfl) (by kernel_rfl) (by kernel_rfl) [(5,.int .i64 ((cg s (j+1)).1:Nat)),(32,.int .i64 (s.cells.length+1)),(33,.int .i64 ((j+1:Nat):Int))] rfl ?_ ?_
    .have hw:IntKind.i64.wrap ((j:Int)+1)=j+1:=aS (by omega);simp[c151,rC,ae.qa,ae.qb,mo,List.lookup,hw]
    intro a5 w5 zb;have Vy:a5.tmps.getD 33 undef=.int .i64 ((j+1:Nat):Int):=zb.int (by simp);refine⟨⟨j+1,by omega,zb⟩,?_⟩;simp only[Vy,ZS];simp;omega
   .change bodyPost prog f151 (λe w'=>∃v M eC,e=Ending.returned v/\(C.J (List.map bm (cI s)).length M eC w'\/C.X M eC w')) .ret a w
    refine⟨hd,.tuple #[],?_,.tuple #[],M,eC,rfl,.inr hX⟩;simp[results,results151]
 case pos=>
  simp only[aw,adN,abJ];refine acj ?_;show Code.wpIn _ _ _ _ _ a2 w2
  have VW:i<s.cells.length:=by omega
  have Yq:my s i=s.cells[i].hid:=by unfold my;rw[aa_ VW]
  refine abf (acg ?_);obtain⟨M,Pr,hj,ox,hM,⟨es,clock,hm,he⟩,hx⟩:=vs.st
  refine jf hG (GI:=GI) (p:=9) (l2:=[9]) rfl (by kernel_rfl) (by kernel_rfl) (l:=(Ha.qb.qa.qb.dl).take 9) (by kernel_rfl) (by decide) (W:=W4) (by kernel_rfl) (C.gi hj) (λb _=>b≠bM) (mo l s bM [(4,.int .i64 (i:Nat)),(17,.bool (decide (i<p)))]) vs.size vs.defers vs.fF
   (K:=λS _=>S 20=.val (zq bM)/\S 21=.int .i64 (i:Nat)/\S 28=.bool (!my s i)/\S 4=.int .i64 (i:Nat)) ?_ ?_
  .simp[c151,Ha,ae.qa,ae.qb,ae.dl,mo,List.lookup,ai,VW,Yq,dG]
  intro g S' H' a3 w3 hg R1 ⟨Lk,wS,Hp,q4⟩ aZ
  have oN:Below w2.heap.size w2 w3:=by have:=R1.below;rwa [R1.base]at this
  have e20:a3.eval (.tmp 20)=.map (some bM):=by
   have:=R1.slot 20 (by decide) (λh=>h);rw[Lk]at this;exact this.fR
  have ZK:a3.eval (.tmp 21)=.int .i64 (i:Nat):=pN R1 (by decide) wS
  have qS:a3.eval (.tmp 28)=.bool (!my s i):=by
   have:=R1.slot 28 (by decide) (λh=>h);rw[Hp]at this;exact this.dU
  have e4:a3.tmps.getD 4 undef=.int .i64 (i:Nat):=pN R1 (by decide) q4
  have Di:VS C s cX bM [(4,.int .i64 (i:Nat))] (ke s i) 0 a3 w3:=vs.grow oN R1.size (by rw[R1.defers,hg];rfl) (λt ht=>aZ t (by simp[W4];omega)) λq hq=>by
   rw[abG]at hq;subst hq;exact⟨abg _,rfl,by rw[e4];exact .int _ _⟩
  clear vs hj ox hM hm he hx M Pr es clock oN R1 aZ hg Lk wS Hp q4;obtain⟨M,Pr,hj,ox,hM,⟨es,clock,hm,he⟩,hx⟩:=Di.st
  have RM:prog.underlying 182=some (.map 3 4):=by kernel_rfl
  have RY:prog.underlying 3=some (.int .i64):=by kernel_rfl
  refine dk rfl rfl (by rfl) (Fe (t:=182) (x1:=.tmp 20) (x2:=.tmp 21) (x3:=.tmp 28) rfl RM RY e20 ZK hm he (G5 s)) ?_;rw[qS]
  obtain⟨w4,j7⟩:∃w4,w3.putObj bM (.map (es.push { key:=.int .i64 (i:Nat),val:=.bool (!my s i),born:=clock }) (clock+1))=w4:=⟨_,rfl⟩
  show Code.wpIn _ _ _ _ _ a3 (w3.putObj bM (.map (es.push { key:=.int .i64 (i:Nat),val:=.bool (!my s i),born:=clock }) (clock+1)));rw[j7];have Yi:=ox bM hM
  have nw:w4.heap[bM]?=some (.map (es.push { key:=.int .i64 (i:Nat),val:=.bool (!my s i),born:=clock }) (clock+1)):=by rw[<-j7];exact aeM Yi
  have y7:mE M w3 w4:=by
   rw[<-j7];exact⟨rfl,rfl,rfl,by simp[World.putObj],λb _ hb=>adK (by rintro rfl;exact hb hM)⟩
  have Bu:w4.heap.size=w3.heap.size:=by rw[<-j7];simp[World.putObj]
  have Zs:VS C s cX bM [(4,.int .i64 (i:Nat))] (ke s (i+1)) 0 a3 w4:=by
   refine⟨Di.size,Di.defers,Di.t0,Di.t1,Di.t3,λq hq=>?_,M,Pr,C.df hj y7 λb hb=>⟨by rw[Bu];exact ox b hb,.inl hb⟩,λb hb=>by rw[Bu];exact ox b hb,hM,⟨_,_,nw,?_⟩,hx.mono (bf.oJ λb k _ hp=>y7.block b ?_ ?_)⟩
   .obtain⟨q1,q2,q3⟩:=Di.ex q hq;exact⟨q1,q2,q3.gO q2⟩
   .rw[EN s OX];exact he.push (i:Int) (.bool (!my s i)) clock
   .assumption
   .intro hmb;exact C.apart hj _ k hmb hp
  refine Zs.region hG (ac:=ae.qb Ha.qb) (by kernel_rfl) (by kernel_rfl) (by kernel_rfl) [(4,.int .i64 ((i+1:Nat):Int))] rfl ?_ ?_
  .have hw:IntKind.i64.wrap ((i:Int)+1)=i+1:=aS (by omega);simp[c151,Ha,ae.qa,ae.qb,mo,List.lookup,hw]
  intro a5 w5 zb;have KE:a5.tmps.getD 4 undef=.int .i64 ((i+1:Nat):Int):=zb.int (by simp);refine⟨⟨i+1,by omega,by omega,zb⟩,?_⟩;simp only[KE,h4];simp;omega
end Go.Proofs.Tryz
namespace Go.Proofs.Tryz
open Go Go.AL Go.RowKit Go.Proofs Go.Proofs.Tram
attribute [local simp] eF fO eZ ec eY eh eg dI dK eX dH dc iI iH aF aG ev aO.S aO.H bz ar aU AL.start AV.cells AV.storable AV.cb bu b_ eG ck HR.okB post cE cW cV AV.out AV.bZ cM eB fz iu AV.vw dh vI int b0 aK dq dz iF j0 fh dW bV AV.aH AV.cn
variable{GI:World->Prop}
theorem Ky(hG:au GI)(l:List Int)(hl:l.length<100000)(h:∀x∈l,0<=x/\x<=1000):AC prog GI 102 [vI l] (.ret (.int .i64 l.sum)):=by
 refine cd hG func102 ntmps102 c102 ?_;simp[c102];refine bP 8 l.length (λi S H=>S 6=vI l/\S 7=.int .i64 l.length/\S 8=.int .i64 (i:Nat)/\S 3=.int .i64 (l.take i).sum) (λi S H h=>h.2.2.1) ⟨by simp,by simp,by simp,by simp⟩ ?_;rintro i hi S H ⟨s6,s7,s8,s3⟩
 by_cases aw:i<l.length
 .have hb:=pt (l:=l.take i) λx hx=>h x (aca hx)
  have hx:=h l[i] (aba aw);rw[abT]at hb;have hw:IntKind.i64.wrap ((i:Int)+1)=i+1:=aS (by omega);have gR:IntKind.i64.wrap ((l.take i).sum+l[i])=(l.take i).sum+l[i]:=aS (by omega);rw[yZ aw];generalize(l.take i).sum=y at s3 gR⊢;simp[s6,s7,s8,s3,aw,hw,gR]
 .have cU:i=l.length:=by omega
  subst cU;rw[acf]at s3;simp[s6,s7,s8,s3]
def fm(l:List Int)(i:Nat):Int:=l.getD i 0
theorem BV(l:List Int){a b:Nat}(rJ:a<=b)(hb:b<=l.length):((l.take b).drop a).sum=jo (fm l) a b:=by
 unfold jo
 congr 1
 apply acF;intro i;rw[abH]
 by_cases hi:i<b-a
 .rw[adv,adl (by omega),aa_ (by omega),aa_ (by simpa using hi)];simp[fm,abB,show a+i<l.length by omega]
 .rw[abr (by simp;omega),abr (by simp;omega)]
  rfl
theorem KJ(hG:au GI)(s:ao):AC prog GI 90 [ba s] (.ret (.func (.func 151) [] [.ref (ai s)])):=by
 refine AC.C9 hG cH func90 rfl ntmps90 (by simp) (ac:=c90) (by kernel_rfl) ?_;simp[c90,ba,ai,af,bB,bp,aF,bb,aG,dq,ev,aO.S,aO.H,ar,aU,AL.start,AV.aH,AV.cells,AV.storable,b_,lC,bz,vI];refine⟨2,.func 151,[],[.box 1 0],rfl,by decide,by simp[ar],?_⟩;simp[ar,fz,iu,AV.cn]
def J1:ae:=.ops [⟨(some 6),none,.alloc 26 [(.int .i64 0),(.int .i64 0)]⟩,⟨none,none,.store .any 2 (.t 6) (.t 11)⟩]
def KC : ae := .block 1 <| .seq (.ops [⟨(some 12), none, .load .any false 1 (.t 3)⟩,
    ⟨(some 13),none,.fieldAddr 0 (.t 6)⟩,
    ⟨(some 14),none,.load .any false 1 (.t 13)⟩,
    ⟨(some 15),none,.fieldAddr 1 (.t 6)⟩,
    ⟨(some 16),none,.load .any false 1 (.t 15)⟩,
    ⟨(some 17),none,.bin .add (.t 16) (.c (.int .i64 1))⟩,
    ⟨(some 18),none,.mY 1 (.t 12) (some (.t 14)) (some (.t 17))⟩,
    ⟨(some 19),none,.call 102 [(.t 18)]⟩,
    ⟨(some 7),none,.mv true (.t 19)⟩])<|
  .block 2<|.loop<|
   .seq (.seq (.ops [⟨(some 20),none,.load .any false 1 (.t 5)⟩,
     ⟨(some 21),none,.fieldAddr 15 (.t 2)⟩,
     ⟨(some 22),none,.load .any false 1 (.t 21)⟩,
     ⟨(some 23),none,.lV (.t 22)⟩,
     ⟨(some 24),none,.bin .lss (.t 20) (.t 23)⟩,
     ⟨(some 25),none,.mv false (.t 24)⟩,
     ⟨(some 26),(some (25,true)),.fieldAddr 15 (.t 2)⟩,
     ⟨(some 27),(some (25,true)),.load .any false 1 (.t 26)⟩,
     ⟨(some 28),(some (25,true)),.load .any false 1 (.t 5)⟩,
     ⟨(some 29),(some (25,true)),.indexAddr 1 (.t 27) (.t 28)⟩,
     ⟨(some 30),(some (25,true)),.load .any false 1 (.t 29)⟩,
     ⟨(some 31),(some (25,true)),.mv false (.t 7)⟩,
     ⟨(some 32),(some (25,true)),.bin .leq (.t 30) (.t 31)⟩,
     ⟨(some 33),none,.pick (.t 25) (.t 32) (.c (.bool false))⟩])<|
   .cond (.t 33)
    (.skip)
    (.exit 2))<|
   .block 3 <| .seq (.ops [⟨(some 34),none,.mv false (.t 7)⟩,
      ⟨(some 35),none,.fieldAddr 15 (.t 2)⟩,
      ⟨(some 36),none,.load .any false 1 (.t 35)⟩,
      ⟨(some 37),none,.load .any false 1 (.t 5)⟩,
      ⟨(some 38),none,.indexAddr 1 (.t 36) (.t 37)⟩,
      ⟨(some 39),none,.load .any false 1 (.t 38)⟩,
      ⟨(some 40),none,.bin .sub (.t 34) (.t 39)⟩,
      ⟨(some 7),none,.mv true (.t 40)⟩])<|
    .ops [⟨(some 41),none,.load .any false 1 (.t 5)⟩,
      ⟨(some 42),none,.bin .add (.t 41) (.c (.int .i64 1))⟩,
      ⟨none,none,.store .any 1 (.t 5) (.t 42)⟩]
def Fj:ae :=
   .seq (.seq (.ops [⟨(some 20),none,.load .any false 1 (.t 5)⟩,
     ⟨(some 21),none,.fieldAddr 15 (.t 2)⟩,
     ⟨(some 22),none,.load .any false 1 (.t 21)⟩,
     ⟨(some 23),none,.lV (.t 22)⟩,
     ⟨(some 24),none,.bin .lss (.t 20) (.t 23)⟩,
     ⟨(some 25),none,.mv false (.t 24)⟩,
     ⟨(some 26),(some (25,true)),.fieldAddr 15 (.t 2)⟩,
     ⟨(some 27),(some (25,true)),.load .any false 1 (.t 26)⟩,
     ⟨(some 28),(some (25,true)),.load .any false 1 (.t 5)⟩,
     ⟨(some 29),(some (25,true)),.indexAddr 1 (.t 27) (.t 28)⟩,
     ⟨(some 30),(some (25,true)),.load .any false 1 (.t 29)⟩,
     ⟨(some 31),(some (25,true)),.mv false (.t 7)⟩,
     ⟨(some 32),(some (25,true)),.bin .leq (.t 30) (.t 31)⟩,
     ⟨(some 33),none,.pick (.t 25) (.t 32) (.c (.bool false))⟩])<|
   .cond (.t 33)
    (.skip)
    (.exit 2))<|
   .block 3 <| .seq (.ops [⟨(some 34),none,.mv false (.t 7)⟩,
      ⟨(some 35),none,.fieldAddr 15 (.t 2)⟩,
      ⟨(some 36),none,.load .any false 1 (.t 35)⟩,
      ⟨(some 37),none,.load .any false 1 (.t 5)⟩,
      ⟨(some 38),none,.indexAddr 1 (.t 36) (.t 37)⟩,
      ⟨(some 39),none,.load .any false 1 (.t 38)⟩,
      ⟨(some 40),none,.bin .sub (.t 34) (.t 39)⟩,
      ⟨(some 7),none,.mv true (.t 40)⟩])<|
    .ops [⟨(some 41),none,.load .any false 1 (.t 5)⟩,
      ⟨(some 42),none,.bin .add (.t 41) (.c (.int .i64 1))⟩,
      ⟨none,none,.store .any 1 (.t 5) (.t 42)⟩]
theorem N2 {s:ao} {ah:List Int} {n n9:Nat} {T:Int} (hn:∀ x∈ah,0≤x∧x≤1000) (MT:ah.length≤1000) (Kt:n≤ah.length) (hT:0≤T∧T≤100000) (yK:(cK (ah.drop n) T).1=n9) {S:an} {H:av} {x3:AV} {Q:de→an→av→Prop}
  (s2:S 2=.box 2 0) (h2:H 2=some (aY s ah)) (h3:H 3=some [x3]) (s5:S 5=.box 5 0) (h5:H 5=some [.int .i64 (n:Nat)]) (s7:S 7=.int .i64 T)
  (hQ:∀S H,H 2=some (aY s ah)->H 3=some [x3]->H 5=some [.int .i64 ((n+n9:Nat):Int)]->Q (.exit 2) S H):bB prog GI (.loop Fj) Q S H:=by
 have B_:n9<=ah.length-n:=by rw[<-yK];have:=pO (ah.drop n) T;simpa using this
 refine⟨λS H=>∃m:Nat,m<=n9/\S 2=.box 2 0/\H 2=some (aY s ah)/\H 3=some [x3]/\S 5=.box 5 0/\H 5=some [.int .i64 ((n+m:Nat):Int)]/\S 7=.int .i64 (T-((ah.drop n).take m).sum)/\T-((ah.drop n).take m).sum<=T/\0<=T-((ah.drop n).take m).sum,
  λS H=>match H 5 with|some [.int _ j]=>(ah.length-j).toNat|_=>0,⟨0,abZ _,s2,h2,h3,s5,h5,by simpa using s7,by simp,by simpa using hT.1⟩,?_⟩
 clear h5 h3 h2 s2 s5 s7 S H;rintro S H ⟨m,hm,s2,h2,h3,s5,h5,s7,sy,iM⟩;have jR:=qE (ah.drop n) T m (by omega);rw[ado]at jR
 have FY:n9=m+(cK (ah.drop (n+m)) (T-((ah.drop n).take m).sum)).1:=by
  rw[<-yK,jR]
 obtain⟨left,TB⟩:∃left,T-((ah.drop n).take m).sum=left:=⟨_,rfl⟩
 rw[TB]at FY s7 sy iM
 have QO:H 5=some [.int .i64 ((n:Int)+m)]:=by rw[h5];simp
 by_cases D3:n+m<ah.length
 case neg=>
  have Nk:(cK (ah.drop (n+m)) left).1=0:=by
   have:=pO (ah.drop (n+m)) left;simp at this;omega
  have Hr:¬((n:Int)+m<ah.length):=by omega
  have QL:n9=m:=by omega
  subst QL;have hq:=hQ;simp[Fj,aY,ai,af,s2,h2,h3,s5,h5,s7,D3,Hr];refine hq _ _ ?_ ?_ ?_
  .rw[h2]
  .rw[h3]
  .rw[h5]
 have hd:ah.drop (n+m)=ah[n+m]::ah.drop (n+m+1):=acM D3;have hx:=hn ah[n+m] (aba D3)
 have Hr:(n:Int)+m<ah.length:=by omega
 have yQ:(0:Int)<=(n:Int)+m:=by omega
 have Jq:((n:Int)+m).toNat=n+m:=by omega
 by_cases hle:ah[n+m]<=left
 case neg=>
  have Nk:(cK (ah.drop (n+m)) left).1=0:=by rw[hd,cK,if_neg hle]
  have QL:n9=m:=by omega
  subst QL;simp[Fj,aY,ai,af,s2,h2,h3,s5,h5,s7,D3,Hr,yQ,Jq,hle];refine hQ _ _ ?_ ?_ ?_
  .rw[h2]
  .rw[h3]
  .rw[h5]
 case pos=>
  have Sx:m+1<=n9:=by rw[hd,cK,if_pos hle]at FY;omega
  have lq:IntKind.i64.wrap (left-ah[n+m])=left-ah[n+m]:=aS (by omega);have gR:IntKind.i64.wrap ((n:Int)+m+1)=n+m+1:=aS (by omega)
  have T7:T-((ah.drop n).take (m+1)).sum=left-ah[n+m]:=by
   rw[abo (by simp;omega),acA];simp;omega
  simp[Fj,aY,ai,af,s2,h2,h3,s5,h5,s7,D3,Hr,yQ,Jq,hle,lq,gR];refine⟨⟨m+1,Sx,by omega,by rw[T7],by omega,by omega⟩,by omega⟩
def nT(s:ao)(ah bq:List Int)(k:Nat):Nat:=eu ah (fm bq) ((eo (dP s) s.cells.length).take k)
theorem IT (hG:au GI) (s:ao) (h:eD s) (ah:List Int) (hn:∀ x∈ah,0≤x∧x≤1000) (MT:ah.length≤1000) (bq:List Int) (hr:bq.length=s.cells.length) (rX:∀ x∈bq,0≤x∧x≤1000) :
  AC prog GI 92 [cm s ah,vI bq] (.ret (.int .i64 (eu ah (fm bq) (eo (dP s) s.cells.length)))):=by
 have rK:=h.cells
 refine AC.ib func92 rfl ntmps92 (by simp) λcc w=>?_
 refine dO hG c92.qa (λS' H'=>S' 2=.box 2 0/\H' 2=some (aY s ah)/\S' 3=.box 3 0/\H' 3=some [vI bq]) ?_ ?_
 .simp[c92,ae.qa,cm,aY,ai,af]
 rintro S1 H1 ⟨s2,h2,s3,h3⟩;refine dO hG c92.qb.qa (λS' H'=>S' 2=.box 2 0/\H' 2=some (aY s ah)/\S' 3=.box 3 0/\H' 3=some [vI bq]/\S' 5=.box 5 0/\H' 5=some [.int .i64 0]) ?_ ?_
 .simp[c92,ae.qa,ae.qb,aY,ai,af,s2,h2,s3,h3]
  try rfl
 clear s2 h2 s3 h3;rintro S2 H2 ⟨s2,h2,s3,h3,s5,h5⟩;refine SW.seq (dO hG c92.qb.qb.qa.qa (λS' H'=>S' 2=.box 2 0/\H' 2=some (aY s ah)/\S' 3=.box 3 0/\H' 3=some [vI bq]/\S' 5=.box 5 0/\H' 5=some [.int .i64 0]/\S' 10=.func (.func 151) [] [.ref (ai s)]) ?_ ?_)
 .simp[c92,ae.qa,ae.qb,aY,ai,af,s2,h2,s3,h3,s5,h5];refine oc (KJ hG s) ?_;simp[s2,h2,s3,h3,s5,h5,aY,ai,af]
  try rfl
 clear s2 h2 s3 h3 s5 h5;rintro S3 H3 ⟨s2,h2,s3,h3,s5,h5,bK⟩
 have xO:ql (λd=>d==6) (S3 2)=.box 2 0:=by rw[s2];rfl
 have Xo:ql (λd=>d==6) (S3 3)=.box 3 0:=by rw[s3];rfl
 have mm:ql (λd=>d==6) (S3 5)=.box 5 0:=by rw[s5];rfl
 refine SW.block (SW.range hG cH (LO:=.tmp 10) (y:=.t 10) (p:=11) (f:=151) (caps:=[.ref (ai s)]) (xs:=(cI s).map bm) rfl bK (by kernel_rfl) rfl (EJ hG s h) (by decide) (λx hx=>by obtain⟨e,_,rfl⟩:=abz.1 hx;rfl)
  (λd=>d==6) (aa:=J1) (ab:=KC) (by kernel_rfl) (by kernel_rfl) (by simp[J1,ae.names,cq.jy,fj.jy]) (by simp[KC,ae.names,cq.jy,fj.jy]) (λ_ _ h=>h) (by kernel_rfl) (by kernel_rfl)
  (λk H'=>H' 2=some (aY s ah)/\H' 3=some [vI bq]/\H' 5=some [.int .i64 (nT s ah bq k:Nat)]) (λ_ _=>False) ⟨h2,h3,by rw[h5];rfl⟩ ?_ ?_ ?_)
 .rintro k hk H' ⟨h2,h3,h5⟩
  have fo:k<(eo (dP s) s.cells.length).length:=by simpa[cI]using hk
  obtain⟨f,t,QZ⟩:∃f t,(eo (dP s) s.cells.length)[k]=(f,t):=⟨_,_,rfl⟩
  have Ac:((cI s).map bm)[k]=.agg [.int .i64 (f:Nat),.int .i64 (t:Nat)]:=by simp[cI,QZ,bm]
  have ju:dP s s.cells.length=false:=by
   have:=h.pos;unfold dP
   have:¬s.cells.length<s.pos.toNat:=by omega
   simp[this]
  have cJ:=(yY ju).1 (f,t) (by rw[<-QZ];exact aba fo);simp only at cJ;obtain⟨aaW,aaL⟩:=cJ;have hw:IntKind.i64.wrap ((t:Int)+1)=t+1:=aS (by omega);have tD:=BV bq (a:=f) (b:=t+1) (by omega) (by omega);have eR:=Ky hG ((bq.take (t+1)).drop f) (by simp;omega) (λx hx=>rX x (aca (acX hx)));have X5:=pt (l:=(bq.take (t+1)).drop f) (λx hx=>rX x (aca (acX hx)))
  have hTl:((bq.take (t+1)).drop f).length<=12:=by simp;omega
  have jd:nT s ah bq (k+1)=nT s ah bq k+(cK (ah.drop (nT s ah bq k)) (jo (fm bq) f (t+1))).1:=by
   unfold nT;rw[abo fo,QZ,mL]
  rw[<-tD]at jd;have Kt:nT s ah bq k<=ah.length:=rq _ _ _;rw[Ac];generalize hTT:((bq.take (t+1)).drop f).sum=T at eR X5 jd;generalize nT s ah bq k=n at jd Kt h5
  have i1:((t:Int)+1).toNat=t+1:=by omega
  have i2:t+1<=bq.length:=by omega
  have i3:f<=t+1:=by omega
  have j1:(f:Int)<=(t:Int)+1:=by omega
  have j2:(t:Int)+1<=bq.length:=by omega
  have GM:List.drop f (List.take (t+1) (ints bq))=ints (List.drop f (List.take (t+1) bq)):=by simp[ints,aeN,adH]
  have gq:aM 1 (ints bq)=true:=lY _;simp[J1,KC,aY,ai,af,xO,h2,Xo,h3,mm,h5,hw,i1,i2,i3,j1,j2,bound,GM,gq];refine oc eR ?_;simp[aY,ai,af,xO,h2,Xo,h3,mm,h5]
  obtain⟨n9,yK⟩:∃n9,(cK (ah.drop n) T).1=n9:=⟨_,rfl⟩
  rw[yK]at jd
  have B_:n9<=ah.length-n:=by rw[<-yK];have:=pO (ah.drop n) T;simpa using this
  refine N2 (s:=s) (x3:=vI bq) hn MT Kt ⟨X5.1,by omega⟩ yK (by simp[xO]) (by simp[ar,h2]) (by simp[ar,h3]) (by simp[mm]) (by simp[ar,h5]) (by simp[ar]) ?_;intro S H q2 q3 q5;simp only[dz,abJ,pT];refine⟨?_,?_,?_⟩
  .rw[q2];rfl
  .rw[q3];rfl
  .rw[q5,jd]
 .rintro D H' hD ⟨h2,h3,h5⟩;show SW prog GI 44 none (.seq _ .ret) _ _ _ _
  have lT:nT s ah bq ((cI s).map bm).length=eu ah (fm bq) (eo (dP s) s.cells.length):=by
   unfold nT;rw[abp (by simp[cI])]
  rw[lT]at h5;refine dO hG c92.qb.qb.qb.qa (λS' _=>S' 4=.int .i64 (eu ah (fm bq) (eo (dP s) s.cells.length))) ?_ ?_
  .simp[c92,ae.qa,ae.qb,mm,h5]
  intro S4 H4 s4;refine SW.ret ⟨(dZ.plain rfl).mark hD,rfl,_,?_,rfl⟩;show cE prog 44 [.tmp 4] S4 H4=_;simp[cE,cW,cV,s4,AV.bZ,AV.out]
  try rfl
 .exact λ_ _ _ _ _ h=>h.elim
def zt(l:List End):AV:=.slice (if l.isEmpty then .nil else .own 26) (l.map bm)
def lJ(l:List End):AV:=.slice (if l.isEmpty then .nil else .view) (l.map bm)
def AW(s:ao):AV:=.func (.func 151) [] [.ref (ai s)]
noncomputable def Ah:ae:=.ops [⟨some 5,none,.alloc 26 [(.int .i64 0),(.int .i64 0)]⟩,⟨none,none,.store .any 2 (.t 5) (.t 7)⟩]
noncomputable def AF:ae:=.block 1<|.ops [⟨some 8,none,.loadT .any (.t 2)⟩,⟨some 9,none,.load .any true 2 (.t 5)⟩,⟨some 10,none,.buildSlice 48 26 2 [.t 9]⟩,⟨some 11,none,.append 48 26 2 16 (.t 8) (.t 10)⟩,⟨none,none,.store .any 1 (.t 2) (.t 11)⟩]
theorem TO (hG:au GI) (s:ao) {ps:List End} (hlen:ps.length≤1000000) (hit:tg prog GI 151 [.ref (ai s)] (ps.map bm)) :
  AC prog GI 150 [.slice .nil [],AW s] (.ret (lJ ps)):=by
 refine AC.ib func150 rfl ntmps150 (by simp) λcc w=>?_
 refine dO hG c150.qa (λS' H'=>S' 1=AW s/\S' 2=.box 2 0/\H' 2=some [.slice .nil []]) ?_ ?_
 .simp[c150,AW,ae.qa,bB,bp,aF,bb,aG,ev,aO.S,aO.H,ar,aU,AL.start,AV.aH,AV.cells,AV.storable,b_,lC,bz,vI,bm,aK]
 rintro S1 H1 ⟨s1,s2,h2⟩;refine SW.seq (dO hG c150.qb.qa.qa (λS' H'=>S' 2=.box 2 0/\S' 6=AW s/\H' 2=some [.slice .nil []]) ?_ ?_)
 .simp[c150,AW,ae.qa,ae.qb,bB,bp,aF,bb,aG,ev,aO.S,aO.H,ar,aU,s2,h2,aK,AV.aH]
  rw[s1]<;>rfl
 rintro S3 H3 ⟨s2,s6,h2⟩
 refine SW.block (SW.range hG cH (LO:=.tmp 6) (y:=.t 6) (p:=7) (f:=151) (caps:=[.ref (ai s)]) (xs:=ps.map bm) rfl s6 (by kernel_rfl) rfl hit (by decide) (λx hx=>by obtain⟨e,_,rfl⟩:=abz.1 hx;rfl)
  (λd=>d==5) (aa:=Ah) (ab:=AF)
  (by kernel_rfl) (by kernel_rfl) (by simp[Ah,ae.names,cq.jy,fj.jy]) (by simp[AF,ae.names,cq.jy,fj.jy]) (λ_ _ h=>h) (by kernel_rfl) (by kernel_rfl)
  (λk H'=>H' 2=some [zt (ps.take k)]) (λ_ _=>False) h2 ?_ ?_ ?_)
 .rintro k hk H' h2
  have fo:k<ps.length:=by simpa using hk
  have Ac:(ps.map bm)[k]=bm ps[k]:=by simp
  have lT:ps.take (k+1)=ps.take k++[ps[k]]:=by rw[abo fo]
  have xO:ql (λd=>d==5) (S3 2)=.box 2 0:=by rw[s2]<;>rfl
  rw[Ac,lT]
  have hL:(List.take k ps).length<=1000000:=by simp;omega
  generalize List.take k ps=L at hL h2⊢
  cases L with
  |nil=>simp[Ah,AF,xO,h2,bm,pT,zt,aM,HR.okB,bu]
  |cons x L=>
   have qQ:L.length+1+1<1048576:=by simp at hL;omega
   have cJ:aM 2 (bm x::L.map bm)=true:=by simp[aM,vI,bm,AV.storable,AV.cells]
   simp[Ah,AF,xO,h2,bm,pT,zt,aM,HR.okB,bu,qQ]
 .rintro D H' hD h2;show SW prog GI 13 none (.seq _ .ret) _ _ _ _
  have xO:ql (λd=>d==5) (S3 2)=.box 2 0:=by rw[s2]<;>rfl
  have lT:List.take (ps.map bm).length ps=ps:=abp (by simp);rw[lT]at h2;refine dO hG c150.qb.qb.qa (λS' _=>S' 4=lJ ps) ?_ ?_
  .cases ps<;>simp[c150,ae.qa,ae.qb,bB,bp,aF,bb,aG,ev,aO.S,aO.H,ar,aU,ck,xO,h2,HR.okB,aK,zt,lJ,AV.aH,bz]
  intro S4 H4 s4;refine SW.ret ⟨(dZ.plain rfl).mark hD,rfl,_,?_,rfl⟩;show cE prog 13 [.tmp 4] S4 H4=_;simp[cE,cW,cV,s4,lJ,AV.bZ,AV.out]
 .exact λ_ _ _ _ _ h=>h.elim
theorem OP(hG:au GI)(s:ao){ps:List End}(hlen:ps.length<=1000000)(hit:tg prog GI 151 [.ref (ai s)] (ps.map bm)):AC prog GI 89 [AW s] (.ret (lJ ps)):=by
 refine AC.ib func89 rfl ntmps89 (by simp) λcc w=>?_
 refine dO hG c89.qa (λS' H'=>S' 0=AW s) ?_ ?_
 .simp[c89,AW,ae.qa,bB,bp,aF,bb,aG,ev,aO.S,aO.H,ar,aU,AL.start,AV.aH,aK,bz]
 intro S1 H1 s0
 refine SW.seq (SW.hand hG (p:=1) (lm:=[1]) (l2:=[2]) (jU:=[_]) (oh:=[_]) (ll:=[_]) rfl rfl rfl rfl (by kernel_rfl) (λ_ h=>h)
  (lR:=(c89.qb.qa.dl).take 1) (kK:=(c89.qb.qa.dl).drop 2) (by kernel_rfl) (by kernel_rfl) (by kernel_rfl) (by kernel_rfl)
  (K1:=λS _=>S 3=AW s) (K2:=λo S _=>o=Old.plain cc w/\S 4=lJ ps) (K3:=λo S _=>o=Old.plain cc w/\S 2=lJ ps) ?_ ?_ ?_ ?_)
 .simp[c89,ae.qa,ae.qb,ae.dl,bp,aF,bb,aG,aO.S,aO.H,ev,ar,aU]
  rw[s0]<;>rfl
 .rintro w0 g S2 H2 a w' m cD ho R s3;have r3:=R.slot 3 (by decide) id;rw[s3]at r3
  refine fg rfl rfl (by rfl) (fT (k:=150) (args:=#[.slice none 0 0,a.tmps.getD 3 undef]) w' rfl rfl ?_ (by kernel_rfl)) (TO hG s hlen hit w' (eT g false) #[.slice none 0 0,a.tmps.getD 3 undef] (hG w0 w' cD (by have:=R.below;rwa [R.base]at this)) rfl (λi h h'=>by
   match i,h with
   |0,_=>exact .data _ _ (.jI _)
   |1,_=>exact(r3.bT rfl).mono (bf.same λb k _ hp=>.inl hp) λ_ _ h=>h)) ?_
  .simp only[abI,abA,abL,Act.eval]
  rintro e w2 ⟨iM,hi,qn,c,rfl,DT,dn⟩;refine⟨_,rfl,?_⟩;obtain⟨g',q1,q2,R'⟩:=R.call (some 4) (λt ht=>by cases ht;exact⟨by decide,id⟩) false iM qn DT dn (λh=>by cases h);exact⟨g',_,_,R',q2.trans ho,aN _ _ _⟩
 .rintro o S2 H2 ⟨rfl,s4⟩;refine⟨λ_ h=>h,?_⟩
  cases ps<;>simp[c89,ae.qa,ae.qb,ae.dl,bp,aF,bb,aG,aO.S,aO.H,ev,ar,aU,s4,lJ,bz]
 .rintro o S2 H2 ⟨rfl,s2⟩;refine SW.ret ⟨dZ.plain rfl,rfl,_,?_,rfl⟩;show cE prog 5 [.tmp 2] S2 H2=_;simp[cE,cW,cV,s2,lJ,AV.bZ,AV.out]
theorem vG(s:ao):∀i,(cg s i).2.length<=i
 |0=>abg _
 |i+1=>by
  have ih:=vG s i;rw[kB];unfold db;split
  .omega
  .simp only;split
   .simp;omega
   .omega
theorem uo(s:ao):(cI s).length<=s.cells.length+1:=by
 have:=vG s (s.cells.length+1);simpa[cI,eo,cg]using this
def w_(s:ao):List AV:=if ct s then[.slice .view (aJ (cI s)),.int .i64 0]else[.slice .view [],.int .i64 2]
theorem Uc(hG:au GI)(s:ao)(hs:er s):AC prog GI 27 [ba s] (.ret (.dE (w_ s))):=by
 have kW:=ov hG s hs;unfold w_
 cases hI:ct s with
 |false=>
  rw[hI]at kW;refine cd hG func27 ntmps27 c27 ?_;simp[c27,ba,ai,af];refine oc kW ?_;simp
 |true=>
  rw[hI]at kW;have hg:=ee hI;have BQ:=KJ hG s;have nL:=OP hG s (ps:=cI s) (by have:=uo s;have:=hg.cells;omega) (EJ hG s hg);have nL:=AC.nj (o:=if(cI s).isEmpty then .nil else .view) nL;refine cd hG func27 ntmps27 c27 ?_;simp[c27,ba,ai,af];refine oc kW ?_;simp;refine oc BQ ?_;simp;refine⟨_,by kernel_rfl,nL,by simp[dh,qk],?_⟩;simp[aJ]
theorem Ti(hG:au GI)(a b:End):AC prog GI 106 [bm a,bm b] (.ret (.bool (decide (a.2<b.2)))):=by
 refine cd hG func106 ntmps106 c106 ?_;simp[c106,bm]
def iQ(x:End)(l:List End):End:=l.foldl (λo y=>if y.2<o.2 then y else o) x
theorem zp(x:End)(l:List End){i:Nat}(h:i<l.length):iQ x (l.take (i+1))=if l[i].2<(iQ x (l.take i)).2 then l[i]else iQ x (l.take i):=by
 unfold iQ;rw[adp,aa_ h,abW]
 rfl
theorem Td(hG:au GI)(x:End)(l:List End)(hl:l.length<1000000):AC prog GI 105 [.slice .view (aJ (x::l)),.func (.func 106) [] []] (.ret (bm (iQ x l))):=by
 obtain⟨iT,Nz,Oi⟩:=bo (P:=prog) (t:=132) (s:=2) (by kernel_rfl);obtain⟨fs,fe⟩:=bU (P:=prog) (t:=132) (by kernel_rfl);have cJ:aM 2 (aJ (x::l))=true:=pk (x::l);refine cd hG func105 ntmps105 c105 ?_;refine aI (λS H=>S 0=.slice .view (aJ (x::l))/\S 1=.func (.func 106) [] []/\S 4=.box 4 0/\H 4=some [.int .i64 0,.int .i64 0]) (by simp) ?_;rintro S H ⟨s0,s1,s4,h4⟩;refine aI (λS H=>S 0=.slice .view (aJ (x::l))/\S 1=.func (.func 106) [] []/\S 4=.box 4 0/\H 4=some [.int .i64 0,.int .i64 0]/\S 5=.box 5 0/\H 5=some [.int .i64 x.1,.int .i64 x.2]) (by simp[s0,s1,s4,h4,aJ,bm,bG]) ?_;clear s0 s1 s4 h4 S H;rintro S H ⟨s0,s1,s4,h4,s5,h5⟩
 have hd:(aJ (x::l)).drop 1=aJ l:=by simp[aJ]
 have hlen:(aJ (x::l)).length=l.length+1:=by simp[aJ]
 have CO:(1:Int)<=(l.length:Int)+1:=by omega
 have lT:List.take (l.length+1) (aJ (x::l))=aJ (x::l):=abp (by omega);generalize aJ (x::l)=L at s0 hd hlen lT cJ
 have Q7:((l.length:Int)+1).toNat=l.length+1:=by omega
 simp[bound,s0,s1,s4,h4,s5,h5,hd,hlen,CO,lT,cJ,Q7];refine bP 14 l.length (λi S H=>S 1=.func (.func 106) [] []/\S 4=.box 4 0/\H 4=some [.int .i64 0,.int .i64 0]/\S 5=.box 5 0/\H 5=some [.int .i64 (iQ x (l.take i)).1,.int .i64 (iQ x (l.take i)).2]/\S 12=.slice .view (aJ l)/\S 13=.int .i64 l.length/\S 14=.int .i64 (i:Nat)) (λi S H h=>h.2.2.2.2.2.2.2) ⟨by simp[s1],by simp[s4],by simp[h4],by simp[s5],by simp[h5,iQ],by simp,by simp[aJ],by simp⟩ ?_;clear s0 s1 s4 h4 s5 h5 S H;rintro i hi S H ⟨s1,s4,h4,s5,h5,bC,bW,cN⟩
 by_cases aw:i<l.length
 .have hw:IntKind.i64.wrap ((i:Int)+1)=i+1:=aS (by omega)
  have hn:¬(i:Int)<0:=by omega
  have hs:=zp x l aw;have O_:=Ti hG l[i] (iQ x (l.take i))
  generalize iQ x (l.take i)=o at*
  by_cases hc:l[i].2<o.2
  .rw[if_pos hc]at hs;rw[hs];simp[s1,s4,h4,s5,h5,bC,bW,cN,aw,hn,aJ,bm,bG];refine oc O_ ?_;simp[s1,s4,h4,s5,h5,bC,bW,cN,hc,hw,aJ,bm]
  .rw[if_neg hc]at hs;rw[hs]
   have uX:o.2<=l[i].2:=by omega
   simp[s1,s4,h4,s5,h5,bC,bW,cN,aw,hn,aJ,bm,bG];refine oc O_ ?_;simp[s1,s4,h4,s5,h5,bC,bW,cN,hc,uX,hw,aJ,bm]
 .have cU:i=l.length:=by omega
  subst cU;rw[acf]at h5;simp[s1,s4,h4,s5,h5,bC,bW,cN,Nz,Oi,fe,eQ,bm]
theorem GF{a:Act}{w:World}{o:Oper}{x:Operand}{t ty:TypeId}{n:Nat}(ho:o.op=.binOp .shr t x (.const (.int .u64 1)) ty)(hx:a.eval x=.int .u64 (n:Nat)):(execOp a.eval o).run prog w=.ok (.value (.int .u64 ((n/2:Nat):Int))) w:=by
 unfold execOp;have hc:a.eval (.const (.int .u64 1))=.int .u64 1:=rfl
 have hf:((n:Int)).fdiv 2=((n/2:Nat):Int):=by
  rw[Int.fdiv_eq_ediv_of_nonneg _ (by decide)];omega
 simp[ho,hx,hc,Go.binOp,Op.shift,eqGuard,IntKind.bits,hf]
theorem Kn{x:Int}(h:0<=x/\x<1000000000):IntKind.u64.wrap x=x:=by
 unfold IntKind.wrap;simp[IntKind.bits,IntKind.signed];omega
noncomputable def kY:ae:=ae.qb c103.qb.qb.qa.qb
theorem RX (hG:au GI) {n:Nat} (hn:n < 100000) (k:Nat) (u v x:List AV) (hk:dL prog k=true) {p:Nat→Bool} (hm:∀ x y,x≤y→p x=true→p y=true) (h:∀ y:Nat,y < n→AC prog GI k [.int .i64 (y:Nat),.ref u,.ref v,.ref x] (.ret (.bool (p y)))) {m:Nat} (hl:kG p n m) :
  AC prog GI 103 [.int .i64 (n:Nat),.func (.func k) [] [.ref u,.ref v,.ref x]] (.ret (.int .i64 (m:Nat))):=by
 refine AC.ib func103 rfl ntmps103 (by simp) λcc w=>?_
 refine dO hG c103.qa (λS H=>S 0=.int .i64 (n:Nat)/\S 1=.func (.func k) [] [.ref u,.ref v,.ref x]) ?_ ?_
 .simp[c103,ae.qa]
 rintro S1 H1 ⟨s0,s1⟩;refine dO hG c103.qb.qa (λS H=>S 1=.func (.func k) [] [.ref u,.ref v,.ref x]/\S 5=.int .i64 ((0:Nat):Int)/\S 6=.int .i64 (n:Nat)) ?_ ?_
 .simp[c103,ae.qa,ae.qb,s0,s1]
 clear s0 s1;rintro S2 H2 ⟨s1,s5,s6⟩;show SW prog GI 26 none (.seq (.block 0 (.loop _)) (.seq _ .ret)) _ _ _ _;refine SW.seq (SW.block (SW.loop (λo S H=>∃i j:Nat,o=Old.plain cc w/\i<=j/\j<=n/\(∀y,y<i->p y=false)/\(∀y,j<=y->y<n->p y=true)/\S 1=.func (.func k) [] [.ref u,.ref v,.ref x]/\S 5=.int .i64 (i:Nat)/\S 6=.int .i64 (j:Nat)) (λS _=>match S 5,S 6 with|.int _ i,.int _ j=>(j-i).toNat|_,_=>0) ⟨0,n,rfl,abZ _,abg _,λy hy=>absurd hy (by omega),λy h1 h2=>absurd h1 (by omega),s1,s5,s6⟩ ?_));clear s1 s5 s6;rintro o S3 H3 ⟨i,j,rfl,oy,A_,vR,Dg,s1,s5,s6⟩;have m5:=s5;have m6:=s6;show SW prog GI 26 none (.seq (.seq _ (.cond _ _ _)) (.block 1 (.seq _ (.seq _ (.cond _ _ _))))) _ _ _ _;refine SW.seq (dO hG kY.qa.qa (λS H=>S 1=.func (.func k) [] [.ref u,.ref v,.ref x]/\S 5=.int .i64 (i:Nat)/\S 6=.int .i64 (j:Nat)/\S 11=.bool (decide (i<j))) ?_ ?_)
 .simp[c103,kY,ae.qa,ae.qb,s1,s5,s6]
 clear s1 s5 s6;rintro S4 H4 ⟨s1,s5,s6,br⟩
 by_cases aw:i<j
 case neg=>
  refine SW.cond rfl false (by show S4 11=_;rw[br];simp[aw]) (SW.exit ?_)
  have gp:i=j:=by omega
  subst gp;have ZZ:i=m:=kG.unique (k:=n) (p:=p) ⟨A_,vR,λh=>Dg i (abg _) h⟩ hl;subst ZZ;show SW prog GI 26 none (.seq _ .ret) _ _ _ _;refine dO hG c103.qb.qb.qb.qa (λS H=>S 4=.int .i64 (i:Nat)) ?_ ?_
  .simp[c103,ae.qa,ae.qb,s5]
  intro S5 H5 s4;refine SW.ret ⟨dZ.plain rfl,rfl,_,?_,rfl⟩;show cE prog 26 [.tmp 4] S5 H5=_;simp[cE,cW,cV,s4,AV.bZ,AV.out]
 refine SW.cond rfl true (by show S4 11=_;rw[br];simp[aw]) (SW.skip ?_);show SW prog GI 26 none (.block 1 (.seq _ (.seq _ (.cond _ _ _)))) _ _ _ _;obtain⟨g1,g2,g3⟩:=Nn hm aw vR
 obtain⟨q,hq⟩:∃q,(i+j)/2=q:=⟨_,rfl⟩
 rw[hq]at g1 g2 g3
 have lq:IntKind.i64.wrap ((i:Int)+j)=((i+j:Nat):Int):=by rw[aS (by omega)];omega
 have gR:IntKind.u64.wrap ((i+j:Nat):Int)=((i+j:Nat):Int):=Kn (by omega)
 have VM:IntKind.u64.wrap ((i:Int)+j)=((i+j:Nat):Int):=by rw[Kn (by omega)];omega
 have oP:IntKind.i64.wrap (q:Nat)=(q:Nat):=aS (by omega)
 refine SW.block (SW.seq (SW.hand hG (p:=4) (lm:=[4]) (l2:=[5,6]) (jU:=[_,_,_,_]) (oh:=[_]) (ll:=[_,_]) rfl rfl rfl rfl (by kernel_rfl) (λ_ h=>h)
  (lR:=(kY.qb.qb.qa.dl).take 4) (kK:=(kY.qb.qb.qa.dl).drop 5) (by kernel_rfl) (by kernel_rfl) (by kernel_rfl) (by kernel_rfl)
  (K1:=λS H=>S 1=.func (.func k) [] [.ref u,.ref v,.ref x]/\S 5=.int .i64 (i:Nat)/\S 6=.int .i64 (j:Nat)/\S 15=.int .u64 ((i+j:Nat):Int))
  (K2:=λo S H=>o=Old.plain cc w/\S 1=.func (.func k) [] [.ref u,.ref v,.ref x]/\S 5=.int .i64 (i:Nat)/\S 6=.int .i64 (j:Nat)/\S 16=.int .u64 (q:Nat))
  (K3:=λo S H=>o=Old.plain cc w/\S 1=.func (.func k) [] [.ref u,.ref v,.ref x]/\S 5=.int .i64 (i:Nat)/\S 6=.int .i64 (j:Nat)/\S 7=.int .i64 (q:Nat)) ?_ ?_ ?_ ?_))
 .simp[c103,kY,ae.qa,ae.qb,ae.dl,s1,s5,s6,lq,gR,VM]
 .rintro w0 g S5 H5 a w' m cD ho R ⟨s1,s5,s6,fy⟩
  have zr:a.eval (.tmp 15)=.int .u64 ((i+j:Nat):Int):=by
   have t15:=R.slot 15 (by decide) (λh=>h);rw[fy]at t15;exact t15.int_eq
  refine aT rfl rfl (by rfl) (GF rfl zr) ?_;rw[hq];exact⟨_,_,_,R.put 16 (.int .u64 (q:Nat)) _ (by decide) (.data _ _ (.int _ _)) trivial,ho,by simp[ar,s1],by simp[ar,s5],by simp[ar,s6],by simp[ar]⟩
 .rintro o S5 H5 ⟨rfl,s1,s5,s6,d_⟩;refine⟨λ_ h=>h,?_⟩;simp[c103,kY,ae.qa,ae.qb,ae.dl,s1,s5,s6,d_,oP]
 clear s1 s5 s6 br;rintro o S5 H5 ⟨rfl,s1,s5,s6,s7⟩;show SW prog GI 26 none (.seq _ (.cond _ _ _)) _ _ _ _;have hc:=h q (by omega);refine dO hG kY.qb.qb.qb.qa (λS H=>S 1=.func (.func k) [] [.ref u,.ref v,.ref x]/\S 5=.int .i64 (i:Nat)/\S 6=.int .i64 (j:Nat)/\S 7=.int .i64 (q:Nat)/\S 21=.bool (!p q)) ?_ ?_
 .simp[c103,kY,ae.qa,ae.qb,s1,s5,s6,s7];refine⟨_,hk,hc,by simp[dh,qk],?_⟩;simp[s1,s5,s6,s7]
 clear s1 s5 s6 s7;rintro S6 H6 ⟨s1,s5,s6,s7,lz⟩
 cases hp:p q with
 |true=>
  refine SW.cond rfl false (by show S6 21=_;rw[lz,hp]<;>rfl) ?_;refine SW.last hG cH (by kernel_rfl) (ac:=ae.qb kY.qb.qb.qb.qb) (by kernel_rfl) (λ_ _ h=>h) (λS H=>S 1=.func (.func k) [] [.ref u,.ref v,.ref x]/\S 5=.int .i64 (i:Nat)/\S 6=.int .i64 (q:Nat)) ?_ ?_
  .simp[c103,kY,ae.qa,ae.qb,s1,s5,s6,s7]
  rintro S7 H7 ⟨s1,s5,s6⟩;refine⟨⟨i,q,rfl,g1,by omega,vR,λy BZ ZR=>hm q y BZ hp,s1,s5,s6⟩,?_⟩;show(match S7 5,S7 6 with|.int _ i,.int _ j=>(j-i).toNat|_,_=>0)<(match S3 5,S3 6 with|.int _ i,.int _ j=>(j-i).toNat|_,_=>0);rw[s5,s6,m5,m6];simp only;omega
 |false=>
  refine SW.cond rfl true (by show S6 21=_;rw[lz,hp]<;>rfl) ?_
  have j7:IntKind.i64.wrap ((q:Int)+1)=((q+1:Nat):Int):=by rw[aS (by omega)];omega
  refine SW.last hG cH (by kernel_rfl) (ac:=ae.qa kY.qb.qb.qb.qb) (by kernel_rfl) (λ_ _ h=>h) (λS H=>S 1=.func (.func k) [] [.ref u,.ref v,.ref x]/\S 5=.int .i64 ((q+1:Nat):Int)/\S 6=.int .i64 (j:Nat)) ?_ ?_
  .simp[c103,kY,ae.qa,ae.qb,s1,s5,s6,s7,j7]
  rintro S7 H7 ⟨s1,s5,s6⟩;refine⟨⟨q+1,j,rfl,by omega,A_,g3 hp,Dg,s1,s5,s6⟩,?_⟩;show(match S7 5,S7 6 with|.int _ i,.int _ j=>(j-i).toNat|_,_=>0)<(match S3 5,S3 6 with|.int _ i,.int _ j=>(j-i).toNat|_,_=>0);rw[s5,s6,m5,m6];simp only;omega
theorem G'{P:Program}{x y:ae}{Q:de->an->av->Prop}{S:an}{H:av}(K:an->av->Prop)(hx:bB P GI x (dq K Q) S H)(hy:∀S' H',K S' H'->bB P GI y Q S' H'):bB P GI (.seq x y) Q S H:=
 eA x (kA (λS H h=>hy S H h) (λ_ _ _ h=>h)) hx
theorem td{P:Program}{K:an->av->Prop}{Qp:AV->Prop}{l2:List cq}:∀(l1:List cq)(S:an)(H:av),bp P GI l1 (bp P GI l2 K Qp) Qp S H->bp P GI (l1++l2) K Qp S H
 |[],S,H,h=>h
 |o::rest,S,H,h=>by
  simp only[List.cons_append,bp]at h⊢;split at h
  .exact kI (λS H=>td rest S H) (λ_ h=>h) h
  .exact td rest _ _ h
  .exact h
theorem l7{P:Program}{l:List cq}{K:an->av->Prop}{Qp:AV->Prop}{S:an}{H:av}(n:Nat)(I:an->av->Prop)(h1:bp P GI (l.take n) I Qp S H)(h2:∀S H,I S H->bp P GI (l.drop n) K Qp S H):bp P GI l K Qp S H:=by
 rw[<-acs n l];exact td _ _ _ (nP h2 (λ_ h=>h) _ _ _ h1)
theorem tQ(hG:au GI)(n lo hi:Int):AC prog GI 88 [.int .i64 n,.int .i64 lo,.int .i64 hi] (.ret (.bool (bL n lo hi))):=by
 refine cd hG func88 ntmps88 c88 ?_
 by_cases h1:lo<=n<;>by_cases h2:n<=hi<;>simp[c88,bL,h1,h2]
theorem YB(hG:au GI)(n:Int):AC prog GI 48 [.int .i64 n] (.ret (.bool (bL n 1 12))):=by
 refine cd hG func48 ntmps48 c48 ?_;simp[c48];refine oc (tQ hG n 1 12) ?_;simp
theorem W2(hG:au GI)(n:Int):AC prog GI 49 [.int .i64 n] (.ret (.bool (bL n 1 9))):=by
 refine cd hG func49 ntmps49 c49 ?_;simp[c49];refine oc (tQ hG n 1 9) ?_;simp
theorem Yd(hG:au GI)(n:Int):AC prog GI 93 [.int .i64 n] (.ret (.bool (bL n 0 9))):=by
 refine cd hG func93 ntmps93 c93 ?_;simp[c93];refine oc (tQ hG n 0 9) ?_;simp
theorem Xr(hG:au GI)(s:ao)(n:Int):AC prog GI 54 [ba s,.int .i64 n] (.ret (.bool (bL n 1 s.cells.length))):=by
 refine cd hG func54 ntmps54 c54 ?_;simp[c54,ba,ai,af];refine oc (tQ hG n 1 s.cells.length) ?_;simp
theorem Pb(hG:au GI)(s:ao)(hs:s.cells.length<1000000)(n:Int):AC prog GI 26 [ba s,.int .i64 n] (.ret (.bool (bL n 0 ((s.cells.length:Int)-1)))):=by
 have hw:IntKind.i64.wrap ((s.cells.length:Int)-1)=s.cells.length-1:=aS (by omega);refine cd hG func26 ntmps26 c26 ?_;simp[c26,ba,ai,af,hw];refine oc (tQ hG n 0 ((s.cells.length:Int)-1)) ?_;simp
theorem Uu(hG:au GI)(s:ao)(hs:er s):AC prog GI 30 [ba s] (.ret (.bool (ct s))):=by
 refine cd hG func30 ntmps30 c30 ?_;refine aI (λS H=>S 1=.box 1 0/\H 1=some (ai s)) (by simp[ba,ai,af]) ?_;rintro S H ⟨s1,h1⟩;refine G' (λS H=>S 1=.box 1 0/\H 1=some (ai s)/\s.cells.any fZ=false) ?_ ?_
 .simp[s1,h1,ai,af];refine bP 3 s.cells.length (λi S H=>S 1=.box 1 0/\H 1=some (ai s)/\S 3=.int .i64 (i:Nat)/\∀j (h:j<s.cells.length),j<i->fZ s.cells[j]=false) (λi S H h=>h.2.2.1) ⟨by simp[s1],by simp[h1,ai,af],by simp,by simp⟩ ?_;clear s1 h1 S H;rintro i hi S H ⟨s1,h1,s3,hb⟩
  by_cases aw:i<s.cells.length
  .have hw:IntKind.i64.wrap ((i:Int)+1)=i+1:=aS (by have:=hs.cells;omega)
   have hn:¬(i:Int)<0:=by omega
   have uX:¬(s.cells.length:Int)<=i:=by omega
   have Qd:fZ s.cells[i]=true->ct s=false:=λh=>by
    have:s.cells.any fZ=true:=acQ.2 ⟨_,aba aw,h⟩;simp[ct,this]
   simp[s1,h1,s3,aw,hn,uX,dG,ai,af];refine oc (tQ hG _ _ _) ?_;cases e1:bL s.cells[i].lo 1 20
   .have hr:=Qd (by simp[fZ,e1]);simp[s1,h1,s3,hr]
   simp[s1,h1,s3,aw,hn,uX,dG,ai,af];refine oc (tQ hG _ _ _) ?_;cases e2:bL s.cells[i].hi s.cells[i].lo 20
   .have hr:=Qd (by simp[fZ,e2]);simp[s1,h1,s3,hr]
   simp[s1,h1,s3,hw,aw,ai,af];intro j hj gp
   by_cases e:j=i
   .subst e;simp[fZ,e1,e2]
   .exact hb j hj (by omega)
  .have cU:i=s.cells.length:=by omega
   subst cU
   have ha:s.cells.any fZ=false:=by
    rw[<-jN,iO λj hj=>hb j hj hj];simp
   simp[s1,h1,s3,ha,ai,af]
   all_goals (intro x hx;obtain⟨j,hj,rfl⟩:=abP hx;exact hb j hj hj)
 clear s1 h1 S H;rintro S H ⟨s1,h1,ha⟩;simp only[eF];refine l7 4 (λS H=>S 1=.box 1 0/\H 1=some (ai s)/\S 41=.bool (bL s.cells.length 1 12)) ?_ ?_
 .simp[s1,h1,ai,af];refine oc (tQ hG s.cells.length 1 12) ?_;simp[s1,h1,ai,af]
 have hT:ct s=(((((bL s.cells.length 1 12&&bL s.pos 1 s.cells.length)&&bL s.reach 1 12)&&bL s.dM 1 9)&&bL s.df 0 9)&&bg s.name):=by
  simp[ct,ha]
 rw[hT];clear hT;generalize bL s.cells.length 1 12=b1;rintro S1 H1 ⟨s1,h1,Nl⟩;refine l7 6 (λS H=>S 1=.box 1 0/\H 1=some (ai s)/\S 47=.bool (b1&&bL s.pos 1 s.cells.length)) ?_ ?_
 .cases b1
  .simp[s1,h1,Nl]
  .simp[s1,h1,Nl,ai,af];refine oc (Xr hG s s.pos) ?_;simp[s1,h1,Nl,ai,af]
 generalize(b1&&bL s.pos 1 s.cells.length)=b2;clear s1 h1 Nl;rintro S2 H2 ⟨s1,h1,xG⟩;refine l7 5 (λS H=>S 1=.box 1 0/\H 1=some (ai s)/\S 52=.bool (b2&&bL s.reach 1 12)) ?_ ?_
 .cases b2
  .simp[s1,h1,xG]
  .simp[s1,h1,xG,ai,af];refine oc (YB hG s.reach) ?_;simp[s1,h1,xG,ai,af]
 generalize(b2&&bL s.reach 1 12)=b3;clear s1 h1 xG;rintro S3 H3 ⟨s1,h1,NB⟩;refine l7 5 (λS H=>S 1=.box 1 0/\H 1=some (ai s)/\S 57=.bool (b3&&bL s.dM 1 9)) ?_ ?_
 .cases b3
  .simp[s1,h1,NB]
  .simp[s1,h1,NB,ai,af];refine oc (W2 hG s.dM) ?_;simp[s1,h1,NB,ai,af]
 generalize(b3&&bL s.dM 1 9)=b4;clear s1 h1 NB;rintro S4 H4 ⟨s1,h1,Om⟩;refine l7 5 (λS H=>S 1=.box 1 0/\H 1=some (ai s)/\S 62=.bool (b4&&bL s.df 0 9)) ?_ ?_
 .cases b4
  .simp[s1,h1,Om]
  .simp[s1,h1,Om,ai,af];refine oc (Yd hG s.df) ?_;simp[s1,h1,Om,ai,af]
 generalize(b4&&bL s.df 0 9)=b5;clear s1 h1 Om;rintro S5 H5 ⟨s1,h1,QV⟩;cases b5
 .simp[s1,h1,QV]
 .simp[s1,h1,QV,ai,af];refine oc (Wn hG s.name hs.name) ?_;simp[s1,h1,QV]
theorem HE(a b:End):(a.1=b.1/\a.2=b.2)↔a=b:=by
 obtain⟨a1,a2⟩:=a;obtain⟨b1,b2⟩:=b;simp
theorem XI(hG:au GI)(a b:List End)(ha:a.length<1000000):AC prog GI 60 [.slice .view (a.map bm),.slice .view (b.map bm)] (.ret (.bool (a==b))):=by
 refine cd hG func60 ntmps60 c60 ?_
 by_cases hl:a.length=b.length
 case neg=>
  have u9:((a.length:Int)!=b.length)=true:=by simp;omega
  have cC:(a==b)=false:=by
   rw[abU];intro e;exact hl (by rw[e])
  simp[c60,u9,cC]
 have u9:((a.length:Int)!=b.length)=false:=by simp;omega
 simp[c60,u9];refine bP 5 a.length (λi S H=>S 0=.slice .view (a.map bm)/\S 1=.slice .view (b.map bm)/\S 5=.int .i64 (i:Nat)/\∀j (hj:j<a.length),j<i->a[j]=b[j]'(by omega)) (λi S H h=>h.2.2.1) ⟨by simp,by simp,by simp,λj _ h=>absurd h (aeD _)⟩ ?_;rintro i hi S H ⟨s0,s1,s5,hb⟩
 by_cases aw:i<a.length
 case neg=>
  have he:(a==b)=true:=by
   rw[abX]
   exact adL hl λj h1 h2=>hb j h1 (by omega)
  have hn:¬(i:Int)<a.length:=by omega
  simp[s0,s1,s5,hn,he]
 have hw:IntKind.i64.wrap ((i:Int)+1)=i+1:=aS (by omega)
 have Qy:i<b.length:=by omega
 by_cases he:a[i]=b[i]
 .simp[s0,s1,s5,aw,Qy,hw,he,bm,wF];intro j hj gp
  by_cases e:j=i
  .subst e;exact he
  .exact hb j hj (by omega)
 .have cC:(a==b)=false:=by
   rw[abU];intro e;subst e;exact he rfl
  have kq:¬(a[i].1=b[i].1/\a[i].2=b[i].2):=λh=>he ((HE _ _).1 h)
  have iM:([a[i].1,a[i].2]!=[b[i].1,b[i].2])=true:=by
   rw[ad9];intro e;simp at e;exact kq e
  simp[s0,s1,s5,aw,Qy,bm,wF,cC,iM]
end Go.Proofs.Tryz
namespace Go.Proofs.Tryz
open Go Go.AL Go.RowKit Go.Proofs Go.Proofs.Tram
variable{GI:World->Prop}
theorem nQ(a:Act)(d:Nat)(c c':Value):(a.put (some d) c).put (some d) c'=a.put (some d) c':=by
 simp[Act.put]
theorem MV(s:ao):(AV.agg (ai s)).vw=.agg (ai s):=by simp[AV.vw,ai,af,AV.cn,vI]
theorem Cl{Pr:Nat->Nat->Prop}{w:World}{n:Int}{c:Value}(h:RD Pr w (mF n) c):c=.iface 192 (.agg #[.int .i64 n]):=by
 unfold mF at h
 cases h with
 |iface _ _ c h=>
  cases h with
  |agg _ vs hl h1 hr=>
   obtain⟨u,rfl⟩:=nt (vs:=vs) (by rw[<-hl];rfl);have:=hr 0 (by simp) (by simp);have:=(RV.data (al:=bT) _ _ this).int_eq;simp only[List.getElem_toArray,List.getElem_cons_zero]at this;rw[this]
section
variable{w0:World}{n:Nat}{g:Gh}{S:an}{H:av}{a:Act}{w:World}{d i2 i6:Nat}{s:ao}{z:List AV}
theorem oq (hG:au GI) (cD:GI w0) (R:Rel prog w0 n bQ g S H a w) (hd:d < n) (so:i2 < n) (xk:i6 < n) (xj:d≠i6)
  (qm:S i2=.box i2 0) (qN:H i2=some (ai s)) (xK:S i6=.box i6 0) (zI:H i6=some z) {R':Ending->World->Prop}
  (h:∀(c1:Value)(g1:Gh),g1.old=g.old->Rel prog w0 n bQ g1 (ar S d (.agg (ai s))) H (a.put (some d) c1) w->GI w->RV (eT g1 false) (λ_=>none) w (ba s) c1->∀(b6:Nat),a.tmps.getD i6 undef=.pointer (some ⟨b6,0,none⟩)->
   ∃RR:Ending->World->Prop,Calls prog 108 #[c1] w RR/\∀en w2,RR en w2->match en with
    |.returned v=>∀ (aC:Act) (o:Oper),aC.eval (.tmp 1) = .pointer (some ⟨b6,0,none⟩)→aC.eval (.tmp 3)=v→o.op = .store 102 (.tmp 1) (.tmp 3) →
      ∃w3,((execOp aC.eval o).run prog w2=.ok .skip w3\/∃u,(execOp aC.eval o).run prog w2=.ok (.value u) w3)/\R' (.returned (.tuple #[])) w3
    |.panicked ch=>R' (.panicked ch) w2
    |.outgrown=>False):
  Calls prog 135 #[a.tmps.getD i2 undef,a.tmps.getD i6 undef] w R':=by
 obtain⟨b2,kK,e2⟩:=jM R so qm;obtain⟨b6,al6,e6⟩:=jM R xk xK;have bn:=R.size;have qX:=R.below;rw[R.base]at qX;have fE:GI w:=hG w0 w cD qX;obtain⟨i40,Yv,XE⟩:=bo (P:=prog) (t:=31) (s:=15) (by kernel_rfl);obtain⟨fs,fe⟩:=bU (P:=prog) (t:=31) (by kernel_rfl)
 have j_:aG S H (.load .any (eQ (.struct fs)) i40.size (.t i2))=some { v:=.agg (ai s) }:=by
  simp[aG,ev,qm,qN,HR.okB,XE,eQ,ck,ai,af,AV.aH,vI]
 obtain ⟨c1,w1,g1,cP,wO,mD,R1⟩:=EU R (o:={ dst:=some d,op := .load 31 (.tmp i2),type:=0,pos := "",after := #[],guard:=none }) (x := .tmp i2) (y := .t i2) rfl (λt ht=>by cases ht;exact ⟨hd,id⟩) Yv fe (by simp [ea,so]) (λ_ _=>id) j_
 have lq:w1=w:=by
  rcases cP with cP|⟨cP,_⟩
  .exact(mZ (P:=prog) (by rfl) cP).1
  .obtain⟨_,v,hv⟩:=mZ (P:=prog) (by rfl) cP;cases hv
 subst lq
 have Tm:(execOp a.eval { dst:=some d,op := .load 31 (.tmp i2),type:=0,pos := "",after := #[],guard:=none }).run prog w1 = .ok (.value c1) w1:=by
  rcases cP with cP|⟨cP,_⟩
  .exact cP
  .obtain⟨_,v,hv⟩:=mZ (P:=prog) (by rfl) cP;cases hv
 have LY:Rel prog w0 n bQ g1 (ar S d (.agg (ai s))) H (a.put (some d) c1) w1:=R1
 have XX:∀(a:Act)(d:Nat)(c:Value),d<a.tmps.size->(a.put (some d) c).tmps.getD d undef=c:=λa d c h=>by
  simp[Act.put,h]
 have ki:RV (eT g1 false) (λ_=>none) w1 (ba s) c1:=by
  have h1:=LY.slot d hd id;rw[aN,XX a d c1 (by omega)]at h1;have:=LY.iu h1 false (by simp[qk]);have e:Go.AL.iu H (.agg (ai s))=.agg (ai s):=MV s;rw[e]at this;exact this
 obtain⟨RR,eR,hRR⟩:=h c1 g1 mD LY fE ki b6 e6;rw[e2,e6];refine adA func135 rfl ?_;refine(eL (m:=0)).1 ?_;refine fD (λa=>a.tmps.size=4/\a.defers=[]/\a.tmps.getD 0 undef=.pointer (some ⟨b2,0,none⟩)/\a.tmps.getD 1 undef=.pointer (some ⟨b6,0,none⟩)) ⟨by simp[ntmps135],rfl,bJ _ _ 0 (by simp),bJ _ _ 1 (by simp)⟩ ?_;rintro aC ⟨zC,dC,t0,t1⟩
 have gz:∀(a:Act)(d:Nat)(c:Value),a.tmps.size=4->d<4->(a.put (some d) c).tmps.getD d undef=c:=λa d c h hd=>by
  simp[Act.put,h,hd]
 have dT:∀(a:Act)(d t:Nat)(c:Value),t≠d->(a.put (some d) c).tmps.getD t undef=a.tmps.getD t undef:=λa d t c h=>by
  simp[Act.put,abd (abO h)]
 refine abx ?_;show wpOpsIn _ _ _ _ _ [0,1,2] aC w1
 have IQ:∀o:Oper,o.op=.load 31 (.tmp 0)->(execOp aC.eval o).run prog w1=.ok (.value c1) w1:=by
  intro o ho;have h1:aC.eval (.tmp 0)=a.eval (.tmp i2):=t0.trans e2.symm;rw[<-Tm];unfold execOp;simp only[ho,h1]
 refine aT rfl rfl (by rfl) (IQ _ rfl) ?_;show wpOpsIn _ _ _ _ _ [1,2] (aC.put (some 2) c1) w1;refine rn rfl rfl (by rfl) (fT (k:=108) (args:=#[c1]) w1 rfl rfl ?_ (by kernel_rfl)) eR ?_
 .simp only[abI,abA,abL];show #[(aC.put (some 2) c1).tmps.getD 2 undef]=_;rw[gz _ _ _ zC (by decide)]
 rintro en w2 MC;have:=hRR en w2 MC
 cases en with
 |returned v=>
  show wpOpsIn _ _ _ _ _ [2] ((aC.put (some 2) c1).put (some 3) v) w2
  obtain ⟨w3,Tu,B'⟩:=this ((aC.put (some 2) c1).put (some 3) v) { dst:=none,op := .store 102 (.tmp 1) (.tmp 3),type:=0,pos := "",after := #[],guard:=none }
   (by show((aC.put (some 2) c1).put (some 3) v).tmps.getD 1 undef=_;rw[dT _ _ _ _ (by decide),dT _ _ _ _ (by decide)];exact t1)
   (by show((aC.put (some 2) c1).put (some 3) v).tmps.getD 3 undef=_;exact gz _ _ _ (by simpa[Act.put]using zC) (by decide)) rfl
  have fin:∀u:Value,((aC.put (some 2) c1).put (some 3) v).defers=[]/\∃v',(results f135 ((aC.put (some 2) c1).put (some 3) v).tmps).run prog w3=.ok v' w3/\R' (.returned v') w3:=λu=>⟨dC,.tuple #[],by simp[results,results135],B'⟩
  have kf:∀ o:Oper,o.op = .store 102 (.tmp 1) (.tmp 3)->(execOp ((aC.put (some 2) c1).put (some 3) v).eval o).run prog w2=(execOp ((aC.put (some 2) c1).put (some 3) v).eval { dst:=none,op := .store 102 (.tmp 1) (.tmp 3),type:=0,pos := "",after := #[],guard:=none }).run prog w2:=by
   intro o ho;unfold execOp;simp only[ho]
  rcases Tu with hr|⟨u,hr⟩
  .exact dk rfl rfl (by rfl) ((kf _ rfl).trans hr) (fin undef)
  .exact aT rfl rfl (by rfl) ((kf _ rfl).trans hr) (fin u)
 |panicked ch=>exact⟨dC,this⟩
 |outgrown=>exact this.elim
theorem HH (hG:au GI) (cD:GI w0) (R:Rel prog w0 n bQ g S H a w) (hd:d < n) (so:i2 < n) (xk:i6 < n) (xj:d≠i6)
  (qm:S i2=.box i2 0) (qN:H i2=some (ai s)) (xK:S i6=.box i6 0) (zI:H i6=some z) (hz:z.length=16) {ns:List Int} (nL:AC prog GI 108 [ba s] (.ret (cm s ns))):
  Calls prog 135 #[a.tmps.getD i2 undef,a.tmps.getD i6 undef] w λe w2=>e=.returned (.tuple #[])/\∃(c:Value)(g':Gh)(S':an)(H':av),g'.old=g.old/\Rel prog w0 n bQ g' S' H' (a.put (some d) c) w2/\(∀t,t≠d->S' t=S t)/\H'=ar H i6 (some (aY s ns)):=by
 refine oq hG cD R hd so xk xj qm qN xK zI λc1 g1 jw R1 fE ki b6 e6=>?_
 refine⟨_,nL w (eT g1 false) #[c1] fE rfl (λi h h'=>by
  match i,h with
  |0,_=>exact ki),?_⟩
 rintro en w2 ⟨iM,hi,qn,c,rfl,DT,dn⟩;intro aC o q1 q3 ho;obtain⟨g',wO,mD,R2⟩:=R1.call (some d) (λt ht=>by cases ht;exact⟨hd,id⟩) false iM qn DT dn (λh=>by cases h);rw[nQ]at R2
 have NF:∀t,t≠d->aU (ar S d (.agg (ai s))) (some d) (cm s ns) t=S t:=λt ht=>by simp[AL.aU,ar,ht]
 obtain⟨i100,qW,qP⟩:=bo (P:=prog) (t:=102) (s:=16) (by kernel_rfl)
 have jR:bu z 0 ((aY s ns).map AV.aH)=aY s ns:=by
  have:(aY s ns).map AV.aH=aY s ns:=by simp[aY,ai,af,vI,AV.aH]
  rw[this];simp[bu,hz,aY,ai,af]
 have j_:aG (aU (ar S d (.agg (ai s))) (some d) (cm s ns)) H (.store .any i100.size (.t i6) (.t d))=some { v:=b0,dm:=some d,hw:=some (i6,aY s ns) }:=by
  show aG (aU (ar S d (.agg (ai s))) (some d) (.agg (aY s ns))) H (.store .any i100.size (.t i6) (.t d))=_;have e1:ev (aU (ar S d (.agg (ai s))) (some d) (.agg (aY s ns))) (.t i6)=.box i6 0:=(NF i6 (abO xj)).trans xK
  have e2:ev (aU (ar S d (.agg (ai s))) (some d) (.agg (aY s ns))) (.t d)=.agg (aY s ns):=by simp[ev,AL.aU,ar]
  have hl:(aY s ns).length=16:=by simp[aY,ai,af]
  simp only[aG,e1,e2,zI,HR.okB];simp[AV.cells,AV.storable,qP,hl,hz,bz,jR,AV.cb]
 obtain ⟨c2,w3,g3,cP,Jk,vW,R3⟩:=kF R2 (o:={ dst:=none,op := .store 102 (.tmp i6) (.tmp d),type:=0,pos := "",after := #[],guard:=none }) (x1 := .tmp i6) (x2 := .tmp d) (y1 := .t i6) (y2 := .t d) (hr := .any) rfl rfl qW (by simp [ea,xk]) (by simp [ea,hd]) (λ_ _=>id) (λ_ _=>id) j_;have bn:=R.size
 have f6:(a.put (some d) c).eval (.tmp i6)=.pointer (some ⟨b6,0,none⟩):=by
  show(a.put (some d) c).tmps.getD i6 undef=_;rw[<-e6];simp[Act.put,abd xj]
 have fd:(a.put (some d) c).eval (.tmp d)=c:=by
  show(a.put (some d) c).tmps.getD d undef=_;simp[Act.put,bn,hd]
 have aZ:(execOp aC.eval o).run prog w2=(execOp (a.put (some d) c).eval { dst:=none,op := .store 102 (.tmp i6) (.tmp d),type:=0,pos := "",after := #[],guard:=none }).run prog w2:=by
  unfold execOp;simp only[ho,q1,q3,f6,fd]
 refine⟨w3,?_,rfl,c,g3,_,_,by rw[vW,mD,jw],R3,λt ht=>?_,rfl⟩
 .rcases cP with cP|⟨cP,_⟩
  .exact .inr ⟨_,aZ.trans cP⟩
  .exact .inl (aZ.trans cP)
 .rw[<-NF t ht];simp[aO.S,AL.aU,ar,ht]
theorem EP (hG:au GI) (cD:GI w0) (R:Rel prog w0 n bQ g S H a w) (hd:d < n) (so:i2 < n) (xk:i6 < n) (xj:d≠i6)
  (qm:S i2=.box i2 0) (qN:H i2=some (ai s)) (xK:S i6=.box i6 0) (zI:H i6=some z) {k:Int} (nL:AC prog GI 108 [ba s] (.panic (mF k))):
  Calls prog 135 #[a.tmps.getD i2 undef,a.tmps.getD i6 undef] w λe w2=>e=.panicked [{ v:=.iface 192 (.agg #[.int .i64 k]),recovered:=false }]/\Below w.heap.size w w2:=by
 refine oq hG cD R hd so xk xj qm qN xK zI λc1 g1 jw R1 fE ki b6 e6=>?_
 refine⟨_,nL w (eT g1 false) #[c1] fE rfl (λi h h'=>by
  match i,h with
  |0,_=>exact ki),?_⟩
 rintro en w2 ⟨iM,hi,qn,c,rfl,dQ⟩;have hc:=Cl dQ;subst hc;exact⟨rfl,iM⟩
theorem nB(R:Rel prog w0 n bQ g S H a w):g.old.aV w.heap.size=none:=by
 cases h:g.old.aV w.heap.size with
 |none=>rfl
 |some o=>
  have:=(abb.1 (R.kept _ o h).2.1).1;omega
theorem GP (hG:au GI) (cD:GI w0) (R:Rel prog w0 n bQ g S H a w) (hd:d < n) (so:i2 < n) (xk:i6 < n) (xj:d≠i6)
  (qm:S i2=.box i2 0) (qN:H i2=some (ai s)) (xK:S i6=.box i6 0) (zI:H i6=some z) (hz:z.length=16) {ns:List Int} (nL:AC prog GI 108 [ba s] (.ret (cm s ns))):
  Calls prog 119 #[.func (.func 135) #[] #[a.tmps.getD i2 undef,a.tmps.getD i6 undef]] w λe w2=>e=.returned (.int .i64 0)/\∃(c:Value)(g':Gh)(S':an)(H':av),g'.old=g.old/\Rel prog w0 n bQ g' S' H' (a.put (some d) c) w2/\(∀t,t≠d->S' t=S t)/\H'=ar H i6 (some (aY s ns)):=by
 have R1:=R.lk (.cells #[.int .i64 0] 34);have wT:=nB R;refine js (by kernel_rfl) (HH hG cD R1 hd so xk xj qm qN xK zI hz nL) ?_;rintro e w2 ⟨rfl,c,g',S',H',ho,R2,rk,qG⟩
 have hk:g'.old.aV w.heap.size=some (.cells #[.int .i64 0] 34):=by rw[ho];exact aN _ _ _
 have iq:=(R2.kept _ _ hk).2.1;have aw:=(abb.1 iq).1;refine⟨aw,⟨_,_,iq⟩,.inl ⟨_,rfl,rfl,c,_,S',H',?_,(R2.pU w.heap.size).jY ?_,rk,qG⟩⟩
 .show({ g'.old with aV:=ar g'.old.aV w.heap.size none }:Old)=_;rw[ho]
  have:ar (ar g.old.aV w.heap.size (some (.cells #[.int .i64 0] 34))) w.heap.size none=g.old.aV:=by
   funext b
   by_cases hb:b=w.heap.size
   .subst hb;simp[ar,wT]
   .simp[ar,hb]
  show({ g.old with aV:=ar (ar g.old.aV w.heap.size (some (.cells #[.int .i64 0] 34))) w.heap.size none }:Old)=_;rw[this]
 .refine⟨rfl,rfl,rfl,by simp,λk fo=>?_⟩
  by_cases hb:k=w.heap.size
  .subst hb;rw[acG w2 _ _ _ _ _ iq,iq]
  .exact ab9 w2 _ k _ hb
theorem El (hG:au GI) (cD:GI w0) (R:Rel prog w0 n bQ g S H a w) (hd:d < n) (so:i2 < n) (xk:i6 < n) (xj:d≠i6)
  (qm:S i2=.box i2 0) (qN:H i2=some (ai s)) (xK:S i6=.box i6 0) (zI:H i6=some z) {k:Int} (nL:AC prog GI 108 [ba s] (.panic (mF k))):
  Calls prog 119 #[.func (.func 135) #[] #[a.tmps.getD i2 undef,a.tmps.getD i6 undef]] w λe w2=>e=.returned (.int .i64 7)/\∃g',g'.old=g.old/\Rel prog w0 n bQ g' S H a w2:=by
 have R1:=R.lk (.cells #[.int .i64 0] 34);have wT:=nB R;refine js (by kernel_rfl) (EP hG cD R1 hd so xk xj qm qN xK zI nL) ?_;rintro en w2 ⟨rfl,iM⟩;have R2:=R1.jY iM;have hk:ar g.old.aV w.heap.size (some (.cells #[.int .i64 0] 34)) w.heap.size=some (.cells #[.int .i64 0] 34):=aN _ _ _;have iq:=(R2.kept _ _ hk).2.1;have aw:=(abb.1 iq).1;refine⟨aw,⟨_,_,iq⟩,.inr (.inl ⟨k,rfl,λw3 oN=>⟨rfl,?_⟩⟩)⟩;have R3:=R2.jY oN;have Gv:=(R3.kept _ _ hk).2.1;have R4:=R3.kz hk (.cells #[.int .i64 7] 34);rw[nk w3 Gv];refine⟨_,?_,R4.pU w.heap.size⟩
 have:ar (ar (ar g.old.aV w.heap.size (some (.cells #[.int .i64 0] 34))) w.heap.size (some (.cells #[.int .i64 7] 34))) w.heap.size none=g.old.aV:=by
  funext b
  by_cases hb:b=w.heap.size
  .subst hb;simp[ar,wT]
  .simp[ar,hb]
 show({ g.old with aV:=ar (ar (ar g.old.aV w.heap.size (some (.cells #[.int .i64 0] 34))) w.heap.size (some (.cells #[.int .i64 7] 34))) w.heap.size none }:Old)=_;rw[this]
end
end Go.Proofs.Tryz
namespace Go.Proofs.Tryz
open Go Go.AL Go.RowKit Go.Proofs Go.Proofs.Tram
attribute [local simp] eF fO eZ ec eY eh eg dI dK eX dH dc iI iH aF aG ev aO.S aO.H bz ar aU AL.start AV.cells AV.storable AV.cb bu b_ eG ck HR.okB post cE cW cV AV.out AV.bZ cM eB fz iu AV.vw dh vI int b0 aK dq dz iF j0 fh dW bV AV.aH AV.cn
variable{GI:World->Prop}
def zT:ao:=⟨[],0,0,0,0,⟨[],[],0,0,0,0,0,[],0,0⟩⟩
def du(s:ao)(b:Bool):List AV:=
 if b then(match fC s.name with|some es=>[cm s (aR s es),.int .i64 0]|none=>[cm zT [],.int .i64 7])else[cm zT [],.int .i64 2]
def ij:List AV:=[.slice .nil [],.int .i64 0,.int .i64 0,.int .i64 0,.int .i64 0,.slice .nil [],.slice .nil [],.int .i64 0,.int .i64 0,.int .i64 0,.int .i64 0,.int .i64 0,.slice .nil [],.int .i64 0,.int .i64 0,.slice .nil []]
theorem CJ(hG:au GI)(s:ao):AC prog GI 76 [ba s,.bool false] (.ret (.dE [cm zT [],.int .i64 2])):=by
 obtain⟨i100,qW,qP⟩:=bo (P:=prog) (t:=102) (s:=16) (by kernel_rfl);obtain⟨fs,fe⟩:=bU (P:=prog) (t:=102) (by kernel_rfl);refine cd hG func76 ntmps76 c76 ?_;simp[c76,ba,ai,af,bG,qW,qP,fe,eQ,cm,aY,zT]
 try rfl
theorem vS(hG:au GI)(s:ao)(hs:er s):AC prog GI 76 [ba s,.bool (ct s)] (.ret (.dE (du s (ct s)))):=by
 cases hI:ct s with
 |false=>exact CJ hG s
 |true=>
 have BT:=ee hI
 refine AC.ib func76 rfl ntmps76 (by simp) λcc w=>?_
 refine dO hG c76.qa (λS' H'=>S' 1=.bool true/\S' 2=.box 2 0/\H' 2=some (ai s)/\S' 4=.box 4 0/\H' 4=some ij) ?_ ?_
 .simp[c76,ae.qa,ba,ai,af,ij]
 rintro S1 H1 ⟨s1,s2,h2,s4,h4⟩;refine SW.seq (dO hG c76.qb.qa.qa (λS' H'=>S' 9=.bool false/\S' 2=.box 2 0/\H' 2=some (ai s)/\S' 4=.box 4 0/\H' 4=some ij) ?_ ?_)
 .simp[c76,ae.qa,ae.qb,s1,s2,h2,s4,h4]
 clear s1 s2 h2 s4 h4;rintro S2 H2 ⟨s9,s2,h2,s4,h4⟩;refine SW.cond rfl false (by show S2 9=_;rw[s9]) (SW.skip ?_);show SW prog GI 15 none (.seq _ (.seq _ (.seq _ .ret))) _ _ _ _;refine dO hG c76.qb.qb.qa (λS' H'=>S' 2=.box 2 0/\H' 2=some (ai s)/\S' 4=.box 4 0/\H' 4=some ij/\S' 6=.box 6 0/\H' 6=some ij) ?_ ?_
 .simp[c76,ae.qa,ae.qb,s2,h2,s4,h4,ij]
 clear s9 s2 h2 s4 h4;rintro S3 H3 ⟨s2,h2,s4,h4,s6,h6⟩
 obtain ⟨l,e,hle,hO,mB⟩:∃ (l:List AV) (e:Int),l.length=16∧du s true=[(AV.agg (l.map AV.aH)).vw,.int .i64 e] ∧
   ∀(w0:World)(g:Gh)(S:an)(H:av)(a:Act)(w:World),GI w0->Rel prog w0 15 bQ g S H a w->S 2=.box 2 0->H 2=some (ai s)->S 6=.box 6 0->H 6=some ij->
    Calls prog 119 #[.func (.func 135) #[] #[a.tmps.getD 2 undef,a.tmps.getD 6 undef]] w λen w2=>en=.returned (.int .i64 e)/\∃(c:Value)(g':Gh)(S':an)(H':av),g'.old=g.old/\Rel prog w0 15 bQ g' S' H' (a.put (some 12) c) w2/\(∀t,t≠12->S' t=S t)/\H'=ar H 6 (some l):=by
  cases eE:fC s.name with
  |some es=>
   refine⟨aY s (aR s es),0,by simp[aY,ai,af],?_,λw0 g S H a w cD R q2 Ey q6 Mz=>GP hG cD R (by decide) (by decide) (by decide) (by decide) q2 Ey q6 Mz rfl (DR hG s hs BT eE)⟩;simp[du,eE,cm,aY,ai,af,vI,AV.aH,AV.vw,AV.cn]
  |none=>
   refine⟨ij,7,rfl,?_,λw0 g S H a w cD R q2 Ey q6 Mz=>(El hG cD R (d:=12) (by decide) (by decide) (by decide) (by decide) q2 Ey q6 Mz (yn hG s hs BT eE)).mono ?_⟩
   .simp[du,eE,cm,aY,ai,af,zT,ij,vI,ints,AV.aH,AV.vw,AV.cn]
   .rintro en w2 ⟨rfl,g',zY,R'⟩;refine⟨rfl,undef,g',ar S 12 .bl,H,zY,R'.put 12 .bl undef (by decide) (.bl _) trivial,λt ht=>bc _ _ ht,?_⟩
    funext k
    by_cases hk:k=6
    .subst hk;rw[aN];exact Mz
    .rw[bc _ _ hk]
 rw[hO]
 refine SW.seq (SW.hand hG (p:=0) (lm:=[0,1]) (l2:=[2]) (jU:=[]) (oh:=[_,_]) (ll:=[_]) rfl rfl rfl rfl (by kernel_rfl) (λ_ h=>h) (lR:=[]) (kK:=(c76.qb.qb.qb.qa.dl).drop 2) rfl (by kernel_rfl) rfl (by kernel_rfl)
  (K1:=λS' H'=>S' 2=.box 2 0/\H' 2=some (ai s)/\S' 4=.box 4 0/\H' 4=some ij/\S' 6=.box 6 0/\H' 6=some ij)
  (K2:=λo S' H'=>o=Old.plain cc w/\S' 4=.box 4 0/\H' 4=some ij/\S' 6=.box 6 0/\H' 6=some l/\S' 12=.int .i64 e)
  (K3:=λo S' H'=>o=Old.plain cc w/\S' 4=.box 4 0/\H' 4=some ij/\S' 6=.box 6 0/\H' 6=some l/\S' 7=.int .i64 e) ⟨s2,h2,s4,h4,s6,h6⟩ ?_ ?_ ?_)
 .rintro w0 g S5 H5 a w5 m cD ho R ⟨s2,h2,s4,h4,s6,h6⟩;have bn:=R.size;refine aT rfl rfl (by rfl) (ld (fn:=.func 135) (c:=#[.tmp 2,.tmp 6]) rfl) ?_
  obtain⟨fv,kH⟩:∃fv:Value,fv=.func (.func 135) #[] (#[Operand.tmp 2,.tmp 6].map a.eval):=⟨_,rfl⟩
  show wpOpsIn _ _ _ _ _ [1] (a.put (some 11) (.func (.func 135) #[] (#[Operand.tmp 2,.tmp 6].map a.eval))) w5;rw[<-kH];have R1:=R.put 11 .bl fv (by decide) (.bl _) trivial
  obtain⟨a1,oI⟩:∃a1,a.put (some 11) fv=a1:=⟨_,rfl⟩
  rw[oI]at R1⊢
  have vy:fv=.func (.func 135) #[] #[a1.tmps.getD 2 undef,a1.tmps.getD 6 undef]:=by
   have e1:=bw a 11 2 fv (by omega);have e4:=bw a 11 6 fv (by omega);rw[if_neg (by decide),oI]at e1 e4;have Ba:a1.tmps.getD 2 undef=a.eval (.tmp 2):=e1;have E6:a1.tmps.getD 6 undef=a.eval (.tmp 6):=e4;rw[Ba,E6,kH];simp only[abI,abA,abL]
  have jE:a1.eval (.tmp 11)=fv:=by rw[<-oI,bw _ _ _ _ (by omega),if_pos rfl]
  refine fg rfl rfl (by rfl) (fT (k:=119) (args:=#[.func (.func 135) #[] #[a1.tmps.getD 2 undef,a1.tmps.getD 6 undef]]) w5 rfl rfl ?_ (by kernel_rfl)) (mB w0 g _ _ a1 w5 cD R1 (by simp[ar,s2]) h2 (by simp[ar,s6]) h6) ?_
  .simp only[abI,abA,abL,jE,<-vy]
  .rintro en w6 ⟨rfl,c,g',S',H',mH,R2,rk,qG⟩;refine⟨_,rfl,?_⟩;have R3:=R2.put 12 (.int .i64 e) (.int .i64 e) (by decide) (.data _ _ (.int _ _)) trivial;rw[nQ]at R3;refine⟨g',_,H',R3,mH.trans ho,?_,?_,?_,?_,aN _ _ _⟩
   .show ar S' 12 _ 4=_;rw[bc _ _ (by decide),rk 4 (by decide)];simp[ar,s4]
   .rw[qG,bc _ _ (by decide)];exact h4
   .show ar S' 12 _ 6=_;rw[bc _ _ (by decide),rk 6 (by decide)];simp[ar,s6]
   .rw[qG];exact aN _ _ _
 .rintro o S5 H5 ⟨rfl,s4,h4,s6,h6,bC⟩;refine⟨λ_ h=>h,?_⟩;simp[c76,ae.qa,ae.qb,ae.dl,bp,aF,bb,aG,ev,aO.S,aO.H,ar,aU,s4,h4,s6,h6,bC,AV.aH,bz]
 .rintro o S5 H5 ⟨rfl,s4,h4,s6,h6,s7⟩;show SW prog GI 15 none (.seq _ .ret) _ _ _ _;have hT:List.take 16 (l.map AV.aH)=l.map AV.aH:=abp (by simp;omega);refine dO hG c76.qb.qb.qb.qb.qa (λS' H'=>S' 4=.box 4 0/\H' 4=some (l.map AV.aH)/\S' 5=.int .i64 e) ?_ ?_
  .simp[c76,ae.qa,ae.qb,s4,h4,s6,h6,s7,hle,hT,ij,fS]
  rintro S6 H6 ⟨s4,h4,s5⟩;obtain⟨i100,qW,qP⟩:=bo (P:=prog) (t:=102) (s:=16) (by kernel_rfl);obtain⟨fs,fe⟩:=bU (P:=prog) (t:=102) (by kernel_rfl);refine SW.ret ⟨dZ.plain rfl,rfl,_,?_,rfl⟩;show cE prog 15 [.cell 4 102,.tmp 5] S6 H6=_;simp[cE,cW,cV,s4,h4,s5,qW,fe,qP,ck,eQ,hle,hT,fS,AV.out,AV.bZ]
  try rfl
def fq(e:Nat)(s:ao)(ah:List Int):Nat:=eu ah (fm (bj e s)) (eo (dP s) s.cells.length)
theorem iN{s:ao}(h:eD s){es:List End}(he:es.length<=3):(∀x∈aR s es,0<=x/\x<=1000)/\(aR s es).length<=1000:=by
 refine⟨λx hx=>?_,?_⟩
 .obtain⟨i,hi,rfl⟩:=abz.1 hx
  have:=tF h he (i:=i) (by
   unfold cy;split
   .rename_i x hx;obtain⟨aw,rfl⟩:=abE.1 hx;exact(mb h.name (aba aw)).vX
   .omega)
  omega
 .have:=(fk h.name).words;simp[aR];omega
theorem oz{s:ao}(h:eD s)(e:Nat):(bj e s).length=s.cells.length/\∀x∈bj e s,0<=x/\x<=1000:=by
 refine⟨by simp[bj],λx hx=>?_⟩;obtain⟨c,hc,rfl⟩:=abz.1 hx;have:=h.n_ c hc;unfold mq
 split<;>omega
theorem tr(hG:au GI)(s:ao)(h:eD s)(ah:List Int)(hn:(∀x∈ah,0<=x/\x<=1000)/\ah.length<=1000)(e:Nat):AC prog GI 92 [cm s ah,vI (bj e s)] (.ret (.int .i64 (fq e s ah))):=
 IT hG s h ah hn.1 hn.2 (bj e s) (oz h e).1 (oz h e).2
theorem E'(hG:au GI)(s:ao)(h:eD s)(ah:List Int)(hn:(∀x∈ah,0<=x/\x<=1000)/\ah.length<=1000):AC prog GI 107 [cm s ah] (.ret (.bool (decide (fq 0 s ah=ah.length)))):=by
 have I3:=C7 hG s (by have:=h.cells;omega) 0 (.inl rfl);have Au:=tr hG s h ah hn 0;refine cd hG func107 ntmps107 c107 ?_;simp[c107,cm,aY,ai,af];refine oc I3 ?_;simp;refine oc Au ?_;simp;rw[ab6];simp;omega
def gI(e:Nat)(s:ao):List AV:=
 if ct s then(match fC s.name with|some es=>[.int .i64 (fq e s (aR s es)),.int .i64 0]|none=>[.int .i64 0,.int .i64 7])else[.int .i64 0,.int .i64 2]
theorem gY (s:ao):(ct s=true∧∃ es,fC s.name=some es∧du s (ct s)=[cm s (aR s es),.int .i64 0]) ∨
  (∃e:Int,e≠0/\du s (ct s)=[cm zT [],.int .i64 e]/\∀k,gI k s=[.int .i64 0,.int .i64 e]):=by
 cases hI:ct s with
 |false=>exact .inr ⟨2,by decide,by simp[du],λk=>by simp[gI,hI]⟩
 |true=>
  cases hs:fC s.name with
  |some es=>exact .inl ⟨rfl,es,rfl,by simp[du,hs]⟩
  |none=>exact .inr ⟨7,by decide,by simp[du,hs],λk=>by simp[gI,hI,hs]⟩
theorem L7(hG:au GI)(s:ao)(hs:er s):AC prog GI 34 [ba s] (.ret (.dE (gI 0 s))):=by
 have BI:=ov hG s hs;have qL:=vS hG s hs
 rcases gY s with⟨hI,es,eE,ho⟩|⟨e,he,ho,ux⟩
 .rw[ho]at qL;have hg:=ee hI;have I3:=C7 hG s (by have:=hg.cells;omega) 0 (.inl rfl);have Au:=tr hG s hg _ (iN hg (gl hg.name eE)) 0
  have ux:gI 0 s=[.int .i64 (fq 0 s (aR s es)),.int .i64 0]:=by simp[gI,hI,eE]
  rw[ux];refine cd hG func34 ntmps34 c34 ?_;simp[c34,ba,ai,af];refine oc BI ?_;simp;refine oc qL ?_;simp[cm,aY,ai,af,bG];refine oc I3 ?_;simp;refine oc Au ?_;simp
 .rw[ho]at qL;rw[ux]
  have kq:(e !=0)=true:=by simpa using he
  refine cd hG func34 ntmps34 c34 ?_;simp[c34,ba,ai,af];refine oc BI ?_;simp;refine oc qL ?_;simp[cm,aY,ai,af,zT,bG,he,kq]
theorem P1(hG:au GI)(s:ao)(hs:er s):AC prog GI 35 [ba s] (.ret (.dE (gI 1 s))):=by
 have BI:=ov hG s hs;have qL:=vS hG s hs
 rcases gY s with⟨hI,es,eE,ho⟩|⟨e,he,ho,ux⟩
 .rw[ho]at qL;have hg:=ee hI;have I3:=C7 hG s (by have:=hg.cells;omega) 1 (.inr rfl);have Au:=tr hG s hg _ (iN hg (gl hg.name eE)) 1
  have ux:gI 1 s=[.int .i64 (fq 1 s (aR s es)),.int .i64 0]:=by simp[gI,hI,eE]
  rw[ux];refine cd hG func35 ntmps35 c35 ?_;simp[c35,ba,ai,af];refine oc BI ?_;simp;refine oc qL ?_;simp[cm,aY,ai,af,bG];refine oc I3 ?_;simp;refine oc Au ?_;simp
 .rw[ho]at qL;rw[ux]
  have kq:(e !=0)=true:=by simpa using he
  refine cd hG func35 ntmps35 c35 ?_;simp[c35,ba,ai,af];refine oc BI ?_;simp;refine oc qL ?_;simp[cm,aY,ai,af,zT,bG,he,kq]
def atR(s:ao)(r:Nat):ao:={ s with reach:=r }
theorem Hm{s:ao}(h:eD s){r:Nat}(h1:1<=r)(h2:r<=12):eD (atR s r):=⟨h.cells,h.n_,h.pos,⟨by show(1:Int)<=(r:Int);omega,by show(r:Int)<=12;omega⟩,h.dM,h.df,h.name⟩
def wc(s:ao)(ah:List Int)(r:Nat):Bool:=decide (fq 0 (atR s r) ah=ah.length)
def yy(s:ao):List AV:=
 if ct s then(match fC s.name with|some es=>(match(List.range' 1 12).find? (wc s (aR s es))with|some r=>[.int .i64 (r:Nat),.int .i64 0]|none=>[.int .i64 0,.int .i64 5])|none=>[.int .i64 0,.int .i64 7])else[.int .i64 0,.int .i64 2]
theorem E8{p:Nat->Bool}{r n:Nat}(h1:1<=r)(h2:r<=n)(hp:p r=true)(hb:∀k,1<=k->k<r->p k=false):(List.range' 1 n).find? p=some r:=by
 rw[show n=(r-1)+(n-(r-1)) by omega,<-adW,List.find?_append]
 have h0:(List.range' 1 (r-1)).find? p=none:=by
  rw[adm];intro x hx;have:=ada.1 hx;rw[hb x this.1 (by omega)];simp
 rw[h0,Option.none_or,show n-(r-1)=(n-r)+1 by omega,acz,List.find?_cons];rw[show 1+(r-1)=r by omega,hp]
theorem xB{p:Nat->Bool}{n:Nat}(hb:∀k,1<=k->k<=n->p k=false):(List.range' 1 n).find? p=none:=by
 rw[adm];intro x hx;have:=ada.1 hx;rw[hb x this.1 (by omega)];simp
theorem Ws(hG:au GI)(s:ao)(hs:er s):AC prog GI 44 [ba s] (.ret (.dE (yy s))):=by
 have BI:=ov hG s hs;have qL:=vS hG s hs
 rcases gY s with⟨hI,es,eE,ho⟩|⟨e,he,ho,ux⟩
 .rw[ho]at qL;have hg:=ee hI;have hn:=iN hg (gl hg.name eE)
  have Ep:yy s=(match(List.range' 1 12).find? (wc s (aR s es))with|some r=>[.int .i64 (r:Nat),.int .i64 0]|none=>[.int .i64 0,.int .i64 5]):=by simp[yy,hI,eE]
  rw[Ep];generalize aR s es=ah at qL hn⊢;refine cd hG func44 ntmps44 c44 ?_;simp[c44,ba,ai,af];refine oc BI ?_;simp;refine oc qL ?_;simp[cm,aY,ai,af,bG];refine⟨λS H=>∃r:Nat,1<=r/\r<=13/\S 4=.box 4 0/\H 4=some (aY (atR s r) ah)/\∀k,1<=k->k<r->wc s ah k=false,λ_ H=>match H 4 with|some (_::_::.int _ r::_)=>(13-r).toNat|_=>0,⟨1,abg _,by decide,?_⟩,?_⟩
  .simp[aY,ai,af,atR];intro k h1 h2;omega
  rintro S H ⟨r,Df,UT,s4,h4,hb⟩
  by_cases hle:r<=12
  case neg=>
   have hr:r=13:=by omega
   subst hr;rw[xB λk h1 h2=>hb k h1 (by omega)];simp[aY,ai,af,atR,s4,h4]
  have Fs:(r:Int)<=12:=by omega
  have MO:=E' hG (atR s r) (Hm hg Df hle) ah hn
  cases hf:wc s ah r with
  |true=>
   unfold wc at hf;rw[hf]at MO;rw[E8 Df hle (show wc s ah r=true from hf) hb];simp[aY,ai,af,atR,s4,h4,Fs];refine oc MO ?_;simp[aY,ai,af,atR,s4,h4]
  |false=>
   have xI:=hf;unfold wc at xI;rw[xI]at MO;have hw:IntKind.i64.wrap ((r:Int)+1)=r+1:=aS (by omega);simp[aY,ai,af,atR,s4,h4,Fs];refine oc MO ?_;simp[aY,ai,af,atR,s4,h4,hw];refine⟨⟨r+1,by omega,by omega,by omega,λk h1 h2=>?_⟩,by omega⟩
   by_cases hk:k=r
   .rw[hk];exact hf
   .exact hb k h1 (by omega)
 .rw[ho]at qL
  have uz:yy s=[.int .i64 0,.int .i64 e]:=by
   have:=ux 0;unfold gI at this;unfold yy
   cases hI:ct s with
   |false=>simpa[hI]using this
   |true=>
    cases eE:fC s.name with
    |none=>simpa[hI,eE]using this
    |some es=>simp[hI,eE,du]at ho;exact absurd ho.2.symm he
  rw[uz]
  have kq:(e !=0)=true:=by simpa using he
  refine cd hG func44 ntmps44 c44 ?_;simp[c44,ba,ai,af];refine oc BI ?_;simp;refine oc qL ?_;simp[cm,aY,ai,af,zT,bG,he,kq]
theorem DI(hG:au GI)(s:ao)(hs:er s)(b:Bool):AC prog GI 76 [ba s,.bool (ct s&&b)] (.ret (.dE (du s (ct s&&b)))):=by
 cases b with
 |true=>rw[aex];exact vS hG s hs
 |false=>
  rw[Bool.and_false];have:=CJ hG s;simpa[du]using this
theorem lU (s:ao) (b:Bool):(ct s=true∧b=true∧∃ es,fC s.name=some es∧du s (ct s && b)=[cm s (aR s es),.int .i64 0]) ∨
  (ct s&&b)=false/\du s (ct s&&b)=[cm zT [],.int .i64 2]\/ct s=true/\b=true/\fC s.name=none/\du s (ct s&&b)=[cm zT [],.int .i64 7]:=by
 cases hI:(ct s&&b)with
 |false=>exact .inr (.inl ⟨rfl,by simp[du]⟩)
 |true=>
  rw[abc]at hI
  cases hs:fC s.name with
  |some es=>exact .inl ⟨hI.1,hI.2,es,rfl,by simp[du,hs]⟩
  |none=>exact .inr (.inr ⟨hI.1,hI.2,rfl,by simp[du,hs]⟩)
def oX(s:ao):List AV:=if ct s then(match fC s.name with|some es=>[vI (aR s es),.int .i64 0]|none=>[vI [],.int .i64 7])else[vI [],.int .i64 2]
theorem Uf(hG:au GI)(s:ao)(hs:er s):AC prog GI 23 [ba s] (.ret (.dE (oX s))):=by
 have kW:=ov hG s hs;have ic:=DI hG s hs true
 have key:∃t:ao,∃l:List Int,∃e:Int,du s (ct s&&true)=[cm t l,.int .i64 e]/\oX s=[vI l,.int .i64 e]:=by
  rcases lU s true with⟨h1,_,es,h2,h3⟩|⟨h1,h3⟩|⟨h1,_,h2,h3⟩
  .exact⟨_,_,_,h3,by simp[oX,h1,h2]⟩
  .rw[aex]at h1;exact⟨_,_,_,h3,by simp[oX,h1]⟩
  .exact⟨_,_,_,h3,by simp[oX,h1,h2]⟩
 obtain⟨t,l,e,h3,h4⟩:=key;rw[h3,aex]at ic;rw[h4];refine cd hG func23 ntmps23 c23 ?_;simp[c23,ba,ai,af];refine oc kW ?_;simp;refine oc ic ?_;simp[cm,aY,ai,af,bG]
def kj(s:ao)(l:List Int):Bool:=decide (l.length=s.cells.length)&&(l.zip s.cells).all λx=>bL x.1 x.2.lo x.2.hi
theorem sf{α β:Type}(p:α×β->Bool):∀(l:List α)(m:List β),l.length=m.length->((l.zip m).all p=true↔∀i (h:i<l.length)(h':i<m.length),p (l[i],m[i])=true)
 |[],[],_=>by simp
 |a::l,b::m,h=>by
  rw[List.zip_cons_cons,List.all_cons,abc,sf p l m (by simpa using h)]
  constructor
  .rintro⟨h1,h2⟩ i hi dv
   cases i with
   |zero=>exact h1
   |succ i=>exact h2 i (by simpa using hi) (by simpa using dv)
  .intro hh;exact⟨hh 0 (by simp) (by simp),λi hi dv=>hh (i+1) (by simpa using hi) (by simpa using dv)⟩
 |[],_::_,h=>by simp at h
 |_::_,[],h=>by simp at h
theorem WJ(hG:au GI)(s:ao)(hs:s.cells.length<1000000)(l:List Int)(hl:l.length<1000000):AC prog GI 91 [ba s,vI l] (.ret (.bool (kj s l))):=by
 refine cd hG func91 ntmps91 c91 ?_;refine aI (λS H=>S 1=vI l/\S 2=.box 2 0/\H 2=some (ai s)) (by simp[ba,ai,af]) ?_;rintro S H ⟨s1,s2,h2⟩;simp[s1,s2,h2];refine bP 9 l.length (λi S H=>S 1=vI l/\S 2=.box 2 0/\H 2=some (ai s)/\S 7=vI l/\S 8=.int .i64 l.length/\S 9=.int .i64 (i:Nat)/\∀j (h:j<l.length),j<i->∃h':j<s.cells.length,bL l[j] s.cells[j].lo s.cells[j].hi=true) (λi S H h=>h.2.2.2.2.2.1) ⟨by simp[s1],by simp[s2],by simp[h2],by simp[s1],by simp,by simp,by simp⟩ ?_;clear s1 s2 h2 S H;rintro i hi S H ⟨s1,s2,h2,s7,s8,s9,hb⟩
 by_cases aw:i<l.length
 .have hw:IntKind.i64.wrap ((i:Int)+1)=i+1:=aS (by omega)
  have hn:¬(i:Int)<0:=by omega
  by_cases hc:i<s.cells.length
  case neg=>
   have uX:(s.cells.length:Int)<=i:=by omega
   have hr:kj s l=false:=by
    unfold kj
    rw[adf (by omega)]<;>rfl
   simp[s1,s2,h2,s7,s8,s9,aw,hn,uX,hr,ai,af]
  have uX:¬(s.cells.length:Int)<=i:=by omega
  simp[s1,s2,h2,s7,s8,s9,aw,hn,hc,uX,dG,ai,af];refine oc (qq hG _ _ _) ?_;cases kJ:bL l[i] s.cells[i].lo s.cells[i].hi
  .have hr:kj s l=false:=by
    unfold kj
    by_cases zj:l.length=s.cells.length
    .have:¬ ((l.zip s.cells).all fun x=>bL x.1 x.2.lo x.2.hi)=true:=fun h=>by
      have:=(sf _ l s.cells zj).1 h i aw hc;rw[kJ]at this;cases this
     simp only[ac4]at this;rw[this,Bool.and_false]
    .rw[adf zj]<;>rfl
   simp[s1,s2,h2,s7,s8,s9,hr]
  .simp[s1,s2,h2,s7,s8,s9,hw,ai,af];intro j hj gp
   by_cases e:j=i
   .subst e;exact⟨hc,kJ⟩
   .exact hb j hj (by omega)
 .have cU:i=l.length:=by omega
  subst cU
  have hr:kj s l=decide (l.length=s.cells.length):=by
   unfold kj
   by_cases zj:l.length=s.cells.length
   .rw[ad0 zj,aew]
    exact(sf _ l s.cells zj).2 λi h h'=>let⟨_,q⟩:=hb i h h;q
   .rw[adf zj,Bool.false_and]
  simp[s1,s2,h2,s7,s8,s9,hr,ai,af];rw[ab6];simp;omega
theorem CX{s:ao}(h:eD s){l:List Int}(hr:kj s l=true):l.length=s.cells.length/\(∀x∈l,1<=x/\x<=20)/\∀i (h:i<l.length)(h':i<s.cells.length),s.cells[i].lo<=l[i]/\l[i]<=s.cells[i].hi:=by
 unfold kj at hr;rw[abc,abe]at hr;have h2:=(sf _ l s.cells hr.1).1 hr.2
 have h3:∀i (h:i<l.length)(h':i<s.cells.length),s.cells[i].lo<=l[i]/\l[i]<=s.cells[i].hi:=λi hi dv=>by
  have:=h2 i hi dv;simpa[bL]using this
 refine⟨hr.1,λx hx=>?_,h3⟩;obtain⟨i,hi,rfl⟩:=abP hx;have:=h3 i hi (by omega);have:=h.n_ _ (aba (show i<s.cells.length by omega));omega
def o9(s:ao)(ah bq:List Int):Nat:=eu ah (fm bq) (eo (dP s) s.cells.length)
def qC(s:ao)(l:List Int):List AV:=
 if ct s&&kj s l then(match fC s.name with|some es=>[.int .i64 (o9 s (aR s es) l),.int .i64 0]|none=>[.int .i64 0,.int .i64 7])else[.int .i64 0,.int .i64 2]
theorem Vf(hG:au GI)(s:ao)(hs:er s)(l:List Int)(hl:l.length<1000000):AC prog GI 29 [ba s,vI l] (.ret (.dE (qC s l))):=by
 have kW:=ov hG s hs;have TC:=WJ hG s hs.cells l hl;have ic:=DI hG s hs (kj s l);rcases lU s (kj s l)with⟨h1,h0,es,h2,h3⟩|h3
 .have hg:=ee h1;obtain⟨r1,r2,_⟩:=CX hg h0;have hn:=iN hg (gl hg.name h2);have zZ:=IT hG s hg _ hn.1 hn.2 l r1 (λx hx=>by have:=r2 x hx;omega)
  have ho:qC s l=[.int .i64 (o9 s (aR s es) l),.int .i64 0]:=by simp[qC,h1,h0,h2]
  rw[h3,h1,h0]at ic;rw[ho];rw[h1]at kW;rw[h0]at TC;refine cd hG func29 ntmps29 c29 ?_;simp[c29,ba,ai,af];refine oc kW ?_;simp;refine oc TC ?_;simp;refine oc ic ?_;simp[cm,aY,ai,af,bG];refine oc zZ ?_;simp[o9]
 .have key:∃ e:Int,e≠0∧du s (ct s && kj s l)=[cm zT [],.int .i64 e]∧qC s l=[.int .i64 0,.int .i64 e]:=by
   rcases h3 with⟨h1,h3⟩|⟨h1,h0,h2,h3⟩
   .exact⟨2,by decide,h3,by simp[qC,h1]⟩
   .exact⟨7,by decide,h3,by simp[qC,h1,h0,h2]⟩
  obtain⟨e,he,h3,h4⟩:=key
  have kq:(e !=0)=true:=by simpa using he
  rw[h3]at ic;rw[h4];refine cd hG func29 ntmps29 c29 ?_;simp[c29,ba,ai,af];refine oc kW ?_;cases hI:ct s
  .rw[hI]at ic;simp;refine oc ic ?_;simp[cm,aY,ai,af,zT,bG,he,kq]
  .rw[hI]at ic;simp;refine oc TC ?_;simp;refine oc ic ?_;simp[cm,aY,ai,af,zT,bG,he,kq]
def D2(s:ao)(ah:List Int)(w:Int):Int:=if w<(fq 0 s ah:Nat)then 3 else if w<(fq 1 s ah:Nat)then 2 else 1
def sS(s:ao)(w:Int):Bool:=bL w 0 (s.name.words.length-1)
def nH(s:ao)(w:Int):List AV:=
 if ct s&&sS s w then(match fC s.name with|some es=>[.int .i64 (D2 s (aR s es) w),.int .i64 0]|none=>[.int .i64 0,.int .i64 7])else[.int .i64 0,.int .i64 2]
theorem Xl(hG:au GI)(s:ao)(hs:er s)(w:Int):AC prog GI 36 [ba s,.int .i64 w] (.ret (.dE (nH s w))):=by
 have kW:=ov hG s hs;have ic:=DI hG s hs (sS s w)
 have sB:IntKind.i64.wrap ((s.name.words.length:Int)-1)=(s.name.words.length:Int)-1:=by
  have:=hs.name.words;exact aS (by omega)
 rcases lU s (sS s w)with⟨h1,h0,es,h2,h3⟩|h3
 .have hg:=ee h1;have hn:=iN hg (gl hg.name h2)
  have GB:∀e,e=0\/e=1->_:=λe he=>C7 hG s (by have:=hg.cells;omega) e he
  have Ve:=GB 0 (.inl rfl);have Wy:=GB 1 (.inr rfl);have Yl:=tr hG s hg _ hn 0;have XU:=tr hG s hg _ hn 1
  have ho:nH s w=[.int .i64 (D2 s (aR s es) w),.int .i64 0]:=by simp[nH,h1,h0,h2]
  rw[h3,h1,h0]at ic;rw[ho];rw[h1]at kW;have Fc:=h0;unfold sS at Fc;refine cd hG func36 ntmps36 c36 ?_;simp[c36,ba,ai,af];refine oc kW ?_;simp[sB];refine oc (qq hG _ _ _) ?_;simp[Fc];refine oc ic ?_;simp[cm,aY,ai,af,bG];refine oc Ve ?_;simp;refine oc Yl ?_;unfold D2
  by_cases c1:w<(fq 0 s (aR s es):Nat)
  .simp[c1]
  simp[c1];refine oc Wy ?_;simp;refine oc XU ?_
  by_cases c2:w<(fq 1 s (aR s es):Nat)
  .simp[c2]
  .simp[c2]
 .have key:∃ e:Int,e≠0∧du s (ct s && sS s w)=[cm zT [],.int .i64 e]∧nH s w=[.int .i64 0,.int .i64 e]:=by
   rcases h3 with⟨h1,h3⟩|⟨h1,h0,h2,h3⟩
   .exact⟨2,by decide,h3,by simp[nH,h1]⟩
   .exact⟨7,by decide,h3,by simp[nH,h1,h0,h2]⟩
  obtain⟨e,he,h3,h4⟩:=key
  have kq:(e !=0)=true:=by simpa using he
  rw[h3]at ic;rw[h4];refine cd hG func36 ntmps36 c36 ?_;simp[c36,ba,ai,af];refine oc kW ?_;cases hI:ct s
  .rw[hI]at ic;simp;refine oc ic ?_;simp[cm,aY,ai,af,zT,bG,he,kq]
  .rw[hI]at ic;simp[sB];refine oc (qq hG _ _ _) ?_;unfold sS at ic;simp;refine oc ic ?_;simp[cm,aY,ai,af,zT,bG,he,kq]
theorem pE(s:ao)(e:Int)(he:e≠0)(ho:du s (ct s)=[cm zT [],.int .i64 e]):(ct s=false/\e=2)\/(ct s=true/\fC s.name=none/\e=7):=by
 cases hI:ct s with
 |false=>left;simp[du,hI]at ho;exact⟨rfl,ho.symm⟩
 |true=>
  cases hs:fC s.name with
  |none=>right;simp[du,hI,hs]at ho;exact⟨rfl,rfl,ho.symm⟩
  |some es=>simp[du,hI,hs]at ho;exact absurd ho.2.symm he
def rB(s:ao)(p:Nat):ao:={ s with dM:=p }
theorem GS{s:ao}(h:eD s){p:Nat}(h1:1<=p)(h2:p<=9):eD (rB s p):=⟨h.cells,h.n_,h.pos,h.reach,⟨by show(1:Int)<=(p:Int);omega,by show(p:Int)<=9;omega⟩,h.df,h.name⟩
def tt(s:ao)(es:List End)(p:Nat):Bool:=decide (fq 0 (rB s p) (aR (rB s p) es)=(aR (rB s p) es).length)
def sJ:List Nat:=[9,8,7,6,5,4,3,2,1]
def qZ(s:ao):List AV:=
 if ct s then(match fC s.name with|some es=>(match sJ.find? (tt s es)with|some r=>[.int .i64 (r:Nat),.int .i64 0]|none=>[.int .i64 0,.int .i64 5])|none=>[.int .i64 0,.int .i64 7])else[.int .i64 0,.int .i64 2]
theorem AJ{p:Nat->Bool}{r:Nat}(h1:1<=r)(h2:r<=9)(hp:p r=true)(hb:∀k,r<k->k<=9->p k=false):sJ.find? p=some r:=by
 have:r=1\/r=2\/r=3\/r=4\/r=5\/r=6\/r=7\/r=8\/r=9:=by omega
 unfold sJ;rcases this with rfl|rfl|rfl|rfl|rfl|rfl|rfl|rfl|rfl
 all_goals (repeat rw[List.find?_cons]);simp[hp,hb]
theorem BO{p:Nat->Bool}(hb:∀k,0<k->k<=9->p k=false):sJ.find? p=none:=by
 rw[adm];intro x hx
 have:0<x/\x<=9:=by simp[sJ]at hx;omega
 rw[hb x this.1 this.2];simp
theorem VG(hG:au GI)(s:ao)(hs:er s):AC prog GI 45 [ba s] (.ret (.dE (qZ s))):=by
 have kW:=ov hG s hs;have ic:=vS hG s hs
 rcases gY s with⟨hI,es,eE,ho⟩|⟨e,he,ho,ux⟩
 .rw[ho]at ic;have hg:=ee hI
  have Ep:qZ s=(match sJ.find? (tt s es)with|some r=>[.int .i64 (r:Nat),.int .i64 0]|none=>[.int .i64 0,.int .i64 5]):=by simp[qZ,hI,eE]
  rw[Ep];generalize aR s es=ah at ic;refine cd hG func45 ntmps45 c45 ?_;simp[c45,ba,ai,af];refine oc kW ?_;simp;refine oc ic ?_;simp[cm,aY,ai,af,bG];refine⟨λS H=>∃r:Nat,r<=9/\S 1=.box 1 0/\H 1=some (ai (rB s r))/\∀k,r<k->k<=9->tt s es k=false,λ_ H=>match H 1 with|some (_::_::_::.int _ r::_)=>r.toNat|_=>0,⟨9,?_⟩,?_⟩
  .simp[ai,af,rB];intro k h1 h2;omega
  rintro S H ⟨r,hr,s1,h1,hb⟩
  by_cases h0:r=0
  .subst h0;rw[BO hb];simp[ai,af,rB,s1,h1]
  have Df:1<=r:=by omega
  have gK:0<r:=by omega
  have zY:=GS hg Df hr;have Gj:=iN zY (gl zY.name eE);have yS:=DR hG (rB s r) ⟨hs.cells,hs.name⟩ zY (es:=es) eE;have y6:=E' hG (rB s r) zY (aR (rB s r) es) Gj
  cases hf:tt s es r with
  |true=>
   have xI:=hf;unfold tt at xI;rw[xI]at y6;rw[AJ Df hr hf hb];simp[ai,af,rB,s1,h1,gK];refine oc yS ?_;simp[cm,aY,ai,af];refine oc y6 ?_;simp[ai,af,rB,s1,h1]
  |false=>
   have xI:=hf;unfold tt at xI;rw[xI]at y6
   have hw:IntKind.i64.wrap ((r:Int)-1)=((r-1:Nat):Int):=by rw[aS (by omega)];omega
   simp[ai,af,rB,s1,h1,gK];refine oc yS ?_;simp[cm,aY,ai,af];refine oc y6 ?_;simp[ai,af,rB,s1,h1,hw];refine⟨⟨r-1,by omega,rfl,λk q1 q2=>?_⟩,by omega⟩
   by_cases hk:k=r
   .rw[hk];exact hf
   .exact hb k (by omega) q2
 .rw[ho]at ic
  have uz:qZ s=[.int .i64 0,.int .i64 e]:=by
   rcases pE s e he ho with⟨h1,rfl⟩|⟨h1,h2,rfl⟩
   .simp[qZ,h1]
   .simp[qZ,h1,h2]
  rw[uz]
  have kq:(e !=0)=true:=by simpa using he
  refine cd hG func45 ntmps45 c45 ?_;simp[c45,ba,ai,af];refine oc kW ?_;simp;refine oc ic ?_;simp[cm,aY,ai,af,zT,bG,he,kq]
theorem Q9(hG:au GI)(a b:End):AC prog GI 111 [bm a,bm b] (.ret (.bool (decide (b.2<a.2)))):=by
 refine cd hG func111 ntmps111 c111 ?_;simp[c111,bm]
def iS(x:End)(l:List End):End:=l.foldl (λo y=>if o.2<y.2 then y else o) x
theorem A1(x:End)(l:List End){i:Nat}(h:i<l.length):iS x (l.take (i+1))=if(iS x (l.take i)).2<l[i].2 then l[i]else iS x (l.take i):=by
 unfold iS;rw[adp,aa_ h,abW]
 rfl
theorem SX(hG:au GI)(x:End)(l:List End)(hl:l.length<1000000):AC prog GI 110 [.slice .view (aJ (x::l)),.func (.func 111) [] []] (.ret (bm (iS x l))):=by
 obtain⟨iT,Nz,Oi⟩:=bo (P:=prog) (t:=138) (s:=2) (by kernel_rfl);obtain⟨fs,fe⟩:=bU (P:=prog) (t:=138) (by kernel_rfl);have cJ:aM 2 (aJ (x::l))=true:=pk (x::l);refine cd hG func110 ntmps110 c110 ?_;refine aI (λS H=>S 0=.slice .view (aJ (x::l))/\S 1=.func (.func 111) [] []/\S 4=.box 4 0/\H 4=some [.int .i64 0,.int .i64 0]) (by simp) ?_;rintro S H ⟨s0,s1,s4,h4⟩;refine aI (λS H=>S 0=.slice .view (aJ (x::l))/\S 1=.func (.func 111) [] []/\S 4=.box 4 0/\H 4=some [.int .i64 0,.int .i64 0]/\S 5=.box 5 0/\H 5=some [.int .i64 x.1,.int .i64 x.2]) (by simp[s0,s1,s4,h4,aJ,bm,bG]) ?_;clear s0 s1 s4 h4 S H;rintro S H ⟨s0,s1,s4,h4,s5,h5⟩
 have hd:(aJ (x::l)).drop 1=aJ l:=by simp[aJ]
 have hlen:(aJ (x::l)).length=l.length+1:=by simp[aJ]
 have CO:(1:Int)<=(l.length:Int)+1:=by omega
 have lT:List.take (l.length+1) (aJ (x::l))=aJ (x::l):=abp (by omega);generalize aJ (x::l)=L at s0 hd hlen lT cJ
 have Q7:((l.length:Int)+1).toNat=l.length+1:=by omega
 simp[bound,s0,s1,s4,h4,s5,h5,hd,hlen,CO,lT,cJ,Q7];refine bP 14 l.length (λi S H=>S 1=.func (.func 111) [] []/\S 4=.box 4 0/\H 4=some [.int .i64 0,.int .i64 0]/\S 5=.box 5 0/\H 5=some [.int .i64 (iS x (l.take i)).1,.int .i64 (iS x (l.take i)).2]/\S 12=.slice .view (aJ l)/\S 13=.int .i64 l.length/\S 14=.int .i64 (i:Nat)) (λi S H h=>h.2.2.2.2.2.2.2) ⟨by simp[s1],by simp[s4],by simp[h4],by simp[s5],by simp[h5,iS],by simp,by simp[aJ],by simp⟩ ?_;clear s0 s1 s4 h4 s5 h5 S H;rintro i hi S H ⟨s1,s4,h4,s5,h5,bC,bW,cN⟩
 by_cases aw:i<l.length
 .have hw:IntKind.i64.wrap ((i:Int)+1)=i+1:=aS (by omega)
  have hn:¬(i:Int)<0:=by omega
  have hs:=A1 x l aw;have O8:=Q9 hG l[i] (iS x (l.take i))
  generalize iS x (l.take i)=o at*
  by_cases hc:o.2<l[i].2
  .rw[if_pos hc]at hs;rw[hs];simp[s1,s4,h4,s5,h5,bC,bW,cN,aw,hn,aJ,bm,bG];refine oc O8 ?_;simp[s1,s4,h4,s5,h5,bC,bW,cN,hc,hw,aJ,bm]
  .rw[if_neg hc]at hs;rw[hs]
   have uX:l[i].2<=o.2:=by omega
   simp[s1,s4,h4,s5,h5,bC,bW,cN,aw,hn,aJ,bm,bG];refine oc O8 ?_;simp[s1,s4,h4,s5,h5,bC,bW,cN,hc,uX,hw,aJ,bm]
 .have cU:i=l.length:=by omega
  subst cU;rw[acf]at h5;simp[s1,s4,h4,s5,h5,bC,bW,cN,Nz,Oi,fe,eQ,bm]
def cj(x:Nat×Nat):End:=((x.1:Int),(x.2:Int))
theorem sx:∀(l:List (Nat×Nat))(x:Nat×Nat),iS (cj x) (l.map cj)=cj (nv x l)
 |[],_=>rfl
 |y::l,x=>by
  have e1:iS (cj x) ((y::l).map cj)=iS (if(cj x).2<(cj y).2 then cj y else cj x) (l.map cj):=rfl;have e2:nv x (y::l)=nv (if x.2<y.2 then y else x) l:=rfl;rw[e1,e2,<-sx l]
  congr 1
  by_cases h:x.2<y.2
  .rw[if_pos h,if_pos (by show(x.2:Int)<(y.2:Int);omega)]
  .rw[if_neg h,if_neg (by show¬(x.2:Int)<(y.2:Int);omega)]
def nN(s:ao)(a:Int):ao:={ s with pos:=a }
theorem CM{s:ao}(h:eD s){a:Nat}(h1:1<=a)(h2:a<=s.cells.length):eD (nN s a):=⟨h.cells,h.n_,⟨by show(1:Int)<=(a:Int);omega,by show(a:Int)<=s.cells.length;omega⟩,h.reach,h.dM,h.df,h.name⟩
def fH(s:ao)(ah:List Int)(a:Nat):Nat:=fq 0 (nN s (a:Int)) ah
def tu(s:ao)(ah:List Int):Nat×Nat:=nv (1,fH s ah 1) (fG (fH s ah) 2 (s.cells.length-1))
def q_(s:ao):List AV:=
 if ct s then(match fC s.name with|some es=>[.int .i64 ((tu s (aR s es)).1:Nat),.int .i64 ((tu s (aR s es)).2:Nat),.int .i64 0]|none=>[.int .i64 0,.int .i64 0,.int .i64 7])else[.int .i64 0,.int .i64 0,.int .i64 2]
theorem rU(f:Nat->Nat){m:Nat}(hm:1<=m):fG f 1 m=(1,f 1)::fG f 2 (m-1):=by
 obtain⟨k,rfl⟩:∃k,m=k+1:=⟨m-1,by omega⟩
 unfold fG
 rw[acz]<;>rfl
theorem BD(f:Nat->Nat)(m:Nat):fG f 1 (m+1)=fG f 1 m++[(m+1,f (m+1))]:=by
 unfold fG;rw[adk,abK];simp[Nat.add_comm]
theorem Yt(hG:au GI)(s:ao)(hs:er s):AC prog GI 52 [ba s] (.ret (.dE (q_ s))):=by
 have kW:=ov hG s hs;have ic:=vS hG s hs
 rcases gY s with⟨hI,es,eE,ho⟩|⟨e,he,ho,ux⟩
 .rw[ho]at ic;have hg:=ee hI;have hc:=hg.cells
  have Ep:q_ s=[.int .i64 ((tu s (aR s es)).1:Nat),.int .i64 ((tu s (aR s es)).2:Nat),.int .i64 0]:=by simp[q_,hI,eE]
  rw[Ep];have hn:=iN hg (gl hg.name eE);generalize aR s es=ah at ic hn⊢;have GB:=C7 hG s (by omega) 0 (.inl rfl);have kP:=SX hG (cj (1,fH s ah 1)) ((fG (fH s ah) 2 (s.cells.length-1)).map cj) (by simp[fG];omega);rw[sx]at kP
  have e_:cj (1,fH s ah 1)::(fG (fH s ah) 2 (s.cells.length-1)).map cj=(fG (fH s ah) 1 s.cells.length).map cj:=by
   rw[rU _ hc.1]<;>rfl
  rw[e_]at kP;refine cd hG func52 ntmps52 c52 ?_;refine aI (λS H=>S 1=.box 1 0/\H 1=some (ai s)) (by simp[ba,ai,af]) ?_;rintro S H ⟨s1,h1⟩;refine aI (λS H=>S 1=.box 1 0/\H 1=some (ai s)/\S 5=.box 5 0/\H 5=some (aY s ah)/\S 6=.int .i64 0) ?_ ?_
  .simp[s1,h1,ai,af];refine oc kW ?_;simp;refine oc ic ?_;simp[s1,h1,cm,aY,ai,af,bG]
  clear s1 h1 S H;rintro S H ⟨s1,h1,s5,h5,s6⟩;refine aI (λS H=>S 1=.box 1 0/\H 1=some (ai s)/\S 5=.box 5 0/\H 5=some (aY s ah)) (by simp[s1,h1,s5,h5,s6]) ?_;clear s1 h1 s5 h5 s6 S H;rintro S H ⟨s1,h1,s5,h5⟩;refine aI (λS H=>S 1=.box 1 0/\H 1=some (ai s)/\S 5=.box 5 0/\H 5=some (aY s ah)/\S 7=.slice .nil []) (by simp[s1,h1,s5,h5]) ?_;clear s1 h1 s5 h5 S H;rintro S H ⟨s1,h1,s5,h5,s7⟩;refine aI (λS H=>S 7=grow 138 (aJ ((fG (fH s ah) 1 s.cells.length).map cj))) ?_ ?_
  .refine aI (λS H=>S 1=.box 1 0/\H 1=some (ai s)/\S 5=.box 5 0/\H 5=some (aY s ah)/\S 7=.slice .nil []/\S 8=.int .i64 1) (by simp[s1,h1,s5,h5,s7]) ?_;clear s1 h1 s5 h5 s7 S H;rintro S H ⟨s1,h1,s5,h5,s7,s8⟩;simp only[eF];refine⟨λS H=>∃i:Nat,i<=s.cells.length/\S 1=.box 1 0/\H 1=some (ai s)/\S 5=.box 5 0/\(∃p,H 5=some (aY (nN s p) ah))/\S 7=grow 138 (aJ ((fG (fH s ah) 1 i).map cj))/\S 8=.int .i64 ((i:Int)+1),λS _=>match S 8 with|.int _ r=>(13-r).toNat|_=>0,⟨0,abZ _,s1,h1,s5,⟨s.pos,h5⟩,by rw[s7]<;>rfl,s8⟩,?_⟩;clear s1 h1 s5 h5 s7 s8 S H;rintro S H ⟨i,hi,s1,h1,s5,⟨p,h5⟩,s7,s8⟩
   by_cases aw:i<s.cells.length
   case neg=>
    have cU:i=s.cells.length:=by omega
    subst cU
    have hq:¬((s.cells.length:Int)+1<=s.cells.length):=by omega
    simp[s1,h1,s5,h5,s7,s8,hq,ai,af]
   have hq:(i:Int)+1<=s.cells.length:=by omega
   have hw:IntKind.i64.wrap ((i:Int)+1+1)=(i:Int)+1+1:=aS (by omega);have zZ:=tr hG (nN s ((i+1:Nat):Int)) (CM hg (by omega) (by omega)) ah hn 0
   have q':aJ ((fG (fH s ah) 1 (i+1)).map cj)=aJ ((fG (fH s ah) 1 i).map cj)++[.agg [.int .i64 ((i:Int)+1),.int .i64 (fH s ah (i+1):Nat)]]:=by
    rw[BD,abK];unfold aJ;rw[abK];simp[cj,bm]
   have hlen:(aJ ((fG (fH s ah) 1 i).map cj)).length=i:=by simp[aJ,fG]
   have cJ:=pk ((fG (fH s ah) 1 i).map cj);have hfd:fq 0 (nN s ((i+1:Nat):Int)) ah=fH s ah (i+1):=rfl;rw[hfd]at zZ;have k3:aM 2 [AV.agg [.int .i64 ((i:Int)+1),.int .i64 (fH s ah (i+1):Nat)]]=true:=rfl
   have qQ:i+1<1048576:=by omega
   generalize aJ ((fG (fH s ah) 1 i).map cj)=L at s7 q' hlen cJ;simp[s1,h1,s5,h5,s7,s8,hq,aY,nN,ai,af];refine oc GB ?_;simp[s1,h1,s5,h5,s7,s8,aY,nN,ai,af];refine oc zZ ?_;have dX:(AV.agg [.int .i64 ((i:Int)+1),.int .i64 (fH s ah (i+1):Nat)]).storable=true:=rfl
   cases L with
   |nil=>
    have qp:grow 138 []=.slice .nil []:=rfl
    have GA:i=0:=by simpa using hlen.symm
    subst GA;simp[s1,h1,s5,h5,s8,qp,bG,aY,nN,ai,af,aM];have gR:IntKind.i64.wrap 2=2:=aS (by omega);rw[gR];exact⟨⟨1,hc.1,rfl,by omega⟩,by omega⟩
   |cons y L=>
    have qp:grow 138 (y::L)=.slice (.own 138) (y::L):=rfl;simp[s1,h1,s5,h5,s8,qp,hw,hlen,qQ,k3,cJ,bG,aY,nN,ai,af];exact⟨⟨i+1,by omega,by rw[q']<;>rfl,by omega⟩,by omega⟩
  .clear s1 h1 s5 h5 s7 S H;intro S H s7
   have kd:grow 138 (aJ ((fG (fH s ah) 1 s.cells.length).map cj))=.slice (.own 138) (aJ ((fG (fH s ah) 1 s.cells.length).map cj)):=by
    rw[rU _ hc.1]<;>rfl
   rw[kd]at s7;have hb:nv (1,fH s ah 1) (fG (fH s ah) 2 (s.cells.length-1))=tu s ah:=rfl;rw[hb]at kP;generalize aJ ((fG (fH s ah) 1 s.cells.length).map cj)=L at s7 kP;generalize tu s ah=q at kP⊢;simp[s7];refine oc kP ?_;simp[bm,cj,bG]
 .rw[ho]at ic
  have uz:q_ s=[.int .i64 0,.int .i64 0,.int .i64 e]:=by
   rcases pE s e he ho with⟨h1,rfl⟩|⟨h1,h2,rfl⟩
   .simp[q_,h1]
   .simp[q_,h1,h2]
  rw[uz]
  have kq:(e !=0)=true:=by simpa using he
  refine cd hG func52 ntmps52 c52 ?_;simp[c52,ba,ai,af];refine oc kW ?_;simp;refine oc ic ?_;simp[cm,aY,ai,af,zT,bG,he,kq]
theorem Sd(hG:au GI)(s:ao)(hs:s.cells.length<1000)(e:Nat)(he:e=0\/e=1)(cC:bj e s≠[]):AC prog GI 98 [ba s,.int .i64 (e:Nat)] (.ret (.slice (.own 3) (ints (bj e s)))):=by
 refine AC.ib func98 rfl ntmps98 (by simp) λcc w=>O3 hG s hs e he cc w λS5 H5 s6=>?_
 have Fc:ints (bj e s)≠[]:=by simpa[ints]using cC
 have Ll:S5 6=.slice (.own 3) (ints (bj e s)):=by rw[s6];simp[grow,Fc]
 clear s6;show SW prog GI 29 none (.seq (.region _ _ false) .ret) _ _ _ _
 refine SW.seq (SW.hand hG (p:=0) (lm:=[0,1]) (l2:=[]) (jU:=[]) (oh:=[_,_]) (ll:=[]) rfl rfl rfl rfl (by kernel_rfl) (λ_ h=>h) (lR:=[]) (kK:=[]) rfl rfl rfl rfl
  (K1:=λS H=>S 6=.slice (.own 3) (ints (bj e s))) (K2:=λo S H=>o=Old.plain cc w/\S 4=.slice (.own 3) (ints (bj e s))) (K3:=λo S H=>o=Old.plain cc w/\S 4=.slice (.own 3) (ints (bj e s))) ?_ ?_ ?_ ?_)
 .exact Ll
 .rintro w0 g S H a w' m cD ho R s6;have r6:=R.slot 6 (by decide) (λh=>h);rw[s6]at r6;have bn:=R.size
  obtain⟨c,hc⟩:∃c,a.tmps.getD 6 undef=c:=⟨_,rfl⟩
  rw[hc]at r6;have rv:RD g.Pr w' (.slice .view (ints (bj e s))) c:=(r6.eK rfl).aH;refine aT rfl rfl (by rfl) ((run_move (x:=.tmp 6) w' rfl).trans (congrArg (λv=>Result.ok (Next.value v) w') hc)) ?_;have R1:=R.put 28 (.slice .view (ints (bj e s))) c (by decide) (.data _ _ rv) trivial
  have qS:(a.put (some 28) c).tmps.getD 28 undef=c:=by simp[Act.put,bn]
  refine aT rfl rfl (by rfl) ((run_assign (x:=.tmp 28) w' rfl).trans (congrArg (λv=>Result.ok (Next.value v) w') qS)) ?_;have R2:=R1.put 4 (.slice .view (ints (bj e s))) c (by decide) (.data _ _ rv) trivial
  have e4:((a.put (some 28) c).put (some 4) c).tmps.getD 4 undef=c:=by simp[Act.put,bn]
  have e6:((a.put (some 28) c).put (some 4) c).tmps.getD 6 undef=a.tmps.getD 6 undef:=by simp[Act.put,abd]
  obtain⟨g',q1,R3⟩:=R2.IA (t:=6) (u:=4) (e:=3) (es:=ints (bj e s)) (by decide) (by decide) (by decide) (by simp[ar,s6]) (by rw[e4,e6,hc]);exact⟨g',_,_,R3,by rw[q1];exact ho,aN _ _ _⟩
 .rintro o S H ⟨rfl,s4⟩;exact⟨λ_ h=>h,rfl,s4⟩
 .rintro o S H ⟨rfl,s4⟩;refine SW.ret ⟨dZ.plain rfl,rfl,_,?_,rfl⟩;show cE prog 29 [.tmp 4] S H=_;simp[cE,cW,cV,s4,AV.bZ,AV.out]
theorem yA{a:Act}{w:World}{o:Oper}{x y:Operand}{t ty:TypeId}{m n:Int}(ho:o.op=.binOp .add t x y ty)(hx:a.eval x=.int .i64 m)(hy:a.eval y=.int .i64 n):(execOp a.eval o).run prog w=.ok (.value (.int .i64 (IntKind.i64.wrap (m+n)))) w:=by
 unfold execOp;simp[ho,hx,hy,Go.binOp,Op.intArith,eqGuard]
def fJ(s:ao)(i n:Nat):List Int:=(bj 0 s).set i ((bj 0 s).getD i 0+n)
def jb(s:ao)(ah:List Int)(i n:Nat):Bool:=decide (o9 s ah (fJ s i n)=ah.length)
theorem KX(l:List Int):jz 1 (ints l):=λx hx=>by
 obtain⟨k,_,rfl⟩:=abz.1 hx;exact⟨rfl,rfl,λc hc=>by simp[AV.cells]at hc;subst hc;rfl⟩
theorem ints_set(l:List Int)(i:Nat)(x:Int):(ints l).set i (.int .i64 x)=ints (l.set i x):=by simp[ints,List.map_set]
structure PO(cc:Nat->Nat->Prop)(o:Old):Prop where
 c:o.c=cc
 ds:o.ds=[]
 bx:∀d,¬o.bx d
theorem Sb (hG:au GI) (s:ao) (h:eD s) (ah:List Int) (hn:(∀ x∈ah,0≤x∧x≤1000)∧ah.length≤1000) {i:Nat} (hi:i < s.cells.length) {n:Nat} (Hr:n≤900) :
  AC prog GI 104 [.int .i64 (n:Nat),.ref (ai s),.ref [.int .i64 (i:Nat)],.ref (aY s ah)] (.ret (.bool (jb s ah i n))):=by
 have hc:=h.cells
 have Kl:(bj 0 s).length=s.cells.length:=by simp[bj]
 have cC:bj 0 s≠[]:=λh0=>by rw[h0]at Kl;simp at Kl;omega
 have rX:=(oz h 0).2
 have cU:i<(bj 0 s).length:=by omega
 have hxi:=rX _ (aba cU)
 have aaX:(bj 0 s)[i]<=20:=by
  have:=h.n_ _ (aba hi);simp[bj,mq];omega
 have Iw:(bj 0 s).getD i 0=(bj 0 s)[i]:=by simp[abB,cU]
 have GB:=Sd hG s (by omega) 0 (.inl rfl) cC
 have sB:(fJ s i n).length=s.cells.length:=by simp[fJ,Kl]
 have zZ:=IT hG s h ah hn.1 hn.2 (fJ s i n) sB (λx hx=>by
  rcases adX hx with h1|h1
  .exact rX x h1
  .rw[h1,Iw];omega)
 have mj:((eu ah (fm (fJ s i n)) (eo (dP s) s.cells.length):Int)==(ah.length:Int))=jb s ah i n:=by
  show _=decide (eu ah (fm (fJ s i n)) (eo (dP s) s.cells.length)=ah.length);rw[ab6,abe,abX];omega
 obtain⟨i3,se,mM⟩:=bo (P:=prog) (t:=3) (s:=1) (by kernel_rfl);obtain⟨d3,HF,YV⟩:=gv (P:=prog) (t:=3) (by kernel_rfl)
 refine AC.ib func104 rfl ntmps104 (by simp) λcc w=>?_
 refine dO hG c104.qa (λS H=>S 0=.int .i64 (n:Nat)/\S 1=.ref (ai s)/\S 2=.ref [.int .i64 (i:Nat)]/\S 3=.ref (aY s ah)) ?_ ?_
 .simp[c104,ae.qa,aY,ai,af]
 rintro S1 H1 ⟨s0,s1,s2,s3⟩;show SW prog GI 23 none (.seq _ (.seq _ (.seq _ .ret))) _ _ _ _
 refine SW.seq (SW.hand hG (p:=1) (lm:=[1]) (l2:=[2]) (jU:=[_]) (oh:=[_]) (ll:=[_]) rfl rfl rfl rfl (by kernel_rfl) (λ_ h=>h)
  (lR:=(c104.qb.qa.dl).take 1) (kK:=(c104.qb.qa.dl).drop 2) (by kernel_rfl) (by kernel_rfl) (by kernel_rfl) (by kernel_rfl)
  (K1:=λS H=>S 0=.int .i64 (n:Nat)/\S 2=.ref [.int .i64 (i:Nat)]/\S 3=.ref (aY s ah)/\S 7=ba s)
  (K2:=λo S H=>∃v,KO cc 3 1 (ints (bj 0 s)) o v/\S 0=.int .i64 (n:Nat)/\S 2=.ref [.int .i64 (i:Nat)]/\S 3=.ref (aY s ah)/\S 8=.val v)
  (K3:=λo S H=>∃v,KO cc 3 1 (ints (bj 0 s)) o v/\S 0=.int .i64 (n:Nat)/\S 2=.ref [.int .i64 (i:Nat)]/\S 3=.ref (aY s ah)/\S 6=.val v) ?_ ?_ ?_ ?_)
 .simp[c104,ae.qa,ae.qb,ae.dl,s0,s1,s2,s3,ba,ai,af]
 .rintro w0 g S H a w' m cD ho R ⟨s0,s2,s3,s7⟩;have r7:=R.slot 7 (by decide) (λh=>h);rw[s7]at r7
  refine fg rfl rfl (by rfl) (fT (k:=98) (args:=#[a.tmps.getD 7 undef,.int .i64 0]) w' rfl rfl ?_ (by kernel_rfl)) (GB w' (eT g false) #[a.tmps.getD 7 undef,.int .i64 0] (hG w0 w' cD (by have:=R.below;rwa [R.base]at this)) rfl (λj hj dw=>by
   match j,hj with
   |0,_=>exact(r7.bT rfl).mono (bf.same λb k _ hp=>.inl hp) λ_ _ h=>h
   |1,_=>exact .data _ _ (.int _ _))) ?_
  .simp only[abI,abA,abL,Act.eval]
  intro en w2 hE;obtain⟨v,g',rfl,R2,hK⟩:=Dp R (cc:=cc) (by rw[ho];exact⟨rfl,rfl,λ_ h=>h⟩) se (by rw[mM];exact KX _) hE;rw[mM]at hK;refine⟨_,rfl,?_⟩
  have lM:v.oneCell'=true:=by
   rcases hK.row with⟨⟨_,rfl⟩,_⟩|⟨_,_,_,rfl,_⟩<;>rfl
  exact⟨g',_,_,R2.put 8 (.val v) v (by decide) (.data _ _ (.val _ lM)) trivial,v,hK,by simp[ar,s0],by simp[ar,s2],by simp[ar,s3],by simp[ar]⟩
 .rintro o S H ⟨v,hK,s0,s2,s3,s8⟩;refine⟨hK.bx,?_⟩;simp[c104,ae.qa,ae.qb,ae.dl,s0,s2,s3,s8];exact hK
 clear s0 s1 s2 s3 S1 H1;rintro o S1 H1 ⟨v,hK,s0,s2,s3,s6⟩;have Vt:=hK.bx
 refine SW.seq (SW.hand hG (p:=2) (lm:=[2,3,4,5,6,7]) (l2:=[]) (jU:=[_,_]) (oh:=[_,_,_,_,_,_]) (ll:=[]) rfl rfl rfl rfl (by kernel_rfl) Vt
  (lR:=(c104.qb.qb.qa.dl).take 2) (kK:=[]) (by kernel_rfl) rfl (by kernel_rfl) rfl
  (K1:=λS H=>S 0=.int .i64 (n:Nat)/\S 3=.ref (aY s ah)/\S 6=.val v/\S 9=.val v/\S 10=.int .i64 (i:Nat))
  (K2:=λo S H=>PO cc o/\S 3=.ref (aY s ah)/\S 6=vI (fJ s i n))
  (K3:=λo S H=>PO cc o/\S 3=.ref (aY s ah)/\S 6=vI (fJ s i n)) ?_ ?_ ?_ ?_)
 .simp[c104,ae.qa,ae.qb,ae.dl,s0,s2,s3,s6]
 .rintro w0 g S H a w' m cD ho R ⟨s0,s3,s6,s9,bK⟩;rw[<-ho]at hK
  have FP:i<(ints (bj 0 s)).length:=by simpa[ints]using cU
  obtain⟨b,cap,cur,hv,ml,oL,dX⟩:=hK.cell R FP
  have zQ:(ints (bj 0 s))[i]=.int .i64 (bj 0 s)[i]:=by simp[ints]
  have uO:0<((ints (bj 0 s))[i]).cells.length:=by rw[zQ];simp[AV.cells]
  have tj:=dX 0 uO
  have OM:K_ (((ints (bj 0 s))[i]).cells[0]'uO)=.int .i64 (bj 0 s)[i]:=by simp only[zQ];rfl
  rw[OM,acJ,Nat.add_zero]at tj;have t9:=R.slot 9 (by decide) (λh=>h);rw[s9]at t9;have e9:a.eval (.tmp 9)=.slice (some ⟨b,0,none⟩) (ints (bj 0 s)).length cap:=t9.fR.trans hv;have t10:=R.slot 10 (by decide) (λh=>h);rw[bK]at t10;have jE:a.eval (.tmp 10)=.int .i64 (i:Nat):=t10.int_eq;have t0:=R.slot 0 (by decide) (λh=>h);rw[s0]at t0;have e0:a.eval (.tmp 0)=.int .i64 (n:Nat):=t0.int_eq;have bn:=R.size;have lq:IntKind.i64.wrap ((bj 0 s)[i]+n)=(bj 0 s)[i]+n:=aS (by omega);refine aT rfl rfl (by rfl) (jt (k:=i) rfl (by kernel_rfl) se e9 jE FP) ?_;rw[mM,acJ];have R1:=R.put 11 (.val (.pointer (some ⟨b,i,none⟩))) (.pointer (some ⟨b,i,none⟩)) (by decide) (.data _ _ (.val _ rfl)) trivial
  have p:=λt c=>bw a 11 t c (by omega)
  have f11:=(p 11 (.pointer (some ⟨b,i,none⟩))).trans (if_pos rfl);have f9:=((p 9 (.pointer (some ⟨b,i,none⟩))).trans (if_neg (by decide))).trans e9;have f10:=((p 10 (.pointer (some ⟨b,i,none⟩))).trans (if_neg (by decide))).trans jE;have f0:=((p 0 (.pointer (some ⟨b,i,none⟩))).trans (if_neg (by decide))).trans e0;have OV:=R1.size;show wpOpsIn _ _ _ _ _ [3,4,5,6,7] (a.put (some 11) (.pointer (some ⟨b,i,none⟩))) w'
  generalize a.put (some 11) (.pointer (some ⟨b,i,none⟩))=a1 at*
  clear p e9 jE e0 t9 t10 t0;refine aT rfl rfl (by rfl) (g_ rfl f11 HF YV oL tj.2) ?_;have R2:=R1.put 12 (.int .i64 (bj 0 s)[i]) (.int .i64 (bj 0 s)[i]) (by decide) (.data _ _ (.int _ _)) trivial
  have p:=λt c=>bw a1 12 t c (by omega)
  have g12:=(p 12 (.int .i64 (bj 0 s)[i])).trans (if_pos rfl);have g9:=((p 9 (.int .i64 (bj 0 s)[i])).trans (if_neg (by decide))).trans f9;have g10:=((p 10 (.int .i64 (bj 0 s)[i])).trans (if_neg (by decide))).trans f10;have g0:=((p 0 (.int .i64 (bj 0 s)[i])).trans (if_neg (by decide))).trans f0;have yr:=R2.size;show wpOpsIn _ _ _ _ _ [4,5,6,7] (a1.put (some 12) (.int .i64 (bj 0 s)[i])) w'
  generalize a1.put (some 12) (.int .i64 (bj 0 s)[i])=a2 at*
  clear p f11 f9 f10 f0;refine aT rfl rfl (by rfl) ((run_move (x:=.tmp 0) w' rfl).trans (congrArg (λv=>Result.ok (Next.value v) w') g0)) ?_;have R3:=R2.put 13 (.int .i64 (n:Nat)) (.int .i64 (n:Nat)) (by decide) (.data _ _ (.int _ _)) trivial
  have p:=λt c=>bw a2 13 t c (by omega)
  have Vx:=(p 13 (.int .i64 (n:Nat))).trans (if_pos rfl);have X8:=((p 12 (.int .i64 (n:Nat))).trans (if_neg (by decide))).trans g12;have k9:=((p 9 (.int .i64 (n:Nat))).trans (if_neg (by decide))).trans g9;have Yr:=((p 10 (.int .i64 (n:Nat))).trans (if_neg (by decide))).trans g10;have WN:=R3.size;show wpOpsIn _ _ _ _ _ [5,6,7] (a2.put (some 13) (.int .i64 (n:Nat))) w'
  generalize a2.put (some 13) (.int .i64 (n:Nat))=a3 at*
  clear p g12 g9 g10 g0;refine aT rfl rfl (by rfl) (yA rfl X8 Vx) ?_;rw[lq];have R4:=R3.put 14 (.int .i64 ((bj 0 s)[i]+n)) (.int .i64 ((bj 0 s)[i]+n)) (by decide) (.data _ _ (.int _ _)) trivial
  have p:=λt c=>bw a3 14 t c (by omega)
  have XM:=(p 14 (.int .i64 ((bj 0 s)[i]+n))).trans (if_pos rfl);have l9:=((p 9 (.int .i64 ((bj 0 s)[i]+n))).trans (if_neg (by decide))).trans k9;have l10:=((p 10 (.int .i64 ((bj 0 s)[i]+n))).trans (if_neg (by decide))).trans Yr;have Bu:=R4.size;show wpOpsIn _ _ _ _ _ [6,7] (a3.put (some 14) (.int .i64 ((bj 0 s)[i]+n))) w'
  generalize a3.put (some 14) (.int .i64 ((bj 0 s)[i]+n))=a4 at*
  clear p X8 Vx k9 Yr;refine aT rfl rfl (by rfl) (jt (k:=i) rfl (by kernel_rfl) se l9 l10 FP) ?_;rw[mM,acJ];have R5:=R4.put 15 (.val (.pointer (some ⟨b,i,none⟩))) (.pointer (some ⟨b,i,none⟩)) (by decide) (.data _ _ (.val _ rfl)) trivial
  have p:=λt c=>bw a4 15 t c (by omega)
  have m15:=(p 15 (.pointer (some ⟨b,i,none⟩))).trans (if_pos rfl);have m14:=((p 14 (.pointer (some ⟨b,i,none⟩))).trans (if_neg (by decide))).trans XM;show wpOpsIn _ _ _ _ _ [7] (a4.put (some 15) (.pointer (some ⟨b,i,none⟩))) w'
  generalize a4.put (some 15) (.pointer (some ⟨b,i,none⟩))=a5 at*
  clear p XM l9 l10;obtain ⟨cur',cP,PU,WR⟩:=tX (o:={ dst:=none,op := .store 3 (.tmp 15) (.tmp 14),type:=0,pos := "",after := #[],guard:=none }) (v := .int .i64 ((bj 0 s)[i]+n)) rfl m15 se mM oL tj.1 m14 rfl;refine dk rfl rfl (by rfl) cP ?_;have R6:=R5.kz ml (.cells cur' 3 (0,0));have A9:=hK.set (j:=i) (k:=0) FP (by rw [zQ];simp [AV.cells]) (x := .int .i64 ((bj 0 s)[i]+n)) (u := .int .i64 ((bj 0 s)[i]+n)) (λx hx=>by simp at hx;subst hx;exact ⟨rfl,rfl,λc hc=>by simp [AV.cells] at hc;subst hc;rfl⟩) (by rw [zQ]<;>rfl) hv ml PU (λm=>by rw [WR m,acJ,Nat.add_zero]<;>rfl);rw [ints_set] at A9
  have oD:(bj 0 s).set i ((bj 0 s)[i]+n)=fJ s i n:=by rw[fJ,Iw]
  rw[oD]at A9;obtain⟨g',R7,q1,q2,q3⟩:=KO.done A9 R6 (t:=6) (by decide) (by simp[ar,s6]);exact⟨g',_,_,R7,⟨q1,q2,q3⟩,by simp[ar,s3],by simp[ar]<;>rfl⟩
 .rintro o S H ⟨hp,s3,s6⟩;exact⟨hp.bx,hp,s3,s6⟩
 clear s0 s2 s3 s6 S1 H1 hK Vt;rintro o S1 H1 ⟨hp,s3,s6⟩;refine Ot hG c104.qb.qb.qb.qa (λd _=>hp.bx d) (λS H=>S 5=.bool (jb s ah i n)) ?_ ?_
 .simp[c104,ae.qa,ae.qb,s3,s6,aY,ai,af];refine oc zZ ?_;simp[s3,s6,aY,ai,af];exact mj
 .intro S H s5;refine SW.ret ⟨dZ.plain hp.ds,hp.c,_,?_,rfl⟩;show cE prog 23 [.tmp 5] S H=_;simp[cE,cW,cV,s5,AV.bZ,AV.out]
def l6(w:Word):Bool:=decide (w.aP.length<=8)&&decide (w.bO.length<=8)
def mz(s:aD):Bool:=(s.words.take 6).all l6&&(decide (s.a_.length<=8)&&decide (s.aQ.length<=8)&&decide (s.words.length<=6))
theorem zv{s:aD}(h:mz s=true):rY s:=by
 unfold mz at h;simp only[abc,abe]at h;obtain⟨h1,⟨h2,h3⟩,h4⟩:=h;rw[abp h4,abt]at h1
 have h5:∀w∈s.words,w.aP.length<=8/\w.bO.length<=8:=λw hw=>by simpa[l6]using h1 w hw
 exact⟨by omega,by omega,by omega,λw hw=>by have:=(h5 w hw).1;omega,λw hw=>by have:=(h5 w hw).2;omega⟩
def qc(s:ao):Bool:=mz s.name&&decide (s.cells.length<=14)
theorem pM{s:ao}(h:qc s=true):er s/\s.cells.length<=14/\s.name.words.length<=6:=by
 unfold qc at h;rw[abc,abe]at h
 have h6:s.name.words.length<=6:=by
  have:=h.1;unfold mz at this;simp only[abc,abe]at this;exact this.2.2
 exact⟨⟨by omega,zv h.1⟩,h.2,h6⟩
theorem YM(hG:au GI)(s:ao):AC prog GI 28 [ba s] (.ret (.bool (qc s))):=by
 obtain⟨n,hn⟩:∃n,s.name=n:=⟨_,rfl⟩
 obtain⟨cs,uy⟩:∃n,s.cells=n:=⟨_,rfl⟩
 have hc:((cs.length:Int)<=14)↔cs.length<=14:=by omega
 have Wm:((n.a_.length:Int)<=8)↔n.a_.length<=8:=by omega
 have YW:((n.aQ.length:Int)<=8)↔n.aQ.length<=8:=by omega
 have WU:((n.words.length:Int)<=6)↔n.words.length<=6:=by omega
 unfold qc;rw[hn,uy];refine cd hG func28 ntmps28 c28 ?_;refine aI (λS H=>S 1=.box 1 0/\H 1=some (ai s)) (by simp[ba,ai,af]) ?_;rintro S H ⟨s1,h1⟩
 have hT:ai s=[.slice .view (cs.map dG),.int .i64 s.pos,.int .i64 s.reach,.int .i64 s.dM,.int .i64 s.df]++af n:=by rw[<-hn,<-uy]<;>rfl
 rw[hT]at h1;generalize ai s=T at hT;simp[s1,h1];refine bP 3 (min n.words.length 6) (λi S H=>S 1=.box 1 0/\H 1=some ([.slice .view (cs.map dG),.int .i64 s.pos,.int .i64 s.reach,.int .i64 s.dM,.int .i64 s.df]++af n)/\S 3=.int .i64 (i:Nat)/\(∀j (hj:j<(n.words.take 6).length),j<i->l6 (n.words.take 6)[j]=true)) (λi S H h=>h.2.2.1) ⟨by simp[s1],by simp[h1],by simp,by simp⟩ ?_;clear s1 h1 S H;rintro i hi S H ⟨s1,e1,s3,hb⟩
 by_cases aw:i<n.words.length
 case neg=>
  have cU:i=n.words.length:=by omega
  subst cU
  have YT:n.words.length<=6:=by omega
  have e_:(n.words.take 6).all l6=true:=rL λj hj=>hb j hj (by rw[abT]at hj;omega)
  by_cases h0:cs.length<=14<;>by_cases h1:n.a_.length<=8<;>by_cases h2:n.aQ.length<=8<;>simp[s1,e1,s3,af,mz,e_,h0,h1,h2,YT,hc,Wm,YW,WU]
 by_cases h6:i<6
 case neg=>
  have IJ:¬(i:Int)<6:=by omega
  have e_:(n.words.take 6).all l6=true:=rL λj hj=>hb j hj (by rw[abT]at hj;omega)
  by_cases h0:cs.length<=14<;>by_cases h1:n.a_.length<=8<;>by_cases h2:n.aQ.length<=8<;>simp[s1,e1,s3,aw,IJ,af,mz,e_,h0,h1,h2,hc,Wm,YW,WU]
 have hw:IntKind.i64.wrap ((i:Int)+1)=i+1:=aS (by omega)
 have IJ:(i:Int)<6:=by omega
 have hit:i<(n.words.take 6).length:=by rw[abT];omega
 have hZ:(n.words.take 6)[i]=n.words[i]:=adr
 by_cases h1:n.words[i].aP.length<=8
 case neg=>
  have hf:l6 (n.words.take 6)[i]=false:=by rw[hZ];simp[l6,h1]
  have zG:(8:Int)<n.words[i].aP.length:=by omega
  simp[s1,e1,s3,aw,IJ,af,cG,zG];simp[mz,pG hit hf]
 have zG:¬(8:Int)<n.words[i].aP.length:=by omega
 by_cases h2:n.words[i].bO.length<=8
 case neg=>
  have tZ:(8:Int)<n.words[i].bO.length:=by omega
  have hf:l6 (n.words.take 6)[i]=false:=by rw[hZ];simp[l6,h2]
  simp[s1,e1,s3,aw,IJ,af,cG,zG,tZ];simp[mz,pG hit hf]
 have tZ:¬(8:Int)<n.words[i].bO.length:=by omega
 have ht:l6 (n.words.take 6)[i]=true:=by rw[hZ];simp[l6,h1,h2]
 simp[s1,e1,s3,aw,IJ,af,cG,zG,tZ,hw]
 exact⟨by omega,λj hj gp=>by
  have:=kh hit hb ht j (by rw[abT];omega) gp
  rwa [adr]at this⟩
def rG(s:ao):Bool:=qc s&&ct s
theorem Uq(hG:au GI)(s:ao):AC prog GI 21 [ba s] (.ret (.bool (rG s))):=by
 have Nj:=YM hG s;unfold rG
 cases hs:qc s with
 |false=>
  rw[hs]at Nj;refine cd hG func21 ntmps21 c21 ?_;simp[c21,ba,ai,af];refine oc Nj ?_;simp
 |true=>
  have h30:=Uu hG s (pM hs).1;rw[hs]at Nj;refine cd hG func21 ntmps21 c21 ?_;simp[c21,ba,ai,af];refine oc Nj ?_;simp;refine oc h30 ?_;simp
def Jv(s:ao):AV:=match gI 0 s with
 |[.int _ n,.int _ e]=>.dE [.bool (e==0&&n==s.name.words.length),.bool (e==0&&(decide (0<=n)&&decide (n<=s.name.words.length))||e==7)]
 |_=>.bl
theorem UI(e:Nat)(s:ao):∃n k:Int,gI e s=[.int .i64 n,.int .i64 k]:=by
 unfold gI;split
 .split<;>exact⟨_,_,rfl⟩
 .exact⟨_,_,rfl⟩
theorem ZD(hG:au GI)(s:ao)(hs:er s):AC prog GI 42 [ba s] (.ret (Jv s)):=by
 have Ym:=L7 hG s hs;unfold Jv;obtain⟨n,k,Kt⟩:=UI 0 s;rw[Kt]at Ym⊢;simp only
 by_cases h0:k=0
 .subst h0
  by_cases h1:0<=n
  .by_cases h2:n<=s.name.words.length
   .refine cd hG func42 ntmps42 c42 ?_;simp[c42,ba,ai,af];refine oc Ym ?_;simp[h1,h2]
   .refine cd hG func42 ntmps42 c42 ?_;simp[c42,ba,ai,af];refine oc Ym ?_;simp[h1,h2]
  .refine cd hG func42 ntmps42 c42 ?_;simp[c42,ba,ai,af];refine oc Ym ?_;simp[h1]
 .have hk:(k==0)=false:=by simpa using h0
  refine cd hG func42 ntmps42 c42 ?_;simp[c42,ba,ai,af];refine oc Ym ?_;simp[h0,hk]
theorem Rv(hG:au GI)(s:List UInt8):AC prog GI 168 [.bool true,.str s] (.ret (.dE [])):=by
 refine cd hG func168 ntmps168 c168 ?_;simp[c168]
def Bo(w:List UInt8):Bool:=AD w&&decide (w.length<=2)
theorem yG{w:List UInt8}:Bo w=true↔w≠[]/\w.length<=2/\(∀c∈w,digit c)/\kc (cL w)=w:=by
 unfold Bo;rw[abc,Ci,abe]
 constructor
 .rintro⟨⟨h1,h2,h3,h4⟩,h5⟩;exact⟨h1,h5,h3,h4⟩
 .rintro⟨h1,h2,h3,h4⟩;exact⟨⟨h1,by omega,h3,h4⟩,h2⟩
theorem rI:∀(w:List UInt8),(∀c∈w,digit c)->w.length<=2->0<=cL w/\cL w<100
 |[],_,_=>by simp[cL]
 |[a],h,_=>by have:=h a (by simp);unfold digit at this;simp[cL];omega
 |[a,b],h,_=>by have h1:=h a (by simp);have h2:=h b (by simp);unfold digit at h1 h2;simp[cL];omega
theorem MD(i:Nat)(hi:i<100):AC prog GI 162 [.int .i64 (i:Nat)] (.ret (.str (BX 20 i))):=by
 intro w old bI hG hl hr;obtain⟨v,rfl⟩:=TI hl rfl;have e1:=(hr 0 (by simp) (by simp)).int_eq;simp only[List.getElem_toArray,List.getElem_cons_zero]at e1;subst e1;refine(Tryz.strconv_Itoa_small i hi w).mono ?_;rintro e w' ⟨rfl,rfl⟩;refine⟨ab4 _ _,λ_=>0,λ_ _=>rfl,_,rfl,.data _ _ ?_,trivial⟩;rw[Cs 20 i (by omega) (by omega)];exact .str _
theorem va{n:Int}(h0:0<=n)(h1:n<100):AC prog GI 162 [.int .i64 n] (.ret (.str (kc n))):=by
 have:=MD (GI:=GI) n.toNat (by omega);rw[aeB h0]at this;exact this
noncomputable def tx:ae:=ae.qb c169.qb.qb.qa.qb.qb
noncomputable def zN:ae:=ae.qb c169.qb.qb
theorem N5(hG:au GI)(wd:List UInt8)(hw:Bo wd=true):AC prog GI 169 [.str wd] (.ret (.int .i64 (cL wd))):=by
 obtain⟨cC,wk,yP,hde⟩:=yG.1 hw
 refine AC.ib func169 rfl ntmps169 (by simp) λcc w=>?_
 have da:∀k d,¬(oK cc w k).bx d:=λ_ _ h=>h
 refine dO hG c169.qa (λS' H'=>S' 0=.str wd) ?_ ?_
 .simp[c169,ae.qa]
 rintro S1 H1 s0;refine dO hG c169.qb.qa (λS' H'=>S' 0=.str wd/\S' 3=.int .i64 0) ?_ ?_
 .simp[c169,ae.qa,ae.qb,s0]
 rintro S2 H2 ⟨s0,s3⟩;show SW prog GI 41 none (.seq (.seq _ (.block 0 (.loop _))) (.seq _ (.seq _ .ret))) _ _ _ _
 obtain⟨sb,mj⟩:∃sb:ByteArray,sb=⟨wd.toArray⟩:=⟨_,rfl⟩
 refine SW.seq (SW.seq (SW.mid hG (p:=1) (oh:={ dst:=some 7,op := .range 9 (.tmp 6),type:=0,pos := "text.go:97",after:=_,guard:=none }) (jU:=[_]) (ll:=[]) (l2:=[]) rfl rfl rfl rfl (by kernel_rfl) rfl (λ_ h=>h) (lR:=(c169.qb.qb.qa.qa.dl).take 1) (kK:=[]) (by kernel_rfl) rfl (by kernel_rfl) rfl
  (K1:=λS' H'=>S' 6=.str wd/\S' 3=.int .i64 0/\S' 0=.str wd)
  (K2:=λo S' H'=>∃k b,o=oK cc w k/\k b=some (.stringIter sb 0)/\S' 7=.val (.pointer (some ⟨b,0,none⟩))/\S' 3=.int .i64 0/\S' 0=.str wd)
  (K3:=λo S' H'=>∃k b,o=oK cc w k/\k b=some (.stringIter sb 0)/\S' 7=.val (.pointer (some ⟨b,0,none⟩))/\S' 3=.int .i64 0/\S' 0=.str wd) ?_ ?_ ?_ ?_))
 .simp[c169,ae.qa,ae.qb,ae.dl,s0,s3]
 .rintro w0 g S8 H8 a w8 ho R ⟨s6,s3,s0⟩;have t6:=R.slot 6 (by decide) (λh=>h);rw[s6]at t6
  have t6:a.eval (.tmp 6)=.string sb:=by rw[mj];exact ly t6
  have fI:prog.underlying 9=some .string:=by kernel_rfl
  have R2:=R.lk (.stringIter sb 0);refine⟨_,_,_,ar S8 7 (.val (.pointer (some ⟨w8.heap.size,0,none⟩))),H8,.inl (xf rfl fI t6),R2.put 7 _ _ (by decide) (.data _ _ (.val _ rfl)) trivial,ar g.old.aV w8.heap.size (some (.stringIter sb 0)),w8.heap.size,?_,aN _ _ _,by simp[ar],by simp[ar,s3],by simp[ar,s0]⟩;show({ g.old with aV:=ar g.old.aV w8.heap.size _ }:Old)=_
  rw[ho]<;>rfl
 .rintro o S8 H8 ⟨k,b,rfl,h⟩;exact⟨da _,k,b,rfl,h⟩
 rintro o S8 H8 ⟨k,b,rfl,tw,s7,s3,s0⟩
 refine SW.block (SW.NJ (λo S' H'=>∃k b pos,o=oK cc w k/\k b=some (.stringIter sb pos)/\pos<=wd.length/\(∀c∈wd.take pos,digit c)/\(0<pos->wd.length<=2)/\S' 7=.val (.pointer (some ⟨b,0,none⟩))/\S' 3=.int .i64 (cL (wd.take pos))/\S' 0=.str wd)
  (λo S' _=>match S' 7 with|.val (.pointer (some a))=>(match o.aV a.block with|some (.stringIter _ p)=>wd.length-p|_=>0)|_=>0) ⟨k,b,0,rfl,tw,abZ _,by simp,by simp,s7,s3,s0⟩ ?_)
 rintro o S9 H9 ⟨k,b,pos,rfl,tw,gK,Xf,uO,s7,s3,s0⟩;have m7:=s7
 have Jw:∀(S:an)(k:Nat->Option Obj) p,S 7=.val (.pointer (some ⟨b,0,none⟩))->k b=some (.stringIter sb p)->(match S 7 with|.val (.pointer (some a))=>(match(oK cc w k).aV a.block with|some (.stringIter _ p)=>wd.length-p|_=>0)|_=>0)=wd.length-p:=by
  intro S k p h1 h2;rw[h1];show(match k b with|some (.stringIter _ p)=>wd.length-p|_=>0)=_;rw[h2]
 have bn:sb.size=wd.length:=by rw[mj]<;>rfl
 have Pv:=Rv (GI:=GI) hG wd
 have e8:∀n H,fz H (.int .i64 n)=.int .i64 n:=λn H=>rfl
 have e9:∀H,fz H (.str wd)=.str wd:=λH=>rfl
 have jE:∀b H,fz H (.bool b)=.bool b:=λb H=>rfl
 show SW prog GI 41 none (.seq _ (.seq (.cond _ _ _) (.block 1 (.seq _ (.seq _ _))))) _ _ _ _
 by_cases hp:pos<wd.length
 case neg=>
  refine SW.seq (SW.mid hG (p:=0) (oh:={ dst:=some 8,op := .next (.tmp 7) true,type:=0,pos := "text.go:97",after := #[],guard:=none }) (jU:=[]) (ll:=[_]) (l2:=[1]) rfl rfl rfl rfl (by kernel_rfl) rfl (da _) (lR:=[]) (kK:=(tx.qa.dl).drop 1) rfl (by kernel_rfl) rfl (by kernel_rfl)
   (K1:=λS' H'=>S' 7=.val (.pointer (some ⟨b,0,none⟩))/\S' 3=.int .i64 (cL wd)/\S' 0=.str wd)
   (K2:=λo S' H'=>o=oK cc w k/\S' 8=.dE [.bool false]/\S' 3=.int .i64 (cL wd)/\S' 0=.str wd)
   (K3:=λo S' H'=>o=oK cc w k/\S' 9=.bool false/\S' 3=.int .i64 (cL wd)/\S' 0=.str wd) ?_ ?_ ?_ ?_)
  .have:pos=wd.length:=by omega
   subst this;rw[acf]at s3;exact⟨s7,s3,s0⟩
  .rintro w0 g nV qU a GW ho R ⟨s7,s3,s0⟩;have t7:=R.slot 7 (by decide) (λh=>h);rw[s7]at t7;have t7:a.eval (.tmp 7)=.pointer (some ⟨b,0,none⟩):=t7.fR
   have hk:g.old.aV b=some (.stringIter sb pos):=by rw[ho];exact tw
   have hb:=(R.kept b _ hk).2.1;refine⟨_,_,_,ar nV 8 (.dE [.bool false]),qU,.inl (ss rfl t7 hb (by omega)),R.put 8 _ _ (by decide) (.data _ _ (.dE _ _ rfl λi h h'=>?_)) trivial,ho,aN _ _ _,by simp[ar,s3],by simp[ar,s0]⟩
   match i,h with
   |0,_=>exact .bool _
  .rintro o nV qU ⟨rfl,s8,s3,s0⟩;refine⟨da _,?_⟩;simp[c169,tx,ae.qa,ae.qb,ae.dl,bp,aF,bb,aG,ev,aO.S,aO.H,ar,aU,s3,s0,s8,AV.aH]
  rintro o nV qU ⟨rfl,s9,s3,s0⟩;refine SW.seq (SW.cond rfl false (by show nV 9=_;rw[s9]) (SW.exit ?_));show SW prog GI 41 none (.seq _ _) _ _ _ _
  have hpe:pos=wd.length:=by omega
  have hs:=rI wd yP wk;have IH:=va (GI:=GI) hs.1 hs.2
  have Kb:(wd !=[])=true:=by simpa using cC
  rw[hde]at IH;refine Ot hG zN.qa (λd _=>da _ d) (λS' H'=>S' 3=.int .i64 (cL wd)) ?_ ?_
  .simp[c169,zN,ae.qa,ae.qb,bB,bp,aF,bb,aG,aK,ev,aO.S,aO.H,ar,aU,s3,s0,AV.aH,eG,Kb,e8];refine oc IH ?_;simp[iC,ar,AV.aH,s3,s0,eG,e9,jE];refine oc Pv ?_;simp[iC,ar,AV.aH,s3,s0]
  rintro S11 H11 s3;show SW prog GI 41 none (.seq _ .ret) _ _ _ _;refine Ot hG zN.qb.qa (λd _=>da _ d) (λS' H'=>S' 2=.int .i64 (cL wd)) ?_ ?_
  .simp[c169,zN,ae.qa,ae.qb,s3]
  rintro S12 H12 s2;refine SW.ret ⟨dZ.plain rfl,rfl,_,?_,rfl⟩;show cE prog 41 [.tmp 2] S12 H12=_;simp[cE,cW,cV,s2,AV.bZ,AV.out]
 case pos=>
  obtain⟨c,hc⟩:∃c,wd[pos]=c:=⟨_,rfl⟩
  obtain⟨r,hr⟩:∃r:Nat,(Utf8.decode sb pos).1=r:=⟨_,rfl⟩
  obtain⟨p',xL⟩:∃p':Nat,pos+(Utf8.decode sb pos).2=p':=⟨_,rfl⟩
  have Bv:sb[pos]'(by omega)=c:=by subst mj;rw[<-hc]<;>rfl
  refine SW.seq (SW.mid hG (p:=0) (oh:={ dst:=some 8,op := .next (.tmp 7) true,type:=0,pos := "text.go:97",after := #[],guard:=none }) (jU:=[]) (ll:=[_]) (l2:=[1]) rfl rfl rfl rfl (by kernel_rfl) rfl (da _) (lR:=[]) (kK:=(tx.qa.dl).drop 1) rfl (by kernel_rfl) rfl (by kernel_rfl)
   (K1:=λS' H'=>S' 7=.val (.pointer (some ⟨b,0,none⟩))/\S' 3=.int .i64 (cL (wd.take pos))/\S' 0=.str wd)
   (K2:=λo S' H'=>o=oK cc w (ar k b (some (.stringIter sb p')))/\S' 7=.val (.pointer (some ⟨b,0,none⟩))/\S' 8=.dE [.bool true,.int .i64 pos,.int .i32 r]/\S' 3=.int .i64 (cL (wd.take pos))/\S' 0=.str wd)
   (K3:=λo S' H'=>o=oK cc w (ar k b (some (.stringIter sb p')))/\S' 7=.val (.pointer (some ⟨b,0,none⟩))/\S' 9=.bool true/\S' 8=.dE [.bool true,.int .i64 pos,.int .i32 r]/\S' 3=.int .i64 (cL (wd.take pos))/\S' 0=.str wd) ⟨s7,s3,s0⟩ ?_ ?_ ?_)
  .rintro w0 g nV qU a GW ho R ⟨s7,s3,s0⟩;have t7:=R.slot 7 (by decide) (λh=>h);rw[s7]at t7;have t7:a.eval (.tmp 7)=.pointer (some ⟨b,0,none⟩):=t7.fR
   have hk:g.old.aV b=some (.stringIter sb pos):=by rw[ho];exact tw
   have hb:=(R.kept b _ hk).2.1;refine⟨_,_,_,ar nV 8 (.dE [.bool true,.int .i64 pos,.int .i32 r]),qU,.inl (E3 rfl t7 hb (by omega) hr xL),(R.kz hk _).put 8 _ _ (by decide) (.data _ _ (.dE _ _ rfl λi h h'=>?_)) trivial,?_,by simp[ar,s7],aN _ _ _,by simp[ar,s3],by simp[ar,s0]⟩
   .match i,h with
    |0,_=>exact .bool _
    |1,_=>exact .int _ _
    |2,_=>exact .int _ _
   .show({ g.old with aV:=ar g.old.aV b _ }:Old)=_
    rw[ho]<;>rfl
  .rintro o nV qU ⟨rfl,s7,s8,s3,s0⟩;refine⟨da _,?_⟩;simp[c169,tx,ae.qa,ae.qb,ae.dl,bp,aF,bb,aG,ev,aO.S,aO.H,ar,aU,s3,s0,s7,s8,AV.aH]
  rintro o nV qU ⟨rfl,s7,s9,s8,s3,s0⟩;refine SW.seq (SW.cond rfl true (by show nV 9=_;rw[s9]) (SW.skip ?_));show SW prog GI 41 none (.block 1 (.seq _ (.seq _ _))) _ _ _ _;have Ou:digit c:=yP c (hc▸aba hp);have Ja:=Ou;unfold digit at Ja;have Pc:=decode_ascii sb pos (by omega) (by rw[Bv];omega)
  have hrc:r=c.toNat:=by rw[<-hr,Pc,Bv]
  have Is:p'=pos+1:=by rw[<-xL,Pc]
  subst hrc;subst Is
  have V5:∀x∈wd.take (pos+1),digit x:=by
   rw[abo hp,hc];intro x hx;rcases abk.1 hx with hx|hx
   .exact Xf x hx
   .rw[abG]at hx;rw[hx];exact Ou
  have lT:wd.take (pos+1)=wd.take pos++[c]:=by rw[abo hp,hc]
  have XP:=ph (wd.take pos) Xf (by simp;omega);refine SW.block (SW.mono (Q:=λe o S' H'=>e=.normal/\o=oK cc w (ar k b (some (.stringIter sb (pos+1))))/\S' 7=.val (.pointer (some ⟨b,0,none⟩))/\S' 3=.int .i64 (cL (wd.take (pos+1)))/\S' 0=.str wd) ?_ (SW.m_ hG cH (by kernel_rfl) (λd _=>da _ d) (ac:=ae.qb tx.qb.qb) (by kernel_rfl) ?_))
  .rintro e o S' H' ⟨rfl,rfl,s7,s3,s0⟩;refine⟨⟨ar k b (some (.stringIter sb (pos+1))),b,pos+1,rfl,aN _ _ _,hp,V5,λ_=>wk,s7,s3,s0⟩,?_⟩;show(match S' 7 with|.val (.pointer (some a))=>(match(oK cc w (ar k b (some (.stringIter sb (pos+1))))).aV a.block with|some (.stringIter _ p)=>wd.length-p|_=>0)|_=>0)<_;rw[Jw S' _ (pos+1) s7 (aN _ _ _),Jw S9 k pos m7 tw];omega
  .unfold iW.bB
   have g1:(48:Int)<=c.toNat:=by omega
   have g2:(c.toNat:Int)<=57:=by omega
   have g3:(wd.length:Int)<=2:=by omega
   have w1:IntKind.i64.wrap (10*cL (wd.take pos))=10*cL (wd.take pos):=aS (by omega);have w2:IntKind.i32.wrap ((c.toNat:Int)-48)=(c.toNat:Int)-48:=wrap32 (by omega);have w3:IntKind.i64.wrap ((c.toNat:Int)-48)=(c.toNat:Int)-48:=aS (by omega)
   have w4:IntKind.i64.wrap (10*cL (wd.take pos)+((c.toNat:Int)-48))=cL (wd.take (pos+1)):=by rw[lT,wu,aS (by omega)]
   simp[c169,tx,ae.qa,ae.qb,bB,bp,aF,bb,aG,dq,ev,aO.S,aO.H,ar,aU,s3,s0,s7,s8,AV.aH,eG,g1,g2,g3,e9,jE,bz];refine oc Pv ?_;simp[iC,ar,AV.aH,s3,s0,s7,eG,w1,w2,w3,w4,bz]
end Go.Proofs.Tryz
namespace Go.Proofs.Tryz
open Go Go.AL Go.RowKit Go.Proofs Go.Proofs.Tram
variable{GI:World->Prop}
theorem pP{s:ao}(h:eD s):dP s s.cells.length=false:=by
 have:=h.pos;unfold dP
 have:¬s.cells.length<s.pos.toNat:=by omega
 simp[this]
theorem vV{s:ao}(h:eD s)(es:List End):∀x∈aR s es,0<x:=by
 intro x hx;obtain⟨i,hi,rfl⟩:=abz.1 hx;have hi:=abC.1 hi;have hw:=(mb h.name (aba hi)).Gm;have hp:=h.dM;have ht:=h.df;unfold qe;rw[gP hi];have a1:1*1<=s.dM*(s.name.words[i].aP.length:Int):=ac1 (by omega) (by omega) (by omega) (by omega);have a3:0<=s.df*(kv es i s.name.words[i].aP.length:Int):=acO (by omega) (by omega);omega
theorem DV{ah:List Int}(hp:∀x∈ah,0<x){bq:Nat->Int}{vs:List (Nat×Nat)}{v:Nat×Nat}(hv:v∈vs)(h:ah.sum<=jo bq v.1 (v.2+1)):eu ah bq vs=ah.length:=by
 obtain⟨a,b,rfl⟩:=List.append_of_mem hv
 have key:∀(b:List (Nat×Nat))(n:Nat),n=ah.length->b.foldl (λn v=>n+(cK (ah.drop n) (jo bq v.1 (v.2+1))).1) n=ah.length:=by
  intro b
  induction b with
  |nil=>intro n hn;exact hn
  |cons y b ih=>
   intro n hn;rw[List.foldl_cons];refine ih _ ?_;rw[hn,ad2];simp[cK]
 have e:eu ah bq (a++v::b)=b.foldl (λn v=>n+(cK (ah.drop n) (jo bq v.1 (v.2+1))).1) (eu ah bq a+(cK (ah.drop (eu ah bq a)) (jo bq v.1 (v.2+1))).1):=by
  unfold eu;rw[abW,List.foldl_cons]
 rw[e];refine key b _ ?_;have hle:=rq ah bq a
 obtain⟨n,hn⟩:∃n,eu ah bq a=n:=⟨_,rfl⟩
 rw[hn]at hle⊢
 have pB:∀x∈ah.drop n,0<x:=λx hx=>hp x (acX hx)
 have hs:(ah.take n).sum+(ah.drop n).sum=ah.sum:=by rw[<-acA,acs]
 have h0:=jK (l:=ah.take n) λx hx=>hp x (aca hx)
 have h1:=jK (l:=ah.drop n) pB;have:=(BR pB (t:=jo bq v.1 (v.2+1)) (by omega)).2 (by omega);rw[this,ab2];omega
theorem sP{s:ao}(h:eD s)(i n:Nat):∀j,0<=fm (fJ s i n) j:=λj=>by
 unfold fm fJ;rw[abB,ads];have hb:=(oz h 0).2
 have hg:∀k,0<=(bj 0 s).getD k 0:=λk=>by
  rw[abB]
  cases hk:(bj 0 s)[k]? with
  |none=>exact acx 0
  |some x=>exact(hb x (acq hk)).1
 split
 .split
  .have:=hg i;simp only[Option.getD_some];omega
  .exact acx 0
 .have:=hg j;rwa [abB]at this
theorem yM(l:List Int)(i j:Nat)(x:Int):(l.set i x).getD j 0=if i=j then(if i<l.length then x else 0)else l.getD j 0:=by
 rw[abB,ads];split
 .split<;>rfl
 .rw[abB]
theorem B7(s:ao)(i:Nat){m n:Nat}(hmn:m<=n)(j:Nat):fm (fJ s i m) j<=fm (fJ s i n) j:=by
 unfold fm fJ;rw[yM,yM];split
 .split
  .omega
  .exact acx _
 .exact acx _
theorem D4{s:ao}(h:eD s){ah:List Int}(hp:∀x∈ah,0<x)(i:Nat):∀x y,x<=y->jb s ah i x=true->jb s ah i y=true:=by
 intro x y hxy hx;unfold jb at hx⊢;rw[abe]at hx⊢;have h1:=AA (na:=ah) (nb:=ah) rfl (λ_ _ _=>acx _) hp (sP h i x) (sP h i y) (pP h) (pP h) (λj _ hs=>⟨hs,B7 s i hxy j⟩);have h2:=rq ah (fm (fJ s i y)) (eo (dP s) s.cells.length);unfold o9 at hx⊢;omega
theorem EF{s:ao}(h:eD s){f t m:Nat}(hf:f<=t)(ht:t<s.cells.length):(m:Int)<=jo (fm (fJ s f m)) f (t+1):=by
 have hl:(bj 0 s).length=s.cells.length:=by simp[bj]
 have h0:(m:Int)<=fm (fJ s f m) f:=by
  unfold fm fJ;rw[abB,ads,if_pos rfl,if_pos (by omega),Option.getD_some];have:=(oz h 0).2 _ (aba (show f<(bj 0 s).length by omega));rw[abB,aa_ (by omega),Option.getD_some];omega
 have key:∀d,(m:Int)<=jo (fm (fJ s f m)) f (f+d+1):=by
  intro d
  induction d with
  |zero=>
   rw[Nat.add_zero,qI _ (abg f),vJ];omega
  |succ d ih=>
   rw[show f+(d+1)+1=(f+d+1)+1 by omega,qI _ (by omega)];have:=sP h f m (f+d+1);omega
 have:=key (t-f);rwa [show f+(t-f)+1=t+1 by omega]at this
theorem AT{s:ao}(h:eD s){ah:List Int}(hp:∀x∈ah,0<x)(hv:(cI s).isEmpty=false):∃c,c<s.cells.length/\jb s ah c ah.sum.toNat=true:=by
 cases qF:eo (dP s) s.cells.length with
 |nil=>simp[cI,qF]at hv
 |cons v l=>
  have cJ:=(yY (pP h)).1 v (by rw[qF];simp);refine⟨v.1,by omega,?_⟩;unfold jb o9;rw[abe];have h0:=jK hp;exact DV (v:=v) hp (by rw[qF];simp) (by have:=EF h (m:=ah.sum.toNat) cJ.1 cJ.2;omega)
def zX(p:Nat->Bool)(k:Nat):Nat:=((List.range k).find? p).getD k
theorem sW(p:Nat->Bool)(k:Nat):kG p k (zX p k):=by
 unfold zX
 cases hf:(List.range k).find? p with
 |none=>
  refine⟨abg _,λx hx=>?_,λh=>absurd h (by simp)⟩;have:=adm.1 hf x (abC.2 (by simpa using hx));simpa using this
 |some r=>
  obtain⟨h1,pa,pb,h2,h3⟩:=List.find?_eq_some_iff_append.1 hf;have hr:r<k:=abC.1 (adY hf);refine⟨by simp;omega,λx hx=>?_,λ_=>h1⟩;simp only[Option.getD_some]at hx
  have nx:x∈pa++r::pb:=by rw[<-h2];exact abC.2 (by omega)
  rcases abk.1 nx with h|h
  .have:=h3 x h;simpa using this
  .exfalso
   have SF:(pa++r::pb).Pairwise (·<·):=by rw[<-h2];exact aef
   have SF:=(acY.1 SF).2.1;rcases acb.1 h with h|h
   .omega
   .have:=(acI.1 SF).1 x h;omega
def fl(s:ao)(ah:List Int)(i:Nat):Nat:=zX (jb s ah i) (ah.sum.toNat+1)
def y8(s:ao)(ah:List Int):Option (Nat×Nat):=match eH (fl s ah) ah.sum.toNat s.cells.length with
 |x::l=>some (gu x l)
 |[]=>none
def qo(s:ao):List AV:=
 if ct s then(match fC s.name with
  |some es=>if(cI s).isEmpty then[.int .i64 0,.int .i64 0,.int .i64 5]else(match y8 s (aR s es)with|some q=>[.int .i64 (q.1:Nat),.int .i64 (q.2:Nat),.int .i64 0]|none=>[])
  |none=>[.int .i64 0,.int .i64 0,.int .i64 7])else[.int .i64 0,.int .i64 0,.int .i64 2]
theorem rQ:∀(l:List (Nat×Nat))(x:Nat×Nat),iQ (cj x) (l.map cj)=cj (gu x l)
 |[],_=>rfl
 |y::l,x=>by
  have e1:iQ (cj x) ((y::l).map cj)=iQ (if(cj y).2<(cj x).2 then cj y else cj x) (l.map cj):=rfl;have e2:gu x (y::l)=gu (if y.2<x.2 then y else x) l:=rfl;rw[e1,e2,<-rQ l]
  congr 1
  by_cases h:y.2<x.2
  .rw[if_pos h,if_pos (by show(y.2:Int)<(x.2:Int);omega)]
  .rw[if_neg h,if_neg (by show¬(y.2:Int)<(x.2:Int);omega)]
theorem vM:∀{l:List Int}{b:Int},(∀x∈l,x<=b)->0<=b->l.sum<=l.length*b
 |[],_,_,_=>by simp
 |x::l,b,h,hb=>by
  have h1:=h x (by simp);have h2:=vM (l:=l) (λy hy=>h y (by simp[hy])) hb;simp only[List.sum_cons,List.length_cons]
  have:((l.length+1:Nat):Int)*b=l.length*b+b:=by rw[Int.natCast_add,Int.add_mul];simp
  omega
end Go.Proofs.Tryz
