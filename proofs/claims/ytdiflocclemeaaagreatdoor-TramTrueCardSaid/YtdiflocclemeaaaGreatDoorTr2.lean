/-
  A part of the proof.
-/
import Derived.Test.YtdiflocclemeaaaGreatDoorTr1
set_option maxRecDepth 100000
set_option maxHeartbeats 8000000
set_option linter.all false
set_option linter.unusedVariables false
set_option linter.unusedSimpArgs false
set_option linter.deprecated false
namespace Go.Proofs.Tryz
open Go Go.AL Go.RowKit Go.Proofs Go.Proofs.Tram
attribute [local simp] dh eE dY dv dK dj di cQ cT dL cP ct fF fE aD aL ev aT.S aT.H bu av aY AL.start AV.cells AV.storable AV.cg bo cE dI ck HR.okB post cw cH cI AV.out AV.bU b_ df fz iA AV.vw du vI int cG aP cV db fQ iu fV eG da AV.aI AV.cm
variable{GI:World->Prop}
theorem ME:(∀k n,(AV.int k n).aI=.int k n)/\(∀b,(AV.bool b).aI=.bool b)/\(∀l,(AV.str l).aI=.str l)/\(∀l,(AV.slice .view l).aI=.slice .view l)/\(∀l,(AV.slice .nil l).aI=.slice .nil l)/\(∀e l,(AV.slice (.own e) l).aI=.slice .view l)/\(∀cs,(AV.agg cs).aI=.agg cs)/\(∀cs,(AV.d_ cs).aI=.d_ cs)/\(∀cs,(AV.ref cs).aI=.ref cs)/\(∀i o,(AV.box i o).aI=.box i o)/\(∀t v,(AV.iface t v).aI=.iface t v)/\∀v:AV,v.aI.aI=v.aI:=
 ⟨λ_ _=>rfl,λ_=>rfl,λ_=>rfl,λ_=>rfl,λ_=>rfl,λ_ _=>rfl,λ_=>rfl,λ_=>rfl,λ_=>rfl,λ_ _=>rfl,λ_ _=>rfl,AV.idem⟩
theorem L4:(∀k n,(AV.int k n).cm=.int k n)/\(∀b,(AV.bool b).cm=.bool b)/\(∀l,(AV.str l).cm=.str l)/\(∀o l,(AV.slice o l).cm=.slice .view l)/\(∀cs,(AV.agg cs).cm=.agg cs)/\(∀cs,(AV.d_ cs).cm=.d_ cs)/\(∀cs,(AV.ref cs).cm=.ref cs)/\∀t v,(AV.iface t v).cm=.iface t v:=
 ⟨λ_ _=>rfl,λ_=>rfl,λ_=>rfl,λ_ _=>rfl,λ_=>rfl,λ_=>rfl,λ_=>rfl,λ_ _=>rfl⟩
theorem Ea(e:Nat)(l:List AV):(grow e l).aI=.slice (if l=[]then .nil else .view) l:=by
 unfold grow
 by_cases h:l=[]<;>simp[h,AV.aI]
theorem Bt(e:Nat)(l:List AV):(grow e l).aI.cm=.slice .view l:=by
 rw[Ea];rfl
end Go.Proofs.Tryz
namespace Go.Proofs.Tryz
open Go Go.AL Go.RowKit Go.Proofs Go.Proofs.Tram
attribute [local simp] dh eE pG nJ dK dj di cQ cT dL cP ct fF fE aD aL ev aT.S aT.H bu av aY AL.start AV.cells AV.storable AV.cg bo cE dI ck HR.okB post cw cH cI AV.out AV.bU b_ df fz iA AV.vw du vI int cG aP cV db fQ iu fV eG da AV.aI AV.cm
variable{GI:World->Prop}
def lL(l:List End):AV:=grow 46 (l.map aS)
theorem AW{s:ar}{out:List Int}{n:Nat}(h:n<s.words.length)(hc:out.contains (n:Int)=false):eX s out n=(s.words[n].bD.map λk=>((n:Int),k))++[((n:Int),(s.words[n].aG.length:Int))]:=by
 unfold eX;rw[hc,ae9 h]
 rfl
theorem wJ{s:ar}{out:List Int}{n:Nat}(hc:out.contains (n:Int)=true):eX s out n=[]:=by
 unfold eX;rw[hc]
 rfl
def jd(s:ar)(out:List Int)(i:Nat):List End:=(List.range i).flatMap (eX s out)
theorem rU(s:ar)(out:List Int)(i:Nat):jd s out (i+1)=jd s out i++eX s out i:=by unfold jd;rw[afM,agm,agF]
theorem MP(hG:au GI)(s:ar)(hs:mG s)(out:List Int)(ho:out.length<1000000):AC prog GI 188 [bQ s,vI out] (.ret (.slice .view (aH (fJ s out)))):=by
 have q3:=hs.words;refine AC.g_ (o:=if fJ s out=[]then .nil else .view) ?_;refine bP hG func188 ntmps188 c188 ?_;simp[c188,ai,ah,bQ,ae];refine bq 12 s.words.length (λi S H=>S 1=vI out/\S 2=.box 2 0/\H 2=some (ae s)/\S 11=.int .i64 s.words.length/\S 12=.int .i64 (i:Nat)/\S 5=lL (jd s out i)/\(jd s out i).length<=1001*i) (λi S H h=>h.2.2.2.2.1) ⟨by simp[ai,ah],by simp[ai,ah],by simp[ai,ah,ae],by simp[ai,ah],by simp[ai,ah],by simp[ai,ah,lL,jd,grow],by simp[jd]⟩ ?_;rintro i hi S H ⟨s1,s2,e2,bn,bJ,s5,hl⟩
 by_cases aw:i<s.words.length
 case neg=>
  have cD:i=s.words.length:=by omega
  subst cD;have s5:S 5=lL (fJ s out):=s5
  by_cases h0:fJ s out=[]
  .rw[h0]at s5
   have jJ:S 5=.slice .nil []:=by rw[s5];simp[lL,grow]
   simp[ai,ah,s1,s2,e2,bn,bJ,jJ,h0,aH]
  .have jJ:S 5=.slice (.own 46) ((fJ s out).map aS):=by rw[s5];simp[lL,grow,h0]
   simp[ai,ah,s1,s2,e2,bn,bJ,jJ,h0,aH]
 have hw:IntKind.i64.wrap ((i:Int)+1)=i+1:=aN (by omega);have ED:=hs.bD _ (ae_ aw);have hr:=rU s out i;generalize hL:jd s out i=L at s5 hl hr;simp[ai,ah,s1,s2,e2,bn,bJ,aw];refine⟨_,by kernel_rfl,Cp hG out ho i,λ_=>rfl,?_⟩;cases hc:out.contains (i:Int)
 case true=>
  have kh:jd s out (i+1)=L:=by rw[hr,wJ hc,afL]
  rw[kh];simp[ai,ah,s1,s2,e2,bn,bJ,s5,hw,aw];omega
 have V8:=AW aw hc;simp[ai,ah,s1,s2,e2,bn,bJ,aw,ae,bW];refine bq 25 s.words[i].bD.length (λj S H=>S 1=vI out/\S 2=.box 2 0/\H 2=some (ae s)/\S 11=.int .i64 s.words.length/\S 12=.int .i64 (i:Nat)/\S 6=.int .i64 (i:Nat)/\S 23=vI s.words[i].bD/\S 24=.int .i64 s.words[i].bD.length/\S 25=.int .i64 (j:Nat)/\S 5=lL (L++(s.words[i].bD.take j).map λk=>((i:Int),k))) (λi S H h=>h.2.2.2.2.2.2.2.2.1) ⟨by simp[ai,ah,s1],by simp[ai,ah,s2],by simp[ai,ah,e2,ae],by simp[ai,ah,bn],by simp[ai,ah,bJ],by simp[ai,ah],by simp[ai,ah],by simp[ai,ah],by simp[ai,ah],by simp[ai,ah,s5]⟩ ?_;clear s1 s2 e2 bn bJ s5 S H;rintro j hj S H ⟨s1,s2,e2,bn,bJ,s6,j8,rm,jv,s5⟩
 by_cases KV:j<s.words[i].bD.length
 .have KR:IntKind.i64.wrap ((j:Int)+1)=j+1:=aN (by omega);have ly:s.words[i].bD.take (j+1)=s.words[i].bD.take j++[s.words[i].bD[j]]:=afd KV
  have hlen:(L++(s.words[i].bD.take j).map λk=>((i:Int),k)).length<1040000:=by
   simp only[afm,afi,afJ];omega
  rw[ly,afu,<-agd];generalize(L++(s.words[i].bD.take j).map λk=>((i:Int),k))=M at s5 hlen⊢;have dM:aM 2 [AV.agg [AV.int .i64 (i:Nat),AV.int .i64 s.words[i].bD[j]]]=true:=rfl;simp[s1,s2,e2,bn,bJ,s6,j8,rm,jv,KV,dM];refine fe (M.map aS) (aS ((i:Int),s.words[i].bD[j])) (.own 46) (by simp[s5,lL]) (by simp[aS]) rfl (n_ _) (by rw[afi];omega) ?_;intro S' sd hk;simp[sd,hk,s1,s2,e2,bn,bJ,s6,j8,rm,jv,KR,KV,lL]
 .have lj:j=s.words[i].bD.length:=by omega
  subst lj;rw[afS]at s5
  have hlen:(L++s.words[i].bD.map λk=>((i:Int),k)).length<=1001*i+1000:=by
   simp only[afm,afi];omega
  rw[hr,V8,<-agd];generalize(L++s.words[i].bD.map λk=>((i:Int),k))=M at s5 hlen⊢;have dM:aM 2 [AV.agg [AV.int .i64 (i:Nat),AV.int .i64 s.words[i].aG.length]]=true:=rfl;simp[s1,s2,e2,bn,bJ,s6,j8,rm,jv,aw,dM,ae,bW];refine fe (M.map aS) (aS ((i:Int),(s.words[i].aG.length:Int))) (.own 46) (by simp[s5,lL]) (by simp[aS]) rfl (n_ _) (by rw[afi];omega) ?_;intro S' sd hk;simp[sd,hk,s1,s2,e2,bn,bJ,hw,aw,lL,ae];omega
theorem nX{s:ar}(hs:aU s=true){g:Nat×Nat}(h:BM s g):y0 s (bc s g):=CP hs h
theorem Nf(hG:au GI)(s:ar)(hs:aU s=true){l:List (Nat×Nat)}(hl:l.length<10000)(kW:∀g∈l,BM s g)(cut:Bool)(x:Int):AC prog GI 212 [eH s,B_ l cut,.int .i64 x] (.ret (.int .i64 (fb s (l.map (bc s)) l.length+(if cut then s.cj else 0)))):=by
 have hF:=dP hs;have oe:=hF.KN
 have hb:∀x∈(l.map λg=>fx s (bc s g)),0<=x/\x<=1000:=by
  intro x hx;obtain⟨g,hg,rfl⟩:=afp.1 hx;have:=pH hF (nX hs (kW g hg));omega
 have rT:fb s (l.map (bc s)) l.length=(l.map λg=>fx s (bc s g)).sum:=by
  have:=rH s (l.map (bc s)) l.length (by simp);rw[this,afh (by simp),af1];rfl
 have zX:(l.map λg=>fx s (bc s g)).length<10000:=by rw[afi];exact hl
 rw[rT];refine bP hG func212 ntmps212 c212 ?_;refine az (λS H=>S 3=.box 3 0/\S 4=.box 4 0/\H 3=some (aO s)/\H 4=some [.slice .view (l.map gA),.bool cut]) (by simp[ai,ah,eH,aO,B_,xM,ae,bl]) ?_;rintro S H ⟨s3,s4,e3,e4⟩;refine az (λS H=>S 3=.box 3 0/\S 4=.box 4 0/\H 3=some (aO s)/\H 4=some [.slice .view (l.map gA),.bool cut]/\S 7=ep []) (by simp[ai,ah,s3,s4,e3,e4,ep,grow]) ?_;clear s3 s4 e3 e4 S H;rintro S H ⟨s3,s4,e3,e4,s7⟩;refine az (λS H=>S 3=.box 3 0/\S 4=.box 4 0/\H 3=some (aO s)/\H 4=some [.slice .view (l.map gA),.bool cut]/\S 7=ep (l.map λg=>fx s (bc s g))) ?_ ?_
 .simp[ai,ah,s3,s4,e3,e4];refine bq 13 l.length (λi S H=>S 3=.box 3 0/\S 4=.box 4 0/\H 3=some (aO s)/\H 4=some [.slice .view (l.map gA),.bool cut]/\S 11=.slice .view (l.map gA)/\S 12=.int .i64 l.length/\S 13=.int .i64 (i:Nat)/\S 7=ep ((l.take i).map λg=>fx s (bc s g))) (λi S H h=>h.2.2.2.2.2.2.1) ⟨by simp[ai,ah,s3],by simp[ai,ah,s4],by simp[ai,ah,e3],by simp[ai,ah,e4],by simp[ai,ah],by simp[ai,ah],by simp[ai,ah],by simp[ai,ah,s7]⟩ ?_;clear s3 s4 e3 e4 s7 S H;rintro i hi S H ⟨s3,s4,e3,e4,bn,bJ,b0,s7⟩
  by_cases aw:i<l.length
  case neg=>
   have cD:i=l.length:=by omega
   subst cD;rw[afS]at s7;simp[ai,ah,s3,s4,e3,e4,bn,bJ,b0,s7]
  have hw:IntKind.i64.wrap ((i:Int)+1)=i+1:=aN (by omega)
  obtain⟨k,hk⟩:∃k:Nat,(bc s l[i]).2=k:=⟨(bc s l[i]).2.toNat,by have:=(nX hs (kW _ (ae_ aw))).1;omega⟩
  have j9:k<s.aV.length:=by have:=(nX hs (kW _ (ae_ aw))).2;omega
  have np:fx s (bc s l[i])=s.aV[k]:=by
   unfold fx;rw[hk,if_neg (by omega),Int.toNat_natCast,ae9 j9];rfl
  rw[afd aw,afu,List.map_singleton,np]
  have hlen:((l.take i).map λg=>fx s (bc s g)).length<1000000:=by
   rw[afi,afJ];omega
  generalize((l.take i).map λg=>fx s (bc s g))=L at s7 hlen⊢;simp[s3,s4,e3,e4,bn,bJ,b0,s7,aw,gA,aO,ae,bl];refine oc (Bx hG s (kW _ (ae_ aw))) ?_;have dM:aM 1 [AV.int .i64 s.aV[k]]=true:=rfl;simp[s3,s4,e3,e4,bn,bJ,b0,s7,aw,aO,ae,bl,hk,j9,dM];refine mW (L.map (AV.int .i64)) (AV.int .i64 s.aV[k]) (.own 3) (by simp[s7,ep,grow]) (by simp) rfl (kv _) (by rw[afi];omega) ?_;intro S' sd ee;simp[sd,ee,s3,s4,e3,e4,bn,bJ,b0,aw,hw,ep,aO,ae,bl]
 clear s3 s4 e3 e4 s7 S H;rintro S H ⟨s3,s4,e3,e4,s7⟩;refine az (λS H=>S 7=ep ((l.map λg=>fx s (bc s g))++if cut then[s.cj]else[])) ?_ ?_
 .cases cut with
  |false=>simp[ai,ah,s3,s4,e3,e4,s7]
  |true=>
   have dM:aM 1 [AV.int .i64 s.cj]=true:=rfl;generalize(l.map λg=>fx s (bc s g))=L at s7 zX⊢;simp[s3,s4,e3,e4,s7,aO,ae,bl,dM];refine fe (L.map (AV.int .i64)) (AV.int .i64 s.cj) (.own 3) (by simp[ep]) (by simp) rfl (kv _) (by rw[afi];omega) ?_;intro S' sd ee;simp[sd,ee,ep]
 clear s3 s4 e3 e4 s7 S H;rintro S H s7;have hh:=hF.cj
 have ig:∀x∈((l.map λg=>fx s (bc s g))++if cut then[s.cj]else[]),0<=x/\x<=1000:=by
  intro x hx;rcases afr.1 hx with hx|hx
  .exact hb x hx
  .cases cut with
   |false=>simp at hx
   |true=>simp at hx;omega
 have B9:((l.map λg=>fx s (bc s g))++if cut then[s.cj]else[]).sum=(l.map λg=>fx s (bc s g)).sum+if cut then s.cj else 0:=by
  rw[af8]
  cases cut<;>simp
 have tg:((l.map λg=>fx s (bc s g))++if cut then[s.cj]else[]).length<100000:=by
  rw[afm]
  cases cut<;>simp<;>omega
 rw[<-B9];generalize((l.map λg=>fx s (bc s g))++if cut then[s.cj]else[])=L at s7 ig tg⊢;rcases pK L with⟨hg,rfl⟩|hg
 .rw[hg]at s7;simp[ai,ah,s7];refine oc (xn hG [] tg ig) ?_;simp[ai,ah]
 .rw[hg]at s7;simp[ai,ah,s7];refine oc (xn hG L tg ig) ?_;simp[ai,ah]
theorem Nh(hG:au GI)(s:ar)(hs:aU s=true){l:List (Nat×Nat)}(dO:l≠[])(hl:l.length<10000)(kW:∀g∈l,BM s g)(cut:Bool){st:Int}(h0:0<=st)(h1:st<=10):AC prog GI 213 [eH s,B_ l cut,.int .i64 st] (.ret (.int .i64 (fh s st (l.map (bc s)) (l.length-1)+(if cut then gZ s.gf s.fY st else 0)))):=by
 have hF:=dP hs;have jb:=afP.2 dO
 have rT:fh s st (l.map (bc s)) (l.length-1)=(fH s st (l.map (bc s)) l.length).sum:=by
  have:=vH (s:=s) (st:=st) (l:=l.map (bc s)) (l.length-1) (by rw[afi];omega);rw[show l.length-1+1=l.length by omega]at this;exact this.symm
 rw[rT];refine bP hG func213 ntmps213 c213 ?_;refine az (λS H=>S 2=.int .i64 st/\S 3=.box 3 0/\S 4=.box 4 0/\H 3=some (aO s)/\H 4=some [.slice .view (l.map gA),.bool cut]) (by simp[ai,ah,eH,aO,B_,xM,ae,bl]) ?_;rintro S H ⟨s2,s3,s4,e3,e4⟩;refine az (λS H=>S 2=.int .i64 st/\S 3=.box 3 0/\S 4=.box 4 0/\H 3=some (aO s)/\H 4=some [.slice .view (l.map gA),.bool cut]/\S 7=ep []) (by simp[ai,ah,s2,s3,s4,e3,e4,ep,grow]) ?_;clear s2 s3 s4 e3 e4 S H;rintro S H ⟨s2,s3,s4,e3,e4,s7⟩;refine az (λS H=>S 2=.int .i64 st/\S 3=.box 3 0/\S 4=.box 4 0/\H 3=some (aO s)/\H 4=some [.slice .view (l.map gA),.bool cut]/\S 7=ep (fH s st (l.map (bc s)) l.length)) ?_ ?_
 .simp[ai,ah,s2,s3,s4,e3,e4];refine bq 13 l.length (λi S H=>S 2=.int .i64 st/\S 3=.box 3 0/\S 4=.box 4 0/\H 3=some (aO s)/\H 4=some [.slice .view (l.map gA),.bool cut]/\S 11=.slice .view (l.map gA)/\S 12=.int .i64 l.length/\S 13=.int .i64 (i:Nat)/\S 7=ep (fH s st (l.map (bc s)) i)) (λi S H h=>h.2.2.2.2.2.2.2.1) ⟨by simp[ai,ah,s2],by simp[ai,ah,s3],by simp[ai,ah,s4],by simp[ai,ah,e3],by simp[ai,ah,e4],by simp[ai,ah],by simp[ai,ah],by simp[ai,ah],by simp[ai,ah,s7,fH]⟩ ?_;clear s2 s3 s4 e3 e4 s7 S H;rintro i hi S H ⟨s2,s3,s4,e3,e4,bn,bJ,b0,s7⟩
  by_cases aw:i<l.length
  case neg=>
   have cD:i=l.length:=by omega
   subst cD;simp[ai,ah,s2,s3,s4,e3,e4,bn,bJ,b0,s7]
  have hw:IntKind.i64.wrap ((i:Int)+1)=i+1:=aN (by omega)
  cases i with
  |zero=>
   have Hu:S 7=.slice .nil []:=by rw[s7];rfl
   simp[ai,ah,s2,s3,s4,e3,e4,bn,bJ,b0,Hu,aw,gA];exact⟨aN (by omega),by simp[fH,ep,grow]⟩
  |succ m=>
   have A3:m<l.length:=by omega
   have Jf:fH s st (l.map (bc s)) (m+1+1)=fH s st (l.map (bc s)) (m+1)++[jh s st (bc s l[m]) (bc s l[m+1])]:=by
    rw[ua (by simpa using aw)];simp
   have hlen:(fH s st (l.map (bc s)) (m+1)).length<1000000:=by have:=qZ (s:=s) (st:=st) (l:=l.map (bc s)) (m+1);omega
   rw[Jf];have yW:IntKind.i64.wrap (m:Int)=m:=aN (by omega);have fL:IntKind.i64.wrap ((m:Int)+1+1)=m+1+1:=aN (by omega)
   have OK:(0:Int)<(m:Int)+1:=by omega
   have PV:(0:Int)<=(m:Int)+1:=by omega
   have jL:(m:Int)+1<l.length:=by omega
   generalize fH s st (l.map (bc s)) (m+1)=L at s7 hlen⊢;have dM:aM 1 [AV.int .i64 (jh s st (bc s l[m]) (bc s l[m+1]))]=true:=rfl;simp[s2,s3,s4,e3,e4,bn,bJ,b0,s7,aw,gA,aO,ae,bl,yW,OK,PV,A3,jL];refine oc (Nq hG s hF (kW _ (ae_ A3)) (kW _ (ae_ aw)) h0 h1) ?_;simp[s2,s3,s4,e3,e4,bn,bJ,b0,s7,dM];refine mW (L.map (AV.int .i64)) (AV.int .i64 (jh s st (bc s l[m]) (bc s l[m+1]))) (.own 3) (by simp[s7,ep,grow]) (by simp) rfl (kv _) (by rw[afi];omega) ?_;intro S' sd ee;simp[sd,ee,s2,s3,s4,e3,e4,bn,bJ,b0,aw,jL,fL,ep,aO,ae,bl]
 clear s2 s3 s4 e3 e4 s7 S H;rintro S H ⟨s2,s3,s4,e3,e4,s7⟩;have D6:=iL hF.o.2.1 h0 h1
 have zX:(fH s st (l.map (bc s)) l.length).length<10000:=by have:=qZ (s:=s) (st:=st) (l:=l.map (bc s)) l.length;omega
 have hb:∀x∈fH s st (l.map (bc s)) l.length,0<=x/\x<=1000:=λx hx=>by have:=vZ hF h0 h1 _ x hx;omega
 refine az (λS H=>S 7=ep (fH s st (l.map (bc s)) l.length++if cut then[gZ s.gf s.fY st]else[])) ?_ ?_
 .cases cut with
  |false=>simp[ai,ah,s2,s3,s4,e3,e4,s7]
  |true=>
   have dM:aM 1 [AV.int .i64 (gZ s.gf s.fY st)]=true:=rfl;generalize fH s st (l.map (bc s)) l.length=L at s7 zX⊢;simp[s2,s3,s4,e3,e4,s7,aO,ae,bl];refine oc (xp hG hF.o.1 hF.o.2.1 (by have:=hF.o.2.2;omega) h0 h1) ?_;simp[dM];refine fe (L.map (AV.int .i64)) (AV.int .i64 (gZ s.gf s.fY st)) (.own 3) (by simp[ep]) (by simp) rfl (kv _) (by rw[afi];omega) ?_;intro S' sd ee;simp[sd,ee,ep]
 clear s2 s3 s4 e3 e4 s7 S H;rintro S H s7;have ho:=hF.o
 have ig:∀x∈(fH s st (l.map (bc s)) l.length++if cut then[gZ s.gf s.fY st]else[]),0<=x/\x<=1000:=by
  intro x hx;rcases afr.1 hx with hx|hx
  .exact hb x hx
  .cases cut with
   |false=>simp at hx
   |true=>simp at hx;omega
 have B9:(fH s st (l.map (bc s)) l.length++if cut then[gZ s.gf s.fY st]else[]).sum=(fH s st (l.map (bc s)) l.length).sum+if cut then gZ s.gf s.fY st else 0:=by
  rw[af8]
  cases cut<;>simp
 have tg:(fH s st (l.map (bc s)) l.length++if cut then[gZ s.gf s.fY st]else[]).length<100000:=by
  rw[afm]
  cases cut<;>simp<;>omega
 rw[<-B9];generalize(fH s st (l.map (bc s)) l.length++if cut then[gZ s.gf s.fY st]else[])=L at s7 ig tg⊢;rcases pK L with⟨hg,rfl⟩|hg
 .rw[hg]at s7;simp[ai,ah,s7];refine oc (xn hG [] tg ig) ?_;simp[ai,ah]
 .rw[hg]at s7;simp[ai,ah,s7];refine oc (xn hG L tg ig) ?_;simp[ai,ah]
theorem MK(hG:au GI)(s:ar)(hs:aU s=true){l:List (Nat×Nat)}(dO:l≠[])(hl:l.length<=24)(kW:∀g∈l,BM s g)(cut:Bool){st:Int}(h0:0<=st)(h1:st<=10):AC prog GI 193 [eH s,B_ l cut,.int .i64 st] (.ret (.int .i64 (fP s st (l.map (bc s)) cut))):=by
 have hF:=dP hs
 have eK:∀a∈l.map (bc s),y0 s a:=λa ha=>by
  obtain⟨g,hg,rfl⟩:=afp.1 ha;exact nX hs (kW g hg)
 have Pg:l.map (bc s)≠[]:=by simpa using dO
 have hb:=vj hF h0 h1 Pg eK (by simpa using hl) cut;have jb:=afP.2 dO;have hg:=lA hF h0 h1 (l:=l.map (bc s)) (i:=l.length-1) (by rw[afi];omega);have Ta:=lD hF eK (i:=l.length) (by simp);have D6:=iL hF.o.2.1 h0 h1;have ho:=hF.o;have hh:=hF.cj;have a1:=Nf hG s hs (by omega:l.length<10000) kW cut st;have a2:=Nh hG s hs dO (by omega) kW cut h0 h1
 have Tp:fP s st (l.map (bc s)) cut=(fb s (l.map (bc s)) l.length+(if cut then s.cj else 0))+(fh s st (l.map (bc s)) (l.length-1)+(if cut then gZ s.gf s.fY st else 0)):=by
  unfold fP;rw[afi]
 rw[Tp]at hb⊢
 have Eu:0<=fb s (l.map (bc s)) l.length+(if cut then s.cj else 0):=by cases cut<;>simp<;>omega
 have AJ:0<=fh s st (l.map (bc s)) (l.length-1)+(if cut then gZ s.gf s.fY st else 0):=by cases cut<;>simp<;>omega
 generalize fb s (l.map (bc s)) l.length+(if cut then s.cj else 0)=X at a1 Eu hb⊢;generalize fh s st (l.map (bc s)) (l.length-1)+(if cut then gZ s.gf s.fY st else 0)=Y at a2 AJ hb⊢;have w1:IntKind.i64.wrap X=X:=aN (by omega);have w2:IntKind.i64.wrap (X+Y)=X+Y:=aN (by omega);refine bP hG func193 ntmps193 c193 ?_;refine az (λS H=>S 2=.int .i64 st/\S 3=.box 3 0/\S 4=.box 4 0/\H 3=some (aO s)/\H 4=some [.slice .view (l.map gA),.bool cut]) (by simp[ai,ah,eH,aO,B_,xM,ae,bl]) ?_;rintro S H ⟨s2,s3,s4,e3,e4⟩;simp[ai,ah,s2,s3,s4,e3,e4];refine bq 11 2 (λi S H=>S 2=.int .i64 st/\S 3=.box 3 0/\S 4=.box 4 0/\H 3=some (aO s)/\H 4=some [.slice .view (l.map gA),.bool cut]/\S 10=.uL [.func (.func 212) [] [],.func (.func 213) [] []]/\S 11=.int .i64 (i:Nat)/\S 7=.int .i64 (if i=0 then 0 else if i=1 then X else X+Y)) (λi S H h=>h.2.2.2.2.2.2.1) ⟨by simp[ai,ah,s2],by simp[ai,ah,s3],by simp[ai,ah,s4],by simp[ai,ah,e3],by simp[ai,ah,e4],by simp[ai,ah],by simp[ai,ah],by simp[ai,ah]⟩ ?_;clear s2 s3 s4 e3 e4 S H;rintro i hi S H ⟨s2,s3,s4,e3,e4,bw,bn,s7⟩
 match i,hi with
 |0,_=>
  simp[ai,ah,s2,s3,s4,e3,e4,bw,bn,s7,aO,ae,bl,Hs];refine oc a1 ?_;simp[ai,ah,s2,s3,s4,e3,e4,bw,bn,s7,aO,ae,bl,w1];exact aN (by omega)
 |1,_=>
  simp[ai,ah,s2,s3,s4,e3,e4,bw,bn,s7,aO,ae,bl,Hs];refine oc a2 ?_;simp[ai,ah,s2,s3,s4,e3,e4,bw,bn,s7,aO,ae,bl,w2];exact aN (by omega)
 |2,_=>
  simp[ai,ah,s2,s3,s4,e3,e4,bw,bn,s7]
def I8(s:ar)(out:List Int)(es:List End)(i:Nat):AV:=B_ (fm s out es i) (gV s es i)
def eC(s:ar)(out:List Int)(es:List End)(n:Nat):List AV:=(List.range n).map (I8 s out es)
theorem yi(s:ar)(out:List Int)(es:List End)(n:Nat):eC s out es (n+1)=eC s out es n++[I8 s out es n]:=by
 unfold eC;rw[afM,afu];rfl
theorem Bu(s:ar)(out:List Int)(es:List End)(n:Nat):aM 2 (eC s out es n)=true:=fZ λa=>⟨rfl,rfl⟩
theorem It(l:List (Nat×Nat)):aM 2 (l.map gA)=true:=fZ λa=>⟨rfl,rfl⟩
theorem rI(s:ar)(out:List Int)(es:List End)(n:Nat):(eC s out es n).length=n:=by unfold eC;simp
def D2(a:Nat)(S:aF)(_:aK):Nat:=match S 6,S 7 with
 |.int _ w,.int _ f=>((a-w)*1000+(1000-f)).toNat
 |_,_=>0
def UR(s:ar)(out:List Int)(es:List End)(i a b:Nat)(S:aF)(H:aK):Prop:=S 2=.box 2 0/\S 3=.box 3 0/\H 2=some (aO s)/\H 3=some [vI out,.slice .view (es.map aS)]/\S 12=.slice .view (es.map aS)/\S 13=.int .i64 es.length/\S 14=.int .i64 (i:Nat)/\S 5=grow 239 (eC s out es i)/\S 9=.box 9 0/\H 9=some [.int .i64 a,.int .i64 b]/\S 10=.box 10 0/\∃(w f:Nat)(D:List (Nat×Nat)),H 10=some [grow 261 (D.map gA),.bool (gV s es i)]/\S 6=.int .i64 w/\S 7=.int .i64 f/\D++fN s out (w,f) (a,b)=fm s out es i/\w<=a/\(w=a->f<=b)/\(w<a->f<=bT s w)
theorem Ng(hG:au GI)(s:ar)(hs:aU s=true)(out:List Int)(ho:out.length<1000000)(es:List End)(he:es.length<100000)(g:Good s out es):AC prog GI 192 [eH s,aJ out es] (.ret (.slice .view (eC s out es es.length))):=by
 have hF:=dP hs;refine AC.g_ (o:=if eC s out es es.length=[]then .nil else .view) ?_;refine bP hG func192 ntmps192 c192 ?_;refine az (λS H=>S 2=.box 2 0/\S 3=.box 3 0/\H 2=some (aO s)/\H 3=some [vI out,.slice .view (es.map aS)]) (by simp[ai,ah,eH,aO,ae,bl,aJ,aH]) ?_;rintro S H ⟨s2,s3,e2,e3⟩;simp[ai,ah,s2,s3,e2,e3];refine bq 14 es.length (λi S H=>S 2=.box 2 0/\S 3=.box 3 0/\H 2=some (aO s)/\H 3=some [vI out,.slice .view (es.map aS)]/\S 12=.slice .view (es.map aS)/\S 13=.int .i64 es.length/\S 14=.int .i64 (i:Nat)/\S 5=grow 239 (eC s out es i)/\S 6=.int .i64 (ia es i).1/\S 7=.int .i64 (ia es i).2) (λi S H h=>h.2.2.2.2.2.2.1) ⟨by simp[ai,ah,s2],by simp[ai,ah,s3],by simp[ai,ah,e2],by simp[ai,ah,e3],by simp[ai,ah],by simp[ai,ah],by simp[ai,ah],by simp[ai,ah,grow,eC],by simp[ai,ah,ia],by simp[ai,ah,ia]⟩ ?_;clear s2 s3 e2 e3 S H;rintro i hi S H ⟨s2,s3,e2,e3,bJ,b0,cU,s5,s6,s7⟩
 by_cases aw:i<es.length
 case neg=>
  have cD:i=es.length:=by omega
  subst cD
  by_cases h0:eC s out es es.length=[]
  .have jJ:S 5=.slice .nil []:=by rw[s5,h0];rfl
   simp[ai,ah,s2,s3,e2,e3,bJ,b0,cU,jJ,h0]
  .have jJ:S 5=.slice (.own 239) (eC s out es es.length):=by rw[s5];simp[grow,h0]
   simp[ai,ah,s2,s3,e2,e3,bJ,b0,cU,jJ,h0]
 obtain⟨g1,g2,g3,g4,g5⟩:=g.one i aw
 obtain⟨a,ha⟩:∃a:Nat,es[i].1=a:=⟨es[i].1.toNat,by omega⟩
 obtain⟨b,hb⟩:∃b:Nat,es[i].2=b:=⟨es[i].2.toNat,by omega⟩
 have hE:es[i]=((a:Int),(b:Int)):=Prod.ext ha hb
 have Hn:nE es[i]=(a,b):=by rw[hE];rfl
 have sC:a<s.words.length:=by omega
 have ED:gV s es i=decide (b<s.words[a].aG.length):=by
  rw[rD aw,hE];show decide ((b:Int)<(bT s (a:Int).toNat:Int))=_;rw[Int.toNat_natCast,eT sC,ahT];omega
 rw[ha]at g3 g5;rw[hb]at g4 g5
 have g5:b<=s.words[a].aG.length:=by rw[Int.toNat_natCast,eT sC]at g5;omega
 have CD:fm s out es i=fN s out (ia es i) (a,b):=by rw[ln aw,Hn]
 have CN:=td hs g i;have hw:IntKind.i64.wrap ((i:Int)+1)=i+1:=aN (by omega)
 have KD:ia es (i+1)=(a,b):=by
  show(match es[i]? with|some e=>nE e|none=>(0,0))=_;rw[ae9 aw];exact Hn
 have HH:=uJ g aw;rw[Hn]at HH;simp[ai,ah,s2,s3,e2,e3,bJ,b0,cU,aw,hE,aS,aO,ae,bl,sC,bW,bC];refine⟨UR s out es i a b,D2 a,⟨by simp[ai,ah,s2],by simp[ai,ah,s3],by simp[ai,ah,e2,aO,ae,bl],by simp[ai,ah,e3],by simp[ai,ah,bJ],by simp[ai,ah,b0],by simp[ai,ah,cU],by simp[ai,ah,s5,grow],by simp[ai,ah],by simp[ai,ah],by simp[ai,ah],(ia es i).1,(ia es i).2,[],by simp[ai,ah,grow,ED],by simp[ai,ah,s6],by simp[ai,ah,s7],by rw[CD];rfl,by omega,by omega,?_⟩,?_⟩
 .intro _
  cases i with
  |zero=>exact afK _
  |succ j=>
   have hj:=g.one j (by omega)
   have:ia es (j+1)=nE es[j]:=by show(match es[j]? with|some e=>nE e|none=>(0,0))=_;rw[ae9 (by omega)]
   rw[this];show es[j].2.toNat<=bT s es[j].1.toNat;omega
 clear s2 s3 e2 e3 bJ b0 cU s5 s6 s7 S H;rintro S H ⟨s2,s3,e2,e3,bJ,b0,cU,s5,s9,e9,bw,w,f,D,ij,s6,s7,hD,Wr,P1,si⟩
 have Wl:D.length<=24:=by
  have:=congrArg List.length hD;rw[afm]at this;omega
 have EB:=(nF hs (out:=out) w).2;have SD:=(nF hs (out:=out) a).2;rw[eT sC]at SD
 have hf6:f<=6:=by
  by_cases h:w<a
  .have:=si h;omega
  .have:=P1 (by omega);omega
 by_cases nq:w<a\/w=a/\f<b
 case neg=>
  obtain rfl:w=a:=by omega
  obtain rfl:f=b:=by have:=P1 rfl;omega
  rw[B5 (afg _),afL]at hD
  have P6:D≠[]:=by rw[hD];exact vM g aw
  have hg:grow 261 (D.map gA)=.slice (.own 261) (D.map gA):=by simp[grow,P6]
  rw[hg]at ij
  have sZ:I8 s out es i=.agg [.slice .view (D.map gA),.bool (gV s es i)]:=by rw[hD];rfl
  have dM:aM 2 [AV.agg [AV.slice .view (D.map gA),AV.bool (gV s es i)]]=true:=rfl;simp[s2,s3,e2,e3,bJ,b0,cU,s5,s9,e9,bw,ij,s6,s7,dM];refine fe (eC s out es i) (I8 s out es i) (.own 239) (by simp[s5,grow]) (by rw[sZ];simp) (by rw[sZ];rfl) (Bu _ _ _ _) (by rw[rI];omega) ?_;intro S' sd ee;simp[sd,ee,s2,s3,e2,e3,bJ,b0,cU,s6,s7,hw,aw,KD,yi,grow,aO,ae,bl]
 have oe:w<s.words.length:=by omega
 have Et:=eT oe;refine az (λS H=>S 2=.box 2 0/\S 3=.box 3 0/\H 2=some (aO s)/\H 3=some [vI out,.slice .view (es.map aS)]/\S 12=.slice .view (es.map aS)/\S 13=.int .i64 es.length/\S 14=.int .i64 (i:Nat)/\S 5=grow 239 (eC s out es i)/\S 9=.box 9 0/\H 9=some [.int .i64 a,.int .i64 b]/\S 10=.box 10 0/\H 10=some [grow 261 (D.map gA),.bool (gV s es i)]/\S 6=.int .i64 w/\S 7=.int .i64 f) ?_ ?_
 .rcases nq with za|⟨rfl,RJ⟩
  .have y9:(w:Int)<a:=by omega
   simp[ai,ah,s2,s3,e2,e3,bJ,b0,cU,s5,s9,e9,bw,ij,s6,s7,y9,za]
  .have Me:(f:Int)<b:=by omega
   simp[ai,ah,s2,s3,e2,e3,bJ,b0,cU,s5,s9,e9,bw,ij,s6,s7,Me,RJ]
 have Ei:D2 a S H=(a-w)*1000+(1000-f):=by unfold D2;rw[s6,s7];simp only;omega
 rw[Ei];clear s2 s3 e2 e3 bJ b0 cU s5 s9 e9 bw ij s6 s7 Ei S H;rintro S H ⟨s2,s3,e2,e3,bJ,b0,cU,s5,s9,e9,bw,ij,s6,s7⟩;simp[s2,s3,e2,e3,bJ,b0,cU,s5,s9,e9,bw,ij,s6,s7];refine⟨_,by kernel_rfl,Cp hG out ho w,λ_=>rfl,?_⟩;have jz:=hF.words.2;have jF:IntKind.i64.wrap ((w:Int)+1)=w+1:=aN (by omega);have Ra:IntKind.i64.wrap ((f:Int)+1)=f+1:=aN (by omega);have NT:IntKind.i64.wrap 0=0:=aN (by omega);cases xi:out.contains (w:Int)
 case true=>
  have za:w<a:=by
   rcases nq with h|⟨rfl,_⟩
   .exact h
   .rw[xi]at g3;cases g3
  simp[s2,s3,e2,e3,bJ,b0,cU,s5,s9,e9,bw,ij,s6,s7,jF,NT];refine⟨⟨by simp[ai,ah,s2],by simp[ai,ah,s3],e2,e3,by simp[ai,ah,bJ],by simp[ai,ah,b0],by simp[ai,ah,cU],by simp[ai,ah,s5,grow],by simp[ai,ah,s9],e9,by simp[ai,ah,bw],w+1,0,D,ij,by simp[ai,ah],by simp[ai,ah],by rw[<-hD,AP za xi],by omega,λ_=>afK _,λ_=>afK _⟩,?_⟩;simp[D2,av];omega
 have hlen:(((w:Nat):Int))<s.words.length:=by omega
 cases sj:((f:Int)==s.words[w].aG.length)
 case true=>
  have Kk:bT s w<=f:=by rw[Et];simp at sj;omega
  have za:w<a:=by
   rcases nq with h|⟨rfl,h⟩
   .exact h
   .rw[Et]at Kk;omega
  simp[s2,s3,e2,e3,bJ,b0,cU,s5,s9,e9,bw,ij,s6,s7,jF,NT,aO,ae,bl,bW,oe,sj];refine⟨⟨by simp[ai,ah,s2],by simp[ai,ah,s3],e2,e3,by simp[ai,ah,bJ],by simp[ai,ah,b0],by simp[ai,ah,cU],by simp[ai,ah,s5,grow],by simp[ai,ah,s9],e9,by simp[ai,ah,bw],w+1,0,D,ij,by simp[ai,ah],by simp[ai,ah],by rw[<-hD,Ct za Kk],by omega,λ_=>afK _,λ_=>afK _⟩,?_⟩;simp[D2,av];omega
 have dO:f≠s.words[w].aG.length:=by simp at sj;omega
 have Vh:f<bT s w:=by
  rcases nq with h|⟨rfl,h⟩
  .have:=si h;omega
  .omega
 have dM:aM 2 [AV.agg [AV.int .i64 (w:Nat),AV.int .i64 (f:Nat)]]=true:=rfl;simp[s2,s3,e2,e3,bJ,b0,cU,s5,s9,e9,bw,ij,s6,s7,aO,ae,bl,bW,oe,sj,bC,dM];refine fe (D.map gA) (gA (w,f)) (.own 261) (by simp[grow]) (by simp[gA]) rfl (It _) (by rw[afi];omega) ?_;intro S' sd ee;simp[sd,ee,s2,s3,e2,e3,bJ,b0,cU,s5,s9,e9,bw,s6,s7,Ra,grow];refine⟨⟨by simp[ai,ah,ee,s2],by simp[ai,ah,ee,s3],?_,?_,by simp[ai,ah,ee,bJ],by simp[ai,ah,ee,b0],by simp[ai,ah,ee,cU],by simp[ai,ah,ee,s5,grow],by simp[ai,ah,ee,s9],?_,by simp[ai,ah,ee,bw],w,f+1,D++[(w,f)],?_,by simp[ai,ah,ee,s6],by simp[ai,ah],?_,Wr,?_,?_⟩,?_⟩
 .simp[ai,ah,e2,aO,ae,bl]
 .simp[ai,ah,e3]
 .simp[ai,ah,e9]
 .simp[ai,ah,grow]
 .have ry:fN s out (w,f) (a,b)=(w,f)::fN s out (w,f+1) (a,b):=Ft (by
   rcases nq with h|h
   .exact .inl ⟨h,xi,Vh⟩
   .exact .inr h)
  rw[<-hD,ry];simp
 .intro h;rcases nq with h'|h'<;>omega
 .intro _;omega
 .simp[D2,av,ee,s6];omega
theorem Gm(l:List (List UInt8)):aM 1 (l.map AV.str)=true:=fZ λa=>⟨rfl,rfl⟩
end Go.Proofs.Tryz
namespace Go.Proofs.Tryz
open Go Go.AL Go.RowKit Go.Proofs Go.Proofs.Tram
theorem IZ {Pr:Nat→Nat→Prop} {w:World} {b:Nat} {ty:TypeId} {cells:Array Value} {es:List AV} {size:Nat} (hb:w.heap[b]? = some (.cells cells ty (0,0))) (hs:cells.size=es.length * size) (bL:∀ e∈es,e.cells.length=size∧∀ c∈e.cells,c.one=true)
  (hP:∀k,k<cells.size->Pr b k) (hr:∀i (h:i<es.length) j (hj:j<(es[i]).cells.length),RD Pr w ((es[i]).cells[j]) (cells.getD (i*size+j) undef)):RD Pr w (.slice .view es) (.slice (some ⟨b,0,none⟩) es.length es.length):=by
 refine .slice .view es b 0 es.length size (λk=>cells.getD k undef) (afg _) (λh=>by cases h) (λi h=>(bL _ (ae_ h)).1) (λi h j hj=>(bL _ (ae_ h)).2 _ (ae_ hj)) (λk hk=>?_) hr;rw[<-hs]at hk;refine⟨by rw[af6];exact hP k hk,?_⟩;simp[World.cell?,hb,hk]
variable{GI:World->Prop}
end Go.Proofs.Tryz
namespace Go.Proofs.Tryz
open Go Go.AL Go.RowKit Go.Proofs Go.Proofs.Tram
theorem xU {bE:Nat} {u:Value} {ty:TypeId} (w:World) (hE:w.heap[bE]? = some (.cells #[u] ty (0,0))) (n:Int) :
    CallsD prog 163 #[.pointer (some ⟨bE,0,none⟩)] (.panicking [{ v := .iface 192 (.agg #[.int .i64 n]),recovered:=false }]) w fun e u' w' =>
      e=.returned (.tuple #[])/\u'=.panicking [{ v:=.iface 192 (.agg #[.int .i64 n]),recovered:=true }]/\∃w1,Below w.heap.size w w1/\w'=w1.setRow bE #[.int .i64 7]:=by
  refine agO func163 rfl λtm cs hu=>?_
  apply ahy;apply ag0;simp[wpOpsS,go_sem,recoverD,hu,ntmps163,Exit.thenS];refine ag_ ?_;refine(ez (m:=0)).1 ?_;refine eY (λa=>a.tmps.size=14/\a.defers=[]/\a.tmps.getD 0 undef=.pointer (some ⟨bE,0,none⟩)/\a.tmps.getD 5 undef=.iface 192 (.agg #[.int .i64 n])) ⟨by simp,rfl,by simp,by simp⟩ ?_;rintro a ⟨bL,ea,h0,h5⟩;have aw:=(afe.1 hE).1;refine af3 (afc (afq ?_));show wpOpsIn _ _ _ _ _ [0] a w;refine aW rfl rfl (by rfl) (mD (x:=.tmp 5) w rfl h5) ?_;show Code.wpIn _ _ _ _ _ (a.put (some 7) (.bool false)) w
  have h7:(a.put (some 7) (.bool false)).tmps.getD 7 undef=.bool false:=by simp[Act.put,bL]
  refine afF (t:=false) h7 ?_;simp only[afj,afx];refine eY (λa=>a.tmps.size=14/\a.defers=[]/\a.tmps.getD 0 undef=.pointer (some ⟨bE,0,none⟩)/\a.tmps.getD 5 undef=.iface 192 (.agg #[.int .i64 n])) ⟨by simp[Act.put,bL],ea,by simpa[Act.put,afb]using h0,by simpa[Act.put,afb]using h5⟩ ?_;clear h7 h5 h0 ea bL a;rintro a ⟨bL,ea,h0,h5⟩
  have hS:∀ (a:Act) (w:World),a.tmps.getD 5 undef = .iface 192 (.agg #[.int .i64 n])→∀ t,t < 14→((fun t=>if t=5 then AV.iface 192 (.agg [.int .i64 n]) else AV.bB:aF) t).aI=(fun t=>if t=5 then AV.iface 192 (.agg [.int .i64 n]) else AV.bB:aF) t ∧
      RV (λ_ _=>True) cd w ((λt=>if t=5 then AV.iface 192 (.agg [.int .i64 n])else AV.bB:aF) t) (a.tmps.getD t undef):=by
    intro a w h5 t ht
    by_cases h:t=5
    . subst h
      rw[h5];refine⟨rfl,.data _ _ (.iface _ _ _ (.agg _ _ rfl (λi hi=>?_) (λi hi gq=>?_)))⟩
      . have:i=0:=by simpa using hi
        subst this;rfl
      . have:i=0:=by simpa using hi
        subst this;exact .int _ _
    . simp only[h,afx];exact⟨rfl,.bB _⟩
  refine afc ?_;refine bG (GI:=λ_=>True) (λ_ _ _ _=>trivial) cC (ac:=af.qa c163.qb.qb.qb.qb) (W:=λt=>decide (8<=t)) (by kernel_rfl) (by kernel_rfl) (by kernel_rfl) trivial (λ_ _=>True) _ bL ea (hS a w h5) (K:=λS' _=>S' 9=.bool true/\S' 10=.agg [.int .i64 n]) ?_ ?_
  . simp[c163,af.qa,af.qb,bO,bj,aD,bf,aL,aP,aT.S,aT.H,ev,av,aY,AV.aI]
  rintro g S' H' a' w' hg R1 ⟨h9,l3⟩ bb;have t9:=R1.slot 9 (by decide) (λh=>h);rw[h9]at t9;have t9:=t9.dN;have t10:=R1.slot 10 (by decide) (λh=>h);rw[l3]at t10
  have b1:Below w.heap.size w w':=by have:=R1.below;rwa [R1.base]at this
  show Code.wpIn _ _ _ _ _ a' w';refine afF (t:=true) t9 ?_;simp only[afH];refine afc ?_;refine fS R1 (GI:=λ_=>True) (λ_ _ _ _=>trivial) trivial cC (ac:=af.qa c163.qb.qb.qb.qb.qb.qa) (W:=λt=>decide (1<=t)) (by kernel_rfl) (by kernel_rfl) (by kernel_rfl) (by rw[hg];exact λ_ h=>h) (K:=λ_ _=>True) ?_ ?_
  . simp[c163,af.qa,af.qb,bO,bj,aD,bf,aL,aP,aT.S,aT.H,ev,av,aY,AV.aI,l3,cE,HR.okB,AV.cells,AV.storable,bo,AV.cg,bu]
  rintro g2 S2 H2 a2 w2 lv R2 _ gm
  have b2:Below w.heap.size w w2:=by have:=R2.below;rwa [R2.base]at this
  have e0:a2.tmps.getD 0 undef=.pointer (some ⟨bE,0,none⟩):=(gm 0 rfl).trans ((bb 0 rfl).trans h0);have xh:w2.heap[bE]?=some (.cells #[u] ty (0,0)):=(b2.block bE aw).trans hE;obtain⟨i36,l0,lZ⟩:=bh (P:=prog) (t:=34) (s:=1) (by kernel_rfl);show Code.wpIn _ _ _ _ _ a2 w2;refine afq ?_;show wpOpsIn _ _ _ _ _ [0] a2 w2;refine dk rfl rfl (by rfl) (fM (x:=.tmp 0) (y:=.const (.int .i64 7)) (v:=.int .i64 7) rfl e0 l0 lZ xh rfl rfl) ?_;refine⟨by show a2.defers=[];rw[R2.defers,lv,hg];rfl,_,rfl,.tuple #[],?_,rfl,rfl,w2,b2,rfl⟩;simp[results,results163]
theorem wW {bE:Nat} {u:Value} {ty:TypeId} (w:World) (hE:w.heap[bE]? = some (.cells #[u] ty (0,0))) (n:List UInt8) :
    CallsD prog 163 #[.pointer (some ⟨bE,0,none⟩)] (.panicking [{ v := .iface 203 (.agg #[.string ⟨n.toArray⟩]),recovered:=false }]) w fun e u' w' =>
      e=.returned (.tuple #[])/\u'=.panicking [{ v:=.iface 203 (.agg #[.string ⟨n.toArray⟩]),recovered:=true }]/\∃w1,Below w.heap.size w w1/\w'=w1.setRow bE #[.int .i64 4]:=by
  refine agO func163 rfl λtm cs hu=>?_
  apply ahy;apply ag0;simp[wpOpsS,go_sem,recoverD,hu,ntmps163,Exit.thenS];refine ag_ ?_;refine(ez (m:=0)).1 ?_;refine eY (λa=>a.tmps.size=14/\a.defers=[]/\a.tmps.getD 0 undef=.pointer (some ⟨bE,0,none⟩)/\a.tmps.getD 5 undef=.iface 203 (.agg #[.string ⟨n.toArray⟩])) ⟨by simp,rfl,by simp,by simp⟩ ?_;rintro a ⟨bL,ea,h0,h5⟩;have aw:=(afe.1 hE).1;refine af3 (afc (afq ?_));show wpOpsIn _ _ _ _ _ [0] a w;refine aW rfl rfl (by rfl) (mD (x:=.tmp 5) w rfl h5) ?_;show Code.wpIn _ _ _ _ _ (a.put (some 7) (.bool false)) w
  have h7:(a.put (some 7) (.bool false)).tmps.getD 7 undef=.bool false:=by simp[Act.put,bL]
  refine afF (t:=false) h7 ?_;simp only[afj,afx];refine eY (λa=>a.tmps.size=14/\a.defers=[]/\a.tmps.getD 0 undef=.pointer (some ⟨bE,0,none⟩)/\a.tmps.getD 5 undef=.iface 203 (.agg #[.string ⟨n.toArray⟩])) ⟨by simp[Act.put,bL],ea,by simpa[Act.put,afb]using h0,by simpa[Act.put,afb]using h5⟩ ?_;clear h7 h5 h0 ea bL a;rintro a ⟨bL,ea,h0,h5⟩
  have hS:∀ (a:Act) (w:World),a.tmps.getD 5 undef = .iface 203 (.agg #[.string ⟨n.toArray⟩])→∀ t,t < 14→((fun t=>if t=5 then AV.iface 203 (.agg [.str n]) else AV.bB:aF) t).aI=(fun t=>if t=5 then AV.iface 203 (.agg [.str n]) else AV.bB:aF) t ∧
      RV (λ_ _=>True) cd w ((λt=>if t=5 then AV.iface 203 (.agg [.str n])else AV.bB:aF) t) (a.tmps.getD t undef):=by
    intro a w h5 t ht
    by_cases h:t=5
    . subst h
      rw[h5];refine⟨rfl,.data _ _ (.iface _ _ _ (.agg _ _ rfl (λi hi=>?_) (λi hi gq=>?_)))⟩
      . have:i=0:=by simpa using hi
        subst this;rfl
      . have:i=0:=by simpa using hi
        subst this;exact .str _
    . simp only[h,afx];exact⟨rfl,.bB _⟩
  refine afc ?_;refine bG (GI:=λ_=>True) (λ_ _ _ _=>trivial) cC (ac:=af.qa c163.qb.qb.qb.qb) (W:=λt=>decide (8<=t)) (by kernel_rfl) (by kernel_rfl) (by kernel_rfl) trivial (λ_ _=>True) _ bL ea (hS a w h5) (K:=λS' _=>S' 9=.bool false/\S' 5=.iface 203 (.agg [.str n])) ?_ ?_
  . simp[c163,af.qa,af.qb,bO,bj,aD,bf,aL,aP,aT.S,aT.H,ev,av,aY,AV.aI]
  rintro g0 S0 H0 a0 NF uX R0 ⟨Ax,K9⟩ xZ;have t90:=R0.slot 9 (by decide) (λh=>h);rw[Ax]at t90;have t90:=t90.dN;show Code.wpIn _ _ _ _ _ a0 NF;refine afF (t:=false) t90 ?_;simp only[afj,afx];refine afc ?_;refine fS R0 (GI:=λ_=>True) (λ_ _ _ _=>trivial) trivial cC (ac:=af.qa c163.qb.qb.qb.qb.qb.qb) (W:=λt=>decide (8<=t)) (by kernel_rfl) (by kernel_rfl) (by kernel_rfl) (by rw[uX];exact λ_ h=>h) (K:=λS' _=>S' 12=.bool true/\S' 13=.agg [.str n]) ?_ ?_
  . simp[c163,af.qa,af.qb,bO,bj,aD,bf,aL,aP,aT.S,aT.H,ev,av,aY,AV.aI,K9]
  rintro g S' H' a' w' hg R1 ⟨h9,l3⟩ yr;have bb:=xZ.trans yr;rw[uX]at hg;have t9:=R1.slot 12 (by decide) (λh=>h);rw[h9]at t9;have t9:=t9.dN;have t10:=R1.slot 13 (by decide) (λh=>h);rw[l3]at t10
  have b1:Below w.heap.size w w':=by have:=R1.below;rwa [R1.base]at this
  show Code.wpIn _ _ _ _ _ a' w';refine afF (t:=true) t9 ?_;simp only[afH];refine afc ?_;refine fS R1 (GI:=λ_=>True) (λ_ _ _ _=>trivial) trivial cC (ac:=af.qa c163.qb.qb.qb.qb.qb.qb.qb.qa) (W:=λt=>decide (1<=t)) (by kernel_rfl) (by kernel_rfl) (by kernel_rfl) (by rw[hg];exact λ_ h=>h) (K:=λ_ _=>True) ?_ ?_
  . simp[c163,af.qa,af.qb,bO,bj,aD,bf,aL,aP,aT.S,aT.H,ev,av,aY,AV.aI,l3,cE,HR.okB,AV.cells,AV.storable,bo,AV.cg,bu]
  rintro g2 S2 H2 a2 w2 lv R2 _ gm
  have b2:Below w.heap.size w w2:=by have:=R2.below;rwa [R2.base]at this
  have e0:a2.tmps.getD 0 undef=.pointer (some ⟨bE,0,none⟩):=(gm 0 rfl).trans ((bb 0 rfl).trans h0);have xh:w2.heap[bE]?=some (.cells #[u] ty (0,0)):=(b2.block bE aw).trans hE;obtain⟨i36,l0,lZ⟩:=bh (P:=prog) (t:=34) (s:=1) (by kernel_rfl);show Code.wpIn _ _ _ _ _ a2 w2;refine afq ?_;show wpOpsIn _ _ _ _ _ [0] a2 w2;refine dk rfl rfl (by rfl) (fM (x:=.tmp 0) (y:=.const (.int .i64 4)) (v:=.int .i64 4) rfl e0 l0 lZ xh rfl rfl) ?_;refine⟨by show a2.defers=[];rw[R2.defers,lv,hg];rfl,_,rfl,.tuple #[],?_,rfl,rfl,w2,b2,rfl⟩;simp[results,results163]
theorem wO (p:Addr) (w:World) :
    CallsD prog 163 #[.pointer (some p)] .returning w λe u' w'=>e=.returned (.tuple #[])/\u'=.returning/\w'=w:=by
  refine agO func163 rfl λtm cs hu=>?_
  apply ahy;apply ag0;simp[wpOpsS,go_sem,recoverD,hu,ntmps163,Exit.thenS];refine ag_ ?_
  go_wp2
  cases tm
  simp_all[bodyPostS,results,results163]
theorem CS {a:Act} {w:World} {b:Nat} {v:Value} {ty:TypeId} (h2:a.tmps.getD 2 undef = .pointer (some ⟨b,0,none⟩)) (h:w.heap[b]? = some (.cells #[v] ty (0,0))):(results f119 a.tmps).run prog w = .ok v w:=by
  obtain⟨d,EA,Og⟩:=iy (P:=prog) (t:=34) (by kernel_rfl)
  have AY:(isAgg 34).run prog w = .ok false w:=by
    unfold isAgg;rw[afW,agn EA w]
    cases d<;>simp_all[fg]
  have hl:(loadVar 34 ⟨b,0,none⟩).run prog w = .ok v w:=by
    simp[loadVar,afW,AY,World.cell?,h]
  have hr:f119.results=#[.cell 2 34]:=rfl
  have th:a.tmps[2]?.getD undef=.pointer (some ⟨b,0,none⟩):=by rw[<-h2];simp
  simp[results,hr,th,asAddr,hl]
theorem iK {k:Nat} {us:Array Value} {w:World} {R1 R:Ending→World→Prop} (sX:dZ prog k=true) (hc:Calls prog k us (w.alloc (.cells #[.int .i64 0] 34)) R1)
    (h:∀ e w2,R1 e w2→w.heap.size < w2.heap.size∧(∃ u ty,w2.heap[w.heap.size]? = some (.cells #[u] ty (0,0))) ∧
      ((∃c,e=.returned c/\R (.returned (.int .i64 0)) (w2.setRow w.heap.size #[.int .i64 0]))\/
       (∃n,e=.panicked [{ v:=.iface 192 (.agg #[.int .i64 n]),recovered:=false }]/\∀w3,Below w2.heap.size w2 w3->R (.returned (.int .i64 7)) (w3.setRow w.heap.size #[.int .i64 7]))\/
       (∃s:List UInt8,e=.panicked [{ v:=.iface 203 (.agg #[.string ⟨s.toArray⟩]),recovered:=false }]/\∀w3,Below w2.heap.size w2 w3->R (.returned (.int .i64 4)) (w3.setRow w.heap.size #[.int .i64 4])))):
    Calls prog 119 #[.func (.func k) #[] us] w R:=by
  refine ahO func119 rfl ?_;refine(ez (m:=0)).1 ?_;refine eY (λa=>a.tmps.size=6/\a.defers=[]/\a.tmps.getD 0 undef=.func (.func k) #[] us) ⟨by simp[ntmps119],rfl,bK _ _ 0 (by simp)⟩ ?_;rintro a ⟨bL,ea,h0⟩
  obtain⟨bE,Bg⟩:∃bE,w.heap.size=bE:=⟨_,rfl⟩
  have dW:∀ (a:Act) (d t:Nat) (c:Value),t≠d→(a.put (some d) c).tmps.getD t undef=a.tmps.getD t undef:=fun a d t c h=>by
    simp[Act.put,afb (afQ h)]
  have gP:∀ (a:Act) (d:Nat) (c:Value),a.tmps.size=6→d < 6→(a.put (some d) c).tmps.getD d undef=c:=fun a d c h hd=>by
    simp[Act.put,h,hd]
  have ju:∀(a:Act)(d:Option Nat)(c:Value),(a.put d c).tmps.size=a.tmps.size:=λa d c=>by cases d<;>simp[Act.put]
  refine afc (afq ?_);show wpOpsIn _ _ _ _ _ [0] a w;refine aW rfl rfl (by rfl) (iQ (t:=34) (z:=.int .i64 0) rfl (by kernel_rfl)) ?_;show Code.wpIn _ _ _ _ _ (a.put (some 2) (.pointer (some ⟨w.heap.size,0,none⟩))) (w.alloc (.cells #[.int .i64 0] 34));rw[Bg]at h;simp only[Bg]
  obtain⟨w1,jF⟩:∃w1,w.alloc (.cells #[.int .i64 0] 34)=w1:=⟨_,rfl⟩
  rw[jF]at hc⊢;refine eY (λa=>a.tmps.size=6/\a.defers=[]/\a.tmps.getD 0 undef=.func (.func k) #[] us/\a.tmps.getD 2 undef=.pointer (some ⟨bE,0,none⟩)) ⟨by rw[ju];exact bL,ea,by rw[dW _ _ _ _ (by decide)];exact h0,gP _ _ _ bL (by decide)⟩ ?_;clear h0 ea bL a;rintro a ⟨bL,ea,h0,h2⟩;refine afc (afq ?_);show wpOpsIn _ _ _ _ _ [0,1] a w1;refine aW rfl rfl (by rfl) (kB (fn:=.func 163) (c:=#[.tmp 2]) rfl) ?_
  have iV:(#[Operand.tmp 2].map a.eval) = #[.pointer (some ⟨bE,0,none⟩)]:=by
    simp only[afw,afv,afB,Act.eval];rw[h2]
  rw[iV];show wpOpsIn _ _ _ _ _ [1] (a.put (some 3) (.func (.func 163) #[] #[.pointer (some ⟨bE,0,none⟩)])) w1
  obtain⟨a2,ic⟩:∃a2,a.put (some 3) (.func (.func 163) #[] #[.pointer (some ⟨bE,0,none⟩)])=a2:=⟨_,rfl⟩
  rw[ic]
  have z2:a2.tmps.size=6:=by rw[<-ic,ju];exact bL
  have u3:a2.tmps.getD 3 undef=.func (.func 163) #[] #[.pointer (some ⟨bE,0,none⟩)]:=by rw[<-ic];exact gP _ _ _ bL (by decide)
  have u0:a2.tmps.getD 0 undef=.func (.func k) #[] us:=by rw[<-ic,dW _ _ _ _ (by decide)];exact h0
  have u2:a2.tmps.getD 2 undef=.pointer (some ⟨bE,0,none⟩):=by rw[<-ic,dW _ _ _ _ (by decide)];exact h2
  have ud:a2.defers=[]:=by rw[<-ic];exact ea
  refine yF rfl rfl (d:={ target:=.fn (.func 163) #[.pointer (some ⟨bE,0,none⟩)],args:=#[] }) (w':=w1) ?_ ?_
  . unfold execOp
    simp[eV,Deferred.ofValue,Act.eval,u3]
  have E1:∀ (w:World),(invoke (.fn (.func 163) #[.pointer (some ⟨bE,0,none⟩)]) #[]).run prog w = .ok (.enter 163 #[.pointer (some ⟨bE,0,none⟩)]) w:=fun w=>by
    simp[invoke,je (P:=prog) (f:=163) (by kernel_rfl)]
  show Code.wpIn _ _ _ _ _ { a2 with defers:={ target:=.fn (.func 163) #[.pointer (some ⟨bE,0,none⟩)],args:=#[] }::a2.defers } w1;refine eY (λa=>a.tmps.size=6/\a.defers=[{ target:=.fn (.func 163) #[.pointer (some ⟨bE,0,none⟩)],args:=#[] }]/\a.tmps.getD 0 undef=.func (.func k) #[] us/\a.tmps.getD 2 undef=.pointer (some ⟨bE,0,none⟩)) ⟨z2,by show _::a2.defers=_;rw[ud],u0,u2⟩ ?_;clear u0 u2 u3 ud z2 ic a2 h0 h2 ea bL iV a;rintro a ⟨bL,ea,h0,h2⟩;refine afc (afq ?_);show wpOpsIn _ _ _ _ _ [0,1] a w1;refine aW rfl rfl (by rfl) (run_move (x:=.tmp 0) w1 rfl) ?_;have e0:a.eval (.tmp 0)=.func (.func k) #[] us:=h0;rw[e0];show wpOpsIn _ _ _ _ _ [1] (a.put (some 4) (.func (.func k) #[] us)) w1
  obtain⟨a2,ic⟩:∃a2,a.put (some 4) (.func (.func k) #[] us)=a2:=⟨_,rfl⟩
  rw[ic]
  have z2:a2.tmps.size=6:=by rw[<-ic,ju];exact bL
  have u4:a2.eval (.tmp 4)=.func (.func k) #[] us:=by show a2.tmps.getD 4 undef=_;rw[<-ic];exact gP _ _ _ bL (by decide)
  have u2:a2.tmps.getD 2 undef=.pointer (some ⟨bE,0,none⟩):=by rw[<-ic,dW _ _ _ _ (by decide)];exact h2
  have ud:a2.defers=[{ target:=.fn (.func 163) #[.pointer (some ⟨bE,0,none⟩)],args:=#[] }]:=by rw[<-ic];exact ea
  refine rk rfl rfl (by rfl) (rZ (f:=.tmp 4) w1 rfl rfl rfl u4 sX) hc ?_;intro e w2 he;obtain⟨aw,⟨uE,L',hE⟩,pA⟩:=h e w2 he
  have uj:∀ {args:Array Value} {u:FrameMode} {w:World} {R R':Ending→FrameMode→World→Prop},CallsD prog 163 args u w R→(∀ e u w,R e u w→R' e u w)→CallsD prog 163 args u w R':=fun h hr c cs hu =>
    let⟨e,u',w',fr,r,rest⟩:=h c cs hu;⟨e,u',w',fr,hr _ _ _ r,rest⟩
  have qv:∀ (p:PanicEntry) (v:Value) (hv:CallsD prog 163 #[.pointer (some ⟨bE,0,none⟩)] (.panicking [p]) w2 fun e u' w'=>e = .returned (.tuple #[])∧u' = .panicking [{ p with recovered:=true }]∧∃ w1,Below w2.heap.size w2 w1∧w'=w1.setRow bE #[v]),
      p.goexit=false->(∀w3,Below w2.heap.size w2 w3->R (.returned v) (w3.setRow bE #[v]))->Leaves prog f119 a2.tmps R a2.defers (.panicking [p]) w2:=by
    intro p v hv nq hR;rw[ud];refine ahv (by simp) (E1 w2) (uj hv ?_);rintro e u' w' ⟨rfl,rfl,w3,mm,rfl⟩;have LW:w3.heap[bE]?=some (.cells #[uE] L' (0,0)):=(mm.block bE aw).trans hE;show Leaves prog f119 a2.tmps R [] .returning (w3.setRow bE #[v]);exact⟨v,CS u2 (sK LW),hR w3 mm⟩
  rcases pA with⟨c,rfl,hR⟩|⟨n,rfl,hR⟩|⟨s,rfl,hR⟩
  . show Code.wpIn _ _ _ _ _ (a2.put (some 5) c) w2
    have GL:(a2.put (some 5) c).tmps.getD 2 undef=.pointer (some ⟨bE,0,none⟩):=by rw[dW _ _ _ _ (by decide)];exact u2
    refine afc (afq ?_);show wpOpsIn _ _ _ _ _ [0] (a2.put (some 5) c) w2;obtain⟨i36,l0,lZ⟩:=bh (P:=prog) (t:=34) (s:=1) (by kernel_rfl);refine dk rfl rfl (by rfl) (fM (x:=.tmp 2) (y:=.const (.int .i64 0)) (v:=.int .i64 0) rfl GL l0 lZ hE rfl rfl) ?_;show Code.wpIn _ _ _ _ _ (a2.put (some 5) c) (w2.setRow bE #[.int .i64 0]);refine agK ?_;show Leaves prog f119 (a2.put (some 5) c).tmps R a2.defers .returning (w2.setRow bE #[.int .i64 0]);rw[ud];refine ahv (by simp) (E1 _) (uj (wO _ _) ?_);rintro e u' w' ⟨rfl,rfl,rfl⟩;exact⟨_,CS GL (sK hE),hR⟩
  . exact qv _ _ (xU w2 hE n) rfl hR
  . exact qv _ _ (wW w2 hE s) rfl hR
def C8(s:ar):List (List Int):=(List.range s.words.length).flatMap λd=>oV s d []
theorem Dp{s:ar}(h:0<s.words.length):ec s []=true:=by simp[ec,eb,iS,h]
def gv(out:List Int):Nat->List Word->List Word
 |_,[]=>[]
 |i,w::l=>if out.contains (i:Int)then gv out (i+1) l else w::gv out (i+1) l
theorem wk(out:List Int):∀(a b:List Word)(k:Nat),gv out k (a++b)=gv out k a++gv out (k+a.length) b
 |[],b,k=>by simp[gv]
 |x::a,b,k=>by
  have ih:=wk out a b (k+1)
  have e:k+1+a.length=k+(x::a).length:=by simp;omega
  rw[e]at ih;show(if out.contains (k:Int)then gv out (k+1) (a++b)else x::gv out (k+1) (a++b))=(if out.contains (k:Int)then gv out (k+1) a else x::gv out (k+1) a)++_;rw[ih]
  split<;>rfl
theorem B8(out:List Int){l:List Word}{i:Nat}(h:i<l.length):gv out 0 (l.take (i+1))=gv out 0 (l.take i)++if out.contains (i:Int)then[]else[l[i]]:=by
 rw[afd h,wk,afJ,af6,Nat.min_eq_left (by omega)]
 rfl
theorem lS{out:List Int}:∀{l:List Word}{k:Nat}{w:Word},w∈gv out k l->w∈l
 |[],_,_,h=>by cases h
 |x::l,k,w,h=>by
  unfold gv at h;split at h
  .exact afk _ (lS h)
  .rcases afU.1 h with h|h
   .rw[h];simp
   .exact afk _ (lS h)
theorem nZ(out:List Int):∀(l:List Word)(k:Nat),(gv out k l).length<=l.length
 |[],_=>afg _
 |x::l,k=>by
  have:=nZ out l (k+1);unfold gv
  split<;>simp<;>omega
theorem wc{out:List Int}:∀{l:List Word}{k:Nat},gv out k l=[]->∀i,i<l.length->((k+i:Nat):Int)∈out
 |[],_,_,i,hi=>by simp at hi
 |x::l,k,h,i,hi=>by
  unfold gv at h;split at h
  case isFalse=>cases h
  rename_i hc
  match i with
  |0=>simpa using hc
  |i+1=>
   have:=wc h i (by simpa using hi);rw[show k+(i+1)=k+1+i by omega];exact this
theorem count_le:∀(n:Nat)(out:List Int),(∀i,i<n->(i:Int)∈out)->n<=out.length
 |0,_,_=>afK _
 |n+1,out,h=>by
  have hn:=h n (by omega)
  have:=count_le n (out.erase (n:Int)) λi hi=>(ahE (by omega)).2 (h i (by omega))
  rw[ahj hn]at this;have:0<out.length:=ahx hn;omega
def vD(s:ar)(out:List Int):ar:={ s with words:=gv out 0 s.words }
theorem GV{s:ar}{l:List Int}(ho:ec s l=true):1<=(vD s l).words.length:=by
 have h1:=zM ho;rcases ah7 (vD s l).words.length with h|h
 .have h0:gv l 0 s.words=[]:=afR h
  have:=count_le s.words.length l λi hi=>by
   have:=wc h0 i hi;simpa using this
  omega
 .exact h
theorem zv{s:ar}(hs:aU s=true){l:List Int}(ho:ec s l=true):aU (vD s l)=true:=by
 have hn:=GV ho;have hl:=nZ l s.words 0;unfold aU mU at hs⊢;simp only[afa,afT]at hs⊢;obtain⟨⟨⟨⟨h1,h2⟩,h3⟩,h4⟩,⟨⟨⟨⟨⟨⟨e1,e2⟩,e3⟩,e4⟩,e5⟩,e6⟩,e7⟩⟩:=hs;refine⟨⟨⟨⟨h1,h2⟩,?_⟩,h4⟩,⟨⟨⟨⟨⟨⟨e1,e2⟩,e3⟩,e4⟩,?_⟩,e6⟩,e7⟩⟩
 .unfold bH at h3⊢;simp only[afa,aff]at h3⊢;have:(vD s l).words.length<=s.words.length:=hl;omega
 .rw[agb]at e5⊢;intro w hw;exact e5 w (lS hw)
end Go.Proofs.Tryz
namespace Go.Proofs.Tryz
open Go Go.AL Go.RowKit Go.Proofs Go.Proofs.Tram
variable{GI:World->Prop}
theorem kg{Pr:Nat->Nat->Prop}{al:Nat->Option Nat}{w:World}{l:List UInt8}{c:Value}(h:RV Pr al w (.str l) c):c=.string ⟨l.toArray⟩:=by
 cases h with
 |data _ _ h=>cases h;rfl
def strs(ls:List (List UInt8)):AV:=.slice .view (ls.map .str)
theorem Nj(lI:∀w,GI w->∃m,w.cell? ⟨1,0,none⟩=some (.int .i64 m))(s:List UInt8)(c:UInt8)(hs:s.length<4294967281):AC prog GI 164 [.str s,.str [c]] (.ret (strs (fu c s))):=by
 intro w old dH hG hl hr
 obtain⟨v1,v2,rfl⟩:∃v1 v2,dH=#[v1,v2]:=by
  have h2:dH.size=2:=hl.symm;refine⟨dH[0],dH[1],?_⟩;apply agp
  .simp[h2]
  .intro i h h'
   match i,h' with
   |0,_=>rfl
   |1,_=>rfl
 have e1:=kg (hr 0 (by simp) (by simp));have e2:=kg (hr 1 (by simp) (by simp));simp only[List.getElem_toArray,List.getElem_cons_zero,List.getElem_cons_succ]at e1 e2;subst e1 e2;obtain⟨m,hm⟩:=lI w hG;refine(Tryz.strings_Split ⟨s.toArray⟩ ⟨[c].toArray⟩ m w hs hm (afg _)).mono ?_;rintro e w' ⟨rfl,rfl⟩;have uK:Lib.countB ⟨s.toArray⟩ ⟨[c].toArray⟩=s.count c:=Lib.count_one c s;have vF:=Lib.splitB_data ⟨[c].toArray⟩ 0 (s.count c) ⟨s.toArray⟩;have vF:(Lib.splitB ⟨[c].toArray⟩ 0 (s.count c) ⟨s.toArray⟩).map (·.data.toList)=fu c s:=vF.trans (qE c s);have fX:=Lib.splitB_all ⟨[c].toArray⟩ (afg _) 0 (s.count c) ⟨s.toArray⟩ uK;rw[uK];generalize Lib.splitB ⟨[c].toArray⟩ 0 (s.count c) ⟨s.toArray⟩=ps at vF fX;rw[<-fX]
 have HW:ps.length=((fu c s).map AV.str).length:=by rw[<-vF];simp
 refine⟨(aga _ w).alloc (afg _) _,λb=>if b=w.heap.size then ps.length else 0,λb hb=>?_,_,rfl,.data _ _ ?_,trivial⟩
 .show(if b=w.heap.size then ps.length else 0)=0;rw[World.size_alloc]at hb;rw[if_neg (by omega)]
 .unfold strs;rw[HW];refine IZ (es:=(fu c s).map AV.str) (size:=1) (afO w _) (by simp;rw[<-vF];simp) (λe he=>?_) (λk hk=>.inr ⟨afg _,?_⟩) (λi h j hj=>?_)
  .obtain⟨x,_,rfl⟩:=afp.1 he;exact⟨rfl,λc hc=>by simp only[AV.cells,afs]at hc;subst hc;rfl⟩
  .show k<(if w.heap.size=w.heap.size then((fu c s).map AV.str).length else 0);rw[if_pos rfl,<-HW];simpa using hk
  .have hi:i<ps.length:=by rw[HW];exact h
   have hx:((fu c s).map AV.str)[i]=.str ps[i].data.toList:=by simp[<-vF]
   have wu:j=0:=by
    have:(((fu c s).map AV.str)[i]).cells.length=1:=by rw[hx];rfl
    omega
   subst wu
   have hc:(((fu c s).map AV.str)[i]).cells[0]=.str ps[i].data.toList:=by simp only[hx];rfl
   rw[hc]
   have:((ps.map Value.string).toArray.getD (i*1+0) undef)=.string ps[i]:=by simp[hi]
   rw[this];exact .str _
theorem Mm{n:Nat}{dH:Array Value}(hl:n=dH.size)(h:n=1):∃v,dH=#[v]:=by
 refine⟨dH[0]'(by omega),?_⟩;apply agp
 .simp;omega
 .intro i hi h'
  match i,h' with
  |0,_=>rfl
theorem Md{n:Nat}{dH:Array Value}(hl:n=dH.size)(h:n=2):∃v1 v2,dH=#[v1,v2]:=by
 refine⟨dH[0]'(by omega),dH[1]'(by omega),?_⟩;apply agp
 .simp;omega
 .intro i hi h'
  match i,h' with
  |0,_=>rfl
  |1,_=>rfl
def zr:Nat->Nat->List UInt8
 |0,_=>[]
 |f+1,u=>if u<10 then[UInt8.ofNat (48+u)]else zr f (u/10)++[UInt8.ofNat (48+u % 10)]
theorem zu:∀(f u:Nat),0<f->u<10^f->Lib.decDigits u=zr f u
 |0,_,h,_=>by omega
 |f+1,u,_,h=>by
  rw[Lib.decDigits,zr];split
  .rfl
  .rename_i l3
   cases f with
   |zero=>simp at h;omega
   |succ f=>rw[zu (f+1) (u/10) (by omega) (by rw[Nat.pow_succ]at h;exact ahF (by rw[ag6];exact h))]
theorem MZ(ls:List (List UInt8))(sep:List UInt8)(hn:ls.length<=100000)(hlen:(Lib.join ls sep).length<=140737488355328):AC prog GI 199 [strs ls,.str sep] (.ret (.str (Lib.join ls sep))):=by
 intro w old dH hG hl hr;obtain⟨v1,v2,rfl⟩:=Md hl rfl;have e1:=(hr 0 (by simp) (by simp)).j_ rfl;have e2:=kg (hr 1 (by simp) (by simp));simp only[List.getElem_toArray,List.getElem_cons_zero,List.getElem_cons_succ]at e1 e2;subst e2;unfold strs at e1;generalize sk:ls.map AV.str=es at e1
 have hle:es.length=ls.length:=by rw[<-sk];simp
 have fin:∀{w':World}{l:List UInt8},Below w.heap.size w w'->l=Lib.join ls sep->AL.Ends prog old w (.ret (.str (Lib.join ls sep))) (.returned (.string ⟨l.toArray⟩)) w':=by
  rintro w' l hb rfl;exact⟨hb,λ_=>0,λ_ _=>rfl,_,rfl,.data _ _ (.str _),trivial⟩
 have emp:∀(a:Option Addr)(c:Nat),ls=[]->Calls prog 199 #[.slice a 0 c,.string ⟨sep.toArray⟩] w (AL.Ends prog old w (.ret (.str (Lib.join ls sep)))):=by
  rintro a c rfl;refine(Tryz.strings_Join_none a c ⟨sep.toArray⟩ w).mono ?_;rintro e w' ⟨rfl,rfl⟩;exact fin (l:=[]) (aga _ _) rfl
 cases e1 with
 |qw=>exact emp none 0 (afR (by rw[<-hle];rfl))
 |sF _ a0=>exact emp (some a0) 0 (afR (by rw[<-hle];rfl))
 |slice _ _ b off cap size cs iV wv bL h1 hc kh=>
  by_cases h0:ls=[]
  .have pU:es.length=0:=by rw[hle,h0];rfl
   rw[pU];exact emp _ _ h0
  .have jb:0<ls.length:=afP.2 h0
   have jy:∀j (h:j<es.length),es[j]=.str (ls[j]'(by omega)):=λj h=>by simp[<-sk]
   have uI:size=1:=by rw[<-bL 0 (by omega),jy];rfl
   subst uI
   have gG:∀j (h:j<ls.length),w.cell? ⟨b,off+j,none⟩=some (.string ⟨ls[j].toArray⟩):=λj h=>by
    rw[(hc j (by omega)).2]
    have hz:0<(es[j]'(by omega)).cells.length:=by rw[bL j (by omega)];omega
    have h2:=kh j (by omega) 0 hz
    have h3:((es[j]'(by omega)).cells[0]'hz)=.str ls[j]:=by simp only[jy j (by omega)];rfl
    rw[h3]at h2;have e:=kg (RV.data (al:=cd) _ _ h2);simp only[agf,Nat.add_zero]at e;rw[e]
   have hb:b<w.heap.size:=ahZ _ _ (gG 0 jb)
   have JK:(ls.map λl=>(⟨l.toArray⟩:ByteArray)).map (·.data.toList)=ls:=by rw[af1];simp[Function.comp_def]
   have J6:=Tryz.strings_Join b off cap (ls.map λl=>(⟨l.toArray⟩:ByteArray)) ⟨sep.toArray⟩ w (λj x hx=>by
    simp only[afG,afX]at hx;obtain⟨l,S_,rfl⟩:=hx;obtain⟨hj,rfl⟩:=af0.1 S_
    exact gG j hj) hb (by simp;omega) (by simp;omega) (by rw[JK];exact hlen)
   rw[JK,afi]at J6;rw[hle];refine J6.mono ?_;rintro e w' ⟨rfl,hb⟩;exact fin hb rfl
theorem Gv(hG:au GI)(s:List UInt8):AC prog GI 205 [.bool true,.str s] (.ret (.d_ [])):=by
 refine bP hG func205 ntmps205 c205 ?_;simp[c205,bO,bj,aD,bf,aL,ev,aT.S,aT.H,bu,cV,av,aY,AL.start,AV.aI,dI,post,cw,cH,cI,AV.out,AV.bU]
theorem wrap32{n:Int}(h: -2147483648<=n/\n<2147483648):IntKind.i32.wrap n=n:=by
 have key:∀m:Int,m=n % 4294967296->(if decide (m>=2147483648)=true then m-4294967296 else m)=n:=by
  intro m hm;split
  .rename_i hd;have:=agE hd;omega
  .rename_i hd
   have Zd:¬m>=2147483648:=λhh=>hd (ago hh)
   omega
 exact key _ rfl
def cz(w:List UInt8):Int:=w.foldl (λn c=>10*n+((c.toNat:Int)-48)) 0
def digit(c:UInt8):Prop:=48<=c.toNat/\c.toNat<=57
theorem tW(w:List UInt8)(c:UInt8):cz (w++[c])=10*cz w+((c.toNat:Int)-48):=by simp[cz,afy]
theorem nK:∀(w:List UInt8),(∀c∈w,digit c)->w.length<=3->0<=cz w/\cz w<1000
 |[],_,_=>by simp[cz]
 |[a],h,_=>by have:=h a (by simp);unfold digit at this;simp[cz];omega
 |[a,b],h,_=>by have h1:=h a (by simp);have h2:=h b (by simp);unfold digit at h1 h2;simp[cz];omega
 |[a,b,c],h,_=>by have h1:=h a (by simp);have h2:=h b (by simp);have h3:=h c (by simp);unfold digit at h1 h2 h3;simp[cz];omega
 |_::_::_::_::_,_,h=>by simp at h
def oK(cc:Nat->Nat->Prop)(w:World)(k:Nat->Option Obj):Old:={ Old.plain cc w with bI:=k }
def pz(l:List Int):AV:=.slice (if l.isEmpty then .nil else .own 3) (ints l)
def fI(ws:List (List UInt8))(j:Nat)(S:aF)(_:aK):Prop:=
 S 3=pz ((ws.take j).map cz)/\S 9=strs ws/\S 10=.int .i64 ws.length/\S 11=.int .i64 (j:Nat)
noncomputable def eI:af:=af.qb c208.qb.qb.qa.qb.qb
noncomputable def f_:af:=af.qb eI.qb.qb.qa
noncomputable def ky:af:=af.qb f_.qb.qb.qa.qb.qb
theorem Mv (hG:au GI) {ws:List (List UInt8)} (hlen:ws.length≤100000) (hd:∀ w∈ws,w≠[]∧w.length≤3∧∀ c∈w,digit c) (hI:∀ w∈ws,AC prog GI 162 [.int .i64 (cz w)] (.ret (.str w))) :
  AC prog GI 208 [strs ws] (.ret (.slice (if ws.isEmpty then .nil else .view) (ints (ws.map cz)))):=by
 refine AC.gY func208 rfl ntmps208 (by simp) λcc w=>?_
 refine dw hG c208.qa (λS' H'=>S' 0=strs ws) ?_ ?_
 .simp[c208,af.qa,bO,bj,aD,bf,aL,ev,aT.S,aT.H,av,aY,AL.start,AV.aI,strs,bu,aP]
 rintro S1 H1 s0;refine dw hG c208.qb.qa (λS' H'=>S' 0=strs ws/\S' 3=pz []) ?_ ?_
 .simp[c208,af.qa,af.qb,bO,bj,aD,bf,aL,ev,aT.S,aT.H,av,aY,s0,bu,aP,pz,ints]
 rintro S2 H2 ⟨s0,s3⟩;show SW prog GI 55 none (.seq (.seq _ (.block 0 (.loop _))) (.seq _ .ret)) _ _ _ _;refine SW.seq (dw hG c208.qb.qb.qa.qa (fI ws 0) ?_ ?_)
 .simp[c208,af.qa,af.qb,bO,bj,aD,bf,aL,ev,aT.S,aT.H,av,aY,s0,s3,fI,strs,AV.aI,aP]
 intro S3 H3 hF;refine SW.block (SW.loop (λo S' H'=>∃k j,o=oK cc w k/\j<=ws.length/\fI ws j S' H') (λS' _=>match S' 11 with|.int _ j=>ws.length-j.toNat|_=>0) ⟨_,0,rfl,afK _,hF⟩ ?_);rintro o S4 H4 ⟨kk,j,rfl,hj,hF⟩;have m11:S4 11=.int .i64 (j:Nat):=hF.2.2.2
 have ib:∀k d,¬(oK cc w k).bx d:=λ_ _ h=>h
 show SW prog GI 55 none (.seq _ (.seq (.cond _ _ _) (.seq (.block 1 (.seq _ (.seq _ (.seq (.seq _ (.block 2 (.loop _))) (.seq _ _))))) _))) _ _ _ _;refine dw hG eI.qa (λS' H'=>S' 12=.bool (decide (j<ws.length))/\fI ws j S' H') ?_ ?_
 .obtain⟨s3,s9,bw,bn⟩:=hF;simp[c208,eI,af.qa,af.qb,bO,bj,aD,bf,aL,aP,ev,aT.S,aT.H,av,aY,fI,s3,s9,bw,bn,dI]
 rintro S5 H5 ⟨bJ,hF⟩
 by_cases aw:j<ws.length
 case neg=>
  refine SW.seq (SW.cond rfl false (by show S5 12=_;rw[bJ];simp[aw]) (SW.exit ?_))
  have lj:j=ws.length:=by omega
  subst lj;obtain⟨s3,s9,bw,bn⟩:=hF;rw[afS]at s3;show SW prog GI 55 none (.seq _ .ret) _ _ _ _;refine dw hG c208.qb.qb.qb.qa (λS' H'=>S' 2=.slice (if ws.isEmpty then .nil else .view) (ints (ws.map cz))) ?_ ?_
  .cases ws<;>simp[c208,af.qa,af.qb,bO,bj,aD,bf,aL,ev,aT.S,aT.H,av,aY,s3,pz,AV.aI,bu,aP]
  intro S7 H7 s2;refine SW.ret ⟨eD.plain rfl,rfl,_,?_,rfl⟩;show cw prog 55 [.tmp 2] S7 H7=_;simp[cw,cH,cI,s2,AV.bU,AV.out]
 case pos=>
  refine SW.seq (SW.cond rfl true (by show S5 12=_;rw[bJ];simp[aw]) (SW.skip ?_));show SW prog GI 55 none (.seq (.block 1 (.seq _ (.seq _ (.seq (.seq _ (.block 2 (.loop _))) (.seq _ _))))) _) _ _ _ _;have CE:ws[j]∈ws:=ae_ aw
  obtain⟨wd,np⟩:∃wd,ws[j]=wd:=⟨_,rfl⟩
  have QI:=hd _ CE;have Fy:=hI _ CE;rw[np]at QI Fy;obtain⟨dO,HB,wm⟩:=QI;refine SW.seq (SW.block (dw hG f_.qa (λS' H'=>S' 5=.str wd/\fI ws j S' H') ?_ ?_))
  .obtain⟨s3,s9,bw,bn⟩:=hF;simp[c208,eI,f_,af.qa,af.qb,bO,bj,aD,bf,aL,aP,ev,aT.S,aT.H,av,aY,fI,s3,s9,bw,bn,strs,aw,np,ck,AV.cells,AV.aI,bu]
  rintro S6 H6 ⟨s5,hF⟩;refine dw hG f_.qb.qa (λS' H'=>S' 6=.int .i64 0/\S' 5=.str wd/\fI ws j S' H') ?_ ?_
  .obtain⟨s3,s9,bw,bn⟩:=hF;simp[c208,eI,f_,af.qa,af.qb,bO,bj,aD,bf,aL,aP,ev,aT.S,aT.H,av,aY,fI,s3,s5,s9,bw,bn,AV.aI,bu]
  rintro S7 H7 ⟨s6,s5,hF⟩
  obtain⟨sb,kj⟩:∃sb:ByteArray,sb=⟨wd.toArray⟩:=⟨_,rfl⟩
  refine SW.seq (SW.seq (SW.mid hG (p:=1) (oh:={ dst:=some 16,op := .range 9 (.tmp 15),type:=0,pos := "text.go:133",after:=_,guard:=none }) (kY:=[_]) (lJ:=[]) (l2:=[]) rfl rfl rfl rfl (by kernel_rfl) rfl (ib _) (lM:=(f_.qb.qb.qa.qa.dl).take 1) (kP:=[]) (by kernel_rfl) rfl (by kernel_rfl) rfl
   (K1:=λS' H'=>S' 15=.str wd/\S' 6=.int .i64 0/\S' 5=.str wd/\fI ws j S' H')
   (K2:=λo S' H'=>∃k b,o=oK cc w k/\k b=some (.stringIter sb 0)/\S' 16=.val (.pointer (some ⟨b,0,none⟩))/\S' 6=.int .i64 0/\S' 5=.str wd/\fI ws j S' H')
   (K3:=λo S' H'=>∃k b,o=oK cc w k/\k b=some (.stringIter sb 0)/\S' 16=.val (.pointer (some ⟨b,0,none⟩))/\S' 6=.int .i64 0/\S' 5=.str wd/\fI ws j S' H') ?_ ?_ ?_ ?_))
  .obtain⟨s3,s9,bw,bn⟩:=hF;simp[c208,eI,f_,af.qa,af.qb,af.dl,bj,aD,bf,aL,ev,aT.S,aT.H,av,aY,fI,s3,s5,s6,s9,bw,bn,AV.aI]
  .rintro w0 g S8 H8 a w8 ho R ⟨fq,s6,s5,s3,s9,bw,bn⟩;have t15:=R.slot 15 (by decide) (λh=>h);rw[fq]at t15
   have t15:a.eval (.tmp 15)=.string sb:=by rw[kj];exact kg t15
   have mJ:prog.underlying 9=some .string:=by kernel_rfl
   have R2:=R.kA (.stringIter sb 0);refine⟨_,_,_,av S8 16 (.val (.pointer (some ⟨w8.heap.size,0,none⟩))),H8,.inl (yE rfl mJ t15),R2.put 16 _ _ (by decide) (.data _ _ (.val _ rfl)) trivial,av g.old.bI w8.heap.size (some (.stringIter sb 0)),w8.heap.size,?_,bm _ _ _,by simp[av],by simp[av,s6],by simp[av,s5],by simp[av,s3],by simp[av,s9],by simp[av,bw],by simp[av,bn]⟩;show({ g.old with bI:=av g.old.bI w8.heap.size _ }:Old)=_;rw[ho];rfl
  .rintro o S8 H8 ⟨k,b,rfl,h⟩;exact⟨ib _,k,b,rfl,h⟩
  .rintro o S8 H8 ⟨k,b,rfl,tf,dR,s6,s5,hF⟩
   refine SW.block (SW.K0 (λo S' H'=>∃k b pos,o=oK cc w k/\k b=some (.stringIter sb pos)/\pos<=wd.length/\S' 16=.val (.pointer (some ⟨b,0,none⟩))/\S' 6=.int .i64 (cz (wd.take pos))/\S' 5=.str wd/\fI ws j S' H')
    (λo S' _=>match S' 16 with|.val (.pointer (some a))=>(match o.bI a.block with|some (.stringIter _ p)=>wd.length-p|_=>0)|_=>0) ⟨k,b,0,rfl,tf,afK _,dR,s6,s5,hF⟩ ?_)
   rintro o S9 H9 ⟨k,b,pos,rfl,tf,jb,dR,s6,s5,hF⟩;have m16:=dR
   have Fm:∀(S:aF)(k:Nat->Option Obj) p,S 16=.val (.pointer (some ⟨b,0,none⟩))->k b=some (.stringIter sb p)->(match S 16 with|.val (.pointer (some a))=>(match(oK cc w k).bI a.block with|some (.stringIter _ p)=>wd.length-p|_=>0)|_=>0)=wd.length-p:=by
    intro S k p h1 h2;rw[h1];show(match k b with|some (.stringIter _ p)=>wd.length-p|_=>0)=_;rw[h2]
   have bL:sb.size=wd.length:=by rw[kj];rfl
   show SW prog GI 55 none (.seq _ (.seq (.cond _ _ _) (.block 3 (.seq _ (.seq _ _))))) _ _ _ _
   by_cases hp:pos<wd.length
   case neg=>
    refine SW.seq (SW.mid hG (p:=0) (oh:={ dst:=some 17,op := .next (.tmp 16) true,type:=0,pos := "text.go:133",after := #[],guard:=none }) (kY:=[]) (lJ:=[_]) (l2:=[1]) rfl rfl rfl rfl (by kernel_rfl) rfl (ib _) (lM:=[]) (kP:=(ky.qa.dl).drop 1) rfl (by kernel_rfl) rfl (by kernel_rfl)
     (K1:=λS' H'=>S' 16=.val (.pointer (some ⟨b,0,none⟩))/\S' 6=.int .i64 (cz wd)/\S' 5=.str wd/\fI ws j S' H')
     (K2:=λo S' H'=>o=oK cc w k/\S' 17=.d_ [.bool false]/\S' 6=.int .i64 (cz wd)/\S' 5=.str wd/\fI ws j S' H')
     (K3:=λo S' H'=>o=oK cc w k/\S' 18=.bool false/\S' 6=.int .i64 (cz wd)/\S' 5=.str wd/\fI ws j S' H') ?_ ?_ ?_ ?_)
    .have:pos=wd.length:=by omega
     subst this;rw[afS]at s6;exact⟨dR,s6,s5,hF⟩
    .rintro w0 g my pD a DT ho R ⟨dR,s6,s5,s3,s9,bw,bn⟩;have t16:=R.slot 16 (by decide) (λh=>h);rw[dR]at t16;have t16:a.eval (.tmp 16)=.pointer (some ⟨b,0,none⟩):=t16.eU
     have hk:g.old.bI b=some (.stringIter sb pos):=by rw[ho];exact tf
     have hb:=(R.kept b _ hk).2.1;refine⟨_,_,_,av my 17 (.d_ [.bool false]),pD,.inl (sG rfl t16 hb (by omega)),R.put 17 _ _ (by decide) (.data _ _ (.d_ _ _ rfl λi h h'=>?_)) trivial,ho,bm _ _ _,by simp[av,s6],by simp[av,s5],by simp[av,s3],by simp[av,s9],by simp[av,bw],by simp[av,bn]⟩
     match i,h with
     |0,_=>exact .bool _
    .rintro o my pD ⟨rfl,iI,s6,s5,s3,s9,bw,bn⟩;refine⟨ib _,?_⟩;simp[c208,eI,f_,ky,af.qa,af.qb,af.dl,bj,aD,bf,aL,ev,aT.S,aT.H,av,aY,fI,s3,s5,s6,s9,bw,bn,iI,AV.aI]
    .rintro o my pD ⟨rfl,iM,s6,s5,hF⟩;refine SW.seq (SW.cond rfl false (by show my 18=_;rw[iM]) (SW.exit ?_));show SW prog GI 55 none (.seq _ _) _ _ _ _;have hs:=nK wd wm HB;refine yu hG f_.qb.qb.qb.qa (λd _=>ib _ d) (λS' H'=>S' 6=.int .i64 (cz wd)/\fI ws j S' H') ?_ ?_
     .obtain⟨s3,s9,bw,bn⟩:=hF;have tN:=Gv (GI:=GI) hG wd
      have e8:∀H,fz H (.int .i64 (cz wd))=.int .i64 (cz wd):=λH=>rfl
      have F3:(wd !=[])=true:=by simpa using dO
      have e9:∀H,fz H (.str wd)=.str wd:=λH=>rfl
      have ij:∀H,fz H (.bool true)=.bool true:=λH=>rfl
      simp[c208,eI,f_,af.qa,af.qb,af.dl,bO,bj,aD,bf,aL,aP,ev,aT.S,aT.H,av,aY,fI,s3,s5,s6,s9,bw,bn,AV.aI,dI,F3,e8];refine oc Fy ?_;simp[iH,av,AV.aI,s3,s5,s6,s9,bw,bn,dI,e9,ij];refine oc tN ?_;simp[iH,av,AV.aI,s3,s5,s6,s9,bw,bn]
     rintro WC UM ⟨s6,hF⟩
     have Ib:(ws.take (j+1)).map cz=(ws.take j).map cz++[cz wd]:=by rw[afd aw,afu,np];rfl
     have PS:((ws.take j).map cz).length<=100000:=by simp;omega
     refine SW.mono (Q:=λe o S' H'=>e=.normal/\o=oK cc w k/\S' 3=pz ((ws.take (j+1)).map cz)/\S' 9=strs ws/\S' 10=.int .i64 ws.length/\S' 11=.int .i64 (j:Nat)) ?_ (SW.nz hG cC (by kernel_rfl) (λd _=>ib _ d) (ac:=af.qb f_.qb.qb.qb) (by kernel_rfl) ?_)
     .rintro e o S' H' ⟨rfl,rfl,s3,s9,bw,bn⟩;show SW prog GI 55 none _ _ _ _ _;refine SW.nz hG cC (by kernel_rfl) (λd _=>ib _ d) (ac:=af.qb eI.qb.qb) (by kernel_rfl) ?_;have nk:IntKind.i64.wrap ((j:Int)+1)=j+1:=aN (by omega);simp[c208,eI,af.qa,af.qb,bO,bj,aD,bf,aL,ev,aT.S,aT.H,av,aY,s3,s9,bw,bn,dI,AV.aI,nk,mL.bO,thenS,fI];refine⟨⟨⟨_,rfl⟩,j+1,by omega,rfl,by omega⟩,?_⟩;rw[m11];show ws.length-(j+1)<ws.length-(j:Int).toNat;rw[Int.toNat_natCast];omega
     .unfold mL.bO;obtain⟨s3,s9,bw,bn⟩:=hF;rw[Ib];generalize(ws.take j).map cz=L at s3 PS⊢
      cases L with
      |nil=>simp[c208,eI,f_,af.qa,af.qb,af.dl,bO,bj,aD,bf,aL,ev,aT.S,aT.H,av,aY,s3,s6,s9,bw,bn,pz,ints,AV.aI,aM,AV.storable,AV.cells,AV.vw,AV.cm,bu]
      |cons x L=>
       have pB:L.length+1+1<1048576:=by simp at PS;omega
       simp[c208,eI,f_,af.qa,af.qb,af.dl,bO,bj,aD,bf,aL,ev,aT.S,aT.H,av,aY,s3,s6,s9,bw,bn,pz,ints,AV.aI,aM,AV.storable,AV.cells,AV.vw,AV.cm,bu,pB]
   case pos=>
    obtain⟨c,hc⟩:∃c,wd[pos]=c:=⟨_,rfl⟩
    have I':digit c:=wm c (hc▸ae_ hp);have FH:=I';unfold digit at FH
    have y5:sb[pos]'(by omega)=c:=by subst kj;rw[<-hc];rfl
    refine SW.seq (SW.mid hG (p:=0) (oh:={ dst:=some 17,op := .next (.tmp 16) true,type:=0,pos := "text.go:133",after := #[],guard:=none }) (kY:=[]) (lJ:=[_]) (l2:=[1]) rfl rfl rfl rfl (by kernel_rfl) rfl (ib _) (lM:=[]) (kP:=(ky.qa.dl).drop 1) rfl (by kernel_rfl) rfl (by kernel_rfl)
     (K1:=λS' H'=>S' 16=.val (.pointer (some ⟨b,0,none⟩))/\S' 6=.int .i64 (cz (wd.take pos))/\S' 5=.str wd/\fI ws j S' H')
     (K2:=λo S' H'=>o=oK cc w (av k b (some (.stringIter sb (pos+1))))/\S' 16=.val (.pointer (some ⟨b,0,none⟩))/\S' 17=.d_ [.bool true,.int .i64 pos,.int .i32 c.toNat]/\S' 6=.int .i64 (cz (wd.take pos))/\S' 5=.str wd/\fI ws j S' H')
     (K3:=λo S' H'=>o=oK cc w (av k b (some (.stringIter sb (pos+1))))/\S' 16=.val (.pointer (some ⟨b,0,none⟩))/\S' 18=.bool true/\S' 17=.d_ [.bool true,.int .i64 pos,.int .i32 c.toNat]/\S' 6=.int .i64 (cz (wd.take pos))/\S' 5=.str wd/\fI ws j S' H') ⟨dR,s6,s5,hF⟩ ?_ ?_ ?_)
    .rintro w0 g my pD a DT ho R ⟨dR,s6,s5,s3,s9,bw,bn⟩;have t16:=R.slot 16 (by decide) (λh=>h);rw[dR]at t16;have t16:a.eval (.tmp 16)=.pointer (some ⟨b,0,none⟩):=t16.eU
     have hk:g.old.bI b=some (.stringIter sb pos):=by rw[ho];exact tf
     have hb:=(R.kept b _ hk).2.1;refine⟨_,_,_,av my 17 (.d_ [.bool true,.int .i64 pos,.int .i32 c.toNat]),pD,.inl (KU rfl t16 hb (by omega) (by rw[y5];omega)),(R.m_ hk _).put 17 _ _ (by decide) (.data _ _ (.d_ _ _ rfl λi h h'=>?_)) trivial,?_,by simp[av,dR],bm _ _ _,by simp[av,s6],by simp[av,s5],by simp[av,s3],by simp[av,s9],by simp[av,bw],by simp[av,bn]⟩
     .match i,h with
      |0,_=>exact .bool _
      |1,_=>exact .int _ _
      |2,_=>
       show RD _ _ _ (Value.int .i32 (sb[pos]'(by omega)).toNat);rw[y5];exact .int _ _
     .show({ g.old with bI:=av g.old.bI b _ }:Old)=_;rw[ho];rfl
    .rintro o my pD ⟨rfl,dR,iI,s6,s5,s3,s9,bw,bn⟩;refine⟨ib _,?_⟩;simp[c208,eI,f_,ky,af.qa,af.qb,af.dl,bj,aD,bf,aL,ev,aT.S,aT.H,av,aY,fI,s3,s5,s6,s9,bw,bn,dR,iI,AV.aI]
    .rintro o my pD ⟨rfl,dR,iM,iI,s6,s5,hF⟩;refine SW.seq (SW.cond rfl true (by show my 18=_;rw[iM]) (SW.skip ?_));show SW prog GI 55 none (.block 3 (.seq _ (.seq _ _))) _ _ _ _
     have ly:wd.take (pos+1)=wd.take pos++[c]:=by rw[afd hp,hc]
     have SK:=nK (wd.take pos) (λx hx=>wm x (afV hx)) (by simp;omega);refine SW.block (SW.mono (Q:=λe o S' H'=>e=.normal/\o=oK cc w (av k b (some (.stringIter sb (pos+1))))/\S' 16=.val (.pointer (some ⟨b,0,none⟩))/\S' 6=.int .i64 (cz (wd.take (pos+1)))/\S' 5=.str wd/\fI ws j S' H') ?_ (SW.nz hG cC (by kernel_rfl) (λd _=>ib _ d) (ac:=af.qb ky.qb.qb) (by kernel_rfl) ?_))
     .rintro e o S' H' ⟨rfl,rfl,dR,s6,s5,hF⟩;refine⟨⟨av k b (some (.stringIter sb (pos+1))),b,pos+1,rfl,bm _ _ _,hp,dR,s6,s5,hF⟩,?_⟩;show(match S' 16 with|.val (.pointer (some a))=>(match(oK cc w (av k b (some (.stringIter sb (pos+1))))).bI a.block with|some (.stringIter _ p)=>wd.length-p|_=>0)|_=>0)<_;rw[Fm S' _ (pos+1) dR (bm _ _ _),Fm S9 k pos m16 tf];omega
     .unfold mL.bO;obtain⟨s3,s9,bw,bn⟩:=hF;have tN:=Gv (GI:=GI) hG wd
      have g1:(48:Int)<=c.toNat:=by omega
      have g2:(c.toNat:Int)<=57:=by omega
      have g3:(wd.length:Int)<=3:=by omega
      have w1:IntKind.i64.wrap (10*cz (wd.take pos))=10*cz (wd.take pos):=aN (by omega);have w2:IntKind.i32.wrap ((c.toNat:Int)-48)=(c.toNat:Int)-48:=wrap32 (by omega);have w3:IntKind.i64.wrap ((c.toNat:Int)-48)=(c.toNat:Int)-48:=aN (by omega)
      have w4:IntKind.i64.wrap (10*cz (wd.take pos)+((c.toNat:Int)-48))=cz (wd.take (pos+1)):=by rw[ly,tW,aN (by omega)]
      have e9:∀H,fz H (.str wd)=.str wd:=λH=>rfl
      have ij:∀H,fz H (.bool true)=.bool true:=λH=>rfl
      simp[c208,eI,f_,ky,af.qa,af.qb,af.dl,bO,bj,aD,bf,aL,cV,ev,aT.S,aT.H,av,aY,fI,s3,s5,s6,s9,bw,bn,dR,iI,AV.aI,dI,g1,g2,g3,e9,ij,bu];refine oc tN ?_;simp[iH,av,AV.aI,s3,s5,s6,s9,bw,bn,dR,dI,w1,w2,w3,w4,bu]
theorem um(a:Act)(d:Nat)(c c':Value):(a.put (some d) c).put (some d) c'=a.put (some d) c':=by
 simp[Act.put]
theorem DS (hG:au GI) {w0:World} {n:Nat} {g:Gh} {S:aF} {H:aK} {a:Act} {w:World} {d i1 i4:Nat} {s:List UInt8} {z x:List AV} (dS:GI w0) (R:Rel prog w0 n dU g S H a w) (hd:d < n) (F_:i1 < n) (Ca:i4 < n) (Cq:d≠i4)
  (FD:S i1=.box i1 0) (Gl:H i1=some [.str s]) (xl:S i4=.box i4 0) (BU:H i4=some z) (hz:z.length=10) (hx:x.length=10) (AG:AC prog GI 172 [.str s] (.ret (.agg x))):
  Calls prog 171 #[a.tmps.getD i1 undef,a.tmps.getD i4 undef] w λe w2=>e=.returned (.tuple #[])/\∃(c:Value)(g':Gh)(S':aF)(H':aK),g'.old=g.old/\Rel prog w0 n dU g' S' H' (a.put (some d) c) w2/\(∀t,t≠d->S' t=S t)/\H'=av H i4 (some (x.map AV.aI)):=by
 have bL:=R.size;have v1:=R.slot i1 F_ id;rw[FD]at v1;have v4:=R.slot i4 Ca id;rw[xl]at v4
 obtain⟨b1,e1,NO⟩:∃b,a.tmps.getD i1 undef=.pointer (some ⟨b,0,none⟩)/\g.al i1=some b:=by
  generalize a.tmps.getD i1 undef=c at v1
  cases v1 with
  |data _ _ h=>cases h
  |box _ _ b h=>exact⟨b,rfl,h⟩
 obtain⟨b4,e4,X9⟩:∃b,a.tmps.getD i4 undef=.pointer (some ⟨b,0,none⟩)/\g.al i4=some b:=by
  generalize a.tmps.getD i4 undef=c at v4
  cases v4 with
  |data _ _ h=>cases h
  |box _ _ b h=>exact⟨b,rfl,h⟩
 obtain⟨cs,vs,ty,k0,k1,k2,k3,k4,k5,k6,k7,k8⟩:=R.box i1 b1 NO;rw[Gl]at k0;cases k0
 have h0:0<vs.size:=by rw[<-k5];exact Nat.zero_lt_one
 have hv:=kg (RV.data (al:=cd) _ _ (k6 0 (by simp) h0))
 have gG:w.cell? ⟨b1,0,none⟩=some (.string ⟨s.toArray⟩):=by simp[World.cell?,k2,h0,hv]
 have AN:=R.below
 have hle:g.base<=w.heap.size:=by rw[R.base];exact R.below.size
 rw[R.base]at AN;have fR:GI w:=hG w0 w dS AN;rw[e1,e4];refine ahm func171 rfl ?_;refine(ez (m:=0)).1 ?_;refine eY (λa=>a.tmps.size=4/\a.defers=[]/\a.tmps.getD 0 undef=.pointer (some ⟨b1,0,none⟩)/\a.tmps.getD 1 undef=.pointer (some ⟨b4,0,none⟩)) ⟨by simp[ntmps171],rfl,bK _ _ 0 (by simp),bK _ _ 1 (by simp)⟩ ?_;rintro aC ⟨zC,dC,t0,t1⟩
 have dW:∀(a:Act)(d t:Nat)(c:Value),t≠d->(a.put (some d) c).tmps.getD t undef=a.tmps.getD t undef:=λa d t c h=>by
  simp[Act.put,afb (afQ h)]
 have gP:∀(a:Act)(d:Nat)(c:Value),a.tmps.size=4->d<4->(a.put (some d) c).tmps.getD d undef=c:=λa d c h hd=>by
  simp[Act.put,h,hd]
 refine afq ?_;show wpOpsIn _ _ _ _ _ [0,1,2] aC w;refine aW rfl rfl (by rfl) (lP (t:=9) (d:=.string) (b:=b1) (off:=0) rfl t0 (by kernel_rfl) rfl gG) ?_;show wpOpsIn _ _ _ _ _ [1,2] (aC.put (some 2) (.string ⟨s.toArray⟩)) w
 refine eS rfl rfl (by rfl) (fU (k:=172) (args:=#[.string ⟨s.toArray⟩]) w rfl rfl ?_ (by kernel_rfl)) (AG w (fy g false) #[.string ⟨s.toArray⟩] fR rfl (λi h h'=>by
  match i,h with
  |0,_=>exact .data _ _ (.str s))) ?_
 .simp only[afw,afv,afB];show #[(aC.put (some 2) _).tmps.getD 2 undef]=_;rw[gP _ _ _ zC (by decide)]
 rintro e w2 ⟨ig,hi,pS,c,rfl,Ci,h_⟩;refine⟨c,rfl,?_⟩;obtain⟨g',Hg,nq,R2⟩:=R.call (some d) (λt ht=>by cases ht;exact⟨hd,id⟩) false ig pS Ci h_ (λh=>by cases h);obtain⟨i28,Ge,Fo⟩:=bh (P:=prog) (t:=29) (s:=10) (by kernel_rfl)
 let oS:Oper:={ dst:=none,op := .store 29 (.tmp i4) (.tmp d),type:=0,pos := "",after := #[],guard:=none }
 have jo:bo z 0 (x.map AV.aI)=x.map AV.aI:=by simp[bo,hz,hx]
 have kc:aL (AL.aY S (some d) (.agg x)) H (.store .any i28.size (.t i4) (.t d))=some { v:=cG,dm:=some d,hw:=some (i4,x.map AV.aI) }:=by
  simp[aL,AL.aY,ev,av,afQ Cq,xl,BU,HR.okB,AV.cells,AV.storable,AV.cg,Fo,hx,hz,bu,jo]
 obtain⟨c2,w3,g3,eh,G0,uh,R3⟩:=kS R2 (o:=oS) (x1:=.tmp i4) (x2:=.tmp d) (y1:=.t i4) (y2:=.t d) (hr:=.any) rfl rfl Ge (by simp[lQ,Ca]) (by simp[lQ,hd]) (λ_ _=>id) (λ_ _=>id) kc;show wpOpsIn _ _ _ _ _ [2] ((aC.put (some 2) (.string ⟨s.toArray⟩)).put (some 3) c) w2
 obtain⟨a3,Gq⟩:∃a3,(aC.put (some 2) (.string ⟨s.toArray⟩)).put (some 3) c=a3:=⟨_,rfl⟩
 rw[Gq]
 have z3:a3.tmps.size=4:=by rw[<-Gq,iU,iU];exact zC
 have d3:a3.defers=[]:=by rw[<-Gq];exact dC
 have Vl:a3.eval (.tmp 1)=.pointer (some ⟨b4,0,none⟩):=by
  rw[<-Gq,bt _ _ _ _ (by rw[iU];omega),if_neg (by decide),bt _ _ _ _ (by omega),if_neg (by decide)];exact t1
 have VH:a3.eval (.tmp 3)=c:=by rw[<-Gq,bt _ _ _ _ (by rw[iU];omega),if_pos rfl]
 have f4:(a.put (some d) c).eval (.tmp i4)=.pointer (some ⟨b4,0,none⟩):=by rw[bt _ _ _ _ (by omega),if_neg (afQ Cq)];exact e4
 have fd:(a.put (some d) c).eval (.tmp d)=c:=by rw[bt _ _ _ _ (by omega),if_pos rfl]
 have bb:∀o:Oper,o.op=.store 29 (.tmp 1) (.tmp 3)->(execOp a3.eval o).run prog w2=(execOp (a.put (some d) c).eval oS).run prog w2:=by
  intro o ho;unfold execOp;simp only[ho,Vl,VH,oS,f4,fd]
 have fin:∀ops,wpOpsIn (FR none) 0 prog ops (bodyPost prog f171 λe w2=>e=.returned (.tuple #[])/\∃(c:Value)(g':Gh)(S':aF)(H':aK),g'.old=g.old/\Rel prog w0 n dU g' S' H' (a.put (some d) c) w2/\(∀t,t≠d->S' t=S t)/\H'=av H i4 (some (x.map AV.aI))) [] a3 w3:=by
  intro ops;refine⟨d3,.tuple #[],?_,rfl,c,g3,_,_,by rw[uh,nq],R3,λt ht=>?_,rfl⟩
  .simp[results,results171]
  .simp[aT.S,AL.aY,av,ht,oS]
 rcases eh with eh|⟨eh,rfl⟩
 .refine aW rfl rfl (by rfl) ((bb _ rfl).trans eh) (fin _)
 .refine dk rfl rfl (by rfl) ((bb _ rfl).trans eh) (fin _)
theorem nS{P:Program}{w0:World}{n:Nat}{g:Gh}{S:aF}{H:aK}{a:Act}{w:World}(R:Rel P w0 n dU g S H a w)(b:Nat):Rel P w0 n dU { g with old:={ g.old with bI:=av g.old.bI b none } } S H a w:={
 size:=R.size
 defers:=R.defers
 facts:=R.facts
 slot:=R.slot
 own t ht hu:=(R.own t ht hu).bI rfl λb hb=>⟨rfl,rfl,hb⟩
 box i c hi:=by
  obtain⟨cs,vs,ty,h1,h2,h3,h4,h5,h6,h7,h8,h9⟩:=R.box i c hi;exact⟨cs,vs,ty,h1,h2,h3,h4,h5,h6,h7,λj hj fj=>(h8 j hj fj).bI rfl λb hb=>⟨rfl,rfl,hb⟩,h9⟩
 Cf:=R.Cf
 BB:=R.BB
 inj:=R.inj
 base:=R.base
 below:=R.below
 fresh:=R.fresh
 still:=R.still
 grown:=R.grown
 kept c o h:=by
  have hc:c≠b:=by rintro rfl;simp[av]at h
  exact R.kept c o (by simpa[av,hc]using h) }
theorem D7 (hG:au GI) {w0:World} {n:Nat} {g:Gh} {S:aF} {H:aK} {a:Act} {w:World} {d i1 i4:Nat} {s:List UInt8} {z x:List AV} (dS:GI w0) (R:Rel prog w0 n dU g S H a w) (hd:d < n) (F_:i1 < n) (Ca:i4 < n) (Cq:d≠i4)
  (FD:S i1=.box i1 0) (Gl:H i1=some [.str s]) (xl:S i4=.box i4 0) (BU:H i4=some z) (hz:z.length=10) (hx:x.length=10) (AG:AC prog GI 172 [.str s] (.ret (.agg x))):
  Calls prog 170 #[.func (.func 171) #[] #[a.tmps.getD i1 undef,a.tmps.getD i4 undef]] w λe w2=>e=.returned (.int .i64 0)/\∃(c:Value)(g':Gh)(S':aF)(H':aK),g'.old=g.old/\Rel prog w0 n dU g' S' H' (a.put (some d) c) w2/\(∀t,t≠d->S' t=S t)/\H'=av H i4 (some (x.map AV.aI)):=by
 have R1:=R.kA (.cells #[.int .i64 0] 34)
 have uv:g.old.bI w.heap.size=none:=by
  cases h:g.old.bI w.heap.size with
  |none=>rfl
  |some o=>
   have:=(afe.1 (R.kept _ o h).2.1).1;omega
 refine ny (by kernel_rfl) (DS hG dS R1 hd F_ Ca Cq FD Gl xl BU hz hx AG) ?_;rintro e w2 ⟨rfl,c,g',S',H',ho,R2,pv,ph⟩
 have hk:g'.old.bI w.heap.size=some (.cells #[.int .i64 0] 34):=by rw[ho];exact bm _ _ _
 have jf:=(R2.kept _ _ hk).2.1;have aw:=(afe.1 jf).1;refine⟨aw,⟨_,_,jf⟩,.inl ⟨_,rfl,rfl,c,_,S',H',?_,(nS R2 w.heap.size).mw ?_,pv,ph⟩⟩
 .show({ g'.old with bI:=av g'.old.bI w.heap.size none }:Old)=_;rw[ho]
  have:av (av g.old.bI w.heap.size (some (.cells #[.int .i64 0] 34))) w.heap.size none=g.old.bI:=by
   funext b
   by_cases hb:b=w.heap.size
   .subst hb;simp[av,uv]
   .simp[av,hb]
  show({ g.old with bI:=av (av g.old.bI w.heap.size (some (.cells #[.int .i64 0] 34))) w.heap.size none }:Old)=_;rw[this]
 .refine⟨rfl,rfl,rfl,by simp,λk ee=>?_⟩
  by_cases hb:k=w.heap.size
  .subst hb;rw[agq w2 _ _ _ _ _ jf,jf]
  .exact af4 w2 _ k _ hb
theorem NA (hG:au GI) {s:List UInt8} {x:List AV} (hs:s.length≤320) (hx:x.length=10) (AG:AC prog GI 172 [.str s] (.ret (.agg x))) (HM:AC prog GI 78 [.agg (x.map AV.cm)] (.ret (.bool true))) :
  AC prog GI 122 [.str s] (.ret (.d_ [.agg (x.map AV.cm),.int .i64 0])):=by
 refine AC.gY func122 rfl ntmps122 (by simp) λcc w=>?_
 refine dw hG c122.qa (λS' H'=>S' 1=.box 1 0/\S' 2=.box 2 0/\H' 1=some [.str s]/\∃z,H' 2=some z/\z.length=10) ?_ ?_
 .simp[c122,af.qa,bO,bj,aD,bf,aL,ev,aT.S,aT.H,av,aY,AL.start,AV.aI,AV.cells,AV.storable,cE,bu,aP]
 rintro S1 H1 ⟨s1,s2,h1,z2,h2,U1⟩;refine SW.seq (dw hG c122.qb.qa.qa (λS' H'=>S' 1=.box 1 0/\S' 2=.box 2 0/\H' 1=some [.str s]/\H' 2=some z2/\S' 8=.bool false) ?_ ?_)
 .have Vn:¬(320:Int)<s.length:=by omega
  simp[c122,af.qa,af.qb,bO,bj,aD,bf,aL,ev,aT.S,aT.H,av,aY,s1,s2,h1,h2,ck,HR.okB,AV.aI,dI,Vn,aP]
 rintro S2 H2 ⟨s1,s2,h1,h2,s8⟩;refine SW.cond rfl false (by show S2 8=_;rw[s8]) (SW.skip ?_);show SW prog GI 21 none (.seq _ (.seq (.seq _ (.seq _ (.cond _ _ _))) (.seq (.seq _ (.cond _ _ _)) (.seq _ .ret)))) _ _ _ _;refine dw hG c122.qb.qb.qa (λS' H'=>S' 1=.box 1 0/\S' 2=.box 2 0/\S' 4=.box 4 0/\H' 1=some [.str s]/\H' 2=some z2/\∃z,H' 4=some z/\z.length=10) ?_ ?_
 .simp[c122,af.qa,af.qb,bO,bj,aD,bf,av,cE,s1,s2,h1,h2,aP]
 rintro S3 H3 ⟨s1,s2,s4,h1,h2,z4,h4,M5⟩
 refine SW.seq (SW.seq (SW.hand hG (p:=0) (lm:=[0,1]) (l2:=[2]) (kY:=[]) (oh:=[_,_]) (lJ:=[_]) rfl rfl rfl rfl (by kernel_rfl) (λ_ h=>h) (lM:=[]) (kP:=(c122.qb.qb.qb.qa.qa.dl).drop 2) rfl (by kernel_rfl) rfl (by kernel_rfl)
  (K1:=λS' H'=>S' 1=.box 1 0/\S' 2=.box 2 0/\S' 4=.box 4 0/\H' 1=some [.str s]/\H' 2=some z2/\H' 4=some z4)
  (K2:=λo S' H'=>o=Old.plain cc w/\S' 2=.box 2 0/\S' 4=.box 4 0/\S' 11=.int .i64 0/\H' 2=some z2/\H' 4=some (x.map AV.aI))
  (K3:=λo S' H'=>o=Old.plain cc w/\S' 2=.box 2 0/\S' 4=.box 4 0/\S' 5=.int .i64 0/\H' 2=some z2/\H' 4=some (x.map AV.aI)) ⟨s1,s2,s4,h1,h2,h4⟩ ?_ ?_ ?_))
 .rintro w0 g S5 H5 a w5 m dS ho R ⟨s1,s2,s4,h1,h2,h4⟩;have bL:=R.size;refine aW rfl rfl (by rfl) (kB (fn:=.func 171) (c:=#[.tmp 1,.tmp 4]) rfl) ?_
  obtain⟨fv,jQ⟩:∃fv:Value,fv=.func (.func 171) #[] (#[Operand.tmp 1,.tmp 4].map a.eval):=⟨_,rfl⟩
  show wpOpsIn _ _ _ _ _ [1] (a.put (some 10) (.func (.func 171) #[] (#[Operand.tmp 1,.tmp 4].map a.eval))) w5;rw[<-jQ];have R1:=R.put 10 .bB fv (by decide) (.bB _) trivial
  obtain⟨a1,oI⟩:∃a1,a.put (some 10) fv=a1:=⟨_,rfl⟩
  rw[oI]at R1⊢
  have uc:fv=.func (.func 171) #[] #[a1.tmps.getD 1 undef,a1.tmps.getD 4 undef]:=by
   have e1:=bt a 10 1 fv (by omega);have e4:=bt a 10 4 fv (by omega);rw[if_neg (by decide),oI]at e1 e4;have A6:a1.tmps.getD 1 undef=a.eval (.tmp 1):=e1;have Ch:a1.tmps.getD 4 undef=a.eval (.tmp 4):=e4;rw[A6,Ch,jQ];simp only[afw,afv,afB]
  have ij:a1.eval (.tmp 10)=fv:=by rw[<-oI,bt _ _ _ _ (by omega),if_pos rfl]
  refine eS rfl rfl (by rfl) (fU (k:=170) (args:=#[.func (.func 171) #[] #[a1.tmps.getD 1 undef,a1.tmps.getD 4 undef]]) w5 rfl rfl ?_ (by kernel_rfl)) (D7 hG dS R1 (d:=11) (i1:=1) (i4:=4) (by decide) (by decide) (by decide) (by decide) (by simp[av,s1]) h1 (by simp[av,s4]) h4 M5 hx AG) ?_
  .simp only[afw,afv,afB,ij,<-uc]
  .rintro e w6 ⟨rfl,c,g',S',H',sE,R2,pv,ph⟩;refine⟨_,rfl,?_⟩;have R3:=R2.put 11 (.int .i64 0) (.int .i64 0) (by decide) (.data _ _ (.int _ _)) trivial;rw[um]at R3;refine⟨g',_,H',R3,sE.trans ho,?_,?_,bm _ _ _,?_,?_⟩
   .show av S' 11 _ 2=_;rw[cN _ _ (by decide),pv 2 (by decide)];simp[av,s2]
   .show av S' 11 _ 4=_;rw[cN _ _ (by decide),pv 4 (by decide)];simp[av,s4]
   .rw[ph,cN _ _ (by decide)];exact h2
   .rw[ph];exact bm _ _ _
 .rintro o S5 H5 ⟨rfl,s2,s4,bn,h2,h4⟩;refine⟨λ_ h=>h,?_⟩;simp[c122,af.qa,af.qb,af.dl,bj,aD,bf,aL,ev,aT.S,aT.H,av,aY,s2,s4,bn,h2,h4,AV.aI,bu]
 .rintro o S5 H5 ⟨rfl,s2,s4,s5,h2,h4⟩;refine dw hG c122.qb.qb.qb.qa.qb.qa (λS' H'=>S' 2=.box 2 0/\S' 4=.box 4 0/\S' 13=.bool false/\H' 2=some z2/\H' 4=some (x.map AV.aI)) ?_ ?_
  .simp[c122,af.qa,af.qb,bO,bj,aD,bf,aL,ev,aT.S,aT.H,av,aY,s2,s4,s5,h2,h4,AV.aI,dI,aP]
  rintro S6 H6 ⟨s2,s4,b0,h2,h4⟩;refine SW.cond rfl false (by show S6 13=_;rw[b0]) (SW.skip ?_);have wa:List.take 10 (x.map AV.aI)=x.map AV.aI:=afh (by simp;omega)
  have e7:∀(l:List AV) H,fz H (.agg (l.map AV.aI))=.agg (l.map AV.cm):=λl H=>by simp only[fz,iA,AV.vw,af1,kJ]
  refine SW.seq (dw hG c122.qb.qb.qb.qb.qa.qa (λS' H'=>S' 2=.box 2 0/\S' 4=.box 4 0/\S' 18=.bool false/\H' 2=some z2/\H' 4=some (x.map AV.aI)) ?_ ?_)
  .simp[c122,af.qa,af.qb,bO,bj,aD,bf,aL,ev,aT.S,aT.H,av,aY,s2,s4,h2,h4,ck,HR.okB,hx,fD,wa,e7,aP];refine oc HM ?_;simp[iH,av,s2,s4,h2,h4]
  rintro S7 H7 ⟨s2,s4,iM,h2,h4⟩;refine SW.cond rfl false (by show S7 18=_;rw[iM]) (SW.skip ?_);refine dw hG c122.qb.qb.qb.qb.qb.qa (λS' H'=>S' 2=.box 2 0/\S' 3=.int .i64 0/\H' 2=some (x.map AV.aI)) ?_ ?_
  .have LC:List.drop 10 z2=[]:=agx (by omega);simp[c122,af.qa,af.qb,bO,bj,aD,bf,aL,ev,aT.S,aT.H,av,aY,s2,s4,h2,h4,ck,HR.okB,hx,fD,wa,AV.cells,AV.storable,AV.cg,bo,bu,U1,LC,aP,AV.aI]
  rintro S8 H8 ⟨s2,s3,h2⟩;obtain⟨i28,Ge,Fo⟩:=bh (P:=prog) (t:=29) (s:=10) (by kernel_rfl);obtain⟨fs,eQ⟩:=bV (P:=prog) (t:=29) (by kernel_rfl);refine SW.ret ⟨eD.plain rfl,rfl,_,?_,rfl⟩;show cw prog 21 [.cell 2 29,.tmp 3] S8 H8=_;simp[cw,cH,cI,s2,s3,h2,Ge,eQ,Fo,ck,fg,hx,AV.out,fD,kJ,wa,AV.bU,AV.vw,AV.cm,af1]
end Go.Proofs.Tryz
namespace Go.Proofs.Tryz
open Go Go.AL Go.RowKit Go.Proofs Go.Proofs.Tram
attribute [local simp] dh eE dY dv dK dj di cQ cT dL cP ct fF fE aD aL ev aT.S aT.H bu av aY AL.start AV.cells AV.storable AV.cg bo cE dI ck HR.okB post cw cH cI AV.out AV.bU b_ df fz iA AV.vw du vI int cG aP cV db fQ iu fV eG da AV.aI AV.cm
variable{GI:World->Prop}
def iE(s:ar)(out:List Int)(es:List End)(st:Int):Int:=firstT (λn=>decide (s.wide<n)) (cJ s out es st)
theorem Du{s:ar}{out:List Int}{es:List End}{st:Int}:((cJ s out es st).all λn=>decide (n<=s.wide))=decide (iE s out es st<0):=by
 have h:=iY (p:=λn=>decide (s.wide<n)) (l:=cJ s out es st)
 have e:((cJ s out es st).all λn=>decide (n<=s.wide))=!((cJ s out es st).any λn=>decide (s.wide<n)):=by
  rw[afZ];simp
 rw[e,<-h];unfold iE
 by_cases hz:0<=firstT (λn=>decide (s.wide<n)) (cJ s out es st)
 .have:¬firstT (λn=>decide (s.wide<n)) (cJ s out es st)<0:=by omega
  simp[hz,this]
 .have:firstT (λn=>decide (s.wide<n)) (cJ s out es st)<0:=by omega
  simp[hz,this]
def sL(s:ar)(out:List Int)(es:List End)(st:Int):eZ:=if iE s out es st<0 then .ret (.d_ [])else .panic (.iface 242 (.agg [.int .i64 (iE s out es st)]))
theorem Mg(hG:au GI)(s:ar)(cK:aU s=true)(out:List Int)(ho:out.length<1000000)(es:List End)(he:es.length<100000)(g:Good s out es){st:Int}(h0:0<=st)(h1:st<=10):AC prog GI 191 [.ref (aO s),.ref [vI out,.slice .view (es.map aS)],.ref [.int .i64 st]] (sL s out es st):=by
 have Et:=od s out es st;refine bP hG func191 ntmps191 c191 ?_;refine az (λS H=>S 0=.ref (aO s)/\S 2=.ref [.int .i64 st]/\S 7=.slice .view (eC s out es es.length)/\S 8=.int .i64 es.length/\S 9=.int .i64 0) ?_ ?_
 .simp[aO,ae,bl];refine oc (Ng hG s cK out ho es he g) ?_;simp[rI]
 rintro S H ⟨s0,s2,s7,s8,s9⟩;simp[s0,s2,s7,s8,s9];refine bq 9 es.length (λi S H=>S 0=.ref (aO s)/\S 2=.ref [.int .i64 st]/\S 7=.slice .view (eC s out es es.length)/\S 8=.int .i64 es.length/\S 9=.int .i64 (i:Nat)/\∀j (hj:j<(cJ s out es st).length),j<i->decide (s.wide<(cJ s out es st)[j])=false) (λi S H h=>h.2.2.2.2.1) ⟨by simp[s0],by simp[s2],by simp[s7],by simp[s8],by simp[s9],λj _ hj=>absurd hj (ahX _)⟩ ?_;clear s0 s2 s7 s8 s9 S H;rintro i hi S H ⟨s0,s2,s7,s8,s9,hb⟩
 by_cases aw:i<es.length
 case neg=>
  have hn:iE s out es st<0:=by
   unfold iE;rw[ir λj hj=>hb j hj (by omega)];decide
  unfold sL;rw[if_pos hn];simp[s0,s2,s7,s8,s9,aw]
 have hw:IntKind.i64.wrap ((i:Int)+1)=i+1:=aN (by omega)
 have sZ:(eC s out es es.length)[i]?=some (.agg [.slice .view ((fm s out es i).map gA),.bool (gV s es i)]):=by
  unfold eC;rw[afG,List.getElem?_range aw];rfl
 have y9:(cJ s out es st)[i]'(by omega)=iO s out es st i:=by unfold cJ;simp
 refine az (λS H=>S 0=.ref (aO s)/\S 2=.ref [.int .i64 st]/\S 7=.slice .view (eC s out es es.length)/\S 8=.int .i64 es.length/\S 9=.int .i64 (i:Nat)/\S 10=.bool true) (by simp[s0,s2,s7,s8,s9,aw]) ?_;clear s0 s2 s7 s8 s9 S H;rintro S H ⟨s0,s2,s7,s8,s9,bw⟩;refine xJ (by simp[bw]) ?_;refine wF ?_;refine az (λS H=>S 0=.ref (aO s)/\S 2=.ref [.int .i64 st]/\S 7=.slice .view (eC s out es es.length)/\S 8=.int .i64 es.length/\S 9=.int .i64 (i:Nat)/\S 3=.int .i64 (i:Nat)/\S 4=.box 4 0/\H 4=some [.slice .view ((fm s out es i).map gA),.bool (gV s es i)]) (by simp[s0,s2,s7,s8,s9,aw,sZ]) ?_;clear s0 s2 s7 s8 s9 bw S H;rintro S H ⟨s0,s2,s7,s8,s9,s3,s4,e4⟩;have V_:=MK hG s cK (vM g aw) (td cK g i) (λx hx=>AQ g hx) (gV s es i) h0 h1
 have I4:s.wide<iO s out es st i->iE s out es st=i:=λh=>by
  unfold iE;exact kG (i:=i) (by omega) (by rw[y9];simpa using h) hb
 simp[s0,s2,s7,s8,s9,s3,s4,e4,aO,ae,bl];refine oc V_ ?_
 by_cases AM:s.wide<iO s out es st i
 .have yp:s.wide<fP s st ((fm s out es i).map (bc s)) (gV s es i):=AM;have hf:=I4 AM;unfold sL;rw[if_neg (by omega),hf];simp[s0,s2,s7,s8,s9,s3,s4,e4,aO,ae,bl,yp,Cn,bC]
 .have yp:¬s.wide<fP s st ((fm s out es i).map (bc s)) (gV s es i):=AM;simp[s0,s2,s7,s8,s9,s3,s4,e4,aO,ae,bl,yp,hw,aw];intro j hj lg
  by_cases e:j=i
  .subst e;rw[y9];omega
  .have:=hb j hj (by omega);simpa using this
theorem Fu(hG:au GI)(s:ar)(cK:aU s=true)(out:List Int)(ho:out.length<1000000)(es:List End)(he:es.length<100000)(g:Good s out es){st:Int}(h0:0<=st)(h1:st<=10):AC prog GI 149 [eH s,aJ out es,.int .i64 st] (.ret (.bool (eA s out es st))):=by
 have a:=Mg hG s cK out ho es he g h0 h1
 have e:eA s out es st=(decide ((es.length:Int)<=s.rows)&&decide (iE s out es st<0)):=by unfold eA;rw[Du]
 rw[e];refine bP hG func149 ntmps149 c149 ?_;refine az (λS H=>S 3=.box 3 0/\S 4=.box 4 0/\S 5=.box 5 0/\H 3=some (aO s)/\H 4=some [vI out,.slice .view (es.map aS)]/\H 5=some [.int .i64 st]) (by simp[eH,aO,ae,bl,aJ,aH]) ?_;rintro S H ⟨s3,s4,s5,e3,e4,e5⟩
 by_cases hr:(es.length:Int)<=s.rows
 case neg=>simp[s3,s4,s5,e3,e4,e5,aO,ae,bl,hr]
 unfold sL at a
 by_cases hw:iE s out es st<0
 .rw[if_pos hw]at a;have b:=Ga hG (k:=191) (by kernel_rfl) a (.inl ⟨_,rfl,rfl⟩);simp[s3,s4,s5,e3,e4,e5,aO,ae,bl,hr];refine⟨_,by kernel_rfl,b,λ_=>rfl,?_⟩;simp[hw]
 .rw[if_neg hw]at a;have b:=Ga hG (k:=191) (by kernel_rfl) a (.inr (.inl ⟨_,rfl,rfl⟩));simp[s3,s4,s5,e3,e4,e5,aO,ae,bl,hr];refine⟨_,by kernel_rfl,b,λ_=>rfl,?_⟩;simp[hw]
theorem rK{p:Int->Bool}:∀{n i:Nat},i<=n->(∀k:Nat,i<=k->k<n->p k=false)->jx p n=jx p i
 |0,i,h,_=>by rw[show i=0 by omega]
 |n+1,i,h,hp=>by
  by_cases e:i=n+1
  .rw[e]
  .rw[jx,hp n (by omega) (by omega)]
   exact rK (by omega) λk h1 h2=>hp k h1 (by omega)
theorem GF(hG:au GI)(s:ar)(cK:aU s=true)(out:List Int)(ho:out.length<1000000)(es:List End)(he:es.length<100000)(g:Good s out es):AC prog GI 83 [eH s,aJ out es] (.ret (.int .i64 (il s out es))):=by
 refine bP hG func83 ntmps83 c83 ?_;refine az (λS H=>S 2=.box 2 0/\S 3=.box 3 0/\H 2=some (aO s)/\H 3=some [vI out,.slice .view (es.map aS)]) (by simp[eH,aO,ae,bl,aJ,aH]) ?_;rintro S H ⟨s2,s3,e2,e3⟩;simp[s2,s3,e2,e3];refine wq 5 11 (λi S H=>i<=11/\S 2=.box 2 0/\S 3=.box 3 0/\H 2=some (aO s)/\H 3=some [vI out,.slice .view (es.map aS)]/\S 5=.int .i64 ((i:Nat)-1)/\∀k:Nat,i<=k->k<11->eA s out es k=false) (λi S H h=>h.2.2.2.2.2.1) ⟨by omega,by simp[s2],by simp[s3],by simp[e2],by simp[e3],by simp,λk h1 h2=>by omega⟩ ?_;clear s2 s3 e2 e3 S H;rintro i hi S H ⟨_,s2,s3,e2,e3,s5,hb⟩;have hm:=rK (p:=eA s out es) hi hb
 cases i with
 |zero=>
  have hm:il s out es= -1:=hm;simp[s2,s3,e2,e3,s5,hm]
 |succ m=>
  have hm:il s out es=if eA s out es m then(m:Int)else jx (eA s out es) m:=hm
  have jJ:S 5=.int .i64 (m:Nat):=by rw[s5];congr 1;omega
  have yW:IntKind.i64.wrap ((m:Int)-1)=m-1:=aN (by omega);simp[s2,s3,e2,e3,jJ,aO,ae,bl];refine oc (Fu hG s cK out ho es he g (by omega) (by omega)) ?_;cases hf:eA s out es m
  .simp[s2,s3,e2,e3,jJ,aO,ae,bl,yW];refine⟨by omega,λk h1 h2=>?_⟩
   by_cases e:k=m
   .subst e;exact hf
   .exact hb k (by omega) h2
  .rw[hf]at hm;simp at hm;simp[s2,s3,e2,e3,jJ,aO,ae,bl,hm]
end Go.Proofs.Tryz
namespace Go.AL
theorem nB{P:Program}{GI:World->Prop}{i k:Nat}{x y:af}{Q:ft->aF->aK->Prop}{S:aF}{H:aK}(K:aF->aK->Prop)(hx:bO P GI x (aP K) S H)(hy:∀S' H',K S' H'->Lh P GI i k y Q S' H'):Lh P GI i (k+1) (.seq x y) Q S H:=by
 refine NW K (dT x (λe S H h=>?_) hx) (λh=>dT x h) hy
 cases e<;>first|exact⟨rfl,h⟩|exact h.elim
theorem Rel.nS{P:Program}{w0:World}{n:Nat}{g:Gh}{S:aF}{H:aK}{a:Act}{w:World}(R:Rel P w0 n dU g S H a w)(b:Nat):Rel P w0 n dU { g with old:={ g.old with bI:=av g.old.bI b none } } S H a w:={
 size:=R.size
 defers:=R.defers
 facts:=R.facts
 slot:=R.slot
 own t ht hu:=(R.own t ht hu).bI rfl λb hb=>⟨rfl,rfl,hb⟩
 box i c hi:=by
  obtain⟨cs,vs,ty,h1,h2,h3,h4,h5,h6,h7,h8,h9⟩:=R.box i c hi;exact⟨cs,vs,ty,h1,h2,h3,h4,h5,h6,h7,λj hj fj=>(h8 j hj fj).bI rfl λb hb=>⟨rfl,rfl,hb⟩,h9⟩
 Cf:=R.Cf
 BB:=R.BB
 inj:=R.inj
 base:=R.base
 below:=R.below
 fresh:=R.fresh
 still:=R.still
 grown:=R.grown
 kept c o h:=by
  have hc:c≠b:=by rintro rfl;simp[av]at h
  exact R.kept c o (by simpa[av,hc]using h) }
section
variable{P:Program}{a:Act}{w:World}{m:Nat}{Q:Exit->Act->World->Prop}
theorem xL {ops:Array Oper} {i:Nat} {rest:List Nat} {o:Oper} (ho:ops[i]? = some o) (hw:Region.wanted o (yielded ops a.tmps)=true) (l7:wN o.op=true) {l f:Nat} {tmps:Array Value} {Jl bd:Code} {w':World}
  (hr:(execOp a.eval o).run P w=.ok (.round l f tmps Jl bd) w') {R:Ending->World->Prop} (hc:∀m,RoundIn (FR none) m P l f tmps Jl bd w' R) (hk:∀e yT,R e yT->∃v,e=.returned v/\wpOpsIn (FR none) m P ops Q rest (a.put o.dst v) yT):wpOpsIn (FR none) m P ops Q (i::rest) a w:=by
 simp only[wpOpsIn,ho];rw[if_pos hw];refine⟨λ_ _=>trivial,?_⟩;rw[ah6 _ _ _ (λc hc=>by rw[hc]at l7;cases l7),hr];refine⟨λh=>by simp[FR,Fence.wide]at h,(hc (m-1)).mono λe yT hh=>?_⟩;obtain⟨v,rfl,h⟩:=hk e yT hh;exact h
theorem DZ{o:Oper}{t:TypeId}{x:Operand}{b:Bool}(ho:o.op=.unOp .not t x)(hx:a.eval x=.bool b):(execOp a.eval o).run P w=.ok (.value (.bool !b)) w:=by
 unfold execOp;simp[ho,hx,Op.unary]
end
end Go.AL
namespace Go.AL
open Go.RowKit
section
variable{P:Program}{a:Act}{w:World}
theorem Bv {o:Oper} {x:Operand} {b:Nat} {s:ByteArray} {pos r p':Nat} (ho:o.op = .next x true) (hx:a.eval x = .pointer (some ⟨b,0,none⟩)) (hb:w.heap[b]? = some (.stringIter s pos)) (h:pos < s.size) (hr:(Utf8.decode s pos).1=r) (hp:pos+(Utf8.decode s pos).2=p') :
  (execOp a.eval o).run P w=.ok (.value (.tuple #[.bool true,.int .i64 pos,.int .i32 r])) (w.putObj b (.stringIter s p')):=by
 unfold execOp;simp only[ho,hx,Instr.next,getObj,setObj,afW,Sem.run,hb,Result.andThen,h,afH]
 generalize hd:Utf8.decode s pos=d at*
 obtain⟨d1,d2⟩:=d;simp only at hr hp;subst hr;subst hp;simp[goInt,Sem.run,World.putObj]
end
end Go.AL
namespace Go.Proofs.Tryz
open Go.AL
def jC(n:Int):List UInt8:=zr 20 n.toNat
def p_(w:List UInt8):Bool:=!w.isEmpty&&decide (w.length<=3)&&(w.all λc=>decide (48<=c.toNat)&&decide (c.toNat<=57))&&jC (cz w)==w
theorem AA{w:List UInt8}:p_ w=true↔w≠[]/\w.length<=3/\(∀c∈w,digit c)/\jC (cz w)=w:=by
 unfold p_ digit;simp[and_assoc]
end Go.Proofs.Tryz
namespace Go.Proofs.Tryz
open Go.AL
variable{s:ar}{x y:List End}
def dF(s:ar):List End->List End->Bool:=jl List.length (il s [])
end Go.Proofs.Tryz
namespace Go.Proofs.Tryz
open Go Go.AL Go.RowKit Go.Proofs Go.Proofs.Tram
attribute [local simp] dh eE dY dv dK dj di cQ cT dL cP ct fF fE aD aL ev aT.S aT.H bu av aY AL.start AV.cells AV.storable AV.cg bo cE dI ck HR.okB post cw cH cI AV.out AV.bU b_ df fz iA AV.vw du vI int cG aP cV db fQ iu fV eG da AV.aI AV.cm
variable{GI:World->Prop}
theorem tH(s:ar):(aO s).map AV.cm=aO s:=by
 simp[aO,ae,bl,vI,ints,AV.cm]
theorem rN(s:ar):(aO s).length=11:=rfl
theorem xV(s:ar):AV.agg ((aO s).take 10|>.map AV.cm)=bQ s:=by
 simp[aO,ae,bQ,vI,ints,AV.cm]
theorem nu{s:ar}(h:aU s=true):mG s:=by
 have hF:=dP h;refine⟨by have:=hF.KN;omega,by have:=hF.Kz;omega,by have:=hF.words;omega,λw hw=>?_,λw hw=>?_⟩
 .have:=(jK h hw).rz;omega
 .have f:=jK h hw;have:=qu f.bD (by have:=f.z_;omega);have:=f.rz;omega
theorem Jh(hG:au GI)(s:ar)(cK:aU s=true)(out:List Int)(ho:out.length<=1000):sT prog GI 187 [.ref (aO s),.ref [vI out]] ((oQ s out s.rows.toNat).map (aJ out)):=by
 have hr:=(dP cK).rows;have he:=pw cK out;refine L1 hG (oE:=.view) (all:=fJ s out) (rows:=s.rows.toNat) (by omega) (by omega) ho (rN s) ?_ ?_ ?_
 .intro x hx;simp[aO,ae]at hx
  rcases hx with rfl|rfl|rfl|rfl|rfl|rfl|rfl|rfl|rfl|rfl<;>exact⟨rfl,rfl,rfl⟩
 .show some (AV.int .i64 s.rows)=some (.int .i64 (s.rows.toNat:Nat));rw[ag4 (by omega)]
 .rw[xV];exact MP hG s (nu cK) out (by omega)
theorem qH{s:ar}(cK:aU s=true){out:List Int}(iJ:ec s out=true){es:List End}(h:es∈oQ s out s.rows.toNat):gW s out es=true/\es.length<=3:=by
 have hr:=(dP cK).rows;obtain⟨h1,h2⟩:=(vx cK iJ).1 h;exact⟨h1,by omega⟩
theorem Iu(hG:au GI)(s:ar)(cK:aU s=true)(out:List Int)(ho:out.length<=1000)(iJ:ec s out=true){es:List End}(h:es∈oQ s out s.rows.toNat):AC prog GI 149 [.agg ((aO s).map AV.cm),aJ out es,.int .i64 0] (.ret (.bool (eA s out es 0))):=by
 obtain⟨h1,h2⟩:=qH cK iJ h;rw[tH];exact Fu hG s cK out (by omega) es (by omega) (nL cK h1) (by omega) (by omega)
theorem F1(hG:au GI)(s:ar)(cK:aU s=true)(out:List Int)(ho:out.length<=1000)(iJ:ec s out=true):AC prog GI 80 [eH s,vI out] (.ret (.slice .view ((eu s out).map (aJ out)))):=by
 have hr:=(dP cK).rows;have hl:=qK cK out (m:=s.rows.toNat) (by omega);refine AC.g_ (o:=if(eu s out).isEmpty then .nil else .view) ?_
 exact Qh hG (rN s) (by
  intro x hx;simp[aO,ae]at hx
  rcases hx with rfl|rfl|rfl|rfl|rfl|rfl|rfl|rfl|rfl|rfl|rfl<;>rfl) (by omega) (λes h=>by have:=(qH cK iJ h).2;omega) (by rw[tH];exact Jh hG s cK out ho) (λes h=>Iu hG s cK out ho iJ h)
theorem Sd(hG:au GI)(s:ar)(cK:aU s=true){a b:List End}(ha:gW s [] a=true)(hb:gW s [] b=true)(sC:a.length<=10)(l8:b.length<=10):AC prog GI 82 [aJ [] a,aJ [] b,.ref (aO s)] (.ret (.bool (dF s a b))):=by
 have ga:=GF hG s cK [] (by simp) a (by omega) (nL cK ha);have gb:=GF hG s cK [] (by simp) b (by omega) (nL cK hb);refine bP hG func82 ntmps82 c82 ?_;refine az (λS H=>S 2=.ref (aO s)/\S 3=.box 3 0/\S 4=.box 4 0/\H 3=some [vI [],.slice .view (a.map aS)]/\H 4=some [vI [],.slice .view (b.map aS)]) (by simp[aJ,aH]) ?_;rintro S H ⟨s2,s3,s4,e3,e4⟩;refine az (λS H=>S 2=.ref (aO s)/\S 3=.box 3 0/\S 4=.box 4 0/\H 3=some [vI [],.slice .view (a.map aS)]/\H 4=some [vI [],.slice .view (b.map aS)]/\S 6=.int .i64 a.length/\S 7=.int .i64 b.length) (by simp[s2,s3,s4,e3,e4]) ?_;clear s2 s3 s4 e3 e4 S H;rintro S H ⟨s2,s3,s4,e3,e4,s6,s7⟩;unfold dF jl
 by_cases aw:a.length<b.length
 .have jL:(a.length:Int)<b.length:=by omega
  simp[s2,s3,s4,e3,e4,s6,s7,aw,jL]
 by_cases he:a.length=b.length
 case neg=>
  have jL:¬(a.length:Int)<b.length:=by omega
  have jI:((a.length:Int)==b.length)=false:=by simp;omega
  have vt:(a.length==b.length)=false:=by simpa using he
  simp[s2,s3,s4,e3,e4,s6,s7,aw,jL,jI,vt]
 simp[s2,s3,s4,e3,e4,s6,s7,he,aO,ae,bl];refine oc ga ?_;simp[s2,s3,s4,e3,e4,s6,s7,he,aO,ae,bl];refine oc gb ?_;simp[s2,s3,s4,e3,e4,s6,s7,he,aO,ae,bl]
theorem GD(l:List (List End)):aM 2 (l.map (aJ []))=true:=fZ λa=>⟨rfl,rfl⟩
theorem zw{α:Type}(better:α->α->Bool)(x:α){l:List α}{i:Nat}(h:i<l.length):eP better x (l.take (i+1))=if better l[i] (eP better x (l.take i))then l[i]else eP better x (l.take i):=by
 unfold eP;rw[afd h,afy];rfl
theorem kz{α:Type}(better:α->α->Bool):∀(l:List α)(x:α),eP better x l∈x::l
 |[],x=>aft
 |a::l,x=>by
  show eP better (if better a x then a else x) l∈_;have:=kz better l (if better a x then a else x);rcases afU.1 this with e|h
  .rw[e];split<;>simp
  .exact afk _ (afk _ h)
theorem PD(hG:au GI)(s:ar)(cK:aU s=true)(x:List End)(l:List (List End))(hl:l.length<100000)(h:∀a∈x::l,gW s [] a=true/\a.length<=10):AC prog GI 81 [.slice .view ((x::l).map (aJ [])),.func (.func 82) [] [.ref (aO s)]] (.ret (aJ [] (eP (dF s) x l))):=by
 have eK:=GD (x::l);obtain⟨it,hit,bL⟩:=bh (P:=prog) (t:=39) (s:=2) (by kernel_rfl);have hT:List.take l.length (l.map (aJ []))=l.map (aJ []):=afh (by simp);have hm:(x::l).map (aJ [])=aJ [] x::l.map (aJ []):=rfl
 have y6:∀d,sy d (.ref (aO s))=false:=λd=>rfl
 have ue:∀a,aJ [] a=.agg [vI [],.slice .view (a.map aS)]:=λ_=>rfl
 refine bP hG func81 ntmps81 c81 ?_;refine az (λS H=>S 4=.box 4 0/\S 0=.slice .view (aJ [] x::l.map (aJ []))/\S 1=.func (.func 82) [] [.ref (aO s)]/\H 4=some [.slice .nil [],.slice .nil []]) (by simp[y6]) ?_;rintro S H ⟨s4,s0,s1,e4⟩;refine az (λS H=>S 4=.box 4 0/\S 0=.slice .view (aJ [] x::l.map (aJ []))/\S 1=.func (.func 82) [] [.ref (aO s)]/\H 4=some [.slice .nil [],.slice .nil []]/\S 5=.box 5 0/\H 5=some [vI [],.slice .view (x.map aS)]) (by simp[s4,s0,s1,e4,ue,y6]) ?_;clear s4 s0 s1 e4 S H;rintro S H ⟨s4,s0,s1,e4,s5,e5⟩;rw[hm]at eK;refine az (λS H=>S 4=.box 4 0/\H 4=some [.slice .nil [],.slice .nil []]/\S 5=.box 5 0/\H 5=some [vI [],.slice .view ((eP (dF s) x l).map aS)]) ?_ ?_
 .have h1:(1:Int)<=l.length+1:=by omega
  simp[s4,s0,s1,e4,s5,e5,bound,eK,h1];refine bq 14 l.length (λi S H=>S 1=.func (.func 82) [] [.ref (aO s)]/\S 4=.box 4 0/\H 4=some [.slice .nil [],.slice .nil []]/\S 5=.box 5 0/\H 5=some [vI [],.slice .view ((eP (dF s) x (l.take i)).map aS)]/\S 12=.slice .view (l.map (aJ []))/\S 13=.int .i64 l.length/\S 14=.int .i64 (i:Nat)) (λi S H h=>h.2.2.2.2.2.2.2) ⟨by simp[s1],by simp[s4],by simp[e4],by simp[s5],by simp[e5,eP],by simp[hT],by simp,by simp⟩ ?_;clear s4 s0 s1 e4 s5 e5 S H;rintro i hi S H ⟨s1,s4,e4,s5,e5,bJ,b0,cU⟩
  by_cases aw:i<l.length
  case neg=>
   have cD:i=l.length:=by omega
   subst cD;rw[afh (afg _)]at e5;simp[s1,s4,e4,s5,e5,bJ,b0,cU]
  have hw:IntKind.i64.wrap ((i:Int)+1)=i+1:=aN (by omega);have CE:=kz (dF s) (l.take i) x
  have hb:=h (eP (dF s) x (l.take i)) (by
   rcases afU.1 CE with e|e
   .rw[e];exact aft
   .exact afk _ (afV e))
  have gq:=h l[i] (afk _ (ae_ aw));have P8:=Sd hG s cK gq.1 hb.1 gq.2 hb.2;rw[zw _ _ aw];generalize eP (dF s) x (l.take i)=o at e5 P8⊢;simp[s1,s4,e4,s5,e5,bJ,b0,cU,aw,ue,y6];refine oc P8 ?_;cases dF s l[i] o
  .simp[s1,s4,e4,s5,e5,bJ,b0,cU,aw,ue,y6,hw]
  .simp[s1,s4,e4,s5,e5,bJ,b0,cU,aw,ue,y6,hw]
 clear s4 s0 s1 e4 s5 e5 S H;rintro S H ⟨s4,e4,s5,e5⟩;simp[s4,e4,s5,e5,ue,hit,bL,fg]
def pM(s:ar):List AV:=if aU s then match eu s []with
 |[]=>[aJ [] [],.int .i64 0,.int .i64 5]
 |x::l=>[aJ [] (eP (dF s) x l),.int .i64 (il s [] (eP (dF s) x l)),.int .i64 0]
 else[aJ [] [],.int .i64 0,.int .i64 2]
theorem pT{s:ar}(cK:aU s=true){a:List End}(h:a∈eu s []):gW s [] a=true/\a.length<=3/\eA s [] a 0=true:=by
 have hr:=(dP cK).rows;obtain⟨h1,h2⟩:=(nx cK (mX cK)).1 h;refine⟨h1,?_,h2⟩;unfold eA at h2;simp only[afa,aff]at h2;omega
theorem zO(hG:au GI)(s:ar)(hs:mG s)(nO:aU s=false\/eu s []=[]):AC prog GI 24 [bQ s] (.ret (.d_ (pM s))):=by
 obtain⟨it,hit,bL⟩:=bh (P:=prog) (t:=39) (s:=2) (by kernel_rfl)
 have ue:∀a,aJ [] a=.agg [vI [],.slice .view (a.map aS)]:=λ_=>rfl
 refine bP hG func24 ntmps24 c24 ?_;refine az (λS H=>S 1=.box 1 0/\S 2=.box 2 0/\H 1=some (ae s)/\H 2=some [.slice .nil [],.slice .nil []]) (by simp[bQ,ae]) ?_;rintro S H ⟨s1,s2,e1,e2⟩;unfold pM;cases cK:aU s
 .simp[s1,s2,e1,e2,ae];refine⟨_,by kernel_rfl,Az hG s hs,λ_=>rfl,?_⟩;rw[cK];simp[s1,s2,e1,e2,ae,hit,bL,fg,ue,bC,ints]
 have hg:eu s []=[]:=by
  rcases nO with h|h
  .rw[h]at cK;cases cK
  .exact h
 simp[s1,s2,e1,e2,ae];refine⟨_,by kernel_rfl,Az hG s hs,λ_=>rfl,?_⟩;rw[cK];simp[s1,s2,e1,e2,ae];refine oc (Fq hG s cK) ?_;simp[s1,s2,e1,e2,eH,aO,ae,bl];refine oc (F1 hG s cK [] (by simp) (mX cK)) ?_;rw[hg];simp[s1,s2,e1,e2,hit,bL,fg,ue,bC,ints]
theorem JX(hG:au GI)(s:ar)(hs:mG s):AC prog GI 24 [bQ s] (.ret (.d_ (pM s))):=by
 cases cK:aU s with
 |false=>exact zO hG s hs (.inl cK)
 |true=>
 cases hg:eu s []with
 |nil=>exact zO hG s hs (.inr hg)
 |cons x l=>
 obtain⟨it,hit,bL⟩:=bh (P:=prog) (t:=39) (s:=2) (by kernel_rfl)
 have ue:∀a,aJ [] a=.agg [vI [],.slice .view (a.map aS)]:=λ_=>rfl
 have hl:=uo cK [];rw[hg]at hl;simp at hl
 have fX:∀a∈x::l,gW s [] a=true/\a.length<=10:=λa ha=>by
  have:=pT cK (a:=a) (by rw[hg];exact ha);exact⟨this.1,by omega⟩
 have U2:=PD hG s cK x l (by omega) fX;have hb:=fX _ (kz (dF s) l x);have a87:=GF hG s cK [] (by simp) (eP (dF s) x l) (by omega) (nL cK hb.1)
 have wv:((l.length:Int)+1==0)=false:=by simp;omega
 have ho:pM s=[aJ [] (eP (dF s) x l),.int .i64 (il s [] (eP (dF s) x l)),.int .i64 0]:=by
  unfold pM;rw[cK,if_pos rfl,hg]
 rw[ho];refine AC.NV hG cC 5 5 func24 rfl ntmps24 (by simp) (ac:=c24) (by kernel_rfl) ?_;refine nB (λS H=>S 1=.box 1 0/\S 2=.box 2 0/\H 1=some (ae s)/\H 2=some [.slice .nil [],.slice .nil []]) (by simp[bQ,ae]) ?_;rintro S H ⟨s1,s2,e1,e2⟩;refine nB (λS H=>S 1=.box 1 0/\S 2=.box 2 0/\H 1=some (ae s)/\H 2=some [.slice .nil [],.slice .nil []]) ?_ ?_
 .simp[s1,s2,e1,e2,ae];refine⟨_,by kernel_rfl,Az hG s hs,λ_=>rfl,?_⟩;rw[cK];simp[s1,s2,e1,e2,ae]
 clear s1 s2 e1 e2 S H;rintro S H ⟨s1,s2,e1,e2⟩;refine nB (λS H=>S 2=.box 2 0/\H 2=some [.slice .nil [],.slice .nil []]/\S 5=.box 5 0/\H 5=some (aO s)) ?_ ?_
 .simp[s1,s2,e1,e2,ae];refine oc (Fq hG s cK) ?_;simp[s1,s2,e1,e2,eH,aO,ae,bl]
 clear s1 s2 e1 e2 S H;rintro S H ⟨s2,e2,s5,e5⟩;refine nB (λS H=>S 2=.box 2 0/\H 2=some [.slice .nil [],.slice .nil []]/\S 5=.box 5 0/\H 5=some (aO s)/\S 6=.slice .view ((x::l).map (aJ []))) ?_ ?_
 .have OR:=F1 hG s cK [] (by simp) (mX cK);rw[hg]at OR;simp[s2,e2,s5,e5,aO,ae,bl];refine oc OR ?_;simp[s2,e2,s5,e5,aO,ae,bl]
 clear s2 e2 s5 e5 S H;rintro S H ⟨s2,e2,s5,e5,s6⟩;refine nB (λS H=>S 2=.box 2 0/\H 2=some [.slice .nil [],.slice .nil []]/\S 5=.box 5 0/\H 5=some (aO s)/\S 6=.slice .view ((x::l).map (aJ []))) (by simp[s2,e2,s5,e5,s6,wv]) ?_;clear s2 e2 s5 e5 s6 S H;rintro S H ⟨s2,e2,s5,e5,s6⟩;refine KS (aO s) (λS H=>S 2=.box 2 0/\H 2=some [.slice .nil [],.slice .nil []]/\S 5=.ref (aO s)/\S 6=.slice .view ((x::l).map (aJ []))) e5 ⟨by simp[s2,Lc],by simp[av,e2],by simp[s5,Lc,aO,ae,bl,AV.aI,vI],by simp[s6,Lc,cE]⟩ ?_;clear s2 e2 s5 e5 s6 S H;rintro S H ⟨s2,e2,s5,s6⟩;refine az (λS H=>S 2=.box 2 0/\H 2=some [.slice .nil [],.slice .nil []]/\S 5=.ref (aO s)/\S 7=.box 7 0/\H 7=some [vI [],.slice .view ((eP (dF s) x l).map aS)]) ?_ ?_
 .simp[s2,e2,s5,s6];refine⟨_,by kernel_rfl,U2,by simp[du,sx],?_⟩;simp[s2,e2,s5,s6,ue]
 clear s2 e2 s5 s6 S H;rintro S H ⟨s2,e2,s5,s7,e7⟩;simp[s2,e2,s5,s7,e7,aO,ae,bl];refine oc a87 ?_;simp[s2,e2,s5,s7,e7,hit,bL,fg,ue]
def dV(s:ar):Option (List End):=match eu s []with
 |[]=>none
 |x::l=>some (eP (dF s) x l)
def gw(es:List End)(i n:Nat):Nat:=es.countP λe=>decide (e.1=((i:Nat):Int))&&decide (e.2<((n:Nat):Int))
def pO(s:aq)(es:List End)(i:Nat):Int:=s.dE*bT s.name i+s.c_*gw es i (bT s.name i)
def aR(s:aq)(es:List End):List Int:=(List.range s.name.words.length).map (pO s es)
def aX(s:aq)(an:List Int):List AV:=ao s++[vI an]
def cb(s:aq)(an:List Int):AV:=.agg (aX s an)
def ll(n:Int):AV:=.iface 192 (.agg [.int .i64 n])
structure dJ(s:aq):Prop where
 cells:1<=s.cells.length/\s.cells.length<=12
 qx:∀c∈s.cells,1<=c.lo/\c.lo<=c.hi/\c.hi<=20
 pos:1<=s.pos/\s.pos<=s.cells.length
 reach:1<=s.reach/\s.reach<=12
 dE:1<=s.dE/\s.dE<=9
 c_:0<=s.c_/\s.c_<=9
 name:aU s.name=true
theorem eo{s:aq}(h:cq s=true):dJ s:=by
 simp only[cq,afa,bH,aff,afT,agb]at h;obtain⟨⟨⟨⟨⟨⟨⟨h1,h2⟩,h3⟩,h4,h5⟩,h6,h7⟩,h8,h9⟩,l3,Gw⟩,Wa⟩:=h;refine⟨⟨by omega,by omega⟩,λc hc=>?_,⟨h4,h5⟩,⟨h6,h7⟩,⟨h8,h9⟩,⟨l3,Gw⟩,Wa⟩;have:=h3 c hc;simp[fO,bH]at this;omega
theorem fp{s:ar}(cK:aU s=true){es:List End}(h:dV s=some es):es.length<=3:=by
 unfold dV at h
 cases hg:eu s []with
 |nil=>rw[hg]at h;cases h
 |cons x l=>
  rw[hg]at h;cases h;exact(pT cK (by rw[hg];exact kz (dF s) l x)).2.1
theorem wD(es:List End)(i n:Nat):gw es i n<=es.length:=List.countP_le_length
theorem se{s:aq}(h:dJ s){es:List End}(he:es.length<=3){i:Nat}(hi:bT s.name i<=6):0<=pO s es i/\pO s es i<=81:=by
 have h1:=wD es i (bT s.name i);have hp:=h.dE;have ht:=h.c_;unfold pO;have a1:0<=s.dE*(bT s.name i:Int):=agc (by omega) (by omega);have a2:s.dE*(bT s.name i:Int)<=9*6:=agh (by omega) (by omega) (by omega) (by omega);have a3:0<=s.c_*(gw es i (bT s.name i):Int):=agc (by omega) (by omega);have a4:s.c_*(gw es i (bT s.name i):Int)<=9*3:=agh (by omega) (by omega) (by omega) (by omega);omega
def BK(s:aq)(es:List End)(i:Nat)(S:aF)(H:aK):Prop:=
 S 1=.box 1 0/\H 1=some (ao s)/\S 2=.box 2 0/\(∃z,H 2=some z/\z.length=16)/\S 3=.box 3 0/\H 3=some [vI [],.slice .view (es.map aS)]/\S 6=.box 6 0/\H 6=some (ao s++[grow 3 (ints ((aR s es).take i))])/\
 S 31=.slice .view (s.name.words.map bW)/\S 32=.int .i64 s.name.words.length/\S 33=.int .i64 (i:Nat)
theorem vO(hG:au GI)(s:aq)(hs:er s)(h:dJ s)(nO:dV s.name=none):AC prog GI 108 [a_ s] (.panic (ll s.name.words.length)):=by
 have Gy:=JX hG s.name hs.name
 have dQ:pM s.name=[aJ [] [],.int .i64 0,.int .i64 5]:=by
  unfold dV at nO;unfold pM;rw[if_pos h.name];split at nO
  .rename_i hg;first|rw[hg]|rfl
  .cases nO
 rw[dQ]at Gy;refine bP hG func108 ntmps108 c108 ?_;simp[c108,a_,ao,ae];refine oc Gy ?_;simp[aJ,aH,ll,bC,bj,bf]
theorem BJ(hG:au GI)(s:aq)(hs:er s)(h:dJ s){es:List End}(sk:dV s.name=some es):AC prog GI 108 [a_ s] (.ret (cb s (aR s es))):=by
 have Gy:=JX hG s.name hs.name
 have dQ:∃m:Int,pM s.name=[aJ [] es,.int .i64 m,.int .i64 0]:=by
  unfold dV at sk;unfold pM;rw[if_pos h.name];split at sk
  .cases sk
  .rename_i x l hg;cases sk;(try rw[hg]);exact⟨_,rfl⟩
 obtain⟨m,dQ⟩:=dQ;rw[dQ]at Gy;have hle:=fp h.name sk;have hF:=dP h.name
 have hlen:∀i,bT s.name i<=6:=λi=>by
  unfold bT;split
  .rename_i x hx;obtain⟨aw,rfl⟩:=af0.1 hx;exact(jK h.name (ae_ aw)).rz
  .omega
 obtain⟨i100,pC,pd⟩:=bh (P:=prog) (t:=102) (s:=16) (by kernel_rfl);obtain⟨fs,eQ⟩:=bV (P:=prog) (t:=102) (by kernel_rfl);refine bP hG func108 ntmps108 c108 ?_;refine az (λS H=>S 1=.box 1 0/\H 1=some (ao s)/\S 2=.box 2 0/\∃z,H 2=some z/\z.length=16) (by simp[a_,ao,ae]) ?_;rintro S H ⟨s1,h1,s2,z,h2,hz⟩;refine az (λS H=>S 1=.box 1 0/\H 1=some (ao s)/\S 2=.box 2 0/\(∃z,H 2=some z/\z.length=16)/\S 3=.box 3 0/\H 3=some [vI [],.slice .view (es.map aS)]/\S 5=.int .i64 0) ?_ ?_
 .simp[ao,ae,s1,h1,s2,h2,hz];refine oc Gy ?_;simp[aJ,aH,bC,s1,h1,s2,h2,hz]
  try rfl
 clear s1 h1 s2 h2 hz z S H;rintro S H ⟨s1,h1,s2,⟨z,h2,hz⟩,s3,h3,s5⟩;refine az (λS H=>S 1=.box 1 0/\H 1=some (ao s)/\S 2=.box 2 0/\(∃z,H 2=some z/\z.length=16)/\S 3=.box 3 0/\H 3=some [vI [],.slice .view (es.map aS)]) ?_ ?_
 .simp[ao,ae,s1,h1,s2,h2,hz,s3,h3,s5]
  try rfl
 clear s1 h1 s2 h2 hz z s3 h3 s5 S H;rintro S H ⟨s1,h1,s2,⟨z,h2,hz⟩,s3,h3⟩;refine az (λS H=>S 1=.box 1 0/\H 1=some (ao s)/\S 2=.box 2 0/\(∃z,H 2=some z/\z.length=16)/\S 3=.box 3 0/\H 3=some [vI [],.slice .view (es.map aS)]/\S 6=.box 6 0/\H 6=some (ao s++[.slice .nil []])) ?_ ?_
 .simp[ao,ae,s1,h1,s2,h2,hz,s3,h3,bC]
  try rfl
 clear s1 h1 s2 h2 hz z s3 h3 S H;rintro S H ⟨s1,h1,s2,⟨z,h2,hz⟩,s3,h3,s6,h6⟩
 have A0:(aR s es).length=s.name.words.length:=by simp[aR]
 have oe:=hF.words;refine az (BK s es s.name.words.length) ?_ ?_
 .refine az (BK s es 0) ?_ ?_
  .have hg:grow 3 (ints ([]:List Int))=.slice .nil []:=rfl;simp[ao,ae,s1,h1,s2,h2,hz,s3,h3,s6,h6,BK,hg]
   try rfl
  clear s1 h1 s2 h2 hz z s3 h3 s6 h6 S H;intro S H QW;refine bq 33 s.name.words.length (BK s es) (λi S H h=>h.2.2.2.2.2.2.2.2.2.2) QW ?_;clear QW S H;rintro i hi S H ⟨s1,h1,s2,⟨z,h2,hz⟩,s3,h3,s6,h6,qR,qY,sq⟩
  by_cases aw:i<s.name.words.length
  case neg=>
   have cD:i=s.name.words.length:=by omega
   subst cD;simp[s1,h1,s2,h2,hz,s3,h3,s6,h6,qR,qY,sq,BK]
  have hw:IntKind.i64.wrap ((i:Int)+1)=i+1:=aN (by omega);simp[s1,h1,s2,h2,hz,s3,h3,s6,h6,qR,qY,sq,aw,ao,ae,bW,bC];have sZ:=hlen i
  have XS:s.name.words[i].aG.length<=6:=by rw[<-eT aw];exact sZ
  have hp:=h.dE;have ht:=h.c_;have CF:0<=s.dE*(s.name.words[i].aG.length:Int):=agc (by omega) (by omega);have Ee:s.dE*(s.name.words[i].aG.length:Int)<=9*6:=agh (by omega) (by omega) (by omega) (by omega);have yW:IntKind.i64.wrap (s.dE*(s.name.words[i].aG.length:Int))=s.dE*(s.name.words[i].aG.length:Int):=aN (by omega)
  refine bq 47 es.length (λj S H=>S 1=.box 1 0/\H 1=some (ao s)/\S 2=.box 2 0/\(∃z,H 2=some z/\z.length=16)/\S 3=.box 3 0/\H 3=some [vI [],.slice .view (es.map aS)]/\S 6=.box 6 0/\H 6=some (ao s++[grow 3 (ints ((aR s es).take i))])/\
   S 31=.slice .view (s.name.words.map bW)/\S 32=.int .i64 s.name.words.length/\S 33=.int .i64 (i:Nat)/\S 7=.int .i64 (i:Nat)/\S 8=.box 8 0/\H 8=some [vI s.name.words[i].aG,vI s.name.words[i].bD,.bool s.name.words[i].free]/\
   S 9=.int .i64 (s.dE*(s.name.words[i].aG.length:Int)+s.c_*(gw (es.take j) i s.name.words[i].aG.length:Int))/\S 45=.slice .view (es.map aS)/\S 46=.int .i64 es.length/\S 47=.int .i64 (j:Nat)) (λj S H h=>h.2.2.2.2.2.2.2.2.2.2.2.2.2.2.2.2.2) ?_ ?_
  .simp[s1,h1,s2,h2,hz,s3,h3,s6,h6,qR,qY,sq,ao,ae,yW,gw]
  clear s1 h1 s2 h2 hz z s3 h3 s6 h6 qR qY sq S H;rintro j hj S H ⟨s1,h1,s2,⟨z,h2,hz⟩,s3,h3,s6,h6,qR,qY,sq,s7,s8,h8,s9,FO,Fl,uN⟩;have Yz:=wD (es.take j) i s.name.words[i].aG.length
  have hc4:(es.take j).length<=3:=by simp;omega
  have T_:0<=s.c_*(gw (es.take j) i s.name.words[i].aG.length:Int):=agc (by omega) (by omega);have XA:s.c_*(gw (es.take j) i s.name.words[i].aG.length:Int)<=9*3:=agh (by omega) (by omega) (by omega) (by omega)
  by_cases lj:j<es.length
  case pos=>
   have fL:IntKind.i64.wrap ((j:Int)+1)=j+1:=aN (by omega);have mq:IntKind.i64.wrap (s.dE*(s.name.words[i].aG.length:Int)+s.c_*(gw (es.take j) i s.name.words[i].aG.length:Int)+s.c_)=s.dE*(s.name.words[i].aG.length:Int)+s.c_*(gw (es.take j) i s.name.words[i].aG.length:Int)+s.c_:=aN (by omega)
   have jD:gw (es.take (j+1)) i s.name.words[i].aG.length=gw (es.take j) i s.name.words[i].aG.length+if es[j].1=((i:Nat):Int)/\es[j].2<((s.name.words[i].aG.length:Nat):Int)then 1 else 0:=by
    rw[agS,ae9 lj];unfold gw;rw[Option.toList_some,List.countP_append,List.countP_singleton]
    by_cases q1:es[j].1=((i:Nat):Int)<;>by_cases q2:es[j].2<((s.name.words[i].aG.length:Nat):Int)<;>simp[q1,q2]
   by_cases c1:es[j].1=((i:Nat):Int)
   .by_cases c2:es[j].2<((s.name.words[i].aG.length:Nat):Int)
    .rw[if_pos ⟨c1,c2⟩]at jD;simp[s1,h1,s2,h2,hz,s3,h3,s6,h6,qR,qY,sq,s7,s8,h8,s9,FO,Fl,uN,lj,ao,ae,aS,bC,fL,mq,c1,c2,jD];rw[Int.mul_add,Int.mul_one,Int.add_assoc]
    .rw[if_neg (λh=>c2 h.2)]at jD;simp[s1,h1,s2,h2,hz,s3,h3,s6,h6,qR,qY,sq,s7,s8,h8,s9,FO,Fl,uN,lj,ao,ae,aS,bC,fL,mq,c1,c2,jD]
   .rw[if_neg (λh=>c1 h.1)]at jD
    have c1':(es[j].1==((i:Nat):Int))=false:=by simpa using c1
    simp[s1,h1,s2,h2,hz,s3,h3,s6,h6,qR,qY,sq,s7,s8,h8,s9,FO,Fl,uN,lj,ao,ae,aS,bC,fL,mq,c1,c1',jD]
  case neg=>
   have Er:j=es.length:=by omega
   subst Er;have hT:es.take es.length=es:=afh (afg _);rw[hT]at s9
   have Ib:(aR s es).take (i+1)=(aR s es).take i++[s.dE*(s.name.words[i].aG.length:Int)+s.c_*(gw es i s.name.words[i].aG.length:Int)]:=by
    rw[agS,ae9 (by rw[A0];exact aw)];simp[aR,pO,eT aw]
   have eK:aM 1 (ints ((aR s es).take i))=true:=jS _
   have kc:ints ((aR s es).take i)++[.int .i64 (s.dE*(s.name.words[i].aG.length:Int)+s.c_*(gw es i s.name.words[i].aG.length:Int))]=ints ((aR s es).take (i+1)):=by rw[Ib];simp[ints]
   have dO:ints ((aR s es).take (i+1))≠[]:=by rw[<-kc];simp
   have ox:grow 3 (ints ((aR s es).take (i+1)))=.slice (.own 3) (ints ((aR s es).take (i+1))):=by unfold grow;rw[if_neg dO]
   have dM:aM 1 [.int .i64 (s.dE*(s.name.words[i].aG.length:Int)+s.c_*(gw es i s.name.words[i].aG.length:Int))]=true:=rfl
   have Rm:min i (aR s es).length+1<1048576:=by omega
   by_cases h0:ints ((aR s es).take i)=[]
   .have uX:grow 3 (ints ((aR s es).take i))=.slice .nil []:=by unfold grow;rw[if_pos h0,h0]
    rw[uX]at h6;rw[h0,List.nil_append]at kc;simp[s1,h1,s2,h2,hz,s3,h3,s6,h6,qR,qY,sq,s7,s8,h8,s9,FO,Fl,uN,ao,ae,hw,dM,BK,ox,<-kc];rw[kc];exact ox.symm
   .have uX:grow 3 (ints ((aR s es).take i))=.slice (.own 3) (ints ((aR s es).take i)):=by unfold grow;rw[if_neg h0]
    rw[uX]at h6;simp[s1,h1,s2,h2,hz,s3,h3,s6,h6,qR,qY,sq,s7,s8,h8,s9,FO,Fl,uN,ao,ae,hw,dM,eK,Rm,BK,ox,<-kc];rw[kc];exact ox.symm
 clear s1 h1 s2 h2 hz z s3 h3 s6 h6 S H;rintro S H ⟨s1,h1,s2,⟨z,h2,hz⟩,s3,h3,s6,h6,qR,qY,sq⟩;have hT:(aR s es).take s.name.words.length=aR s es:=afh (by omega);rw[hT]at h6
 have ry:∃o,grow 3 (ints (aR s es))=.slice o (ints (aR s es)):=⟨_,rfl⟩
 obtain⟨o,ry⟩:=ry;rw[ry]at h6
 have jo:bo z 0 (ao s++[.slice .view (ints (aR s es))])=ao s++[.slice .view (ints (aR s es))]:=by simp[bo,hz,ao,ae]
 simp[s1,h1,s2,h2,hz,s3,h3,s6,h6,qR,qY,sq,pC,pd,eQ,ao,ae,cb,aX,fg]
 cases o<;>rfl
def mc(s:aq)(i:Nat):Bool:=match s.cells[i]? with|some c=>c.hid|none=>false
def gM(s:aq):Nat:=(s.pos-s.reach).toNat
def cM(s:aq)(i:Nat):Bool:=decide (gM s<=i)&&(decide (i<s.pos.toNat)&&!mc s i)
def jB(s:aq)(i:Nat):List (Int×Value):=(List.range' (gM s) (i-gM s)).map λj:Nat=>((j:Int),Value.bool (!mc s j))
def cL(s:aq):List End:=(dn (cM s) s.cells.length).map λv=>((v.1:Int),(v.2:Int))
theorem DB(s:aq){i:Nat}:uu (i:Int) (jB s i) 0=none:=Hv λx hx=>by
 obtain⟨j,hj,rfl⟩:=afp.1 hx;have:=agI.1 hj;simp only;omega
theorem BW(s:aq){i:Nat}(h:gM s<=i):jB s (i+1)=jB s i++[((i:Int),Value.bool (!mc s i))]:=by
 unfold jB
 have e:gM s+1*(i-gM s)=i:=by omega
 rw[show i+1-gM s=(i-gM s)+1 by omega,agL,afu,e]
 rfl
theorem p6(f:Nat->Bool)(i:Nat):∀(n a k:Nat),((uu (i:Int) ((List.range' a n).map λj:Nat=>((j:Int),Value.bool (f j))) k).map (·.2)).getD (.bool false)=.bool (decide (a<=i)&&(decide (i<a+n)&&f i))
 |0,a,k=>by
  have:¬(a<=i/\i<a+0):=by omega
  simp[uu];intro h1 h2;omega
 |n+1,a,k=>by
  rw[agr,afv];unfold uu
  by_cases h:i=a
  .subst h;simp
  .have hb:((i:Int)==(a:Int))=false:=by simp;omega
   rw[hb];simp only[afj,afx];rw[p6 f i n (a+1) (k+1)]
   congr 1
   rw[afZ];simp
   constructor
   .rintro⟨h1,h2,h3⟩;exact⟨by omega,by omega,h3⟩
   .rintro⟨h1,h2,h3⟩;exact⟨by omega,by omega,h3⟩
theorem BT(s:aq)(hp:gM s<=s.pos.toNat)(i:Nat):((uu (i:Int) (jB s s.pos.toNat) 0).map (·.2)).getD (.bool false)=.bool (cM s i):=by
 unfold jB;rw[p6 (λj=>!mc s j)]
 congr 1
 unfold cM;rw[show gM s+(s.pos.toNat-gM s)=s.pos.toNat by omega]
def xC(b:Nat):Value:=.map (some b)
theorem vu{α β:Type}[BEq α][LawfulBEq α]{t:α}{v:β}:∀{l:List (α×β)},l.lookup t=some v->(t,v)∈l
 |[],h=>by cases h
 |(a,b)::l,h=>by
  rw[List.lookup_cons]at h
  by_cases ht:(t==a)=true
  .rw[ht]at h;have:=eq_of_beq ht;cases h;subst this;exact aft
  .have uB:(t==a)=false:=by simpa using ht
   rw[uB]at h;exact afk _ (vu h)
def bZ(s:aq)(i:Nat):Nat×List (Nat×Nat):=(List.range i).foldl (cW (cM s)) (0,[])
theorem jN(s:aq)(i:Nat):bZ s (i+1)=cW (cM s) (bZ s i) i:=by
 unfold bZ;rw[afM,afy]
 rfl
theorem tR(s:aq):∀(d i:Nat),∃t,(bZ s (i+d)).2=(bZ s i).2++t
 |0,i=>⟨[],by simp⟩
 |d+1,i=>by
  obtain⟨t,ht⟩:=tR s d i;rw[show i+(d+1)=i+d+1 by omega,jN];unfold cW;split
  .exact⟨t,ht⟩
  .simp only;split
   .exact⟨t++[((bZ s (i+d)).1,i+d-1)],by rw[ht,agd]⟩
   .exact⟨t,ht⟩
theorem vL(s:aq):∀i,(bZ s i).1<=i
 |0=>afg _
 |i+1=>by
  rw[jN];unfold cW;have:=vL s i;split
  .omega
  .simp
variable{l:Nat}{xs:List AV}
def k_(l:Nat)(s:aq)(bM:Nat)(ex:List (Nat×AV)):aF:=λt=>if t=0 then .val (.func (.yield l) #[] #[])else if t=1 then .ref (ao s)else if t=3 then .val (xC bM)else match ex.lookup t with|some v=>v|none=>.bB
structure VS(C:Cons prog GI l xs)(s:aq)(cX:Value)(bM:Nat)(ex:List (Nat×AV))(l':List (Int×Value))(k:Nat)(a:Act)(w:World):Prop where
 size:a.tmps.size=54
 defers:a.defers=[]
 t0:a.tmps.getD 0 undef=.func (.yield l) #[] #[]
 t1:a.tmps.getD 1 undef=cX
 t3:a.tmps.getD 3 undef=xC bM
 ex:∀p∈ex,4<=p.1/\jA p.2=true/\RD (λ_ _=>False) w p.2 (a.tmps.getD p.1 undef)
 st:∃M Pr,C.J k M Pr w/\(∀b,M b->b<w.heap.size)/\M bM/\(∃es clock,w.heap[bM]?=some (.map es clock)/\Th (.int .i64) es l')/\RD Pr w (.ref (ao s)) cX
variable{C:Cons prog GI l xs}{s:aq}{cX:Value}{bM:Nat}{ex yB:List (Nat×AV)}{l':List (Int×Value)}{k:Nat}{a:Act}{w:World}
theorem VS.eW(h:VS C s cX bM ex l' k a w):∀t,t<54->(k_ l s bM ex t).aI=k_ l s bM ex t/\RV (λb _=>b≠bM) cd w (k_ l s bM ex t) (a.tmps.getD t undef):=by
 intro t ht;obtain⟨M,Pr,hj,aw,hM,_,hx⟩:=h.st;unfold k_
 by_cases t0:t=0
 .subst t0;simp only[afH];rw[h.t0];exact⟨rfl,.data _ _ (.val _ rfl)⟩
 rw[if_neg t0]
 by_cases t1:t=1
 .subst t1;simp only[afH];rw[h.t1];exact⟨rfl,.data _ _ (hx.mono (bz.same λb k _ hp=>by rintro rfl;exact C.apart hj _ k hM hp))⟩
 rw[if_neg t1]
 by_cases t3:t=3
 .subst t3;simp only[afH];rw[h.t3];exact⟨rfl,.data _ _ (.val _ rfl)⟩
 rw[if_neg t3]
 cases hl:ex.lookup t with
 |none=>exact⟨rfl,.bB _⟩
 |some v=>
  have hm:(t,v)∈ex:=vu hl;obtain⟨_,h2,h3⟩:=h.ex _ hm;refine⟨?_,.data _ _ (h3.jA h2)⟩
  cases v<;>first|rfl|cases h2
theorem VS.grow (h:VS C s cX bM ex l' k a w) {a':Act} {w':World} (hb:Below w.heap.size w w') (bL:a'.tmps.size=54) (ea:a'.defers=[]) (h0:∀ t,t < 4→a'.tmps.getD t undef=a.tmps.getD t undef)
  (hex:∀p∈yB,4<=p.1/\jA p.2=true/\RD (λ_ _=>False) w' p.2 (a'.tmps.getD p.1 undef)):VS C s cX bM yB l' k a' w':=by
 obtain⟨M,Pr,hj,aw,hM,⟨es,clock,hm,he⟩,hx⟩:=h.st
 refine⟨bL,ea,(h0 0 (by decide)).trans h.t0,(h0 1 (by decide)).trans h.t1,(h0 3 (by decide)).trans h.t3,hex,M,Pr,C.c_ hj (sB.qC hb) λb vn=>⟨afI (aw b vn) hb.size,.inl vn⟩,λb vn=>afI (aw b vn) hb.size,hM,
  ⟨es,clock,(hb.block bM (aw bM hM)).trans hm,he⟩,hx.mono (bz.jV (λb h=>hb.block b h) λ_ _ _ h=>h)⟩
def W4:Nat->Bool:=λt=>decide (4<=t)
theorem VS.region (hG:au GI) {C:Cons prog GI l xs} (h:VS C s cX bM ex l' k a w) {id:Nat} {ops:Array Oper} {ac:af} {Q:Exit→Act→World→Prop} {m:Nat} (hc:ur (.region id ops false)=true) (wR:kT prog 54 (.region id ops false)=ac) (hW:Ai ops W4=true)
  (yB:List (Nat×AV)) (hs:yB.all (λp=>decide (4<=p.1)&&(decide (p.1<54)&&jA p.2))=true) (Tr:bO prog GI ac (aP λS' _=>∀p∈yB,S' p.1=p.2) (k_ l s bM ex) (λ_=>none)) (hk:∀a' w',VS C s cX bM yB l' k a' w'->Q .normal a' w'):(Code.region id ops false).wpIn (FR none) m prog Q a w:=by
 obtain⟨M,Pr,hj,aw,hM,Ei,hx⟩:=h.st;refine bG hG cC hc wR hW (C.gi hj) (λb _=>b≠bM) (k_ l s bM ex) h.size h.defers h.eW Tr ?_;intro g S' H' a' w' hg R1 hK bb;refine hk a' w' (h.grow (by have:=R1.below;rwa [R1.base]at this) R1.size (by rw[R1.defers,hg];rfl) (λt ht=>bb t (by simp[W4];omega)) λp hp=>?_);have wz:=afC.1 hs p hp;simp only[afa,aff]at wz;refine⟨wz.1,wz.2.2,?_⟩;have r:=R1.slot p.1 wz.2.1 (λh=>h);rw[hK p hp]at r;exact(r.j_ (by have:=wz.2.2;revert this;cases p.2<;>simp[Go.AL.jA,AV.bU])).jA wz.2.2
theorem VS.bool(h:VS C s cX bM ex l' k a w){t:Nat}{b:Bool}(hm:(t,AV.bool b)∈ex):a.tmps.getD t undef=.bool b:=(RV.data (al:=cd) _ _ (h.ex _ hm).2.2).dN
theorem VS.int(h:VS C s cX bM ex l' k a w){t:Nat}{b:Int}(hm:(t,AV.int .i64 b)∈ex):a.tmps.getD t undef=.int .i64 b:=(RV.data (al:=cd) _ _ (h.ex _ hm).2.2).int_eq
theorem VS.bI (h:VS C s cX bM ex l' k a w) {a':Act} {w':World} (N:Nat) (hN:4≤N) (hb:Below w.heap.size w w') (bL:a'.tmps.size=54) (ea:a'.defers=[]) (h0:∀ t,t < N→a'.tmps.getD t undef=a.tmps.getD t undef)
  (hex:ex.all (λp=>decide (p.1<N))=true):VS C s cX bM ex l' k a' w':=
 h.grow hb bL ea (λt ht=>h0 t (by omega)) λp hp=>by
  obtain⟨q1,q2,q3⟩:=h.ex p hp;have:=afC.1 hex p hp;rw[h0 p.1 (by simpa using this)];exact⟨q1,q2,q3.jA q2⟩
theorem VS.sub(h:VS C s cX bM ex l' k a w)(RZ:∀p∈yB,p∈ex):VS C s cX bM yB l' k a w:=
 ⟨h.size,h.defers,h.t0,h.t1,h.t3,λp hp=>h.ex p (RZ p hp),h.st⟩
theorem VS.put(h:VS C s cX bM ex l' k a w)(t:Nat)(v:Value)(ht:4<=t)(hex:ex.all (λp=>p.1 !=t)=true):VS C s cX bM ex l' k (a.put (some t) v) w:=by
 have dW:∀k,k≠t->(a.put (some t) v).tmps.getD k undef=a.tmps.getD k undef:=λk hk=>by
  simp[Act.put,afb (afQ hk)]
 refine⟨by simp[Act.put,h.size],h.defers,(dW 0 (by omega)).trans h.t0,(dW 1 (by omega)).trans h.t1,(dW 3 (by omega)).trans h.t3,λp hp=>?_,h.st⟩;have:=afC.1 hex p hp;rw[dW p.1 (by simpa using this)];exact h.ex p hp
noncomputable def DX:af:=af.qb c151.qb.qa.qb.qb
noncomputable def qp:af:=af.qb c151.qb.qb.qb.qb.qb
theorem Bf(hG:au GI)(s:aq)(h:dJ s):sT prog GI 151 [.ref (ao s)] ((cL s).map aS):=by
 intro l C w Pr dH hJ hlen hr;obtain⟨cX,rfl⟩:∃cX,dH=#[cX]:=l4 (by simpa using hlen.symm);have LR:=hr 0 (by simp) (by simp);simp only[List.getElem_cons_zero,List.getElem_toArray]at LR;refine(lR (ro:=none) (m:=0)).1 (aha func151 rfl trivial ?_);refine eY (λa=>a.tmps.size=54/\a.defers=[]/\a.tmps.getD 0 undef=.func (.yield l) #[] #[]/\a.tmps.getD 1 undef=cX) ⟨by simp[ntmps151],rfl,bK _ _ 0 (by simp),bK _ _ 1 (by simp)⟩ ?_;rintro a ⟨bL,ea,e0,e1⟩
 have dW:∀(a:Act)(d t:Nat)(c:Value),t≠d->(a.put (some d) c).tmps.getD t undef=a.tmps.getD t undef:=λa d t c h=>by
  simp[Act.put,afb (afQ h)]
 have gP:∀(a:Act)(d:Nat)(c:Value),a.tmps.size=54->d<54->(a.put (some d) c).tmps.getD d undef=c:=λa d c h hd=>by
  simp[Act.put,h,hd]
 have ju:∀(a:Act)(d:Option Nat)(c:Value),(a.put d c).tmps.size=a.tmps.size:=λa d c=>by cases d<;>simp[Act.put]
 refine afc (afq ?_);show wpOpsIn _ _ _ _ _ [0,1] a w;refine aW rfl rfl (by rfl) (run_makeMap (t:=182) rfl) ?_
 obtain⟨bM,Jo⟩:∃b,w.heap.size=b:=⟨_,rfl⟩
 obtain⟨w1,jF⟩:∃w1,w.alloc (.map #[] 0)=w1:=⟨_,rfl⟩
 have s1:w1.heap.size=bM+1:=by rw[<-jF];simp[Jo]
 have n1:w1.heap[bM]?=some (.map #[] 0):=by rw[<-jF,<-Jo];exact afO w _
 have b1:Below w.heap.size w w1:=by rw[<-jF];exact(aga _ _).alloc (afg _) _
 show wpOpsIn _ _ _ _ _ [1] (a.put (some 7) (.map (some w.heap.size))) (w.alloc (.map #[] 0));rw[jF,Jo];have h7:(a.put (some 7) (.map (some bM))).eval (.tmp 7)=.map (some bM):=gP _ _ _ bL (by decide);refine aW rfl rfl (by rfl) (run_assign (x:=.tmp 7) w1 rfl) ?_;rw[h7];show Code.wpIn _ _ _ _ _ ((a.put (some 7) (.map (some bM))).put (some 3) (.map (some bM))) w1
 have vs:VS C s cX bM [] [] 0 ((a.put (some 7) (.map (some bM))).put (some 3) (.map (some bM))) w1:=by
  refine⟨by rw[ju,ju];exact bL,ea,by rw[dW _ _ _ _ (by decide),dW _ _ _ _ (by decide)];exact e0,by rw[dW _ _ _ _ (by decide),dW _ _ _ _ (by decide)];exact e1,gP _ _ _ (by rw[ju];exact bL) (by decide),λp hp=>(by cases hp),λb=>b=bM,Pr,C.c_ hJ (sB.qC b1) λb hb=>?_,λb hb=>?_,rfl,⟨#[],0,n1,rfl,λi hi=>(by simp at hi)⟩,?_⟩
  .exact⟨by omega,.inr (by omega)⟩
  .omega
  .exact(LR.j_ rfl).mono (bz.jV (λb h=>b1.block b h) λ_ _ _ h=>h)
 generalize(a.put (some 7) (.map (some bM))).put (some 3) (.map (some bM))=a1 at vs⊢;clear h7 e0 e1 ea bL n1 s1 b1 jF Jo hJ hr LR hlen a
 obtain⟨p,hp⟩:∃p:Nat,s.pos=p:=⟨s.pos.toNat,by have:=h.pos;omega⟩
 have TK:s.pos.toNat=p:=by omega
 have jb:=h.pos;have N4:=h.reach;have sM:=h.cells
 have Hq:gM s<=p:=by unfold gM;omega
 have nk:IntKind.i64.wrap (s.pos-s.reach)=s.pos-s.reach:=aN (by omega)
 have Su:max 0 (s.pos-s.reach)=(gM s:Int):=by unfold gM;omega
 have Wf:(if s.pos-s.reach<=0 then(0:Int)else s.pos-s.reach)=(gM s:Int):=by unfold gM;split<;>omega
 refine afc (afc ?_);refine vs.region hG (ac:=af.qa c151.qb.qa) (by kernel_rfl) (by kernel_rfl) (by kernel_rfl) [(4,.int .i64 (gM s))] rfl ?_ ?_
 .simp[c151,af.qa,af.qb,k_,List.lookup,ao,nk];exact Su
 clear vs;intro a w vs
 have K8:VS C s cX bM [(4,.int .i64 ((gM s:Nat):Int))] (jB s (gM s)) 0 a w:=by
  have:jB s (gM s)=[]:=by simp[jB]
  rw[this];exact vs
 clear vs;show Code.wpIn _ _ _ _ _ a w;refine af3 (ahq (λa w=>∃i,gM s<=i/\i<=p/\VS C s cX bM [(4,.int .i64 (i:Nat))] (jB s i) 0 a w) (λa _=>match a.tmps.getD 4 undef with|.int _ i=>p-i.toNat|_=>0) ⟨gM s,afg _,Hq,K8⟩ ?_);clear K8 a w;rintro a w ⟨i,RY,Ut,vs⟩;have h4:a.tmps.getD 4 undef=.int .i64 (i:Nat):=vs.int (by simp);refine afc (afc ?_);refine vs.region hG (ac:=af.qa DX.qa) (by kernel_rfl) (by kernel_rfl) (by kernel_rfl) [(4,.int .i64 (i:Nat)),(17,.bool (decide (i<p)))] rfl ?_ ?_
 .simp[c151,DX,af.qa,af.qb,k_,List.lookup,ao,hp]
 clear vs;intro a2 w2 vs;show Code.wpIn _ _ _ _ _ a2 w2;refine afF (t:=decide (i<p)) (vs.bool (by simp)) ?_
 by_cases aw:i<p
 case neg=>
  simp only[aw,agY,afj,afx];refine agT ?_
  have PZ:i=p:=by omega
  subst PZ;show Code.wpIn _ _ _ _ _ a2 w2;clear RY Ut h4 aw a w
  have Lw:jB s i=jB s s.pos.toNat:=by rw[TK]
  refine afc ?_;refine vs.region hG (ac:=af.qa c151.qb.qb) (by kernel_rfl) (by kernel_rfl) (by kernel_rfl) [(5,.int .i64 0)] rfl ?_ ?_
  .simp[c151,af.qa,af.qb,k_,List.lookup]
  clear vs;intro a w vs;show Code.wpIn _ _ _ _ _ a w;have OV:IntKind.i64.wrap ((s.cells.length:Int)+1)=s.cells.length+1:=aN (by omega);refine afc ?_;refine vs.region hG (ac:=af.qa c151.qb.qb.qb) (by kernel_rfl) (by kernel_rfl) (by kernel_rfl) [(5,.int .i64 ((0:Nat):Int)),(32,.int .i64 (s.cells.length+1)),(33,.int .i64 ((0:Nat):Int))] rfl ?_ ?_
  .simp[c151,af.qa,af.qb,k_,List.lookup,ao,OV]
  clear vs;intro a w vs;show Code.wpIn _ _ _ _ _ a w;refine af3 (ahq (λa w=>∃j,j<=s.cells.length+1/\VS C s cX bM [(5,.int .i64 ((bZ s j).1:Nat)),(32,.int .i64 (s.cells.length+1)),(33,.int .i64 (j:Nat))] (jB s i) (bZ s j).2.length a w) (λa _=>match a.tmps.getD 33 undef with|.int _ j=>s.cells.length+1-j.toNat|_=>0) ⟨0,afK _,vs⟩ ?_);clear vs a w;rintro a w ⟨j,hj,vs⟩;have T3:a.tmps.getD 33 undef=.int .i64 (j:Nat):=vs.int (by simp);refine afc ?_;refine vs.region hG (ac:=af.qa qp) (by kernel_rfl) (by kernel_rfl) (by kernel_rfl) [(5,.int .i64 ((bZ s j).1:Nat)),(32,.int .i64 (s.cells.length+1)),(33,.int .i64 (j:Nat)),(34,.bool (decide (j<s.cells.length+1)))] rfl ?_ ?_
  .simp[c151,qp,af.qa,af.qb,k_,List.lookup];omega
  clear vs;intro a3 w3 vs;show Code.wpIn _ _ _ _ _ a3 w3;refine afc (afF (t:=decide (j<s.cells.length+1)) (vs.bool (by simp)) ?_)
  by_cases lj:j<s.cells.length+1
  case neg=>
   simp only[lj,agY,afj,afx];refine agT ?_
   have wy:j=s.cells.length+1:=by omega
   subst wy
   change bodyPost prog f151 (λe w'=>∃v M fl,e=Ending.returned v/\(C.J (List.map aS (cL s)).length M fl w'\/C.X M fl w')) .normal a3 w3
   obtain⟨M,fl,fj,_⟩:=vs.st
   have hl:((cL s).map aS).length=(bZ s (s.cells.length+1)).2.length:=by simp[cL,dn,bZ]
   refine⟨vs.defers,.tuple #[],?_,.tuple #[],M,fl,rfl,.inl (by rw[hl];exact fj)⟩;simp[results,results151]
  simp only[lj,agZ,afH];refine af7 ?_;show Code.wpIn _ _ _ _ _ a3 w3;refine afc (ah4 (Q:=λe a w=>(e=.normal/\VS C s cX bM [(5,.int .i64 ((bZ s (j+1)).1:Nat)),(32,.int .i64 (s.cells.length+1)),(33,.int .i64 (j:Nat))] (jB s i) (bZ s (j+1)).2.length a w)\/(e=.ret/\a.defers=[]/\∃M Pr,C.X M Pr w)) ?_ ?_)
  .refine af3 ?_;refine afc ?_;refine vs.region hG (ac:=af.qa qp.qb.qb.qa.qb) (by kernel_rfl) (by kernel_rfl) (by kernel_rfl) [(5,.int .i64 ((bZ s j).1:Nat)),(32,.int .i64 (s.cells.length+1)),(33,.int .i64 (j:Nat)),(6,.int .i64 (j:Nat))] rfl ?_ ?_
   .simp[c151,qp,af.qa,af.qb,k_,List.lookup]
   clear vs;intro a4 w4 vs;show Code.wpIn _ _ _ _ _ a4 w4;refine afc (afc ?_);obtain⟨M,fl,fj,mO,hM,⟨es,clock,hm,he⟩,hx⟩:=vs.st
   refine iR hG (GI:=GI) (p:=2) (l2:=[2]) rfl (by kernel_rfl) (by kernel_rfl) (l:=(qp.qb.qb.qa.qb.qb.qa.qa.dl).take 2) (by kernel_rfl) (by decide) (W:=λt=>decide (36<=t)) (by kernel_rfl) (C.gi fj) (λb _=>b≠bM) (k_ l s bM [(5,.int .i64 ((bZ s j).1:Nat)),(32,.int .i64 (s.cells.length+1)),(33,.int .i64 (j:Nat)),(6,.int .i64 (j:Nat))]) vs.size vs.defers vs.eW
    (K:=λS _=>S 36=.val (xC bM)/\S 37=.int .i64 (j:Nat)) ?_ ?_
   .simp[c151,qp,af.qa,af.qb,af.dl,k_,List.lookup]
   intro g S' H' a5 w5 hg R1 ⟨Iq,OH⟩ bb
   have BE:Below w4.heap.size w4 w5:=by have:=R1.below;rwa [R1.base]at this
   have PK:a5.eval (.tmp 36)=.map (some bM):=by
    have:=R1.slot 36 (by decide) (λh=>h);rw[Iq]at this;exact this.eU
   have Po:a5.eval (.tmp 37)=.int .i64 (j:Nat):=nY R1 (by decide) OH;have xQ:=vs.bI 36 (by decide) BE R1.size (by rw[R1.defers,hg];rfl) (λt ht=>bb t (by simp;omega)) rfl;have Ri:w5.heap[bM]?=some (.map es clock):=(BE.block bM (mO bM hM)).trans hm
   have JP:prog.underlying 182=some (.map 3 4):=by kernel_rfl
   have Lo:prog.underlying 3=some (.int .i64):=by kernel_rfl
   obtain⟨i4,La,M5⟩:=af5.1 (show(prog.info? 4).bind (·.zero)=some (.bool false) by kernel_rfl);refine aW rfl rfl (by rfl) (v:=.bool (cM s j)) (w':=w5) ((Ho (t:=182) (x1:=.tmp 36) (x2:=.tmp 37) rfl JP Lo La M5 PK Po Ri he).trans (congrArg (λv=>Result.ok (Next.value v) w5) (by rw[Lw];exact BT s (by omega) j))) ?_;show Code.wpIn _ _ _ _ _ (a5.put (some 38) (.bool (cM s j))) w5;have wH:=xQ.put 38 (.bool (cM s j)) (by decide) rfl;have xH:(a5.put (some 38) (.bool (cM s j))).tmps.getD 38 undef=.bool (cM s j):=gP _ _ _ xQ.size (by decide);generalize a5.put (some 38) (.bool (cM s j))=a6 at wH xH⊢;clear vs xQ fj mO hM hm he hx M fl es clock BE R1 bb hg Iq OH PK Po Ri;refine afF (t:=cM s j) xH ?_
   cases PW:cM s j with
   |true=>
    simp only[afH]
    have hf:bZ s (j+1)=bZ s j:=by rw[jN];unfold cW;rw[if_pos PW]
    refine agT (.inl ⟨rfl,?_⟩);rw[hf]
    exact wH.sub λq hq=>by simp at hq⊢;rcases hq with rfl|rfl|rfl<;>simp
   |false=>
    simp only[afj,afx];refine af7 ?_;show Code.wpIn _ _ _ _ _ a6 w5;have si:=vL s j
    have hf:bZ s (j+1)=(j+1,if(bZ s j).1<j then(bZ s j).2++[((bZ s j).1,j-1)]else(bZ s j).2):=by
     rw[jN];unfold cW;rw[if_neg (by rw[PW];simp)]
    refine afc (ah4 (Q:=λe a w=>(e=.normal/\VS C s cX bM [(5,.int .i64 ((bZ s j).1:Nat)),(32,.int .i64 (s.cells.length+1)),(33,.int .i64 (j:Nat)),(6,.int .i64 (j:Nat))] (jB s i) (bZ s (j+1)).2.length a w)\/(e=.ret/\a.defers=[]/\∃M Pr,C.X M Pr w)) ?_ ?_)
    .refine afc ?_
     by_cases IS:(bZ s j).1<j
     case neg=>
      have D0:(bZ s (j+1)).2=(bZ s j).2:=by rw[hf];simp[IS]
      refine wH.region hG (ac:=af.qa qp.qb.qb.qa.qb.qb.qb.qa) (by kernel_rfl) (by kernel_rfl) (by kernel_rfl) [(5,.int .i64 ((bZ s j).1:Nat)),(32,.int .i64 (s.cells.length+1)),(33,.int .i64 (j:Nat)),(6,.int .i64 (j:Nat)),(50,.bool false)] rfl ?_ ?_
      .have:¬((bZ s j).1:Int)<j:=by omega
       simp[c151,qp,af.qa,af.qb,k_,List.lookup,IS]
      intro a7 w7 su;show Code.wpIn _ _ _ _ _ a7 w7;refine afF (t:=false) (su.bool (by simp)) ?_;simp only[afj,afx];refine af7 (.inl ⟨rfl,?_⟩);rw[D0]
      exact su.sub λq hq=>by simp at hq⊢;rcases hq with rfl|rfl|rfl|rfl<;>simp
     case pos=>
      have D0:(bZ s (j+1)).2=(bZ s j).2++[((bZ s j).1,j-1)]:=by rw[hf];simp[IS]
      obtain⟨M,fl,fj,mO,hM,⟨es,clock,hm,he⟩,hx⟩:=wH.st
      have KR:IntKind.i64.wrap ((j:Int)-1)=((j-1:Nat):Int):=by rw[aN (by omega)];omega
      have jL:((bZ s j).1:Int)<j:=by omega
      refine iR hG (GI:=GI) (p:=9) (l2:=[9,10,11]) rfl (by kernel_rfl) (by kernel_rfl) (l:=(qp.qb.qb.qa.qb.qb.qb.qa.qa.dl).take 9) (by kernel_rfl) (by decide) (W:=λt=>decide (39<=t)) (by kernel_rfl) (C.gi fj) (λb _=>b≠bM) (k_ l s bM [(5,.int .i64 ((bZ s j).1:Nat)),(32,.int .i64 (s.cells.length+1)),(33,.int .i64 (j:Nat)),(6,.int .i64 (j:Nat))]) wH.size wH.defers wH.eW
       (K:=λS _=>S 42=.bool true/\S 43=.val (.func (.yield l) #[] #[])/\S 47=.agg [.int .i64 ((bZ s j).1:Nat),.int .i64 ((j-1:Nat):Int)]) ?_ ?_
      .simp[c151,qp,af.qa,af.qb,af.dl,k_,List.lookup,IS,KR,bC]
      intro g S' H' a7 w7 hg R1 ⟨R_,GO,O6⟩ bb
      have Rq:Below w5.heap.size w5 w7:=by have:=R1.below;rwa [R1.base]at this
      have Li:a7.tmps.getD 42 undef=.bool true:=by
       have:=R1.slot 42 (by decide) (λh=>h);rw[R_]at this;exact this.dN
      have tY:a7.eval (.tmp 43)=.func (.yield l) #[] #[]:=by
       have:=R1.slot 43 (by decide) (λh=>h);rw[GO]at this;exact this.eU
      have VB:a7.eval (.tmp 47)=.agg #[.int .i64 ((bZ s j).1:Nat),.int .i64 ((j-1:Nat):Int)]:=by
       have:=R1.slot 47 (by decide) (λh=>h);rw[O6]at this;exact MD this
      have su:=wH.bI 39 (by decide) Rq R1.size (by rw[R1.defers,hg];rfl) (λt ht=>bb t (by simp;omega)) rfl;clear wH fj mO hM hm he hx M fl es clock Rq R1 bb hg R_ GO O6 xH;obtain⟨M,fl,fj,mO,hM,⟨es,clock,hm,he⟩,hx⟩:=su.st;have Lp:=su.size
      have Qt:a7.tmps[42]?=some (.bool true):=by
       have h2:a7.tmps[42]?=some (a7.tmps.getD 42 undef):=by simp[Lp]
       rw[h2,Li]
      obtain⟨tl,tr⟩:=tR s (s.cells.length+1-(j+1)) (j+1);rw[show j+1+(s.cells.length+1-(j+1))=s.cells.length+1 by omega,D0]at tr
      have pF:(cL s).map aS=((bZ s (s.cells.length+1)).2.map λv=>aS ((v.1:Int),(v.2:Int))):=by simp[cL,dn,bZ]
      have EJ:(bZ s j).2.length<((cL s).map aS).length:=by
       rw[pF,tr];simp
      have xw:((cL s).map aS)[(bZ s j).2.length]=aS (((bZ s j).1:Int),((j-1:Nat):Int)):=by
       have:((cL s).map aS)[(bZ s j).2.length]?=some (aS (((bZ s j).1:Int),((j-1:Nat):Int))):=by
        rw[pF,tr];simp
       rw[ae9 EJ]at this;exact afo this
      have jX:RD (λb j=>fl b j\/((λ_=>False) b/\j<(λ_=>0) b)) w7 ((cL s).map aS)[(bZ s j).2.length] (a7.eval (.tmp 47)):=by
       rw[xw,VB];refine .agg _ _ rfl (λi hi=>?_) (λi hi gq=>?_)
       .match i,hi with
        |0,_|1,_=>rfl
       .match i,hi with
        |0,_|1,_=>exact .int _ _
      obtain⟨ff,tmps,Jl,bd,A_,vV⟩:=C.round EJ (λ_=>False) (λ_=>0) _ fj (λb hb=>hb.elim) jX;refine xL rfl (by simp[Region.wanted,yielded,JL,Qt]) (by rfl) ((lW (f:=.tmp 43) (x:=.tmp 47) w7 rfl rfl rfl tY).trans A_) vV ?_;rintro e w8 ⟨I7,U4,JZ,mZ⟩
      have Nd:(bZ s (j+1)).2.length=(bZ s j).2.length+1:=by rw[D0];simp
      obtain⟨b,rfl,hT,hF⟩:∃b:Bool,e=.returned (.bool b)/\(b=true->VS C s cX bM [(5,.int .i64 ((bZ s j).1:Nat)),(32,.int .i64 (s.cells.length+1)),(33,.int .i64 (j:Nat)),(6,.int .i64 (j:Nat))] (jB s i) (bZ s (j+1)).2.length a7 w8)/\(b=false->∃M Pr,C.X M Pr w8):=by
       rcases mZ with⟨rfl,WD⟩|⟨rfl,VE⟩
       .refine⟨true,rfl,λ_=>?_,λh=>(by cases h)⟩
        have C4:∀b,M b->w8.heap[b]?=w7.heap[b]?:=λb hb=>I7 b hb (λh=>h)
        refine⟨su.size,su.defers,su.t0,su.t1,su.t3,λq hq=>?_,λb=>M b/\¬(λ_=>False) b,U4,by rw[Nd];exact WD,λb hb=>?_,⟨hM,λh=>h⟩,⟨es,clock,(C4 bM hM).trans hm,he⟩,hx.mono JZ⟩
        .obtain⟨q1,q2,q3⟩:=su.ex q hq;exact⟨q1,q2,q3.jA q2⟩
        .have h1:=C4 b hb.1;rw[agQ (mO b hb.1)]at h1;exact(afe.1 h1).1
       .exact⟨false,rfl,λh=>(by cases h),λ_=>⟨_,_,VE⟩⟩
      refine⟨_,rfl,?_⟩;show wpOpsIn _ _ _ _ _ [10,11] (a7.put (some 48) (.bool b)) w8
      have z8:(a7.put (some 48) (.bool b)).tmps.size=54:=by rw[ju];exact Lp
      have UJ:(a7.put (some 48) (.bool b)).eval (.tmp 48)=.bool b:=gP _ _ _ Lp (by decide)
      have Vm:(a7.put (some 48) (.bool b)).tmps[42]?=some (.bool true):=by
       have h2:(a7.put (some 48) (.bool b)).tmps[42]?=some ((a7.put (some 48) (.bool b)).tmps.getD 42 undef):=by simp[z8]
       rw[h2,dW _ _ _ _ (by decide),Li]
      refine KW rfl (by simp[Region.wanted,yielded,JL,Vm]) (by rfl) (DZ (x:=.tmp 48) rfl UJ) ?_;show wpOpsIn _ _ _ _ _ [11] ((a7.put (some 48) (.bool b)).put (some 49) (.bool !b)) w8;have Wj:((a7.put (some 48) (.bool b)).put (some 49) (.bool !b)).eval (.tmp 49)=.bool !b:=gP _ _ _ z8 (by decide)
      have SC:((a7.put (some 48) (.bool b)).put (some 49) (.bool !b)).eval (.tmp 42)=.bool true:=by
       show Array.getD _ _ _=_;rw[dW _ _ _ _ (by decide),dW _ _ _ _ (by decide),Li]
      have z9:((a7.put (some 48) (.bool b)).put (some 49) (.bool !b)).tmps.size=54:=by rw[ju];exact z8
      have Vg:∀o:Oper,o.op=.pick (.tmp 42) (.tmp 49) (.const (.bool false))->(execOp ((a7.put (some 48) (.bool b)).put (some 49) (.bool !b)).eval o).run prog w8=.ok (.value (.bool !b)) w8:=by
       intro o ho;unfold execOp;simp[ho,SC,Wj,asBool]
      refine aW rfl rfl (by rfl) (Vg _ rfl) ?_;show Code.wpIn _ _ _ _ _ (((a7.put (some 48) (.bool b)).put (some 49) (.bool !b)).put (some 50) (.bool !b)) w8;refine afF (t:=!b) (gP _ _ _ z9 (by decide)) ?_
      cases b with
      |true=>
       simp only[Bool.not_true,afj,afx];exact af7 (.inl ⟨rfl,(((hT rfl).put 48 _ (by decide) rfl).put 49 _ (by decide) rfl).put 50 _ (by decide) rfl⟩)
      |false=>
       simp only[ah1,afH];exact agK (.inr ⟨rfl,su.defers,hF rfl⟩)
    .rintro e a w (⟨rfl,vs⟩|⟨rfl,hd,M,fl,hX⟩)
     .show Code.wpIn _ _ _ _ _ a w
      refine vs.region hG (ac:=af.qb qp.qb.qb.qa.qb.qb.qb) (by kernel_rfl) (by kernel_rfl) (by kernel_rfl) [(5,.int .i64 ((bZ s (j+1)).1:Nat)),(32,.int .i64 (s.cells.length+1)),(33,.int .i64 (j:Nat))] rfl ?_ λa w vs=>.inl ⟨rfl,vs⟩
      have hw:IntKind.i64.wrap ((j:Int)+1)=j+1:=aN (by omega);simp[c151,qp,af.qa,af.qb,k_,List.lookup,hw,hf]
     .exact .inr ⟨rfl,hd,M,fl,hX⟩
  .rintro e a w (⟨rfl,vs⟩|⟨rfl,hd,M,fl,hX⟩)
   .show Code.wpIn _ _ _ _ _ a w;refine vs.region hG (ac:=af.qb qp.qb.qb) (by kernel_rfl) (by kernel_rfl) (by kernel_rfl) [(5,.int .i64 ((bZ s (j+1)).1:Nat)),(32,.int .i64 (s.cells.length+1)),(33,.int .i64 ((j+1:Nat):Int))] rfl ?_ ?_
    .have hw:IntKind.i64.wrap ((j:Int)+1)=j+1:=aN (by omega);simp[c151,qp,af.qa,af.qb,k_,List.lookup,hw]
    intro a5 w5 xQ;have SH:a5.tmps.getD 33 undef=.int .i64 ((j+1:Nat):Int):=xQ.int (by simp);refine⟨⟨j+1,by omega,xQ⟩,?_⟩;simp only[SH,T3];simp;omega
   .change bodyPost prog f151 (λe w'=>∃v M fl,e=Ending.returned v/\(C.J (List.map aS (cL s)).length M fl w'\/C.X M fl w')) .ret a w
    refine⟨hd,.tuple #[],?_,.tuple #[],M,fl,rfl,.inr hX⟩;simp[results,results151]
 case pos=>
  simp only[aw,agZ,afH];refine af7 ?_;show Code.wpIn _ _ _ _ _ a2 w2
  have QE:i<s.cells.length:=by omega
  have Rn:mc s i=s.cells[i].hid:=by unfold mc;rw[ae9 QE]
  refine afc (af3 ?_);obtain⟨M,Pr,hj,mO,hM,⟨es,clock,hm,he⟩,hx⟩:=vs.st
  refine iR hG (GI:=GI) (p:=9) (l2:=[9]) rfl (by kernel_rfl) (by kernel_rfl) (l:=(DX.qb.qa.qb.dl).take 9) (by kernel_rfl) (by decide) (W:=W4) (by kernel_rfl) (C.gi hj) (λb _=>b≠bM) (k_ l s bM [(4,.int .i64 (i:Nat)),(17,.bool (decide (i<p)))]) vs.size vs.defers vs.eW
   (K:=λS _=>S 20=.val (xC bM)/\S 21=.int .i64 (i:Nat)/\S 28=.bool (!mc s i)/\S 4=.int .i64 (i:Nat)) ?_ ?_
  .simp[c151,DX,af.qa,af.qb,af.dl,k_,List.lookup,ao,QE,Rn,gy]
  intro g S' H' a3 w3 hg R1 ⟨E8,Ez,yC,q4⟩ bb
  have mm:Below w2.heap.size w2 w3:=by have:=R1.below;rwa [R1.base]at this
  have Iy:a3.eval (.tmp 20)=.map (some bM):=by
   have:=R1.slot 20 (by decide) (λh=>h);rw[E8]at this;exact this.eU
  have Ou:a3.eval (.tmp 21)=.int .i64 (i:Nat):=nY R1 (by decide) Ez
  have pk:a3.eval (.tmp 28)=.bool (!mc s i):=by
   have:=R1.slot 28 (by decide) (λh=>h);rw[yC]at this;exact this.dN
  have e4:a3.tmps.getD 4 undef=.int .i64 (i:Nat):=nY R1 (by decide) q4
  have A':VS C s cX bM [(4,.int .i64 (i:Nat))] (jB s i) 0 a3 w3:=vs.grow mm R1.size (by rw[R1.defers,hg];rfl) (λt ht=>bb t (by simp[W4];omega)) λq hq=>by
   rw[afs]at hq;subst hq;exact⟨afg _,rfl,by rw[e4];exact .int _ _⟩
  clear vs hj mO hM hm he hx M Pr es clock mm R1 bb hg E8 Ez yC q4;obtain⟨M,Pr,hj,mO,hM,⟨es,clock,hm,he⟩,hx⟩:=A'.st
  have JP:prog.underlying 182=some (.map 3 4):=by kernel_rfl
  have Lo:prog.underlying 3=some (.int .i64):=by kernel_rfl
  refine dk rfl rfl (by rfl) (Hj (t:=182) (x1:=.tmp 20) (x2:=.tmp 21) (x3:=.tmp 28) rfl JP Lo Iy Ou hm he (DB s)) ?_;rw[pk]
  obtain⟨w4,jz⟩:∃w4,w3.putObj bM (.map (es.push { key:=.int .i64 (i:Nat),val:=.bool (!mc s i),born:=clock }) (clock+1))=w4:=⟨_,rfl⟩
  show Code.wpIn _ _ _ _ _ a3 (w3.putObj bM (.map (es.push { key:=.int .i64 (i:Nat),val:=.bool (!mc s i),born:=clock }) (clock+1)));rw[jz];have Re:=mO bM hM
  have l3:w4.heap[bM]?=some (.map (es.push { key:=.int .i64 (i:Nat),val:=.bool (!mc s i),born:=clock }) (clock+1)):=by rw[<-jz];exact aic Re
  have wa:sB M w3 w4:=by
   rw[<-jz];exact⟨rfl,rfl,rfl,by simp[World.putObj],λb _ hb=>aia (by rintro rfl;exact hb hM)⟩
  have vP:w4.heap.size=w3.heap.size:=by rw[<-jz];simp[World.putObj]
  have UL:VS C s cX bM [(4,.int .i64 (i:Nat))] (jB s (i+1)) 0 a3 w4:=by
   refine⟨A'.size,A'.defers,A'.t0,A'.t1,A'.t3,λq hq=>?_,M,Pr,C.c_ hj wa λb hb=>⟨by rw[vP];exact mO b hb,.inl hb⟩,λb hb=>by rw[vP];exact mO b hb,hM,⟨_,_,l3,?_⟩,hx.mono (bz.pX λb k _ hp=>wa.block b ?_ ?_)⟩
   .obtain⟨q1,q2,q3⟩:=A'.ex q hq;exact⟨q1,q2,q3.jA q2⟩
   .rw[BW s RY];exact he.push (i:Int) (.bool (!mc s i)) clock
   .assumption
   .intro VW;exact C.apart hj _ k VW hp
  refine UL.region hG (ac:=af.qb DX.qb) (by kernel_rfl) (by kernel_rfl) (by kernel_rfl) [(4,.int .i64 ((i+1:Nat):Int))] rfl ?_ ?_
  .have hw:IntKind.i64.wrap ((i:Int)+1)=i+1:=aN (by omega);simp[c151,DX,af.qa,af.qb,k_,List.lookup,hw]
  intro a5 w5 xQ;have EF:a5.tmps.getD 4 undef=.int .i64 ((i+1:Nat):Int):=xQ.int (by simp);refine⟨⟨i+1,by omega,by omega,xQ⟩,?_⟩;simp only[EF,h4];simp;omega
end Go.Proofs.Tryz
namespace Go.Proofs.Tryz
open Go Go.AL Go.RowKit Go.Proofs Go.Proofs.Tram
attribute [local simp] dh eE dY dv dK dj di cQ cT dL cP ct fF fE aD aL ev aT.S aT.H bu av aY AL.start AV.cells AV.storable AV.cg bo cE dI ck HR.okB post cw cH cI AV.out AV.bU b_ df fz iA AV.vw du vI int cG aP cV db fQ iu fV eG da AV.aI AV.cm
variable{GI:World->Prop}
theorem Gb(hG:au GI)(l:List Int)(hl:l.length<100000)(h:∀x∈l,0<=x/\x<=1000):AC prog GI 102 [vI l] (.ret (.int .i64 l.sum)):=by
 refine bP hG func102 ntmps102 c102 ?_;simp[c102];refine bq 8 l.length (λi S H=>S 6=vI l/\S 7=.int .i64 l.length/\S 8=.int .i64 (i:Nat)/\S 3=.int .i64 (l.take i).sum) (λi S H h=>h.2.2.1) ⟨by simp,by simp,by simp,by simp⟩ ?_;rintro i hi S H ⟨s6,s7,s8,s3⟩
 by_cases aw:i<l.length
 .have hb:=mI (l:=l.take i) λx hx=>h x (afV hx)
  have hx:=h l[i] (ae_ aw);rw[afJ]at hb;have hw:IntKind.i64.wrap ((i:Int)+1)=i+1:=aN (by omega);have fL:IntKind.i64.wrap ((l.take i).sum+l[i])=(l.take i).sum+l[i]:=aN (by omega);rw[vS aw];generalize(l.take i).sum=y at s3 fL⊢;simp[s6,s7,s8,s3,aw,hw,fL]
 .have cD:i=l.length:=by omega
  subst cD;rw[afS]at s3;simp[s6,s7,s8,s3]
def dz(l:List Int)(i:Nat):Int:=l.getD i 0
theorem vq(l:List Int){a b:Nat}(oD:a<=b)(hb:b<=l.length):((l.take b).drop a).sum=fG (dz l) a b:=by
 unfold fG
 congr 1
 apply ahW;intro i;rw[afG]
 by_cases hi:i<b-a
 .rw[ahA,agR (by omega),ae9 (by omega),ae9 (by simpa using hi)];simp[dz,afA,show a+i<l.length by omega]
 .rw[afn (by simp;omega),afn (by simp;omega)]
  rfl
theorem E6(hG:au GI)(s:aq):AC prog GI 90 [a_ s] (.ret (.func (.func 151) [] [.ref (ao s)])):=by
 refine AC.De hG cC func90 rfl ntmps90 (by simp) (ac:=c90) (by kernel_rfl) ?_;simp[c90,a_,ao,ae,bO,bj,aD,bf,aL,cV,ev,aT.S,aT.H,av,aY,AL.start,AV.aI,AV.cells,AV.storable,cE,sy,bu,vI];refine⟨2,.func 151,[],[.box 1 0],rfl,by decide,by simp[av],?_⟩;simp[av,fz,iA,AV.cm]
def FM:af:=.ops [⟨(some 6),none,.alloc 26 [(.int .i64 0),(.int .i64 0)]⟩,⟨none,none,.store .any 2 (.t 6) (.t 11)⟩]
def F9 : af := .block 1 <| .seq (.ops [⟨(some 12), none, .load .any false 1 (.t 3)⟩,
    ⟨(some 13),none,.fieldAddr 0 (.t 6)⟩,
    ⟨(some 14),none,.load .any false 1 (.t 13)⟩,
    ⟨(some 15),none,.fieldAddr 1 (.t 6)⟩,
    ⟨(some 16),none,.load .any false 1 (.t 15)⟩,
    ⟨(some 17),none,.bin .add (.t 16) (.c (.int .i64 1))⟩,
    ⟨(some 18),none,.qz 1 (.t 12) (some (.t 14)) (some (.t 17))⟩,
    ⟨(some 19),none,.call 102 [(.t 18)]⟩,
    ⟨(some 7),none,.mv true (.t 19)⟩])<|
  .block 2<|.loop<|
   .seq (.seq (.ops [⟨(some 20),none,.load .any false 1 (.t 5)⟩,
     ⟨(some 21),none,.fieldAddr 15 (.t 2)⟩,
     ⟨(some 22),none,.load .any false 1 (.t 21)⟩,
     ⟨(some 23),none,.lO (.t 22)⟩,
     ⟨(some 24),none,.bin .lss (.t 20) (.t 23)⟩,
     ⟨(some 25),none,.mv false (.t 24)⟩,
     ⟨(some 26),(some (25,true)),.fieldAddr 15 (.t 2)⟩,
     ⟨(some 27),(some (25,true)),.load .any false 1 (.t 26)⟩,
     ⟨(some 28),(some (25,true)),.load .any false 1 (.t 5)⟩,
     ⟨(some 29),(some (25,true)),.indexAddr 1 (.t 27) (.t 28)⟩,
     ⟨(some 30),(some (25,true)),.load .any false 1 (.t 29)⟩,
     ⟨(some 31),(some (25,true)),.mv false (.t 7)⟩,
     ⟨(some 32),(some (25,true)),.bin .leq (.t 30) (.t 31)⟩,
     ⟨(some 33),none,.pick (.t 25) (.t 32) (.c (.bool false))⟩])<|
   .cond (.t 33)
    (.skip)
    (.exit 2))<|
   .block 3 <| .seq (.ops [⟨(some 34),none,.mv false (.t 7)⟩,
      ⟨(some 35),none,.fieldAddr 15 (.t 2)⟩,
      ⟨(some 36),none,.load .any false 1 (.t 35)⟩,
      ⟨(some 37),none,.load .any false 1 (.t 5)⟩,
      ⟨(some 38),none,.indexAddr 1 (.t 36) (.t 37)⟩,
      ⟨(some 39),none,.load .any false 1 (.t 38)⟩,
      ⟨(some 40),none,.bin .sub (.t 34) (.t 39)⟩,
      ⟨(some 7),none,.mv true (.t 40)⟩])<|
    .ops [⟨(some 41),none,.load .any false 1 (.t 5)⟩,
      ⟨(some 42),none,.bin .add (.t 41) (.c (.int .i64 1))⟩,
      ⟨none,none,.store .any 1 (.t 5) (.t 42)⟩]
def CR:af :=
   .seq (.seq (.ops [⟨(some 20),none,.load .any false 1 (.t 5)⟩,
     ⟨(some 21),none,.fieldAddr 15 (.t 2)⟩,
     ⟨(some 22),none,.load .any false 1 (.t 21)⟩,
     ⟨(some 23),none,.lO (.t 22)⟩,
     ⟨(some 24),none,.bin .lss (.t 20) (.t 23)⟩,
     ⟨(some 25),none,.mv false (.t 24)⟩,
     ⟨(some 26),(some (25,true)),.fieldAddr 15 (.t 2)⟩,
     ⟨(some 27),(some (25,true)),.load .any false 1 (.t 26)⟩,
     ⟨(some 28),(some (25,true)),.load .any false 1 (.t 5)⟩,
     ⟨(some 29),(some (25,true)),.indexAddr 1 (.t 27) (.t 28)⟩,
     ⟨(some 30),(some (25,true)),.load .any false 1 (.t 29)⟩,
     ⟨(some 31),(some (25,true)),.mv false (.t 7)⟩,
     ⟨(some 32),(some (25,true)),.bin .leq (.t 30) (.t 31)⟩,
     ⟨(some 33),none,.pick (.t 25) (.t 32) (.c (.bool false))⟩])<|
   .cond (.t 33)
    (.skip)
    (.exit 2))<|
   .block 3 <| .seq (.ops [⟨(some 34),none,.mv false (.t 7)⟩,
      ⟨(some 35),none,.fieldAddr 15 (.t 2)⟩,
      ⟨(some 36),none,.load .any false 1 (.t 35)⟩,
      ⟨(some 37),none,.load .any false 1 (.t 5)⟩,
      ⟨(some 38),none,.indexAddr 1 (.t 36) (.t 37)⟩,
      ⟨(some 39),none,.load .any false 1 (.t 38)⟩,
      ⟨(some 40),none,.bin .sub (.t 34) (.t 39)⟩,
      ⟨(some 7),none,.mv true (.t 40)⟩])<|
    .ops [⟨(some 41),none,.load .any false 1 (.t 5)⟩,
      ⟨(some 42),none,.bin .add (.t 41) (.c (.int .i64 1))⟩,
      ⟨none,none,.store .any 1 (.t 5) (.t 42)⟩]
theorem Jd {s:aq} {an:List Int} {n nC:Nat} {T:Int} (hn:∀ x∈an,0≤x∧x≤1000) (A0:an.length≤1000) (G_:n≤an.length) (hT:0≤T∧T≤100000) (sW:(cy (an.drop n) T).1=nC) {S:aF} {H:aK} {x3:AV} {Q:ft→aF→aK→Prop}
  (s2:S 2=.box 2 0) (h2:H 2=some (aX s an)) (h3:H 3=some [x3]) (s5:S 5=.box 5 0) (h5:H 5=some [.int .i64 (n:Nat)]) (s7:S 7=.int .i64 T)
  (hQ:∀S H,H 2=some (aX s an)->H 3=some [x3]->H 5=some [.int .i64 ((n+nC:Nat):Int)]->Q (.exit 2) S H):bO prog GI (.loop CR) Q S H:=by
 have tr:nC<=an.length-n:=by rw[<-sW];have:=mP (an.drop n) T;simpa using this
 refine⟨λS H=>∃m:Nat,m<=nC/\S 2=.box 2 0/\H 2=some (aX s an)/\H 3=some [x3]/\S 5=.box 5 0/\H 5=some [.int .i64 ((n+m:Nat):Int)]/\S 7=.int .i64 (T-((an.drop n).take m).sum)/\T-((an.drop n).take m).sum<=T/\0<=T-((an.drop n).take m).sum,
  λS H=>match H 5 with|some [.int _ j]=>(an.length-j).toNat|_=>0,⟨0,afK _,s2,h2,h3,s5,h5,by simpa using s7,by simp,by simpa using hT.1⟩,?_⟩
 clear h5 h3 h2 s2 s5 s7 S H;rintro S H ⟨m,hm,s2,h2,h3,s5,h5,s7,tj,ig⟩;have jo:=nQ (an.drop n) T m (by omega);rw[agV]at jo
 have yN:nC=m+(cy (an.drop (n+m)) (T-((an.drop n).take m).sum)).1:=by
  rw[<-sW,jo]
 obtain⟨left,Hf⟩:∃left,T-((an.drop n).take m).sum=left:=⟨_,rfl⟩
 rw[Hf]at yN s7 tj ig
 have NJ:H 5=some [.int .i64 ((n:Int)+m)]:=by rw[h5];simp
 by_cases zW:n+m<an.length
 case neg=>
  have CF:(cy (an.drop (n+m)) left).1=0:=by
   have:=mP (an.drop (n+m)) left;simp at this;omega
  have Bq:¬((n:Int)+m<an.length):=by omega
  have Hc:nC=m:=by omega
  subst Hc;have hq:=hQ;simp[CR,aX,ao,ae,s2,h2,h3,s5,h5,s7,zW,Bq];refine hq _ _ ?_ ?_ ?_
  .rw[h2]
  .rw[h3]
  .rw[h5]
 have hd:an.drop (n+m)=an[n+m]::an.drop (n+m+1):=ags zW;have hx:=hn an[n+m] (ae_ zW)
 have Bq:(n:Int)+m<an.length:=by omega
 have wv:(0:Int)<=(n:Int)+m:=by omega
 have EP:((n:Int)+m).toNat=n+m:=by omega
 by_cases hle:an[n+m]<=left
 case neg=>
  have CF:(cy (an.drop (n+m)) left).1=0:=by rw[hd,cy,if_neg hle]
  have Hc:nC=m:=by omega
  subst Hc;simp[CR,aX,ao,ae,s2,h2,h3,s5,h5,s7,zW,Bq,wv,EP,hle];refine hQ _ _ ?_ ?_ ?_
  .rw[h2]
  .rw[h3]
  .rw[h5]
 case pos=>
  have Ee:m+1<=nC:=by rw[hd,cy,if_pos hle]at yN;omega
  have jF:IntKind.i64.wrap (left-an[n+m])=left-an[n+m]:=aN (by omega);have fL:IntKind.i64.wrap ((n:Int)+m+1)=n+m+1:=aN (by omega)
  have Hi:T-((an.drop n).take (m+1)).sum=left-an[n+m]:=by
   rw[afd (by simp;omega),af8];simp;omega
  simp[CR,aX,ao,ae,s2,h2,h3,s5,h5,s7,zW,Bq,wv,EP,hle,jF,fL];refine⟨⟨m+1,Ee,by omega,by rw[Hi],by omega,by omega⟩,by omega⟩
def nT(s:aq)(an aZ:List Int)(k:Nat):Nat:=dq an (dz aZ) ((dn (cM s) s.cells.length).take k)
theorem FT (hG:au GI) (s:aq) (h:dJ s) (an:List Int) (hn:∀ x∈an,0≤x∧x≤1000) (A0:an.length≤1000) (aZ:List Int) (hr:aZ.length=s.cells.length) (mY:∀ x∈aZ,0≤x∧x≤1000) :
  AC prog GI 92 [cb s an,vI aZ] (.ret (.int .i64 (dq an (dz aZ) (dn (cM s) s.cells.length)))):=by
 have sM:=h.cells
 refine AC.gY func92 rfl ntmps92 (by simp) λcc w=>?_
 refine dw hG c92.qa (λS' H'=>S' 2=.box 2 0/\H' 2=some (aX s an)/\S' 3=.box 3 0/\H' 3=some [vI aZ]) ?_ ?_
 .simp[c92,af.qa,cb,aX,ao,ae]
 rintro S1 H1 ⟨s2,h2,s3,h3⟩;refine dw hG c92.qb.qa (λS' H'=>S' 2=.box 2 0/\H' 2=some (aX s an)/\S' 3=.box 3 0/\H' 3=some [vI aZ]/\S' 5=.box 5 0/\H' 5=some [.int .i64 0]) ?_ ?_
 .simp[c92,af.qa,af.qb,aX,ao,ae,s2,h2,s3,h3]
  try rfl
 clear s2 h2 s3 h3;rintro S2 H2 ⟨s2,h2,s3,h3,s5,h5⟩;refine SW.seq (dw hG c92.qb.qb.qa.qa (λS' H'=>S' 2=.box 2 0/\H' 2=some (aX s an)/\S' 3=.box 3 0/\H' 3=some [vI aZ]/\S' 5=.box 5 0/\H' 5=some [.int .i64 0]/\S' 10=.func (.func 151) [] [.ref (ao s)]) ?_ ?_)
 .simp[c92,af.qa,af.qb,aX,ao,ae,s2,h2,s3,h3,s5,h5];refine oc (E6 hG s) ?_;simp[s2,h2,s3,h3,s5,h5,aX,ao,ae]
  try rfl
 clear s2 h2 s3 h3 s5 h5;rintro S3 H3 ⟨s2,h2,s3,h3,s5,h5,bw⟩
 have vi:yw (λd=>d==6) (S3 2)=.box 2 0:=by rw[s2];rfl
 have P4:yw (λd=>d==6) (S3 3)=.box 3 0:=by rw[s3];rfl
 have jJ:yw (λd=>d==6) (S3 5)=.box 5 0:=by rw[s5];rfl
 refine SW.block (SW.range hG cC (OA:=.tmp 10) (y:=.t 10) (p:=11) (f:=151) (caps:=[.ref (ao s)]) (xs:=(cL s).map aS) rfl bw (by kernel_rfl) rfl (Bf hG s h) (by decide) (λx hx=>by obtain⟨e,_,rfl⟩:=afp.1 hx;rfl)
  (λd=>d==6) (aa:=FM) (ab:=F9) (by kernel_rfl) (by kernel_rfl) (by simp[FM,af.names,fw.l5,nj.l5]) (by simp[F9,af.names,fw.l5,nj.l5]) (λ_ _ h=>h) (by kernel_rfl) (by kernel_rfl)
  (λk H'=>H' 2=some (aX s an)/\H' 3=some [vI aZ]/\H' 5=some [.int .i64 (nT s an aZ k:Nat)]) (λ_ _=>False) ⟨h2,h3,by rw[h5];rfl⟩ ?_ ?_ ?_)
 .rintro k hk H' ⟨h2,h3,h5⟩
  have ee:k<(dn (cM s) s.cells.length).length:=by simpa[cL]using hk
  obtain⟨f,t,CB⟩:∃f t,(dn (cM s) s.cells.length)[k]=(f,t):=⟨_,_,rfl⟩
  have xw:((cL s).map aS)[k]=.agg [.int .i64 (f:Nat),.int .i64 (t:Nat)]:=by simp[cL,CB,aS]
  have nO:cM s s.cells.length=false:=by
   have:=h.pos;unfold cM
   have:¬s.cells.length<s.pos.toNat:=by omega
   simp[this]
  have eK:=(sf nO).1 (f,t) (by rw[<-CB];exact ae_ ee);simp only at eK;obtain⟨Yn,XY⟩:=eK;have hw:IntKind.i64.wrap ((t:Int)+1)=t+1:=aN (by omega);have rT:=vq aZ (a:=f) (b:=t+1) (by omega) (by omega);have iN:=Gb hG ((aZ.take (t+1)).drop f) (by simp;omega) (λx hx=>mY x (afV (agC hx)));have P2:=mI (l:=(aZ.take (t+1)).drop f) (λx hx=>mY x (afV (agC hx)))
  have hTl:((aZ.take (t+1)).drop f).length<=12:=by simp;omega
  have jD:nT s an aZ (k+1)=nT s an aZ k+(cy (an.drop (nT s an aZ k)) (fG (dz aZ) f (t+1))).1:=by
   unfold nT;rw[afd ee,CB,kq]
  rw[<-rT]at jD;have G_:nT s an aZ k<=an.length:=o9 _ _ _;rw[xw];generalize hTT:((aZ.take (t+1)).drop f).sum=T at iN P2 jD;generalize nT s an aZ k=n at jD G_ h5
  have i1:((t:Int)+1).toNat=t+1:=by omega
  have i2:t+1<=aZ.length:=by omega
  have i3:f<=t+1:=by omega
  have j1:(f:Int)<=(t:Int)+1:=by omega
  have j2:(t:Int)+1<=aZ.length:=by omega
  have Dk:List.drop f (List.take (t+1) (ints aZ))=ints (List.drop f (List.take (t+1) aZ)):=by simp[ints,ah0,ahV]
  have dM:aM 1 (ints aZ)=true:=jS _;simp[FM,F9,aX,ao,ae,vi,h2,P4,h3,jJ,h5,hw,i1,i2,i3,j1,j2,bound,Dk,dM];refine oc iN ?_;simp[aX,ao,ae,vi,h2,P4,h3,jJ,h5]
  obtain⟨nC,sW⟩:∃nC,(cy (an.drop n) T).1=nC:=⟨_,rfl⟩
  rw[sW]at jD
  have tr:nC<=an.length-n:=by rw[<-sW];have:=mP (an.drop n) T;simpa using this
  refine Jd (s:=s) (x3:=vI aZ) hn A0 G_ ⟨P2.1,by omega⟩ sW (by simp[vi]) (by simp[av,h2]) (by simp[av,h3]) (by simp[jJ]) (by simp[av,h5]) (by simp[av]) ?_;intro S H q2 q3 q5;simp only[db,afH,pP];refine⟨?_,?_,?_⟩
  .rw[q2];rfl
  .rw[q3];rfl
  .rw[q5,jD]
 .rintro D H' hD ⟨h2,h3,h5⟩;show SW prog GI 44 none (.seq _ .ret) _ _ _ _
  have ly:nT s an aZ ((cL s).map aS).length=dq an (dz aZ) (dn (cM s) s.cells.length):=by
   unfold nT;rw[afh (by simp[cL])]
  rw[ly]at h5;refine dw hG c92.qb.qb.qb.qa (λS' _=>S' 4=.int .i64 (dq an (dz aZ) (dn (cM s) s.cells.length))) ?_ ?_
  .simp[c92,af.qa,af.qb,jJ,h5]
  intro S4 H4 s4;refine SW.ret ⟨(eD.plain rfl).mark hD,rfl,_,?_,rfl⟩;show cw prog 44 [.tmp 4] S4 H4=_;simp[cw,cH,cI,s4,AV.bU,AV.out]
  try rfl
 .exact λ_ _ _ _ _ h=>h.elim
def wY(l:List End):AV:=.slice (if l.isEmpty then .nil else .own 26) (l.map aS)
def ki(l:List End):AV:=.slice (if l.isEmpty then .nil else .view) (l.map aS)
def xO(s:aq):AV:=.func (.func 151) [] [.ref (ao s)]
noncomputable def xr:af:=.ops [⟨some 5,none,.alloc 26 [(.int .i64 0),(.int .i64 0)]⟩,⟨none,none,.store .any 2 (.t 5) (.t 7)⟩]
noncomputable def wM:af:=.block 1<|.ops [⟨some 8,none,.loadT .any (.t 2)⟩,⟨some 9,none,.load .any true 2 (.t 5)⟩,⟨some 10,none,.buildSlice 48 26 2 [.t 9]⟩,⟨some 11,none,.append 48 26 2 16 (.t 8) (.t 10)⟩,⟨none,none,.store .any 1 (.t 2) (.t 11)⟩]
theorem M7 (hG:au GI) (s:aq) {ps:List End} (hlen:ps.length≤1000000) (hit:sT prog GI 151 [.ref (ao s)] (ps.map aS)) :
  AC prog GI 150 [.slice .nil [],xO s] (.ret (ki ps)):=by
 refine AC.gY func150 rfl ntmps150 (by simp) λcc w=>?_
 refine dw hG c150.qa (λS' H'=>S' 1=xO s/\S' 2=.box 2 0/\H' 2=some [.slice .nil []]) ?_ ?_
 .simp[c150,xO,af.qa,bO,bj,aD,bf,aL,ev,aT.S,aT.H,av,aY,AL.start,AV.aI,AV.cells,AV.storable,cE,sy,bu,vI,aS,aP]
 rintro S1 H1 ⟨s1,s2,h2⟩;refine SW.seq (dw hG c150.qb.qa.qa (λS' H'=>S' 2=.box 2 0/\S' 6=xO s/\H' 2=some [.slice .nil []]) ?_ ?_)
 .simp[c150,xO,af.qa,af.qb,bO,bj,aD,bf,aL,ev,aT.S,aT.H,av,aY,s2,h2,aP,AV.aI]
  rw[s1]<;>rfl
 rintro S3 H3 ⟨s2,s6,h2⟩
 refine SW.block (SW.range hG cC (OA:=.tmp 6) (y:=.t 6) (p:=7) (f:=151) (caps:=[.ref (ao s)]) (xs:=ps.map aS) rfl s6 (by kernel_rfl) rfl hit (by decide) (λx hx=>by obtain⟨e,_,rfl⟩:=afp.1 hx;rfl)
  (λd=>d==5) (aa:=xr) (ab:=wM)
  (by kernel_rfl) (by kernel_rfl) (by simp[xr,af.names,fw.l5,nj.l5]) (by simp[wM,af.names,fw.l5,nj.l5]) (λ_ _ h=>h) (by kernel_rfl) (by kernel_rfl)
  (λk H'=>H' 2=some [wY (ps.take k)]) (λ_ _=>False) h2 ?_ ?_ ?_)
 .rintro k hk H' h2
  have ee:k<ps.length:=by simpa using hk
  have xw:(ps.map aS)[k]=aS ps[k]:=by simp
  have ly:ps.take (k+1)=ps.take k++[ps[k]]:=by rw[afd ee]
  have vi:yw (λd=>d==5) (S3 2)=.box 2 0:=by rw[s2]<;>rfl
  rw[xw,ly]
  have hL:(List.take k ps).length<=1000000:=by simp;omega
  generalize List.take k ps=L at hL h2⊢
  cases L with
  |nil=>simp[xr,wM,vi,h2,aS,pP,wY,aM,HR.okB,bo]
  |cons x L=>
   have pB:L.length+1+1<1048576:=by simp at hL;omega
   have eK:aM 2 (aS x::L.map aS)=true:=by simp[aM,vI,aS,AV.storable,AV.cells]
   simp[xr,wM,vi,h2,aS,pP,wY,aM,HR.okB,bo,pB]
 .rintro D H' hD h2;show SW prog GI 13 none (.seq _ .ret) _ _ _ _
  have vi:yw (λd=>d==5) (S3 2)=.box 2 0:=by rw[s2]<;>rfl
  have ly:List.take (ps.map aS).length ps=ps:=afh (by simp);rw[ly]at h2;refine dw hG c150.qb.qb.qa (λS' _=>S' 4=ki ps) ?_ ?_
  .cases ps<;>simp[c150,af.qa,af.qb,bO,bj,aD,bf,aL,ev,aT.S,aT.H,av,aY,ck,vi,h2,HR.okB,aP,wY,ki,AV.aI,bu]
  intro S4 H4 s4;refine SW.ret ⟨(eD.plain rfl).mark hD,rfl,_,?_,rfl⟩;show cw prog 13 [.tmp 4] S4 H4=_;simp[cw,cH,cI,s4,ki,AV.bU,AV.out]
 .exact λ_ _ _ _ _ h=>h.elim
theorem KC(hG:au GI)(s:aq){ps:List End}(hlen:ps.length<=1000000)(hit:sT prog GI 151 [.ref (ao s)] (ps.map aS)):AC prog GI 89 [xO s] (.ret (ki ps)):=by
 refine AC.gY func89 rfl ntmps89 (by simp) λcc w=>?_
 refine dw hG c89.qa (λS' H'=>S' 0=xO s) ?_ ?_
 .simp[c89,xO,af.qa,bO,bj,aD,bf,aL,ev,aT.S,aT.H,av,aY,AL.start,AV.aI,aP,bu]
 intro S1 H1 s0
 refine SW.seq (SW.hand hG (p:=1) (lm:=[1]) (l2:=[2]) (kY:=[_]) (oh:=[_]) (lJ:=[_]) rfl rfl rfl rfl (by kernel_rfl) (λ_ h=>h)
  (lM:=(c89.qb.qa.dl).take 1) (kP:=(c89.qb.qa.dl).drop 2) (by kernel_rfl) (by kernel_rfl) (by kernel_rfl) (by kernel_rfl)
  (K1:=λS _=>S 3=xO s) (K2:=λo S _=>o=Old.plain cc w/\S 4=ki ps) (K3:=λo S _=>o=Old.plain cc w/\S 2=ki ps) ?_ ?_ ?_ ?_)
 .simp[c89,af.qa,af.qb,af.dl,bj,aD,bf,aL,aT.S,aT.H,ev,av,aY]
  rw[s0]<;>rfl
 .rintro w0 g S2 H2 a w' m dS ho R s3;have r3:=R.slot 3 (by decide) id;rw[s3]at r3
  refine eS rfl rfl (by rfl) (fU (k:=150) (args:=#[.slice none 0 0,a.tmps.getD 3 undef]) w' rfl rfl ?_ (by kernel_rfl)) (M7 hG s hlen hit w' (fy g false) #[.slice none 0 0,a.tmps.getD 3 undef] (hG w0 w' dS (by have:=R.below;rwa [R.base]at this)) rfl (λi h h'=>by
   match i,h with
   |0,_=>exact .data _ _ (.qw _)
   |1,_=>exact(r3.cd rfl).mono (bz.same λb k _ hp=>.inl hp) λ_ _ h=>h)) ?_
  .simp only[afw,afv,afB,Act.eval]
  rintro e w2 ⟨ig,hi,pS,c,rfl,Ci,h_⟩;refine⟨_,rfl,?_⟩;obtain⟨g',q1,q2,R'⟩:=R.call (some 4) (λt ht=>by cases ht;exact⟨by decide,id⟩) false ig pS Ci h_ (λh=>by cases h);exact⟨g',_,_,R',q2.trans ho,bm _ _ _⟩
 .rintro o S2 H2 ⟨rfl,s4⟩;refine⟨λ_ h=>h,?_⟩
  cases ps<;>simp[c89,af.qa,af.qb,af.dl,bj,aD,bf,aL,aT.S,aT.H,ev,av,aY,s4,ki,bu]
 .rintro o S2 H2 ⟨rfl,s2⟩;refine SW.ret ⟨eD.plain rfl,rfl,_,?_,rfl⟩;show cw prog 5 [.tmp 2] S2 H2=_;simp[cw,cH,cI,s2,ki,AV.bU,AV.out]
theorem tU(s:aq):∀i,(bZ s i).2.length<=i
 |0=>afg _
 |i+1=>by
  have ih:=tU s i;rw[jN];unfold cW;split
  .omega
  .simp only;split
   .simp;omega
   .omega
theorem q'(s:aq):(cL s).length<=s.cells.length+1:=by
 have:=tU s (s.cells.length+1);simpa[cL,dn,bZ]using this
def vr(s:aq):List AV:=if cq s then[.slice .view (aH (cL s)),.int .i64 0]else[.slice .view [],.int .i64 2]
theorem OC(hG:au GI)(s:aq)(hs:er s):AC prog GI 27 [a_ s] (.ret (.d_ (vr s))):=by
 have jW:=mK hG s hs;unfold vr
 cases hI:cq s with
 |false=>
  rw[hI]at jW;refine bP hG func27 ntmps27 c27 ?_;simp[c27,a_,ao,ae];refine oc jW ?_;simp
 |true=>
  rw[hI]at jW;have hg:=eo hI;have Ax:=E6 hG s;have mF:=KC hG s (ps:=cL s) (by have:=q' s;have:=hg.cells;omega) (Bf hG s hg);have mF:=AC.g_ (o:=if(cL s).isEmpty then .nil else .view) mF;refine bP hG func27 ntmps27 c27 ?_;simp[c27,a_,ao,ae];refine oc jW ?_;simp;refine oc Ax ?_;simp;refine⟨_,by kernel_rfl,mF,by simp[du,sx],?_⟩;simp[aH]
theorem Nc(hG:au GI)(a b:End):AC prog GI 106 [aS a,aS b] (.ret (.bool (decide (a.2<b.2)))):=by
 refine bP hG func106 ntmps106 c106 ?_;simp[c106,aS]
def ik(x:End)(l:List End):End:=l.foldl (λo y=>if y.2<o.2 then y else o) x
theorem yf(x:End)(l:List End){i:Nat}(h:i<l.length):ik x (l.take (i+1))=if l[i].2<(ik x (l.take i)).2 then l[i]else ik x (l.take i):=by
 unfold ik;rw[agS,ae9 h,afy]
 rfl
theorem Mo(hG:au GI)(x:End)(l:List End)(hl:l.length<1000000):AC prog GI 105 [.slice .view (aH (x::l)),.func (.func 106) [] []] (.ret (aS (ik x l))):=by
 obtain⟨iT,Ld,Lb⟩:=bh (P:=prog) (t:=132) (s:=2) (by kernel_rfl);obtain⟨fs,eQ⟩:=bV (P:=prog) (t:=132) (by kernel_rfl);have eK:aM 2 (aH (x::l))=true:=nA (x::l);refine bP hG func105 ntmps105 c105 ?_;refine az (λS H=>S 0=.slice .view (aH (x::l))/\S 1=.func (.func 106) [] []/\S 4=.box 4 0/\H 4=some [.int .i64 0,.int .i64 0]) (by simp) ?_;rintro S H ⟨s0,s1,s4,h4⟩;refine az (λS H=>S 0=.slice .view (aH (x::l))/\S 1=.func (.func 106) [] []/\S 4=.box 4 0/\H 4=some [.int .i64 0,.int .i64 0]/\S 5=.box 5 0/\H 5=some [.int .i64 x.1,.int .i64 x.2]) (by simp[s0,s1,s4,h4,aH,aS,bC]) ?_;clear s0 s1 s4 h4 S H;rintro S H ⟨s0,s1,s4,h4,s5,h5⟩
 have hd:(aH (x::l)).drop 1=aH l:=by simp[aH]
 have hlen:(aH (x::l)).length=l.length+1:=by simp[aH]
 have EE:(1:Int)<=(l.length:Int)+1:=by omega
 have ly:List.take (l.length+1) (aH (x::l))=aH (x::l):=afh (by omega);generalize aH (x::l)=L at s0 hd hlen ly eK
 have LO:((l.length:Int)+1).toNat=l.length+1:=by omega
 simp[bound,s0,s1,s4,h4,s5,h5,hd,hlen,EE,ly,eK,LO];refine bq 14 l.length (λi S H=>S 1=.func (.func 106) [] []/\S 4=.box 4 0/\H 4=some [.int .i64 0,.int .i64 0]/\S 5=.box 5 0/\H 5=some [.int .i64 (ik x (l.take i)).1,.int .i64 (ik x (l.take i)).2]/\S 12=.slice .view (aH l)/\S 13=.int .i64 l.length/\S 14=.int .i64 (i:Nat)) (λi S H h=>h.2.2.2.2.2.2.2) ⟨by simp[s1],by simp[s4],by simp[h4],by simp[s5],by simp[h5,ik],by simp,by simp[aH],by simp⟩ ?_;clear s0 s1 s4 h4 s5 h5 S H;rintro i hi S H ⟨s1,s4,h4,s5,h5,bJ,b0,cU⟩
 by_cases aw:i<l.length
 .have hw:IntKind.i64.wrap ((i:Int)+1)=i+1:=aN (by omega)
  have hn:¬(i:Int)<0:=by omega
  have hs:=yf x l aw;have Kp:=Nc hG l[i] (ik x (l.take i))
  generalize ik x (l.take i)=o at*
  by_cases hc:l[i].2<o.2
  .rw[if_pos hc]at hs;rw[hs];simp[s1,s4,h4,s5,h5,bJ,b0,cU,aw,hn,aH,aS,bC];refine oc Kp ?_;simp[s1,s4,h4,s5,h5,bJ,b0,cU,hc,hw,aH,aS]
  .rw[if_neg hc]at hs;rw[hs]
   have oy:o.2<=l[i].2:=by omega
   simp[s1,s4,h4,s5,h5,bJ,b0,cU,aw,hn,aH,aS,bC];refine oc Kp ?_;simp[s1,s4,h4,s5,h5,bJ,b0,cU,hc,oy,hw,aH,aS]
 .have cD:i=l.length:=by omega
  subst cD;rw[afS]at h5;simp[s1,s4,h4,s5,h5,bJ,b0,cU,Ld,Lb,eQ,fg,aS]
theorem D1{a:Act}{w:World}{o:Oper}{x:Operand}{t ty:TypeId}{n:Nat}(ho:o.op=.binOp .shr t x (.const (.int .u64 1)) ty)(hx:a.eval x=.int .u64 (n:Nat)):(execOp a.eval o).run prog w=.ok (.value (.int .u64 ((n/2:Nat):Int))) w:=by
 unfold execOp;have hc:a.eval (.const (.int .u64 1))=.int .u64 1:=rfl
 have hf:((n:Int)).fdiv 2=((n/2:Nat):Int):=by
  rw[Int.fdiv_eq_ediv_of_nonneg _ (by decide)];omega
 simp[ho,hx,hc,Go.binOp,Op.shift,eqGuard,IntKind.bits,hf]
theorem G3{x:Int}(h:0<=x/\x<1000000000):IntKind.u64.wrap x=x:=by
 unfold IntKind.wrap;simp[IntKind.bits,IntKind.signed];omega
noncomputable def jZ:af:=af.qb c103.qb.qb.qa.qb
theorem NM (hG:au GI) {n:Nat} (hn:n < 100000) (k:Nat) (u v x:List AV) (hk:dZ prog k=true) {p:Nat→Bool} (hm:∀ x y,x≤y→p x=true→p y=true) (h:∀ y:Nat,y < n→AC prog GI k [.int .i64 (y:Nat),.ref u,.ref v,.ref x] (.ret (.bool (p y)))) {m:Nat} (hl:kN p n m) :
  AC prog GI 103 [.int .i64 (n:Nat),.func (.func k) [] [.ref u,.ref v,.ref x]] (.ret (.int .i64 (m:Nat))):=by
 refine AC.gY func103 rfl ntmps103 (by simp) λcc w=>?_
 refine dw hG c103.qa (λS H=>S 0=.int .i64 (n:Nat)/\S 1=.func (.func k) [] [.ref u,.ref v,.ref x]) ?_ ?_
 .simp[c103,af.qa]
 rintro S1 H1 ⟨s0,s1⟩;refine dw hG c103.qb.qa (λS H=>S 1=.func (.func k) [] [.ref u,.ref v,.ref x]/\S 5=.int .i64 ((0:Nat):Int)/\S 6=.int .i64 (n:Nat)) ?_ ?_
 .simp[c103,af.qa,af.qb,s0,s1]
 clear s0 s1;rintro S2 H2 ⟨s1,s5,s6⟩;show SW prog GI 26 none (.seq (.block 0 (.loop _)) (.seq _ .ret)) _ _ _ _;refine SW.seq (SW.block (SW.loop (λo S H=>∃i j:Nat,o=Old.plain cc w/\i<=j/\j<=n/\(∀y,y<i->p y=false)/\(∀y,j<=y->y<n->p y=true)/\S 1=.func (.func k) [] [.ref u,.ref v,.ref x]/\S 5=.int .i64 (i:Nat)/\S 6=.int .i64 (j:Nat)) (λS _=>match S 5,S 6 with|.int _ i,.int _ j=>(j-i).toNat|_,_=>0) ⟨0,n,rfl,afK _,afg _,λy hy=>absurd hy (by omega),λy h1 h2=>absurd h1 (by omega),s1,s5,s6⟩ ?_));clear s1 s5 s6;rintro o S3 H3 ⟨i,j,rfl,oP,HA,EG,Lg,s1,s5,s6⟩;have m5:=s5;have m6:=s6;show SW prog GI 26 none (.seq (.seq _ (.cond _ _ _)) (.block 1 (.seq _ (.seq _ (.cond _ _ _))))) _ _ _ _;refine SW.seq (dw hG jZ.qa.qa (λS H=>S 1=.func (.func k) [] [.ref u,.ref v,.ref x]/\S 5=.int .i64 (i:Nat)/\S 6=.int .i64 (j:Nat)/\S 11=.bool (decide (i<j))) ?_ ?_)
 .simp[c103,jZ,af.qa,af.qb,s1,s5,s6]
 clear s1 s5 s6;rintro S4 H4 ⟨s1,s5,s6,bn⟩
 by_cases aw:i<j
 case neg=>
  refine SW.cond rfl false (by show S4 11=_;rw[bn];simp[aw]) (SW.exit ?_)
  have lg:i=j:=by omega
  subst lg;have Vo:i=m:=kN.unique (k:=n) (p:=p) ⟨HA,EG,λh=>Lg i (afg _) h⟩ hl;subst Vo;show SW prog GI 26 none (.seq _ .ret) _ _ _ _;refine dw hG c103.qb.qb.qb.qa (λS H=>S 4=.int .i64 (i:Nat)) ?_ ?_
  .simp[c103,af.qa,af.qb,s5]
  intro S5 H5 s4;refine SW.ret ⟨eD.plain rfl,rfl,_,?_,rfl⟩;show cw prog 26 [.tmp 4] S5 H5=_;simp[cw,cH,cI,s4,AV.bU,AV.out]
 refine SW.cond rfl true (by show S4 11=_;rw[bn];simp[aw]) (SW.skip ?_);show SW prog GI 26 none (.block 1 (.seq _ (.seq _ (.cond _ _ _)))) _ _ _ _;obtain⟨g1,g2,g3⟩:=ID hm aw EG
 obtain⟨q,hq⟩:∃q,(i+j)/2=q:=⟨_,rfl⟩
 rw[hq]at g1 g2 g3
 have jF:IntKind.i64.wrap ((i:Int)+j)=((i+j:Nat):Int):=by rw[aN (by omega)];omega
 have fL:IntKind.u64.wrap ((i+j:Nat):Int)=((i+j:Nat):Int):=G3 (by omega)
 have Pj:IntKind.u64.wrap ((i:Int)+j)=((i+j:Nat):Int):=by rw[G3 (by omega)];omega
 have mq:IntKind.i64.wrap (q:Nat)=(q:Nat):=aN (by omega)
 refine SW.block (SW.seq (SW.hand hG (p:=4) (lm:=[4]) (l2:=[5,6]) (kY:=[_,_,_,_]) (oh:=[_]) (lJ:=[_,_]) rfl rfl rfl rfl (by kernel_rfl) (λ_ h=>h)
  (lM:=(jZ.qb.qb.qa.dl).take 4) (kP:=(jZ.qb.qb.qa.dl).drop 5) (by kernel_rfl) (by kernel_rfl) (by kernel_rfl) (by kernel_rfl)
  (K1:=λS H=>S 1=.func (.func k) [] [.ref u,.ref v,.ref x]/\S 5=.int .i64 (i:Nat)/\S 6=.int .i64 (j:Nat)/\S 15=.int .u64 ((i+j:Nat):Int))
  (K2:=λo S H=>o=Old.plain cc w/\S 1=.func (.func k) [] [.ref u,.ref v,.ref x]/\S 5=.int .i64 (i:Nat)/\S 6=.int .i64 (j:Nat)/\S 16=.int .u64 (q:Nat))
  (K3:=λo S H=>o=Old.plain cc w/\S 1=.func (.func k) [] [.ref u,.ref v,.ref x]/\S 5=.int .i64 (i:Nat)/\S 6=.int .i64 (j:Nat)/\S 7=.int .i64 (q:Nat)) ?_ ?_ ?_ ?_))
 .simp[c103,jZ,af.qa,af.qb,af.dl,s1,s5,s6,jF,fL,Pj]
 .rintro w0 g S5 H5 a w' m dS ho R ⟨s1,s5,s6,fq⟩
  have xm:a.eval (.tmp 15)=.int .u64 ((i+j:Nat):Int):=by
   have t15:=R.slot 15 (by decide) (λh=>h);rw[fq]at t15;exact t15.int_eq
  refine aW rfl rfl (by rfl) (D1 rfl xm) ?_;rw[hq];exact⟨_,_,_,R.put 16 (.int .u64 (q:Nat)) _ (by decide) (.data _ _ (.int _ _)) trivial,ho,by simp[av,s1],by simp[av,s5],by simp[av,s6],by simp[av]⟩
 .rintro o S5 H5 ⟨rfl,s1,s5,s6,dR⟩;refine⟨λ_ h=>h,?_⟩;simp[c103,jZ,af.qa,af.qb,af.dl,s1,s5,s6,dR,mq]
 clear s1 s5 s6 bn;rintro o S5 H5 ⟨rfl,s1,s5,s6,s7⟩;show SW prog GI 26 none (.seq _ (.cond _ _ _)) _ _ _ _;have hc:=h q (by omega);refine dw hG jZ.qb.qb.qb.qa (λS H=>S 1=.func (.func k) [] [.ref u,.ref v,.ref x]/\S 5=.int .i64 (i:Nat)/\S 6=.int .i64 (j:Nat)/\S 7=.int .i64 (q:Nat)/\S 21=.bool (!p q)) ?_ ?_
 .simp[c103,jZ,af.qa,af.qb,s1,s5,s6,s7];refine⟨_,hk,hc,by simp[du,sx],?_⟩;simp[s1,s5,s6,s7]
 clear s1 s5 s6 s7;rintro S6 H6 ⟨s1,s5,s6,s7,i_⟩
 cases hp:p q with
 |true=>
  refine SW.cond rfl false (by show S6 21=_;rw[i_,hp]<;>rfl) ?_;refine SW.last hG cC (by kernel_rfl) (ac:=af.qb jZ.qb.qb.qb.qb) (by kernel_rfl) (λ_ _ h=>h) (λS H=>S 1=.func (.func k) [] [.ref u,.ref v,.ref x]/\S 5=.int .i64 (i:Nat)/\S 6=.int .i64 (q:Nat)) ?_ ?_
  .simp[c103,jZ,af.qa,af.qb,s1,s5,s6,s7]
  rintro S7 H7 ⟨s1,s5,s6⟩;refine⟨⟨i,q,rfl,g1,by omega,EG,λy A_ Z_=>hm q y A_ hp,s1,s5,s6⟩,?_⟩;show(match S7 5,S7 6 with|.int _ i,.int _ j=>(j-i).toNat|_,_=>0)<(match S3 5,S3 6 with|.int _ i,.int _ j=>(j-i).toNat|_,_=>0);rw[s5,s6,m5,m6];simp only;omega
 |false=>
  refine SW.cond rfl true (by show S6 21=_;rw[i_,hp]<;>rfl) ?_
  have jz:IntKind.i64.wrap ((q:Int)+1)=((q+1:Nat):Int):=by rw[aN (by omega)];omega
  refine SW.last hG cC (by kernel_rfl) (ac:=af.qa jZ.qb.qb.qb.qb) (by kernel_rfl) (λ_ _ h=>h) (λS H=>S 1=.func (.func k) [] [.ref u,.ref v,.ref x]/\S 5=.int .i64 ((q+1:Nat):Int)/\S 6=.int .i64 (j:Nat)) ?_ ?_
  .simp[c103,jZ,af.qa,af.qb,s1,s5,s6,s7,jz]
  rintro S7 H7 ⟨s1,s5,s6⟩;refine⟨⟨q+1,j,rfl,by omega,HA,g3 hp,Lg,s1,s5,s6⟩,?_⟩;show(match S7 5,S7 6 with|.int _ i,.int _ j=>(j-i).toNat|_,_=>0)<(match S3 5,S3 6 with|.int _ i,.int _ j=>(j-i).toNat|_,_=>0);rw[s5,s6,m5,m6];simp only;omega
end Go.Proofs.Tryz
namespace Go.Proofs.Tryz
open Go Go.AL Go.RowKit Go.Proofs Go.Proofs.Tram
variable{GI:World->Prop}
theorem ml(a:Act)(d:Nat)(c c':Value):(a.put (some d) c).put (some d) c'=a.put (some d) c':=by
 simp[Act.put]
theorem IM(s:aq):(AV.agg (ao s)).vw=.agg (ao s):=by simp[AV.vw,ao,ae,AV.cm,vI]
theorem Ab{Pr:Nat->Nat->Prop}{w:World}{n:Int}{c:Value}(h:RD Pr w (ll n) c):c=.iface 192 (.agg #[.int .i64 n]):=by
 unfold ll at h
 cases h with
 |iface _ _ c h=>
  cases h with
  |agg _ vs hl h1 hr=>
   obtain⟨u,rfl⟩:=l4 (vs:=vs) (by rw[<-hl];rfl);have:=hr 0 (by simp) (by simp);have:=(RV.data (al:=cd) _ _ this).int_eq;simp only[List.getElem_toArray,List.getElem_cons_zero]at this;rw[this]
section
variable{w0:World}{n:Nat}{g:Gh}{S:aF}{H:aK}{a:Act}{w:World}{d i2 i6:Nat}{s:aq}{z:List AV}
theorem mT (hG:au GI) (dS:GI w0) (R:Rel prog w0 n dU g S H a w) (hd:d < n) (p8:i2 < n) (vk:i6 < n) (vl:d≠i6)
  (oB:S i2=.box i2 0) (pq:H i2=some (ao s)) (vb:S i6=.box i6 0) (wS:H i6=some z) {R':Ending->World->Prop}
  (h:∀(c1:Value)(g1:Gh),g1.old=g.old->Rel prog w0 n dU g1 (av S d (.agg (ao s))) H (a.put (some d) c1) w->GI w->RV (fy g1 false) (λ_=>none) w (a_ s) c1->∀(b6:Nat),a.tmps.getD i6 undef=.pointer (some ⟨b6,0,none⟩)->
   ∃RR:Ending->World->Prop,Calls prog 108 #[c1] w RR/\∀en w2,RR en w2->match en with
    |.returned v=>∀ (aC:Act) (o:Oper),aC.eval (.tmp 1) = .pointer (some ⟨b6,0,none⟩)→aC.eval (.tmp 3)=v→o.op = .store 102 (.tmp 1) (.tmp 3) →
      ∃w3,((execOp aC.eval o).run prog w2=.ok .skip w3\/∃u,(execOp aC.eval o).run prog w2=.ok (.value u) w3)/\R' (.returned (.tuple #[])) w3
    |.panicked ch=>R' (.panicked ch) w2
    |.outgrown=>False):
  Calls prog 135 #[a.tmps.getD i2 undef,a.tmps.getD i6 undef] w R':=by
 obtain⟨b2,kP,e2⟩:=iW R p8 oB;obtain⟨b6,al6,e6⟩:=iW R vk vb;have bL:=R.size;have AN:=R.below;rw[R.base]at AN;have fR:GI w:=hG w0 w dS AN;obtain⟨i40,RQ,PA⟩:=bh (P:=prog) (t:=31) (s:=15) (by kernel_rfl);obtain⟨fs,eQ⟩:=bV (P:=prog) (t:=31) (by kernel_rfl)
 have kc:aL S H (.load .any (fg (.struct fs)) i40.size (.t i2))=some { v:=.agg (ao s) }:=by
  simp[aL,ev,oB,pq,HR.okB,PA,fg,ck,ao,ae,AV.aI,vI]
 obtain ⟨c1,w1,g1,eh,Hg,nq,R1⟩:=JN R (o:={ dst:=some d,op := .load 31 (.tmp i2),type:=0,pos := "",after := #[],guard:=none }) (x := .tmp i2) (y := .t i2) rfl (λt ht=>by cases ht;exact ⟨hd,id⟩) RQ eQ (by simp [lQ,p8]) (λ_ _=>id) kc
 have jF:w1=w:=by
  rcases eh with eh|⟨eh,_⟩
  .exact(me (P:=prog) (by rfl) eh).1
  .obtain⟨_,v,hv⟩:=me (P:=prog) (by rfl) eh;cases hv
 subst jF
 have LV:(execOp a.eval { dst:=some d,op := .load 31 (.tmp i2),type:=0,pos := "",after := #[],guard:=none }).run prog w1 = .ok (.value c1) w1:=by
  rcases eh with eh|⟨eh,_⟩
  .exact eh
  .obtain⟨_,v,hv⟩:=me (P:=prog) (by rfl) eh;cases hv
 have KY:Rel prog w0 n dU g1 (av S d (.agg (ao s))) H (a.put (some d) c1) w1:=R1
 have Si:∀(a:Act)(d:Nat)(c:Value),d<a.tmps.size->(a.put (some d) c).tmps.getD d undef=c:=λa d c h=>by
  simp[Act.put,h]
 have yL:RV (fy g1 false) (λ_=>none) w1 (a_ s) c1:=by
  have h1:=KY.slot d hd id;rw[bm,Si a d c1 (by omega)]at h1;have:=KY.iA h1 false (by simp[sx]);have e:Go.AL.iA H (.agg (ao s))=.agg (ao s):=IM s;rw[e]at this;exact this
 obtain⟨RR,iN,Vw⟩:=h c1 g1 nq KY fR yL b6 e6;rw[e2,e6];refine ahm func135 rfl ?_;refine(ez (m:=0)).1 ?_;refine eY (λa=>a.tmps.size=4/\a.defers=[]/\a.tmps.getD 0 undef=.pointer (some ⟨b2,0,none⟩)/\a.tmps.getD 1 undef=.pointer (some ⟨b6,0,none⟩)) ⟨by simp[ntmps135],rfl,bK _ _ 0 (by simp),bK _ _ 1 (by simp)⟩ ?_;rintro aC ⟨zC,dC,t0,t1⟩
 have gP:∀(a:Act)(d:Nat)(c:Value),a.tmps.size=4->d<4->(a.put (some d) c).tmps.getD d undef=c:=λa d c h hd=>by
  simp[Act.put,h,hd]
 have dW:∀(a:Act)(d t:Nat)(c:Value),t≠d->(a.put (some d) c).tmps.getD t undef=a.tmps.getD t undef:=λa d t c h=>by
  simp[Act.put,afb (afQ h)]
 refine afq ?_;show wpOpsIn _ _ _ _ _ [0,1,2] aC w1
 have KT:∀o:Oper,o.op=.load 31 (.tmp 0)->(execOp aC.eval o).run prog w1=.ok (.value c1) w1:=by
  intro o ho;have h1:aC.eval (.tmp 0)=a.eval (.tmp i2):=t0.trans e2.symm;rw[<-LV];unfold execOp;simp only[ho,h1]
 refine aW rfl rfl (by rfl) (KT _ rfl) ?_;show wpOpsIn _ _ _ _ _ [1,2] (aC.put (some 2) c1) w1;refine rk rfl rfl (by rfl) (fU (k:=108) (args:=#[c1]) w1 rfl rfl ?_ (by kernel_rfl)) iN ?_
 .simp only[afw,afv,afB];show #[(aC.put (some 2) c1).tmps.getD 2 undef]=_;rw[gP _ _ _ zC (by decide)]
 rintro en w2 IF;have:=Vw en w2 IF
 cases en with
 |returned v=>
  show wpOpsIn _ _ _ _ _ [2] ((aC.put (some 2) c1).put (some 3) v) w2
  obtain ⟨w3,TX,Ey⟩:=this ((aC.put (some 2) c1).put (some 3) v) { dst:=none,op := .store 102 (.tmp 1) (.tmp 3),type:=0,pos := "",after := #[],guard:=none }
   (by show((aC.put (some 2) c1).put (some 3) v).tmps.getD 1 undef=_;rw[dW _ _ _ _ (by decide),dW _ _ _ _ (by decide)];exact t1)
   (by show((aC.put (some 2) c1).put (some 3) v).tmps.getD 3 undef=_;exact gP _ _ _ (by simpa[Act.put]using zC) (by decide)) rfl
  have fin:∀u:Value,((aC.put (some 2) c1).put (some 3) v).defers=[]/\∃v',(results f135 ((aC.put (some 2) c1).put (some 3) v).tmps).run prog w3=.ok v' w3/\R' (.returned v') w3:=λu=>⟨dC,.tuple #[],by simp[results,results135],Ey⟩
  have kR:∀ o:Oper,o.op = .store 102 (.tmp 1) (.tmp 3)->(execOp ((aC.put (some 2) c1).put (some 3) v).eval o).run prog w2=(execOp ((aC.put (some 2) c1).put (some 3) v).eval { dst:=none,op := .store 102 (.tmp 1) (.tmp 3),type:=0,pos := "",after := #[],guard:=none }).run prog w2:=by
   intro o ho;unfold execOp;simp only[ho]
  rcases TX with hr|⟨u,hr⟩
  .exact dk rfl rfl (by rfl) ((kR _ rfl).trans hr) (fin undef)
  .exact aW rfl rfl (by rfl) ((kR _ rfl).trans hr) (fin u)
 |panicked ch=>exact⟨dC,this⟩
 |outgrown=>exact this.elim
theorem D9 (hG:au GI) (dS:GI w0) (R:Rel prog w0 n dU g S H a w) (hd:d < n) (p8:i2 < n) (vk:i6 < n) (vl:d≠i6)
  (oB:S i2=.box i2 0) (pq:H i2=some (ao s)) (vb:S i6=.box i6 0) (wS:H i6=some z) (hz:z.length=16) {ns:List Int} (mF:AC prog GI 108 [a_ s] (.ret (cb s ns))):
  Calls prog 135 #[a.tmps.getD i2 undef,a.tmps.getD i6 undef] w λe w2=>e=.returned (.tuple #[])/\∃(c:Value)(g':Gh)(S':aF)(H':aK),g'.old=g.old/\Rel prog w0 n dU g' S' H' (a.put (some d) c) w2/\(∀t,t≠d->S' t=S t)/\H'=av H i6 (some (aX s ns)):=by
 refine mT hG dS R hd p8 vk vl oB pq vb wS λc1 g1 jq R1 fR yL b6 e6=>?_
 refine⟨_,mF w (fy g1 false) #[c1] fR rfl (λi h h'=>by
  match i,h with
  |0,_=>exact yL),?_⟩
 rintro en w2 ⟨ig,hi,pS,c,rfl,Ci,h_⟩;intro aC o q1 q3 ho;obtain⟨g',Hg,nq,R2⟩:=R1.call (some d) (λt ht=>by cases ht;exact⟨hd,id⟩) false ig pS Ci h_ (λh=>by cases h);rw[ml]at R2
 have Ip:∀t,t≠d->aY (av S d (.agg (ao s))) (some d) (cb s ns) t=S t:=λt ht=>by simp[AL.aY,av,ht]
 obtain⟨i100,pC,pd⟩:=bh (P:=prog) (t:=102) (s:=16) (by kernel_rfl)
 have jo:bo z 0 ((aX s ns).map AV.aI)=aX s ns:=by
  have:(aX s ns).map AV.aI=aX s ns:=by simp[aX,ao,ae,vI,AV.aI]
  rw[this];simp[bo,hz,aX,ao,ae]
 have kc:aL (aY (av S d (.agg (ao s))) (some d) (cb s ns)) H (.store .any i100.size (.t i6) (.t d))=some { v:=cG,dm:=some d,hw:=some (i6,aX s ns) }:=by
  show aL (aY (av S d (.agg (ao s))) (some d) (.agg (aX s ns))) H (.store .any i100.size (.t i6) (.t d))=_;have e1:ev (aY (av S d (.agg (ao s))) (some d) (.agg (aX s ns))) (.t i6)=.box i6 0:=(Ip i6 (afQ vl)).trans vb
  have e2:ev (aY (av S d (.agg (ao s))) (some d) (.agg (aX s ns))) (.t d)=.agg (aX s ns):=by simp[ev,AL.aY,av]
  have hl:(aX s ns).length=16:=by simp[aX,ao,ae]
  simp only[aL,e1,e2,wS,HR.okB];simp[AV.cells,AV.storable,pd,hl,hz,bu,jo,AV.cg]
 obtain ⟨c2,w3,g3,eh,G0,uh,R3⟩:=kS R2 (o:={ dst:=none,op := .store 102 (.tmp i6) (.tmp d),type:=0,pos := "",after := #[],guard:=none }) (x1 := .tmp i6) (x2 := .tmp d) (y1 := .t i6) (y2 := .t d) (hr := .any) rfl rfl pC (by simp [lQ,vk]) (by simp [lQ,hd]) (λ_ _=>id) (λ_ _=>id) kc;have bL:=R.size
 have f6:(a.put (some d) c).eval (.tmp i6)=.pointer (some ⟨b6,0,none⟩):=by
  show(a.put (some d) c).tmps.getD i6 undef=_;rw[<-e6];simp[Act.put,afb vl]
 have fd:(a.put (some d) c).eval (.tmp d)=c:=by
  show(a.put (some d) c).tmps.getD d undef=_;simp[Act.put,bL,hd]
 have bb:(execOp aC.eval o).run prog w2=(execOp (a.put (some d) c).eval { dst:=none,op := .store 102 (.tmp i6) (.tmp d),type:=0,pos := "",after := #[],guard:=none }).run prog w2:=by
  unfold execOp;simp only[ho,q1,q3,f6,fd]
 refine⟨w3,?_,rfl,c,g3,_,_,by rw[uh,nq,jq],R3,λt ht=>?_,rfl⟩
 .rcases eh with eh|⟨eh,_⟩
  .exact .inr ⟨_,bb.trans eh⟩
  .exact .inl (bb.trans eh)
 .rw[<-Ip t ht];simp[aT.S,AL.aY,av,ht]
theorem Bz (hG:au GI) (dS:GI w0) (R:Rel prog w0 n dU g S H a w) (hd:d < n) (p8:i2 < n) (vk:i6 < n) (vl:d≠i6)
  (oB:S i2=.box i2 0) (pq:H i2=some (ao s)) (vb:S i6=.box i6 0) (wS:H i6=some z) {k:Int} (mF:AC prog GI 108 [a_ s] (.panic (ll k))):
  Calls prog 135 #[a.tmps.getD i2 undef,a.tmps.getD i6 undef] w λe w2=>e=.panicked [{ v:=.iface 192 (.agg #[.int .i64 k]),recovered:=false }]/\Below w.heap.size w w2:=by
 refine mT hG dS R hd p8 vk vl oB pq vb wS λc1 g1 jq R1 fR yL b6 e6=>?_
 refine⟨_,mF w (fy g1 false) #[c1] fR rfl (λi h h'=>by
  match i,h with
  |0,_=>exact yL),?_⟩
 rintro en w2 ⟨ig,hi,pS,c,rfl,jX⟩;have hc:=Ab jX;subst hc;exact⟨rfl,ig⟩
theorem mh(R:Rel prog w0 n dU g S H a w):g.old.bI w.heap.size=none:=by
 cases h:g.old.bI w.heap.size with
 |none=>rfl
 |some o=>
  have:=(afe.1 (R.kept _ o h).2.1).1;omega
theorem Ec (hG:au GI) (dS:GI w0) (R:Rel prog w0 n dU g S H a w) (hd:d < n) (p8:i2 < n) (vk:i6 < n) (vl:d≠i6)
  (oB:S i2=.box i2 0) (pq:H i2=some (ao s)) (vb:S i6=.box i6 0) (wS:H i6=some z) (hz:z.length=16) {ns:List Int} (mF:AC prog GI 108 [a_ s] (.ret (cb s ns))):
  Calls prog 119 #[.func (.func 135) #[] #[a.tmps.getD i2 undef,a.tmps.getD i6 undef]] w λe w2=>e=.returned (.int .i64 0)/\∃(c:Value)(g':Gh)(S':aF)(H':aK),g'.old=g.old/\Rel prog w0 n dU g' S' H' (a.put (some d) c) w2/\(∀t,t≠d->S' t=S t)/\H'=av H i6 (some (aX s ns)):=by
 have R1:=R.kA (.cells #[.int .i64 0] 34);have uv:=mh R;refine iK (by kernel_rfl) (D9 hG dS R1 hd p8 vk vl oB pq vb wS hz mF) ?_;rintro e w2 ⟨rfl,c,g',S',H',ho,R2,pv,ph⟩
 have hk:g'.old.bI w.heap.size=some (.cells #[.int .i64 0] 34):=by rw[ho];exact bm _ _ _
 have jf:=(R2.kept _ _ hk).2.1;have aw:=(afe.1 jf).1;refine⟨aw,⟨_,_,jf⟩,.inl ⟨_,rfl,rfl,c,_,S',H',?_,(R2.nS w.heap.size).mw ?_,pv,ph⟩⟩
 .show({ g'.old with bI:=av g'.old.bI w.heap.size none }:Old)=_;rw[ho]
  have:av (av g.old.bI w.heap.size (some (.cells #[.int .i64 0] 34))) w.heap.size none=g.old.bI:=by
   funext b
   by_cases hb:b=w.heap.size
   .subst hb;simp[av,uv]
   .simp[av,hb]
  show({ g.old with bI:=av (av g.old.bI w.heap.size (some (.cells #[.int .i64 0] 34))) w.heap.size none }:Old)=_;rw[this]
 .refine⟨rfl,rfl,rfl,by simp,λk ee=>?_⟩
  by_cases hb:k=w.heap.size
  .subst hb;rw[agq w2 _ _ _ _ _ jf,jf]
  .exact af4 w2 _ k _ hb
theorem BO (hG:au GI) (dS:GI w0) (R:Rel prog w0 n dU g S H a w) (hd:d < n) (p8:i2 < n) (vk:i6 < n) (vl:d≠i6)
  (oB:S i2=.box i2 0) (pq:H i2=some (ao s)) (vb:S i6=.box i6 0) (wS:H i6=some z) {k:Int} (mF:AC prog GI 108 [a_ s] (.panic (ll k))):
  Calls prog 119 #[.func (.func 135) #[] #[a.tmps.getD i2 undef,a.tmps.getD i6 undef]] w λe w2=>e=.returned (.int .i64 7)/\∃g',g'.old=g.old/\Rel prog w0 n dU g' S H a w2:=by
 have R1:=R.kA (.cells #[.int .i64 0] 34);have uv:=mh R;refine iK (by kernel_rfl) (Bz hG dS R1 hd p8 vk vl oB pq vb wS mF) ?_;rintro en w2 ⟨rfl,ig⟩;have R2:=R1.mw ig;have hk:av g.old.bI w.heap.size (some (.cells #[.int .i64 0] 34)) w.heap.size=some (.cells #[.int .i64 0] 34):=bm _ _ _;have jf:=(R2.kept _ _ hk).2.1;have aw:=(afe.1 jf).1;refine⟨aw,⟨_,_,jf⟩,.inr (.inl ⟨k,rfl,λw3 mm=>⟨rfl,?_⟩⟩)⟩;have R3:=R2.mw mm;have J0:=(R3.kept _ _ hk).2.1;have R4:=R3.m_ hk (.cells #[.int .i64 7] 34);rw[sh w3 J0];refine⟨_,?_,R4.nS w.heap.size⟩
 have:av (av (av g.old.bI w.heap.size (some (.cells #[.int .i64 0] 34))) w.heap.size (some (.cells #[.int .i64 7] 34))) w.heap.size none=g.old.bI:=by
  funext b
  by_cases hb:b=w.heap.size
  .subst hb;simp[av,uv]
  .simp[av,hb]
 show({ g.old with bI:=av (av (av g.old.bI w.heap.size (some (.cells #[.int .i64 0] 34))) w.heap.size (some (.cells #[.int .i64 7] 34))) w.heap.size none }:Old)=_;rw[this]
end
end Go.Proofs.Tryz
namespace Go.Proofs.Tryz
open Go Go.AL Go.RowKit Go.Proofs Go.Proofs.Tram
attribute [local simp] dh eE dY dv dK dj di cQ cT dL cP ct fF fE aD aL ev aT.S aT.H bu av aY AL.start AV.cells AV.storable AV.cg bo cE dI ck HR.okB post cw cH cI AV.out AV.bU b_ df fz iA AV.vw du vI int cG aP cV db fQ iu fV eG da AV.aI AV.cm
variable{GI:World->Prop}
def zT:aq:=⟨[],0,0,0,0,⟨[],[],0,0,0,0,0,[],0,0⟩⟩
def de(s:aq)(b:Bool):List AV:=
 if b then(match dV s.name with|some es=>[cb s (aR s es),.int .i64 0]|none=>[cb zT [],.int .i64 7])else[cb zT [],.int .i64 2]
def gQ:List AV:=[.slice .nil [],.int .i64 0,.int .i64 0,.int .i64 0,.int .i64 0,.slice .nil [],.slice .nil [],.int .i64 0,.int .i64 0,.int .i64 0,.int .i64 0,.int .i64 0,.slice .nil [],.int .i64 0,.int .i64 0,.slice .nil []]
theorem zn(hG:au GI)(s:aq):AC prog GI 76 [a_ s,.bool false] (.ret (.d_ [cb zT [],.int .i64 2])):=by
 obtain⟨i100,pC,pd⟩:=bh (P:=prog) (t:=102) (s:=16) (by kernel_rfl);obtain⟨fs,eQ⟩:=bV (P:=prog) (t:=102) (by kernel_rfl);refine bP hG func76 ntmps76 c76 ?_;simp[c76,a_,ao,ae,bC,pC,pd,eQ,fg,cb,aX,zT]
 try rfl
theorem tV(hG:au GI)(s:aq)(hs:er s):AC prog GI 76 [a_ s,.bool (cq s)] (.ret (.d_ (de s (cq s)))):=by
 cases hI:cq s with
 |false=>exact zn hG s
 |true=>
 have EZ:=eo hI
 refine AC.gY func76 rfl ntmps76 (by simp) λcc w=>?_
 refine dw hG c76.qa (λS' H'=>S' 1=.bool true/\S' 2=.box 2 0/\H' 2=some (ao s)/\S' 4=.box 4 0/\H' 4=some gQ) ?_ ?_
 .simp[c76,af.qa,a_,ao,ae,gQ]
 rintro S1 H1 ⟨s1,s2,h2,s4,h4⟩;refine SW.seq (dw hG c76.qb.qa.qa (λS' H'=>S' 9=.bool false/\S' 2=.box 2 0/\H' 2=some (ao s)/\S' 4=.box 4 0/\H' 4=some gQ) ?_ ?_)
 .simp[c76,af.qa,af.qb,s1,s2,h2,s4,h4]
 clear s1 s2 h2 s4 h4;rintro S2 H2 ⟨s9,s2,h2,s4,h4⟩;refine SW.cond rfl false (by show S2 9=_;rw[s9]) (SW.skip ?_);show SW prog GI 15 none (.seq _ (.seq _ (.seq _ .ret))) _ _ _ _;refine dw hG c76.qb.qb.qa (λS' H'=>S' 2=.box 2 0/\H' 2=some (ao s)/\S' 4=.box 4 0/\H' 4=some gQ/\S' 6=.box 6 0/\H' 6=some gQ) ?_ ?_
 .simp[c76,af.qa,af.qb,s2,h2,s4,h4,gQ]
 clear s9 s2 h2 s4 h4;rintro S3 H3 ⟨s2,h2,s4,h4,s6,h6⟩
 obtain ⟨l,e,hle,hO,oT⟩:∃ (l:List AV) (e:Int),l.length=16∧de s true=[(AV.agg (l.map AV.aI)).vw,.int .i64 e] ∧
   ∀(w0:World)(g:Gh)(S:aF)(H:aK)(a:Act)(w:World),GI w0->Rel prog w0 15 dU g S H a w->S 2=.box 2 0->H 2=some (ao s)->S 6=.box 6 0->H 6=some gQ->
    Calls prog 119 #[.func (.func 135) #[] #[a.tmps.getD 2 undef,a.tmps.getD 6 undef]] w λen w2=>en=.returned (.int .i64 e)/\∃(c:Value)(g':Gh)(S':aF)(H':aK),g'.old=g.old/\Rel prog w0 15 dU g' S' H' (a.put (some 12) c) w2/\(∀t,t≠12->S' t=S t)/\H'=av H 6 (some l):=by
  cases dQ:dV s.name with
  |some es=>
   refine⟨aX s (aR s es),0,by simp[aX,ao,ae],?_,λw0 g S H a w dS R q2 Bl q6 IE=>Ec hG dS R (by decide) (by decide) (by decide) (by decide) q2 Bl q6 IE rfl (BJ hG s hs EZ dQ)⟩;simp[de,dQ,cb,aX,ao,ae,vI,AV.aI,AV.vw,AV.cm]
  |none=>
   refine⟨gQ,7,rfl,?_,λw0 g S H a w dS R q2 Bl q6 IE=>(BO hG dS R (d:=12) (by decide) (by decide) (by decide) (by decide) q2 Bl q6 IE (vO hG s hs EZ dQ)).mono ?_⟩
   .simp[de,dQ,cb,aX,ao,ae,zT,gQ,vI,ints,AV.aI,AV.vw,AV.cm]
   .rintro en w2 ⟨rfl,g',yP,R'⟩;refine⟨rfl,undef,g',av S 12 .bB,H,yP,R'.put 12 .bB undef (by decide) (.bB _) trivial,λt ht=>cN _ _ ht,?_⟩
    funext k
    by_cases hk:k=6
    .subst hk;rw[bm];exact IE
    .rw[cN _ _ hk]
 rw[hO]
 refine SW.seq (SW.hand hG (p:=0) (lm:=[0,1]) (l2:=[2]) (kY:=[]) (oh:=[_,_]) (lJ:=[_]) rfl rfl rfl rfl (by kernel_rfl) (λ_ h=>h) (lM:=[]) (kP:=(c76.qb.qb.qb.qa.dl).drop 2) rfl (by kernel_rfl) rfl (by kernel_rfl)
  (K1:=λS' H'=>S' 2=.box 2 0/\H' 2=some (ao s)/\S' 4=.box 4 0/\H' 4=some gQ/\S' 6=.box 6 0/\H' 6=some gQ)
  (K2:=λo S' H'=>o=Old.plain cc w/\S' 4=.box 4 0/\H' 4=some gQ/\S' 6=.box 6 0/\H' 6=some l/\S' 12=.int .i64 e)
  (K3:=λo S' H'=>o=Old.plain cc w/\S' 4=.box 4 0/\H' 4=some gQ/\S' 6=.box 6 0/\H' 6=some l/\S' 7=.int .i64 e) ⟨s2,h2,s4,h4,s6,h6⟩ ?_ ?_ ?_)
 .rintro w0 g S5 H5 a w5 m dS ho R ⟨s2,h2,s4,h4,s6,h6⟩;have bL:=R.size;refine aW rfl rfl (by rfl) (kB (fn:=.func 135) (c:=#[.tmp 2,.tmp 6]) rfl) ?_
  obtain⟨fv,jQ⟩:∃fv:Value,fv=.func (.func 135) #[] (#[Operand.tmp 2,.tmp 6].map a.eval):=⟨_,rfl⟩
  show wpOpsIn _ _ _ _ _ [1] (a.put (some 11) (.func (.func 135) #[] (#[Operand.tmp 2,.tmp 6].map a.eval))) w5;rw[<-jQ];have R1:=R.put 11 .bB fv (by decide) (.bB _) trivial
  obtain⟨a1,oI⟩:∃a1,a.put (some 11) fv=a1:=⟨_,rfl⟩
  rw[oI]at R1⊢
  have uc:fv=.func (.func 135) #[] #[a1.tmps.getD 2 undef,a1.tmps.getD 6 undef]:=by
   have e1:=bt a 11 2 fv (by omega);have e4:=bt a 11 6 fv (by omega);rw[if_neg (by decide),oI]at e1 e4;have A6:a1.tmps.getD 2 undef=a.eval (.tmp 2):=e1;have Ch:a1.tmps.getD 6 undef=a.eval (.tmp 6):=e4;rw[A6,Ch,jQ];simp only[afw,afv,afB]
  have ij:a1.eval (.tmp 11)=fv:=by rw[<-oI,bt _ _ _ _ (by omega),if_pos rfl]
  refine eS rfl rfl (by rfl) (fU (k:=119) (args:=#[.func (.func 135) #[] #[a1.tmps.getD 2 undef,a1.tmps.getD 6 undef]]) w5 rfl rfl ?_ (by kernel_rfl)) (oT w0 g _ _ a1 w5 dS R1 (by simp[av,s2]) h2 (by simp[av,s6]) h6) ?_
  .simp only[afw,afv,afB,ij,<-uc]
  .rintro en w6 ⟨rfl,c,g',S',H',sE,R2,pv,ph⟩;refine⟨_,rfl,?_⟩;have R3:=R2.put 12 (.int .i64 e) (.int .i64 e) (by decide) (.data _ _ (.int _ _)) trivial;rw[ml]at R3;refine⟨g',_,H',R3,sE.trans ho,?_,?_,?_,?_,bm _ _ _⟩
   .show av S' 12 _ 4=_;rw[cN _ _ (by decide),pv 4 (by decide)];simp[av,s4]
   .rw[ph,cN _ _ (by decide)];exact h4
   .show av S' 12 _ 6=_;rw[cN _ _ (by decide),pv 6 (by decide)];simp[av,s6]
   .rw[ph];exact bm _ _ _
 .rintro o S5 H5 ⟨rfl,s4,h4,s6,h6,bJ⟩;refine⟨λ_ h=>h,?_⟩;simp[c76,af.qa,af.qb,af.dl,bj,aD,bf,aL,ev,aT.S,aT.H,av,aY,s4,h4,s6,h6,bJ,AV.aI,bu]
 .rintro o S5 H5 ⟨rfl,s4,h4,s6,h6,s7⟩;show SW prog GI 15 none (.seq _ .ret) _ _ _ _;have hT:List.take 16 (l.map AV.aI)=l.map AV.aI:=afh (by simp;omega);refine dw hG c76.qb.qb.qb.qb.qa (λS' H'=>S' 4=.box 4 0/\H' 4=some (l.map AV.aI)/\S' 5=.int .i64 e) ?_ ?_
  .simp[c76,af.qa,af.qb,s4,h4,s6,h6,s7,hle,hT,gQ,fD]
  rintro S6 H6 ⟨s4,h4,s5⟩;obtain⟨i100,pC,pd⟩:=bh (P:=prog) (t:=102) (s:=16) (by kernel_rfl);obtain⟨fs,eQ⟩:=bV (P:=prog) (t:=102) (by kernel_rfl);refine SW.ret ⟨eD.plain rfl,rfl,_,?_,rfl⟩;show cw prog 15 [.cell 4 102,.tmp 5] S6 H6=_;simp[cw,cH,cI,s4,h4,s5,pC,eQ,pd,ck,fg,hle,hT,fD,AV.out,AV.bU]
  try rfl
def gr(e:Nat)(s:aq)(an:List Int):Nat:=dq an (dz (bg e s)) (dn (cM s) s.cells.length)
theorem gX{s:aq}(h:dJ s){es:List End}(he:es.length<=3):(∀x∈aR s es,0<=x/\x<=1000)/\(aR s es).length<=1000:=by
 refine⟨λx hx=>?_,?_⟩
 .obtain⟨i,hi,rfl⟩:=afp.1 hx
  have:=se h he (i:=i) (by
   unfold bT;split
   .rename_i x hx;obtain⟨aw,rfl⟩:=af0.1 hx;exact(jK h.name (ae_ aw)).rz
   .omega)
  omega
 .have:=(dP h.name).words;simp[aR];omega
theorem l_{s:aq}(h:dJ s)(e:Nat):(bg e s).length=s.cells.length/\∀x∈bg e s,0<=x/\x<=1000:=by
 refine⟨by simp[bg],λx hx=>?_⟩;obtain⟨c,hc,rfl⟩:=afp.1 hx;have:=h.qx c hc;unfold ov
 split<;>omega
theorem qV(hG:au GI)(s:aq)(h:dJ s)(an:List Int)(hn:(∀x∈an,0<=x/\x<=1000)/\an.length<=1000)(e:Nat):AC prog GI 92 [cb s an,vI (bg e s)] (.ret (.int .i64 (gr e s an))):=
 FT hG s h an hn.1 hn.2 (bg e s) (l_ h e).1 (l_ h e).2
theorem BX(hG:au GI)(s:aq)(h:dJ s)(an:List Int)(hn:(∀x∈an,0<=x/\x<=1000)/\an.length<=1000):AC prog GI 107 [cb s an] (.ret (.bool (decide (gr 0 s an=an.length)))):=by
 have EY:=zP hG s (by have:=h.cells;omega) 0 (.inl rfl);have xH:=qV hG s h an hn 0;refine bP hG func107 ntmps107 c107 ?_;simp[c107,cb,aX,ao,ae];refine oc EY ?_;simp;refine oc xH ?_;simp;rw[afZ];simp;omega
def jE(e:Nat)(s:aq):List AV:=
 if cq s then(match dV s.name with|some es=>[.int .i64 (gr e s (aR s es)),.int .i64 0]|none=>[.int .i64 0,.int .i64 7])else[.int .i64 0,.int .i64 2]
theorem gx (s:aq):(cq s=true∧∃ es,dV s.name=some es∧de s (cq s)=[cb s (aR s es),.int .i64 0]) ∨
  (∃e:Int,e≠0/\de s (cq s)=[cb zT [],.int .i64 e]/\∀k,jE k s=[.int .i64 0,.int .i64 e]):=by
 cases hI:cq s with
 |false=>exact .inr ⟨2,by decide,by simp[de],λk=>by simp[jE,hI]⟩
 |true=>
  cases hs:dV s.name with
  |some es=>exact .inl ⟨rfl,es,rfl,by simp[de,hs]⟩
  |none=>exact .inr ⟨7,by decide,by simp[de,hs],λk=>by simp[jE,hI,hs]⟩
theorem Ol(hG:au GI)(s:aq)(hs:er s):AC prog GI 34 [a_ s] (.ret (.d_ (jE 0 s))):=by
 have yK:=mK hG s hs;have oY:=tV hG s hs
 rcases gx s with⟨hI,es,dQ,ho⟩|⟨e,he,ho,sr⟩
 .rw[ho]at oY;have hg:=eo hI;have EY:=zP hG s (by have:=hg.cells;omega) 0 (.inl rfl);have xH:=qV hG s hg _ (gX hg (fp hg.name dQ)) 0
  have sr:jE 0 s=[.int .i64 (gr 0 s (aR s es)),.int .i64 0]:=by simp[jE,hI,dQ]
  rw[sr];refine bP hG func34 ntmps34 c34 ?_;simp[c34,a_,ao,ae];refine oc yK ?_;simp;refine oc oY ?_;simp[cb,aX,ao,ae,bC];refine oc EY ?_;simp;refine oc xH ?_;simp
 .rw[ho]at oY;rw[sr]
  have jI:(e !=0)=true:=by simpa using he
  refine bP hG func34 ntmps34 c34 ?_;simp[c34,a_,ao,ae];refine oc yK ?_;simp;refine oc oY ?_;simp[cb,aX,ao,ae,zT,bC,he,jI]
theorem O3(hG:au GI)(s:aq)(hs:er s):AC prog GI 35 [a_ s] (.ret (.d_ (jE 1 s))):=by
 have yK:=mK hG s hs;have oY:=tV hG s hs
 rcases gx s with⟨hI,es,dQ,ho⟩|⟨e,he,ho,sr⟩
 .rw[ho]at oY;have hg:=eo hI;have EY:=zP hG s (by have:=hg.cells;omega) 1 (.inr rfl);have xH:=qV hG s hg _ (gX hg (fp hg.name dQ)) 1
  have sr:jE 1 s=[.int .i64 (gr 1 s (aR s es)),.int .i64 0]:=by simp[jE,hI,dQ]
  rw[sr];refine bP hG func35 ntmps35 c35 ?_;simp[c35,a_,ao,ae];refine oc yK ?_;simp;refine oc oY ?_;simp[cb,aX,ao,ae,bC];refine oc EY ?_;simp;refine oc xH ?_;simp
 .rw[ho]at oY;rw[sr]
  have jI:(e !=0)=true:=by simpa using he
  refine bP hG func35 ntmps35 c35 ?_;simp[c35,a_,ao,ae];refine oc yK ?_;simp;refine oc oY ?_;simp[cb,aX,ao,ae,zT,bC,he,jI]
def atR(s:aq)(r:Nat):aq:={ s with reach:=r }
theorem AS{s:aq}(h:dJ s){r:Nat}(h1:1<=r)(h2:r<=12):dJ (atR s r):=⟨h.cells,h.qx,h.pos,⟨by show(1:Int)<=(r:Int);omega,by show(r:Int)<=12;omega⟩,h.dE,h.c_,h.name⟩
def qy(s:aq)(an:List Int)(r:Nat):Bool:=decide (gr 0 (atR s r) an=an.length)
def vp(s:aq):List AV:=
 if cq s then(match dV s.name with|some es=>(match(List.range' 1 12).find? (qy s (aR s es))with|some r=>[.int .i64 (r:Nat),.int .i64 0]|none=>[.int .i64 0,.int .i64 5])|none=>[.int .i64 0,.int .i64 7])else[.int .i64 0,.int .i64 2]
theorem A1{p:Nat->Bool}{r n:Nat}(h1:1<=r)(h2:r<=n)(hp:p r=true)(hb:∀k,1<=k->k<r->p k=false):(List.range' 1 n).find? p=some r:=by
 rw[show n=(r-1)+(n-(r-1)) by omega,<-ahg,List.find?_append]
 have h0:(List.range' 1 (r-1)).find? p=none:=by
  rw[agw];intro x hx;have:=agI.1 hx;rw[hb x this.1 (by omega)];simp
 rw[h0,Option.none_or,show n-(r-1)=(n-r)+1 by omega,agr,List.find?_cons];rw[show 1+(r-1)=r by omega,hp]
theorem vm{p:Nat->Bool}{n:Nat}(hb:∀k,1<=k->k<=n->p k=false):(List.range' 1 n).find? p=none:=by
 rw[agw];intro x hx;have:=agI.1 hx;rw[hb x this.1 (by omega)];simp
theorem OY(hG:au GI)(s:aq)(hs:er s):AC prog GI 44 [a_ s] (.ret (.d_ (vp s))):=by
 have yK:=mK hG s hs;have oY:=tV hG s hs
 rcases gx s with⟨hI,es,dQ,ho⟩|⟨e,he,ho,sr⟩
 .rw[ho]at oY;have hg:=eo hI;have hn:=gX hg (fp hg.name dQ)
  have Bk:vp s=(match(List.range' 1 12).find? (qy s (aR s es))with|some r=>[.int .i64 (r:Nat),.int .i64 0]|none=>[.int .i64 0,.int .i64 5]):=by simp[vp,hI,dQ]
  rw[Bk];generalize aR s es=an at oY hn⊢;refine bP hG func44 ntmps44 c44 ?_;simp[c44,a_,ao,ae];refine oc yK ?_;simp;refine oc oY ?_;simp[cb,aX,ao,ae,bC];refine⟨λS H=>∃r:Nat,1<=r/\r<=13/\S 4=.box 4 0/\H 4=some (aX (atR s r) an)/\∀k,1<=k->k<r->qy s an k=false,λ_ H=>match H 4 with|some (_::_::.int _ r::_)=>(13-r).toNat|_=>0,⟨1,afg _,by decide,?_⟩,?_⟩
  .simp[aX,ao,ae,atR];intro k h1 h2;omega
  rintro S H ⟨r,AZ,Tc,s4,h4,hb⟩
  by_cases hle:r<=12
  case neg=>
   have hr:r=13:=by omega
   subst hr;rw[vm λk h1 h2=>hb k h1 (by omega)];simp[aX,ao,ae,atR,s4,h4]
  have vX:(r:Int)<=12:=by omega
  have Jr:=BX hG (atR s r) (AS hg AZ hle) an hn
  cases hf:qy s an r with
  |true=>
   unfold qy at hf;rw[hf]at Jr;rw[A1 AZ hle (show qy s an r=true from hf) hb];simp[aX,ao,ae,atR,s4,h4,vX];refine oc Jr ?_;simp[aX,ao,ae,atR,s4,h4]
  |false=>
   have yJ:=hf;unfold qy at yJ;rw[yJ]at Jr;have hw:IntKind.i64.wrap ((r:Int)+1)=r+1:=aN (by omega);simp[aX,ao,ae,atR,s4,h4,vX];refine oc Jr ?_;simp[aX,ao,ae,atR,s4,h4,hw];refine⟨⟨r+1,by omega,by omega,by omega,λk h1 h2=>?_⟩,by omega⟩
   by_cases hk:k=r
   .rw[hk];exact hf
   .exact hb k h1 (by omega)
 .rw[ho]at oY
  have sj:vp s=[.int .i64 0,.int .i64 e]:=by
   have:=sr 0;unfold jE at this;unfold vp
   cases hI:cq s with
   |false=>simpa[hI]using this
   |true=>
    cases dQ:dV s.name with
    |none=>simpa[hI,dQ]using this
    |some es=>simp[hI,dQ,de]at ho;exact absurd ho.2.symm he
  rw[sj]
  have jI:(e !=0)=true:=by simpa using he
  refine bP hG func44 ntmps44 c44 ?_;simp[c44,a_,ao,ae];refine oc yK ?_;simp;refine oc oY ?_;simp[cb,aX,ao,ae,zT,bC,he,jI]
theorem BV(hG:au GI)(s:aq)(hs:er s)(b:Bool):AC prog GI 76 [a_ s,.bool (cq s&&b)] (.ret (.d_ (de s (cq s&&b)))):=by
 cases b with
 |true=>rw[ahJ];exact tV hG s hs
 |false=>
  rw[Bool.and_false];have:=zn hG s;simpa[de]using this
theorem kL (s:aq) (b:Bool):(cq s=true∧b=true∧∃ es,dV s.name=some es∧de s (cq s && b)=[cb s (aR s es),.int .i64 0]) ∨
  (cq s&&b)=false/\de s (cq s&&b)=[cb zT [],.int .i64 2]\/cq s=true/\b=true/\dV s.name=none/\de s (cq s&&b)=[cb zT [],.int .i64 7]:=by
 cases hI:(cq s&&b)with
 |false=>exact .inr (.inl ⟨rfl,by simp[de]⟩)
 |true=>
  rw[afa]at hI
  cases hs:dV s.name with
  |some es=>exact .inl ⟨hI.1,hI.2,es,rfl,by simp[de,hs]⟩
  |none=>exact .inr (.inr ⟨hI.1,hI.2,rfl,by simp[de,hs]⟩)
def nf(s:aq):List AV:=if cq s then(match dV s.name with|some es=>[vI (aR s es),.int .i64 0]|none=>[vI [],.int .i64 7])else[vI [],.int .i64 2]
theorem Oh(hG:au GI)(s:aq)(hs:er s):AC prog GI 23 [a_ s] (.ret (.d_ (nf s))):=by
 have jW:=mK hG s hs;have gJ:=BV hG s hs true
 have key:∃t:aq,∃l:List Int,∃e:Int,de s (cq s&&true)=[cb t l,.int .i64 e]/\nf s=[vI l,.int .i64 e]:=by
  rcases kL s true with⟨h1,_,es,h2,h3⟩|⟨h1,h3⟩|⟨h1,_,h2,h3⟩
  .exact⟨_,_,_,h3,by simp[nf,h1,h2]⟩
  .rw[ahJ]at h1;exact⟨_,_,_,h3,by simp[nf,h1]⟩
  .exact⟨_,_,_,h3,by simp[nf,h1,h2]⟩
 obtain⟨t,l,e,h3,h4⟩:=key;rw[h3,ahJ]at gJ;rw[h4];refine bP hG func23 ntmps23 c23 ?_;simp[c23,a_,ao,ae];refine oc jW ?_;simp;refine oc gJ ?_;simp[cb,aX,ao,ae,bC]
def iD(s:aq)(l:List Int):Bool:=decide (l.length=s.cells.length)&&(l.zip s.cells).all λx=>bH x.1 x.2.lo x.2.hi
theorem oF{α β:Type}(p:α×β->Bool):∀(l:List α)(m:List β),l.length=m.length->((l.zip m).all p=true↔∀i (h:i<l.length)(h':i<m.length),p (l[i],m[i])=true)
 |[],[],_=>by simp
 |a::l,b::m,h=>by
  rw[List.zip_cons_cons,List.all_cons,afa,oF p l m (by simpa using h)]
  constructor
  .rintro⟨h1,h2⟩ i hi gq
   cases i with
   |zero=>exact h1
   |succ i=>exact h2 i (by simpa using hi) (by simpa using gq)
  .intro hh;exact⟨hh 0 (by simp) (by simp),λi hi gq=>hh (i+1) (by simpa using hi) (by simpa using gq)⟩
 |[],_::_,h=>by simp at h
 |_::_,[],h=>by simp at h
theorem P7(hG:au GI)(s:aq)(hs:s.cells.length<1000000)(l:List Int)(hl:l.length<1000000):AC prog GI 91 [a_ s,vI l] (.ret (.bool (iD s l))):=by
 refine bP hG func91 ntmps91 c91 ?_;refine az (λS H=>S 1=vI l/\S 2=.box 2 0/\H 2=some (ao s)) (by simp[a_,ao,ae]) ?_;rintro S H ⟨s1,s2,h2⟩;simp[s1,s2,h2];refine bq 9 l.length (λi S H=>S 1=vI l/\S 2=.box 2 0/\H 2=some (ao s)/\S 7=vI l/\S 8=.int .i64 l.length/\S 9=.int .i64 (i:Nat)/\∀j (h:j<l.length),j<i->∃h':j<s.cells.length,bH l[j] s.cells[j].lo s.cells[j].hi=true) (λi S H h=>h.2.2.2.2.2.1) ⟨by simp[s1],by simp[s2],by simp[h2],by simp[s1],by simp,by simp,by simp⟩ ?_;clear s1 s2 h2 S H;rintro i hi S H ⟨s1,s2,h2,s7,s8,s9,hb⟩
 by_cases aw:i<l.length
 .have hw:IntKind.i64.wrap ((i:Int)+1)=i+1:=aN (by omega)
  have hn:¬(i:Int)<0:=by omega
  by_cases hc:i<s.cells.length
  case neg=>
   have oy:(s.cells.length:Int)<=i:=by omega
   have hr:iD s l=false:=by
    unfold iD
    rw[agH (by omega)]<;>rfl
   simp[s1,s2,h2,s7,s8,s9,aw,hn,oy,hr,ao,ae]
  have oy:¬(s.cells.length:Int)<=i:=by omega
  simp[s1,s2,h2,s7,s8,s9,aw,hn,hc,oy,gy,ao,ae];refine oc (oO hG _ _ _) ?_;cases kW:bH l[i] s.cells[i].lo s.cells[i].hi
  .have hr:iD s l=false:=by
    unfold iD
    by_cases uC:l.length=s.cells.length
    .have:¬ ((l.zip s.cells).all fun x=>bH x.1 x.2.lo x.2.hi)=true:=fun h=>by
      have:=(oF _ l s.cells uC).1 h i aw hc;rw[kW]at this;cases this
     simp only[ah3]at this;rw[this,Bool.and_false]
    .rw[agH uC]<;>rfl
   simp[s1,s2,h2,s7,s8,s9,hr]
  .simp[s1,s2,h2,s7,s8,s9,hw,ao,ae];intro j hj lg
   by_cases e:j=i
   .subst e;exact⟨hc,kW⟩
   .exact hb j hj (by omega)
 .have cD:i=l.length:=by omega
  subst cD
  have hr:iD s l=decide (l.length=s.cells.length):=by
   unfold iD
   by_cases uC:l.length=s.cells.length
   .rw[ago uC,agU]
    exact(oF _ l s.cells uC).2 λi h h'=>let⟨_,q⟩:=hb i h h;q
   .rw[agH uC,Bool.false_and]
  simp[s1,s2,h2,s7,s8,s9,hr,ao,ae];rw[afZ];simp;omega
theorem AB{s:aq}(h:dJ s){l:List Int}(hr:iD s l=true):l.length=s.cells.length/\(∀x∈l,1<=x/\x<=20)/\∀i (h:i<l.length)(h':i<s.cells.length),s.cells[i].lo<=l[i]/\l[i]<=s.cells[i].hi:=by
 unfold iD at hr;rw[afa,aff]at hr;have h2:=(oF _ l s.cells hr.1).1 hr.2
 have h3:∀i (h:i<l.length)(h':i<s.cells.length),s.cells[i].lo<=l[i]/\l[i]<=s.cells[i].hi:=λi hi gq=>by
  have:=h2 i hi gq;simpa[bH]using this
 refine⟨hr.1,λx hx=>?_,h3⟩;obtain⟨i,hi,rfl⟩:=afD hx;have:=h3 i hi (by omega);have:=h.qx _ (ae_ (show i<s.cells.length by omega));omega
def om(s:aq)(an aZ:List Int):Nat:=dq an (dz aZ) (dn (cM s) s.cells.length)
def oZ(s:aq)(l:List Int):List AV:=
 if cq s&&iD s l then(match dV s.name with|some es=>[.int .i64 (om s (aR s es) l),.int .i64 0]|none=>[.int .i64 0,.int .i64 7])else[.int .i64 0,.int .i64 2]
theorem OF(hG:au GI)(s:aq)(hs:er s)(l:List Int)(hl:l.length<1000000):AC prog GI 29 [a_ s,vI l] (.ret (.d_ (oZ s l))):=by
 have jW:=mK hG s hs;have NG:=P7 hG s hs.cells l hl;have gJ:=BV hG s hs (iD s l);rcases kL s (iD s l)with⟨h1,h0,es,h2,h3⟩|h3
 .have hg:=eo h1;obtain⟨r1,r2,_⟩:=AB hg h0;have hn:=gX hg (fp hg.name h2);have xx:=FT hG s hg _ hn.1 hn.2 l r1 (λx hx=>by have:=r2 x hx;omega)
  have ho:oZ s l=[.int .i64 (om s (aR s es) l),.int .i64 0]:=by simp[oZ,h1,h0,h2]
  rw[h3,h1,h0]at gJ;rw[ho];rw[h1]at jW;rw[h0]at NG;refine bP hG func29 ntmps29 c29 ?_;simp[c29,a_,ao,ae];refine oc jW ?_;simp;refine oc NG ?_;simp;refine oc gJ ?_;simp[cb,aX,ao,ae,bC];refine oc xx ?_;simp[om]
 .have key:∃ e:Int,e≠0∧de s (cq s && iD s l)=[cb zT [],.int .i64 e]∧oZ s l=[.int .i64 0,.int .i64 e]:=by
   rcases h3 with⟨h1,h3⟩|⟨h1,h0,h2,h3⟩
   .exact⟨2,by decide,h3,by simp[oZ,h1]⟩
   .exact⟨7,by decide,h3,by simp[oZ,h1,h0,h2]⟩
  obtain⟨e,he,h3,h4⟩:=key
  have jI:(e !=0)=true:=by simpa using he
  rw[h3]at gJ;rw[h4];refine bP hG func29 ntmps29 c29 ?_;simp[c29,a_,ao,ae];refine oc jW ?_;cases hI:cq s
  .rw[hI]at gJ;simp;refine oc gJ ?_;simp[cb,aX,ao,ae,zT,bC,he,jI]
  .rw[hI]at gJ;simp;refine oc NG ?_;simp;refine oc gJ ?_;simp[cb,aX,ao,ae,zT,bC,he,jI]
def yU(s:aq)(an:List Int)(w:Int):Int:=if w<(gr 0 s an:Nat)then 3 else if w<(gr 1 s an:Nat)then 2 else 1
def oN(s:aq)(w:Int):Bool:=bH w 0 (s.name.words.length-1)
def mb(s:aq)(w:Int):List AV:=
 if cq s&&oN s w then(match dV s.name with|some es=>[.int .i64 (yU s (aR s es) w),.int .i64 0]|none=>[.int .i64 0,.int .i64 7])else[.int .i64 0,.int .i64 2]
theorem OW(hG:au GI)(s:aq)(hs:er s)(w:Int):AC prog GI 36 [a_ s,.int .i64 w] (.ret (.d_ (mb s w))):=by
 have jW:=mK hG s hs;have gJ:=BV hG s hs (oN s w)
 have oe:IntKind.i64.wrap ((s.name.words.length:Int)-1)=(s.name.words.length:Int)-1:=by
  have:=hs.name.words;exact aN (by omega)
 rcases kL s (oN s w)with⟨h1,h0,es,h2,h3⟩|h3
 .have hg:=eo h1;have hn:=gX hg (fp hg.name h2)
  have Dq:∀e,e=0\/e=1->_:=λe he=>zP hG s (by have:=hg.cells;omega) e he
  have QF:=Dq 0 (.inl rfl);have Sm:=Dq 1 (.inr rfl);have PC:=qV hG s hg _ hn 0;have Qd:=qV hG s hg _ hn 1
  have ho:mb s w=[.int .i64 (yU s (aR s es) w),.int .i64 0]:=by simp[mb,h1,h0,h2]
  rw[h3,h1,h0]at gJ;rw[ho];rw[h1]at jW;have AH:=h0;unfold oN at AH;refine bP hG func36 ntmps36 c36 ?_;simp[c36,a_,ao,ae];refine oc jW ?_;simp[oe];refine oc (oO hG _ _ _) ?_;simp[AH];refine oc gJ ?_;simp[cb,aX,ao,ae,bC];refine oc QF ?_;simp;refine oc PC ?_;unfold yU
  by_cases c1:w<(gr 0 s (aR s es):Nat)
  .simp[c1]
  simp[c1];refine oc Sm ?_;simp;refine oc Qd ?_
  by_cases c2:w<(gr 1 s (aR s es):Nat)
  .simp[c2]
  .simp[c2]
 .have key:∃ e:Int,e≠0∧de s (cq s && oN s w)=[cb zT [],.int .i64 e]∧mb s w=[.int .i64 0,.int .i64 e]:=by
   rcases h3 with⟨h1,h3⟩|⟨h1,h0,h2,h3⟩
   .exact⟨2,by decide,h3,by simp[mb,h1]⟩
   .exact⟨7,by decide,h3,by simp[mb,h1,h0,h2]⟩
  obtain⟨e,he,h3,h4⟩:=key
  have jI:(e !=0)=true:=by simpa using he
  rw[h3]at gJ;rw[h4];refine bP hG func36 ntmps36 c36 ?_;simp[c36,a_,ao,ae];refine oc jW ?_;cases hI:cq s
  .rw[hI]at gJ;simp;refine oc gJ ?_;simp[cb,aX,ao,ae,zT,bC,he,jI]
  .rw[hI]at gJ;simp[oe];refine oc (oO hG _ _ _) ?_;unfold oN at gJ;simp;refine oc gJ ?_;simp[cb,aX,ao,ae,zT,bC,he,jI]
theorem nH(s:aq)(e:Int)(he:e≠0)(ho:de s (cq s)=[cb zT [],.int .i64 e]):(cq s=false/\e=2)\/(cq s=true/\dV s.name=none/\e=7):=by
 cases hI:cq s with
 |false=>left;simp[de,hI]at ho;exact⟨rfl,ho.symm⟩
 |true=>
  cases hs:dV s.name with
  |none=>right;simp[de,hI,hs]at ho;exact⟨rfl,rfl,ho.symm⟩
  |some es=>simp[de,hI,hs]at ho;exact absurd ho.2.symm he
def o_(s:aq)(p:Nat):aq:={ s with dE:=p }
theorem yX{s:aq}(h:dJ s){p:Nat}(h1:1<=p)(h2:p<=9):dJ (o_ s p):=⟨h.cells,h.qx,h.pos,h.reach,⟨by show(1:Int)<=(p:Int);omega,by show(p:Int)<=9;omega⟩,h.c_,h.name⟩
def ot(s:aq)(es:List End)(p:Nat):Bool:=decide (gr 0 (o_ s p) (aR (o_ s p) es)=(aR (o_ s p) es).length)
def pN:List Nat:=[9,8,7,6,5,4,3,2,1]
def oW(s:aq):List AV:=
 if cq s then(match dV s.name with|some es=>(match pN.find? (ot s es)with|some r=>[.int .i64 (r:Nat),.int .i64 0]|none=>[.int .i64 0,.int .i64 5])|none=>[.int .i64 0,.int .i64 7])else[.int .i64 0,.int .i64 2]
theorem vG{p:Nat->Bool}{r:Nat}(h1:1<=r)(h2:r<=9)(hp:p r=true)(hb:∀k,r<k->k<=9->p k=false):pN.find? p=some r:=by
 have:r=1\/r=2\/r=3\/r=4\/r=5\/r=6\/r=7\/r=8\/r=9:=by omega
 unfold pN;rcases this with rfl|rfl|rfl|rfl|rfl|rfl|rfl|rfl|rfl
 all_goals (repeat rw[List.find?_cons]);simp[hp,hb]
theorem yG{p:Nat->Bool}(hb:∀k,0<k->k<=9->p k=false):pN.find? p=none:=by
 rw[agw];intro x hx
 have:0<x/\x<=9:=by simp[pN]at hx;omega
 rw[hb x this.1 this.2];simp
theorem O0(hG:au GI)(s:aq)(hs:er s):AC prog GI 45 [a_ s] (.ret (.d_ (oW s))):=by
 have jW:=mK hG s hs;have gJ:=tV hG s hs
 rcases gx s with⟨hI,es,dQ,ho⟩|⟨e,he,ho,sr⟩
 .rw[ho]at gJ;have hg:=eo hI
  have Bk:oW s=(match pN.find? (ot s es)with|some r=>[.int .i64 (r:Nat),.int .i64 0]|none=>[.int .i64 0,.int .i64 5]):=by simp[oW,hI,dQ]
  rw[Bk];generalize aR s es=an at gJ;refine bP hG func45 ntmps45 c45 ?_;simp[c45,a_,ao,ae];refine oc jW ?_;simp;refine oc gJ ?_;simp[cb,aX,ao,ae,bC];refine⟨λS H=>∃r:Nat,r<=9/\S 1=.box 1 0/\H 1=some (ao (o_ s r))/\∀k,r<k->k<=9->ot s es k=false,λ_ H=>match H 1 with|some (_::_::_::.int _ r::_)=>r.toNat|_=>0,⟨9,?_⟩,?_⟩
  .simp[ao,ae,o_];intro k h1 h2;omega
  rintro S H ⟨r,hr,s1,h1,hb⟩
  by_cases h0:r=0
  .subst h0;rw[yG hb];simp[ao,ae,o_,s1,h1]
  have AZ:1<=r:=by omega
  have jb:0<r:=by omega
  have yP:=yX hg AZ hr;have Ew:=gX yP (fp yP.name dQ);have vz:=BJ hG (o_ s r) ⟨hs.cells,hs.name⟩ yP (es:=es) dQ;have vJ:=BX hG (o_ s r) yP (aR (o_ s r) es) Ew
  cases hf:ot s es r with
  |true=>
   have yJ:=hf;unfold ot at yJ;rw[yJ]at vJ;rw[vG AZ hr hf hb];simp[ao,ae,o_,s1,h1,jb];refine oc vz ?_;simp[cb,aX,ao,ae];refine oc vJ ?_;simp[ao,ae,o_,s1,h1]
  |false=>
   have yJ:=hf;unfold ot at yJ;rw[yJ]at vJ
   have hw:IntKind.i64.wrap ((r:Int)-1)=((r-1:Nat):Int):=by rw[aN (by omega)];omega
   simp[ao,ae,o_,s1,h1,jb];refine oc vz ?_;simp[cb,aX,ao,ae];refine oc vJ ?_;simp[ao,ae,o_,s1,h1,hw];refine⟨⟨r-1,by omega,rfl,λk q1 q2=>?_⟩,by omega⟩
   by_cases hk:k=r
   .rw[hk];exact hf
   .exact hb k (by omega) q2
 .rw[ho]at gJ
  have sj:oW s=[.int .i64 0,.int .i64 e]:=by
   rcases nH s e he ho with⟨h1,rfl⟩|⟨h1,h2,rfl⟩
   .simp[oW,h1]
   .simp[oW,h1,h2]
  rw[sj]
  have jI:(e !=0)=true:=by simpa using he
  refine bP hG func45 ntmps45 c45 ?_;simp[c45,a_,ao,ae];refine oc jW ?_;simp;refine oc gJ ?_;simp[cb,aX,ao,ae,zT,bC,he,jI]
theorem Mk(hG:au GI)(a b:End):AC prog GI 111 [aS a,aS b] (.ret (.bool (decide (b.2<a.2)))):=by
 refine bP hG func111 ntmps111 c111 ?_;simp[c111,aS]
def iq(x:End)(l:List End):End:=l.foldl (λo y=>if o.2<y.2 then y else o) x
theorem wT(x:End)(l:List End){i:Nat}(h:i<l.length):iq x (l.take (i+1))=if(iq x (l.take i)).2<l[i].2 then l[i]else iq x (l.take i):=by
 unfold iq;rw[agS,ae9 h,afy]
 rfl
theorem MB(hG:au GI)(x:End)(l:List End)(hl:l.length<1000000):AC prog GI 110 [.slice .view (aH (x::l)),.func (.func 111) [] []] (.ret (aS (iq x l))):=by
 obtain⟨iT,Ld,Lb⟩:=bh (P:=prog) (t:=138) (s:=2) (by kernel_rfl);obtain⟨fs,eQ⟩:=bV (P:=prog) (t:=138) (by kernel_rfl);have eK:aM 2 (aH (x::l))=true:=nA (x::l);refine bP hG func110 ntmps110 c110 ?_;refine az (λS H=>S 0=.slice .view (aH (x::l))/\S 1=.func (.func 111) [] []/\S 4=.box 4 0/\H 4=some [.int .i64 0,.int .i64 0]) (by simp) ?_;rintro S H ⟨s0,s1,s4,h4⟩;refine az (λS H=>S 0=.slice .view (aH (x::l))/\S 1=.func (.func 111) [] []/\S 4=.box 4 0/\H 4=some [.int .i64 0,.int .i64 0]/\S 5=.box 5 0/\H 5=some [.int .i64 x.1,.int .i64 x.2]) (by simp[s0,s1,s4,h4,aH,aS,bC]) ?_;clear s0 s1 s4 h4 S H;rintro S H ⟨s0,s1,s4,h4,s5,h5⟩
 have hd:(aH (x::l)).drop 1=aH l:=by simp[aH]
 have hlen:(aH (x::l)).length=l.length+1:=by simp[aH]
 have EE:(1:Int)<=(l.length:Int)+1:=by omega
 have ly:List.take (l.length+1) (aH (x::l))=aH (x::l):=afh (by omega);generalize aH (x::l)=L at s0 hd hlen ly eK
 have LO:((l.length:Int)+1).toNat=l.length+1:=by omega
 simp[bound,s0,s1,s4,h4,s5,h5,hd,hlen,EE,ly,eK,LO];refine bq 14 l.length (λi S H=>S 1=.func (.func 111) [] []/\S 4=.box 4 0/\H 4=some [.int .i64 0,.int .i64 0]/\S 5=.box 5 0/\H 5=some [.int .i64 (iq x (l.take i)).1,.int .i64 (iq x (l.take i)).2]/\S 12=.slice .view (aH l)/\S 13=.int .i64 l.length/\S 14=.int .i64 (i:Nat)) (λi S H h=>h.2.2.2.2.2.2.2) ⟨by simp[s1],by simp[s4],by simp[h4],by simp[s5],by simp[h5,iq],by simp,by simp[aH],by simp⟩ ?_;clear s0 s1 s4 h4 s5 h5 S H;rintro i hi S H ⟨s1,s4,h4,s5,h5,bJ,b0,cU⟩
 by_cases aw:i<l.length
 .have hw:IntKind.i64.wrap ((i:Int)+1)=i+1:=aN (by omega)
  have hn:¬(i:Int)<0:=by omega
  have hs:=wT x l aw;have Kg:=Mk hG l[i] (iq x (l.take i))
  generalize iq x (l.take i)=o at*
  by_cases hc:o.2<l[i].2
  .rw[if_pos hc]at hs;rw[hs];simp[s1,s4,h4,s5,h5,bJ,b0,cU,aw,hn,aH,aS,bC];refine oc Kg ?_;simp[s1,s4,h4,s5,h5,bJ,b0,cU,hc,hw,aH,aS]
  .rw[if_neg hc]at hs;rw[hs]
   have oy:l[i].2<=o.2:=by omega
   simp[s1,s4,h4,s5,h5,bJ,b0,cU,aw,hn,aH,aS,bC];refine oc Kg ?_;simp[s1,s4,h4,s5,h5,bJ,b0,cU,hc,oy,hw,aH,aS]
 .have cD:i=l.length:=by omega
  subst cD;rw[afS]at h5;simp[s1,s4,h4,s5,h5,bJ,b0,cU,Ld,Lb,eQ,fg,aS]
def bX(x:Nat×Nat):End:=((x.1:Int),(x.2:Int))
theorem qn:∀(l:List (Nat×Nat))(x:Nat×Nat),iq (bX x) (l.map bX)=bX (kC x l)
 |[],_=>rfl
 |y::l,x=>by
  have e1:iq (bX x) ((y::l).map bX)=iq (if(bX x).2<(bX y).2 then bX y else bX x) (l.map bX):=rfl;have e2:kC x (y::l)=kC (if x.2<y.2 then y else x) l:=rfl;rw[e1,e2,<-qn l]
  congr 1
  by_cases h:x.2<y.2
  .rw[if_pos h,if_pos (by show(x.2:Int)<(y.2:Int);omega)]
  .rw[if_neg h,if_neg (by show¬(x.2:Int)<(y.2:Int);omega)]
def kX(s:aq)(a:Int):aq:={ s with pos:=a }
theorem zN{s:aq}(h:dJ s){a:Nat}(h1:1<=a)(h2:a<=s.cells.length):dJ (kX s a):=⟨h.cells,h.qx,⟨by show(1:Int)<=(a:Int);omega,by show(a:Int)<=s.cells.length;omega⟩,h.reach,h.dE,h.c_,h.name⟩
def eR(s:aq)(an:List Int)(a:Nat):Nat:=gr 0 (kX s (a:Int)) an
def oJ(s:aq)(an:List Int):Nat×Nat:=kC (1,eR s an 1) (eN (eR s an) 2 (s.cells.length-1))
def oX(s:aq):List AV:=
 if cq s then(match dV s.name with|some es=>[.int .i64 ((oJ s (aR s es)).1:Nat),.int .i64 ((oJ s (aR s es)).2:Nat),.int .i64 0]|none=>[.int .i64 0,.int .i64 0,.int .i64 7])else[.int .i64 0,.int .i64 0,.int .i64 2]
theorem pY(f:Nat->Nat){m:Nat}(hm:1<=m):eN f 1 m=(1,f 1)::eN f 2 (m-1):=by
 obtain⟨k,rfl⟩:∃k,m=k+1:=⟨m-1,by omega⟩
 unfold eN
 rw[agr]<;>rfl
theorem y7(f:Nat->Nat)(m:Nat):eN f 1 (m+1)=eN f 1 m++[(m+1,f (m+1))]:=by
 unfold eN;rw[agL,afu];simp[Nat.add_comm]
theorem O7(hG:au GI)(s:aq)(hs:er s):AC prog GI 52 [a_ s] (.ret (.d_ (oX s))):=by
 have jW:=mK hG s hs;have gJ:=tV hG s hs
 rcases gx s with⟨hI,es,dQ,ho⟩|⟨e,he,ho,sr⟩
 .rw[ho]at gJ;have hg:=eo hI;have hc:=hg.cells
  have Bk:oX s=[.int .i64 ((oJ s (aR s es)).1:Nat),.int .i64 ((oJ s (aR s es)).2:Nat),.int .i64 0]:=by simp[oX,hI,dQ]
  rw[Bk];have hn:=gX hg (fp hg.name dQ);generalize aR s es=an at gJ hn⊢;have Dq:=zP hG s (by omega) 0 (.inl rfl);have j4:=MB hG (bX (1,eR s an 1)) ((eN (eR s an) 2 (s.cells.length-1)).map bX) (by simp[eN];omega);rw[qn]at j4
  have fX:bX (1,eR s an 1)::(eN (eR s an) 2 (s.cells.length-1)).map bX=(eN (eR s an) 1 s.cells.length).map bX:=by
   rw[pY _ hc.1]<;>rfl
  rw[fX]at j4;refine bP hG func52 ntmps52 c52 ?_;refine az (λS H=>S 1=.box 1 0/\H 1=some (ao s)) (by simp[a_,ao,ae]) ?_;rintro S H ⟨s1,h1⟩;refine az (λS H=>S 1=.box 1 0/\H 1=some (ao s)/\S 5=.box 5 0/\H 5=some (aX s an)/\S 6=.int .i64 0) ?_ ?_
  .simp[s1,h1,ao,ae];refine oc jW ?_;simp;refine oc gJ ?_;simp[s1,h1,cb,aX,ao,ae,bC]
  clear s1 h1 S H;rintro S H ⟨s1,h1,s5,h5,s6⟩;refine az (λS H=>S 1=.box 1 0/\H 1=some (ao s)/\S 5=.box 5 0/\H 5=some (aX s an)) (by simp[s1,h1,s5,h5,s6]) ?_;clear s1 h1 s5 h5 s6 S H;rintro S H ⟨s1,h1,s5,h5⟩;refine az (λS H=>S 1=.box 1 0/\H 1=some (ao s)/\S 5=.box 5 0/\H 5=some (aX s an)/\S 7=.slice .nil []) (by simp[s1,h1,s5,h5]) ?_;clear s1 h1 s5 h5 S H;rintro S H ⟨s1,h1,s5,h5,s7⟩;refine az (λS H=>S 7=grow 138 (aH ((eN (eR s an) 1 s.cells.length).map bX))) ?_ ?_
  .refine az (λS H=>S 1=.box 1 0/\H 1=some (ao s)/\S 5=.box 5 0/\H 5=some (aX s an)/\S 7=.slice .nil []/\S 8=.int .i64 1) (by simp[s1,h1,s5,h5,s7]) ?_;clear s1 h1 s5 h5 s7 S H;rintro S H ⟨s1,h1,s5,h5,s7,s8⟩;simp only[dh];refine⟨λS H=>∃i:Nat,i<=s.cells.length/\S 1=.box 1 0/\H 1=some (ao s)/\S 5=.box 5 0/\(∃p,H 5=some (aX (kX s p) an))/\S 7=grow 138 (aH ((eN (eR s an) 1 i).map bX))/\S 8=.int .i64 ((i:Int)+1),λS _=>match S 8 with|.int _ r=>(13-r).toNat|_=>0,⟨0,afK _,s1,h1,s5,⟨s.pos,h5⟩,by rw[s7]<;>rfl,s8⟩,?_⟩;clear s1 h1 s5 h5 s7 s8 S H;rintro S H ⟨i,hi,s1,h1,s5,⟨p,h5⟩,s7,s8⟩
   by_cases aw:i<s.cells.length
   case neg=>
    have cD:i=s.cells.length:=by omega
    subst cD
    have hq:¬((s.cells.length:Int)+1<=s.cells.length):=by omega
    simp[s1,h1,s5,h5,s7,s8,hq,ao,ae]
   have hq:(i:Int)+1<=s.cells.length:=by omega
   have hw:IntKind.i64.wrap ((i:Int)+1+1)=(i:Int)+1+1:=aN (by omega);have xx:=qV hG (kX s ((i+1:Nat):Int)) (zN hg (by omega) (by omega)) an hn 0
   have kZ:aH ((eN (eR s an) 1 (i+1)).map bX)=aH ((eN (eR s an) 1 i).map bX)++[.agg [.int .i64 ((i:Int)+1),.int .i64 (eR s an (i+1):Nat)]]:=by
    rw[y7,afu];unfold aH;rw[afu];simp[bX,aS]
   have hlen:(aH ((eN (eR s an) 1 i).map bX)).length=i:=by simp[aH,eN]
   have eK:=nA ((eN (eR s an) 1 i).map bX);have Wg:gr 0 (kX s ((i+1:Nat):Int)) an=eR s an (i+1):=rfl;rw[Wg]at xx;have k3:aM 2 [AV.agg [.int .i64 ((i:Int)+1),.int .i64 (eR s an (i+1):Nat)]]=true:=rfl
   have pB:i+1<1048576:=by omega
   generalize aH ((eN (eR s an) 1 i).map bX)=L at s7 kZ hlen eK;simp[s1,h1,s5,h5,s7,s8,hq,aX,kX,ao,ae];refine oc Dq ?_;simp[s1,h1,s5,h5,s7,s8,aX,kX,ao,ae];refine oc xx ?_;have gG:(AV.agg [.int .i64 ((i:Int)+1),.int .i64 (eR s an (i+1):Nat)]).storable=true:=rfl
   cases L with
   |nil=>
    have ox:grow 138 []=.slice .nil []:=rfl
    have JH:i=0:=by simpa using hlen.symm
    subst JH;simp[s1,h1,s5,h5,s8,ox,bC,aX,kX,ao,ae,aM];have fL:IntKind.i64.wrap 2=2:=aN (by omega);rw[fL];exact⟨⟨1,hc.1,rfl,by omega⟩,by omega⟩
   |cons y L=>
    have ox:grow 138 (y::L)=.slice (.own 138) (y::L):=rfl;simp[s1,h1,s5,h5,s8,ox,hw,hlen,pB,k3,eK,bC,aX,kX,ao,ae];exact⟨⟨i+1,by omega,by rw[kZ]<;>rfl,by omega⟩,by omega⟩
  .clear s1 h1 s5 h5 s7 S H;intro S H s7
   have ry:grow 138 (aH ((eN (eR s an) 1 s.cells.length).map bX))=.slice (.own 138) (aH ((eN (eR s an) 1 s.cells.length).map bX)):=by
    rw[pY _ hc.1]<;>rfl
   rw[ry]at s7;have hb:kC (1,eR s an 1) (eN (eR s an) 2 (s.cells.length-1))=oJ s an:=rfl;rw[hb]at j4;generalize aH ((eN (eR s an) 1 s.cells.length).map bX)=L at s7 j4;generalize oJ s an=q at j4⊢;simp[s7];refine oc j4 ?_;simp[aS,bX,bC]
 .rw[ho]at gJ
  have sj:oX s=[.int .i64 0,.int .i64 0,.int .i64 e]:=by
   rcases nH s e he ho with⟨h1,rfl⟩|⟨h1,h2,rfl⟩
   .simp[oX,h1]
   .simp[oX,h1,h2]
  rw[sj]
  have jI:(e !=0)=true:=by simpa using he
  refine bP hG func52 ntmps52 c52 ?_;simp[c52,a_,ao,ae];refine oc jW ?_;simp;refine oc gJ ?_;simp[cb,aX,ao,ae,zT,bC,he,jI]
theorem Lz(hG:au GI)(s:aq)(hs:s.cells.length<1000)(e:Nat)(he:e=0\/e=1)(dO:bg e s≠[]):AC prog GI 98 [a_ s,.int .i64 (e:Nat)] (.ret (.slice (.own 3) (ints (bg e s)))):=by
 refine AC.gY func98 rfl ntmps98 (by simp) λcc w=>KM hG s hs e he cc w λS5 H5 s6=>?_
 have AH:ints (bg e s)≠[]:=by simpa[ints]using dO
 have BQ:S5 6=.slice (.own 3) (ints (bg e s)):=by rw[s6];simp[grow,AH]
 clear s6;show SW prog GI 29 none (.seq (.region _ _ false) .ret) _ _ _ _
 refine SW.seq (SW.hand hG (p:=0) (lm:=[0,1]) (l2:=[]) (kY:=[]) (oh:=[_,_]) (lJ:=[]) rfl rfl rfl rfl (by kernel_rfl) (λ_ h=>h) (lM:=[]) (kP:=[]) rfl rfl rfl rfl
  (K1:=λS H=>S 6=.slice (.own 3) (ints (bg e s))) (K2:=λo S H=>o=Old.plain cc w/\S 4=.slice (.own 3) (ints (bg e s))) (K3:=λo S H=>o=Old.plain cc w/\S 4=.slice (.own 3) (ints (bg e s))) ?_ ?_ ?_ ?_)
 .exact BQ
 .rintro w0 g S H a w' m dS ho R s6;have r6:=R.slot 6 (by decide) (λh=>h);rw[s6]at r6;have bL:=R.size
  obtain⟨c,hc⟩:∃c,a.tmps.getD 6 undef=c:=⟨_,rfl⟩
  rw[hc]at r6;have rv:RD g.Pr w' (.slice .view (ints (bg e s))) c:=(r6.j_ rfl).aI;refine aW rfl rfl (by rfl) ((run_move (x:=.tmp 6) w' rfl).trans (congrArg (λv=>Result.ok (Next.value v) w') hc)) ?_;have R1:=R.put 28 (.slice .view (ints (bg e s))) c (by decide) (.data _ _ rv) trivial
  have pk:(a.put (some 28) c).tmps.getD 28 undef=c:=by simp[Act.put,bL]
  refine aW rfl rfl (by rfl) ((run_assign (x:=.tmp 28) w' rfl).trans (congrArg (λv=>Result.ok (Next.value v) w') pk)) ?_;have R2:=R1.put 4 (.slice .view (ints (bg e s))) c (by decide) (.data _ _ rv) trivial
  have e4:((a.put (some 28) c).put (some 4) c).tmps.getD 4 undef=c:=by simp[Act.put,bL]
  have e6:((a.put (some 28) c).put (some 4) c).tmps.getD 6 undef=a.tmps.getD 6 undef:=by simp[Act.put,afb]
  obtain⟨g',q1,R3⟩:=R2.HE (t:=6) (u:=4) (e:=3) (es:=ints (bg e s)) (by decide) (by decide) (by decide) (by simp[av,s6]) (by rw[e4,e6,hc]);exact⟨g',_,_,R3,by rw[q1];exact ho,bm _ _ _⟩
 .rintro o S H ⟨rfl,s4⟩;exact⟨λ_ h=>h,rfl,s4⟩
 .rintro o S H ⟨rfl,s4⟩;refine SW.ret ⟨eD.plain rfl,rfl,_,?_,rfl⟩;show cw prog 29 [.tmp 4] S H=_;simp[cw,cH,cI,s4,AV.bU,AV.out]
theorem AR{a:Act}{w:World}{o:Oper}{x y:Operand}{t ty:TypeId}{m n:Int}(ho:o.op=.binOp .add t x y ty)(hx:a.eval x=.int .i64 m)(hy:a.eval y=.int .i64 n):(execOp a.eval o).run prog w=.ok (.value (.int .i64 (IntKind.i64.wrap (m+n)))) w:=by
 unfold execOp;simp[ho,hx,hy,Go.binOp,Op.intArith,eqGuard]
def fK(s:aq)(i n:Nat):List Int:=(bg 0 s).set i ((bg 0 s).getD i 0+n)
def kH(s:aq)(an:List Int)(i n:Nat):Bool:=decide (om s an (fK s i n)=an.length)
theorem E2(l:List Int):Ed 1 (ints l):=λx hx=>by
 obtain⟨k,_,rfl⟩:=afp.1 hx;exact⟨rfl,rfl,λc hc=>by simp[AV.cells]at hc;subst hc;rfl⟩
theorem ints_set(l:List Int)(i:Nat)(x:Int):(ints l).set i (.int .i64 x)=ints (l.set i x):=by simp[ints,List.map_set]
structure PO(cc:Nat->Nat->Prop)(o:Old):Prop where
 c:o.c=cc
 ds:o.ds=[]
 bx:∀d,¬o.bx d
theorem LH (hG:au GI) (s:aq) (h:dJ s) (an:List Int) (hn:(∀ x∈an,0≤x∧x≤1000)∧an.length≤1000) {i:Nat} (hi:i < s.cells.length) {n:Nat} (Bq:n≤900) :
  AC prog GI 104 [.int .i64 (n:Nat),.ref (ao s),.ref [.int .i64 (i:Nat)],.ref (aX s an)] (.ret (.bool (kH s an i n))):=by
 have hc:=h.cells
 have CN:(bg 0 s).length=s.cells.length:=by simp[bg]
 have dO:bg 0 s≠[]:=λh0=>by rw[h0]at CN;simp at CN;omega
 have mY:=(l_ h 0).2
 have cD:i<(bg 0 s).length:=by omega
 have Wt:=mY _ (ae_ cD)
 have Yj:(bg 0 s)[i]<=20:=by
  have:=h.qx _ (ae_ hi);simp[bg,ov];omega
 have Hx:(bg 0 s).getD i 0=(bg 0 s)[i]:=by simp[afA,cD]
 have Dq:=Lz hG s (by omega) 0 (.inl rfl) dO
 have oe:(fK s i n).length=s.cells.length:=by simp[fK,CN]
 have xx:=FT hG s h an hn.1 hn.2 (fK s i n) oe (λx hx=>by
  rcases ah5 hx with h1|h1
  .exact mY x h1
  .rw[h1,Hx];omega)
 have kj:((dq an (dz (fK s i n)) (dn (cM s) s.cells.length):Int)==(an.length:Int))=kH s an i n:=by
  show _=decide (dq an (dz (fK s i n)) (dn (cM s) s.cells.length)=an.length);rw[afZ,aff,afY];omega
 obtain⟨i3,pQ,lr⟩:=bh (P:=prog) (t:=3) (s:=1) (by kernel_rfl);obtain⟨d3,OO,KK⟩:=iy (P:=prog) (t:=3) (by kernel_rfl)
 refine AC.gY func104 rfl ntmps104 (by simp) λcc w=>?_
 refine dw hG c104.qa (λS H=>S 0=.int .i64 (n:Nat)/\S 1=.ref (ao s)/\S 2=.ref [.int .i64 (i:Nat)]/\S 3=.ref (aX s an)) ?_ ?_
 .simp[c104,af.qa,aX,ao,ae]
 rintro S1 H1 ⟨s0,s1,s2,s3⟩;show SW prog GI 23 none (.seq _ (.seq _ (.seq _ .ret))) _ _ _ _
 refine SW.seq (SW.hand hG (p:=1) (lm:=[1]) (l2:=[2]) (kY:=[_]) (oh:=[_]) (lJ:=[_]) rfl rfl rfl rfl (by kernel_rfl) (λ_ h=>h)
  (lM:=(c104.qb.qa.dl).take 1) (kP:=(c104.qb.qa.dl).drop 2) (by kernel_rfl) (by kernel_rfl) (by kernel_rfl) (by kernel_rfl)
  (K1:=λS H=>S 0=.int .i64 (n:Nat)/\S 2=.ref [.int .i64 (i:Nat)]/\S 3=.ref (aX s an)/\S 7=a_ s)
  (K2:=λo S H=>∃v,KO cc 3 1 (ints (bg 0 s)) o v/\S 0=.int .i64 (n:Nat)/\S 2=.ref [.int .i64 (i:Nat)]/\S 3=.ref (aX s an)/\S 8=.val v)
  (K3:=λo S H=>∃v,KO cc 3 1 (ints (bg 0 s)) o v/\S 0=.int .i64 (n:Nat)/\S 2=.ref [.int .i64 (i:Nat)]/\S 3=.ref (aX s an)/\S 6=.val v) ?_ ?_ ?_ ?_)
 .simp[c104,af.qa,af.qb,af.dl,s0,s1,s2,s3,a_,ao,ae]
 .rintro w0 g S H a w' m dS ho R ⟨s0,s2,s3,s7⟩;have r7:=R.slot 7 (by decide) (λh=>h);rw[s7]at r7
  refine eS rfl rfl (by rfl) (fU (k:=98) (args:=#[a.tmps.getD 7 undef,.int .i64 0]) w' rfl rfl ?_ (by kernel_rfl)) (Dq w' (fy g false) #[a.tmps.getD 7 undef,.int .i64 0] (hG w0 w' dS (by have:=R.below;rwa [R.base]at this)) rfl (λj hj fj=>by
   match j,hj with
   |0,_=>exact(r7.cd rfl).mono (bz.same λb k _ hp=>.inl hp) λ_ _ h=>h
   |1,_=>exact .data _ _ (.int _ _))) ?_
  .simp only[afw,afv,afB,Act.eval]
  intro en w2 hE;obtain⟨v,g',rfl,R2,hK⟩:=EV R (cc:=cc) (by rw[ho];exact⟨rfl,rfl,λ_ h=>h⟩) pQ (by rw[lr];exact E2 _) hE;rw[lr]at hK;refine⟨_,rfl,?_⟩
  have pV:v.oneCell'=true:=by
   rcases hK.row with⟨⟨_,rfl⟩,_⟩|⟨_,_,_,rfl,_⟩<;>rfl
  exact⟨g',_,_,R2.put 8 (.val v) v (by decide) (.data _ _ (.val _ pV)) trivial,v,hK,by simp[av,s0],by simp[av,s2],by simp[av,s3],by simp[av]⟩
 .rintro o S H ⟨v,hK,s0,s2,s3,s8⟩;refine⟨hK.bx,?_⟩;simp[c104,af.qa,af.qb,af.dl,s0,s2,s3,s8];exact hK
 clear s0 s1 s2 s3 S1 H1;rintro o S1 H1 ⟨v,hK,s0,s2,s3,s6⟩;have Pz:=hK.bx
 refine SW.seq (SW.hand hG (p:=2) (lm:=[2,3,4,5,6,7]) (l2:=[]) (kY:=[_,_]) (oh:=[_,_,_,_,_,_]) (lJ:=[]) rfl rfl rfl rfl (by kernel_rfl) Pz
  (lM:=(c104.qb.qb.qa.dl).take 2) (kP:=[]) (by kernel_rfl) rfl (by kernel_rfl) rfl
  (K1:=λS H=>S 0=.int .i64 (n:Nat)/\S 3=.ref (aX s an)/\S 6=.val v/\S 9=.val v/\S 10=.int .i64 (i:Nat))
  (K2:=λo S H=>PO cc o/\S 3=.ref (aX s an)/\S 6=vI (fK s i n))
  (K3:=λo S H=>PO cc o/\S 3=.ref (aX s an)/\S 6=vI (fK s i n)) ?_ ?_ ?_ ?_)
 .simp[c104,af.qa,af.qb,af.dl,s0,s2,s3,s6]
 .rintro w0 g S H a w' m dS ho R ⟨s0,s3,s6,s9,bw⟩;rw[<-ho]at hK
  have CK:i<(ints (bg 0 s)).length:=by simpa[ints]using cD
  obtain⟨b,cap,cur,hv,ng,qd,gG⟩:=hK.cell R CK
  have yQ:(ints (bg 0 s))[i]=.int .i64 (bg 0 s)[i]:=by simp[ints]
  have pU:0<((ints (bg 0 s))[i]).cells.length:=by rw[yQ];simp[AV.cells]
  have tO:=gG 0 pU
  have Ox:T9 (((ints (bg 0 s))[i]).cells[0]'pU)=.int .i64 (bg 0 s)[i]:=by simp only[yQ];rfl
  rw[Ox,agf,Nat.add_zero]at tO;have t9:=R.slot 9 (by decide) (λh=>h);rw[s9]at t9;have e9:a.eval (.tmp 9)=.slice (some ⟨b,0,none⟩) (ints (bg 0 s)).length cap:=t9.eU.trans hv;have t10:=R.slot 10 (by decide) (λh=>h);rw[bw]at t10;have ij:a.eval (.tmp 10)=.int .i64 (i:Nat):=t10.int_eq;have t0:=R.slot 0 (by decide) (λh=>h);rw[s0]at t0;have e0:a.eval (.tmp 0)=.int .i64 (n:Nat):=t0.int_eq;have bL:=R.size;have jF:IntKind.i64.wrap ((bg 0 s)[i]+n)=(bg 0 s)[i]+n:=aN (by omega);refine aW rfl rfl (by rfl) (kU (k:=i) rfl (by kernel_rfl) pQ e9 ij CK) ?_;rw[lr,agf];have R1:=R.put 11 (.val (.pointer (some ⟨b,i,none⟩))) (.pointer (some ⟨b,i,none⟩)) (by decide) (.data _ _ (.val _ rfl)) trivial
  have p:=λt c=>bt a 11 t c (by omega)
  have f11:=(p 11 (.pointer (some ⟨b,i,none⟩))).trans (if_pos rfl);have f9:=((p 9 (.pointer (some ⟨b,i,none⟩))).trans (if_neg (by decide))).trans e9;have f10:=((p 10 (.pointer (some ⟨b,i,none⟩))).trans (if_neg (by decide))).trans ij;have f0:=((p 0 (.pointer (some ⟨b,i,none⟩))).trans (if_neg (by decide))).trans e0;have O2:=R1.size;show wpOpsIn _ _ _ _ _ [3,4,5,6,7] (a.put (some 11) (.pointer (some ⟨b,i,none⟩))) w'
  generalize a.put (some 11) (.pointer (some ⟨b,i,none⟩))=a1 at*
  clear p e9 ij e0 t9 t10 t0;refine aW rfl rfl (by rfl) (uA rfl f11 OO KK qd tO.2) ?_;have R2:=R1.put 12 (.int .i64 (bg 0 s)[i]) (.int .i64 (bg 0 s)[i]) (by decide) (.data _ _ (.int _ _)) trivial
  have p:=λt c=>bt a1 12 t c (by omega)
  have g12:=(p 12 (.int .i64 (bg 0 s)[i])).trans (if_pos rfl);have g9:=((p 9 (.int .i64 (bg 0 s)[i])).trans (if_neg (by decide))).trans f9;have g10:=((p 10 (.int .i64 (bg 0 s)[i])).trans (if_neg (by decide))).trans f10;have g0:=((p 0 (.int .i64 (bg 0 s)[i])).trans (if_neg (by decide))).trans f0;have vK:=R2.size;show wpOpsIn _ _ _ _ _ [4,5,6,7] (a1.put (some 12) (.int .i64 (bg 0 s)[i])) w'
  generalize a1.put (some 12) (.int .i64 (bg 0 s)[i])=a2 at*
  clear p f11 f9 f10 f0;refine aW rfl rfl (by rfl) ((run_move (x:=.tmp 0) w' rfl).trans (congrArg (λv=>Result.ok (Next.value v) w') g0)) ?_;have R3:=R2.put 13 (.int .i64 (n:Nat)) (.int .i64 (n:Nat)) (by decide) (.data _ _ (.int _ _)) trivial
  have p:=λt c=>bt a2 13 t c (by omega)
  have SS:=(p 13 (.int .i64 (n:Nat))).trans (if_pos rfl);have Qf:=((p 12 (.int .i64 (n:Nat))).trans (if_neg (by decide))).trans g12;have k9:=((p 9 (.int .i64 (n:Nat))).trans (if_neg (by decide))).trans g9;have RX:=((p 10 (.int .i64 (n:Nat))).trans (if_neg (by decide))).trans g10;have Uf:=R3.size;show wpOpsIn _ _ _ _ _ [5,6,7] (a2.put (some 13) (.int .i64 (n:Nat))) w'
  generalize a2.put (some 13) (.int .i64 (n:Nat))=a3 at*
  clear p g12 g9 g10 g0;refine aW rfl rfl (by rfl) (AR rfl Qf SS) ?_;rw[jF];have R4:=R3.put 14 (.int .i64 ((bg 0 s)[i]+n)) (.int .i64 ((bg 0 s)[i]+n)) (by decide) (.data _ _ (.int _ _)) trivial
  have p:=λt c=>bt a3 14 t c (by omega)
  have Ke:=(p 14 (.int .i64 ((bg 0 s)[i]+n))).trans (if_pos rfl);have l9:=((p 9 (.int .i64 ((bg 0 s)[i]+n))).trans (if_neg (by decide))).trans k9;have l10:=((p 10 (.int .i64 ((bg 0 s)[i]+n))).trans (if_neg (by decide))).trans RX;have vP:=R4.size;show wpOpsIn _ _ _ _ _ [6,7] (a3.put (some 14) (.int .i64 ((bg 0 s)[i]+n))) w'
  generalize a3.put (some 14) (.int .i64 ((bg 0 s)[i]+n))=a4 at*
  clear p Qf SS k9 RX;refine aW rfl rfl (by rfl) (kU (k:=i) rfl (by kernel_rfl) pQ l9 l10 CK) ?_;rw[lr,agf];have R5:=R4.put 15 (.val (.pointer (some ⟨b,i,none⟩))) (.pointer (some ⟨b,i,none⟩)) (by decide) (.data _ _ (.val _ rfl)) trivial
  have p:=λt c=>bt a4 15 t c (by omega)
  have m15:=(p 15 (.pointer (some ⟨b,i,none⟩))).trans (if_pos rfl);have m14:=((p 14 (.pointer (some ⟨b,i,none⟩))).trans (if_neg (by decide))).trans Ke;show wpOpsIn _ _ _ _ _ [7] (a4.put (some 15) (.pointer (some ⟨b,i,none⟩))) w'
  generalize a4.put (some 15) (.pointer (some ⟨b,i,none⟩))=a5 at*
  clear p Ke l9 l10;obtain ⟨Eg,eh,EH,Mh⟩:=yI (o:={ dst:=none,op := .store 3 (.tmp 15) (.tmp 14),type:=0,pos := "",after := #[],guard:=none }) (v := .int .i64 ((bg 0 s)[i]+n)) rfl m15 pQ lr qd tO.1 m14 rfl;refine dk rfl rfl (by rfl) eh ?_;have R6:=R5.m_ ng (.cells Eg 3 (0,0));have yD:=hK.set (j:=i) (k:=0) CK (by rw [yQ];simp [AV.cells]) (x := .int .i64 ((bg 0 s)[i]+n)) (u := .int .i64 ((bg 0 s)[i]+n)) (λx hx=>by simp at hx;subst hx;exact ⟨rfl,rfl,λc hc=>by simp [AV.cells] at hc;subst hc;rfl⟩) (by rw [yQ]<;>rfl) hv ng EH (λm=>by rw [Mh m,agf,Nat.add_zero]<;>rfl);rw [ints_set] at yD
  have nk:(bg 0 s).set i ((bg 0 s)[i]+n)=fK s i n:=by rw[fK,Hx]
  rw[nk]at yD;obtain⟨g',R7,q1,q2,q3⟩:=KO.done yD R6 (t:=6) (by decide) (by simp[av,s6]);exact⟨g',_,_,R7,⟨q1,q2,q3⟩,by simp[av,s3],by simp[av]<;>rfl⟩
 .rintro o S H ⟨hp,s3,s6⟩;exact⟨hp.bx,hp,s3,s6⟩
 clear s0 s2 s3 s6 S1 H1 hK Pz;rintro o S1 H1 ⟨hp,s3,s6⟩;refine yu hG c104.qb.qb.qb.qa (λd _=>hp.bx d) (λS H=>S 5=.bool (kH s an i n)) ?_ ?_
 .simp[c104,af.qa,af.qb,s3,s6,aX,ao,ae];refine oc xx ?_;simp[s3,s6,aX,ao,ae];exact kj
 .intro S H s5;refine SW.ret ⟨eD.plain hp.ds,hp.c,_,?_,rfl⟩;show cw prog 23 [.tmp 5] S H=_;simp[cw,cH,cI,s5,AV.bU,AV.out]
theorem Dz{P:Program}{x y:af}{Q:ft->aF->aK->Prop}{S:aF}{H:aK}(K:aF->aK->Prop)(hx:bO P GI x (cV K Q) S H)(hy:∀S' H',K S' H'->bO P GI y Q S' H'):bO P GI (.seq x y) Q S H:=
 dT x (jr (λS H h=>hy S H h) (λ_ _ _ h=>h)) hx
theorem qO{P:Program}{K:aF->aK->Prop}{Qp:AV->Prop}{l2:List fw}:∀(l1:List fw)(S:aF)(H:aK),bj P GI l1 (bj P GI l2 K Qp) Qp S H->bj P GI (l1++l2) K Qp S H
 |[],S,H,h=>h
 |o::rest,S,H,h=>by
  simp only[List.cons_append,bj]at h⊢;split at h
  .exact jO (λS H=>qO rest S H) (λ_ h=>h) h
  .exact qO rest _ _ h
  .exact h
theorem kK{P:Program}{l:List fw}{K:aF->aK->Prop}{Qp:AV->Prop}{S:aF}{H:aK}(n:Nat)(I:aF->aK->Prop)(h1:bj P GI (l.take n) I Qp S H)(h2:∀S H,I S H->bj P GI (l.drop n) K Qp S H):bj P GI l K Qp S H:=by
 rw[<-agA n l];exact qO _ _ _ (mj h2 (λ_ h=>h) _ _ _ h1)
theorem q_(hG:au GI)(n lo hi:Int):AC prog GI 88 [.int .i64 n,.int .i64 lo,.int .i64 hi] (.ret (.bool (bH n lo hi))):=by
 refine bP hG func88 ntmps88 c88 ?_
 by_cases h1:lo<=n<;>by_cases h2:n<=hi<;>simp[c88,bH,h1,h2]
theorem OD(hG:au GI)(n:Int):AC prog GI 48 [.int .i64 n] (.ret (.bool (bH n 1 12))):=by
 refine bP hG func48 ntmps48 c48 ?_;simp[c48];refine oc (q_ hG n 1 12) ?_;simp
theorem OG(hG:au GI)(n:Int):AC prog GI 49 [.int .i64 n] (.ret (.bool (bH n 1 9))):=by
 refine bP hG func49 ntmps49 c49 ?_;simp[c49];refine oc (q_ hG n 1 9) ?_;simp
theorem Q6(hG:au GI)(n:Int):AC prog GI 93 [.int .i64 n] (.ret (.bool (bH n 0 9))):=by
 refine bP hG func93 ntmps93 c93 ?_;simp[c93];refine oc (q_ hG n 0 9) ?_;simp
theorem OT(hG:au GI)(s:aq)(n:Int):AC prog GI 54 [a_ s,.int .i64 n] (.ret (.bool (bH n 1 s.cells.length))):=by
 refine bP hG func54 ntmps54 c54 ?_;simp[c54,a_,ao,ae];refine oc (q_ hG n 1 s.cells.length) ?_;simp
theorem ack(hG:au GI)(s:aq)(hs:s.cells.length<1000000)(l:List Int)(hl:l.length<1000000):AC prog GI 31 [a_ s,vI l] (.ret (.bool (iD s l))):=by
 refine bP hG func31 ntmps31 c31 ?_;refine az (λS H=>S 1=vI l/\S 2=.box 2 0/\H 2=some (ao s)) (by simp[a_,ao,ae]) ?_;rintro S H ⟨s1,s2,h2⟩
 by_cases uC:l.length=s.cells.length
 case neg=>
  have hr:iD s l=false:=by
   unfold iD
   rw[agH uC]<;>rfl
  have dO:¬(l.length:Int)=s.cells.length:=by omega
  have OM:((l.length:Int)!=s.cells.length)=true:=by
   rw[ah9];omega
  simp[s1,s2,h2,hr,OM,ao,ae]
 have hq:(l.length:Int)=s.cells.length:=by omega
 simp[s1,s2,h2,uC,ao,ae];refine bq 5 l.length (λi S H=>S 1=vI l/\S 2=.box 2 0/\H 2=some (ao s)/\S 5=.int .i64 (i:Nat)/\∀j (h:j<l.length),j<i->∃h':j<s.cells.length,bH l[j] s.cells[j].lo s.cells[j].hi=true) (λi S H h=>h.2.2.2.1) ⟨by simp[s1],by simp[s2],by simp[h2],by simp,by simp⟩ ?_;clear s1 s2 h2 S H;rintro i hi S H ⟨s1,s2,h2,s5,hb⟩
 by_cases aw:i<l.length
 .have hw:IntKind.i64.wrap ((i:Int)+1)=i+1:=aN (by omega)
  have hn:¬(i:Int)<0:=by omega
  have hc:i<s.cells.length:=by omega
  have oy:¬(s.cells.length:Int)<=i:=by omega
  have jL:¬(l.length:Int)<=i:=by omega
  simp[s1,s2,h2,s5,aw,jL,hn,hc,oy,gy,ao,ae];refine oc (q_ hG _ _ _) ?_;cases kW:bH l[i] s.cells[i].lo s.cells[i].hi
  .have hr:iD s l=false:=by
    unfold iD
    have:¬((l.zip s.cells).all λx=>bH x.1 x.2.lo x.2.hi)=true:=λh=>by
     have:=(oF _ l s.cells uC).1 h i aw hc;rw[kW]at this;cases this
    simp only[ah3]at this;rw[this,Bool.and_false]
   simp[s1,s2,h2,s5,hr]
  .simp[s1,s2,h2,s5,hw,aw,ao,ae];intro j hj lg
   by_cases e:j=i
   .subst e;exact⟨hc,kW⟩
   .exact hb j hj (by omega)
 .have cD:i=l.length:=by omega
  subst cD
  have hr:iD s l=true:=by
   unfold iD;rw[ago uC,agU]
   exact(oF _ l s.cells uC).2 λi h h'=>let⟨_,q⟩:=hb i h h;q
  simp[s1,s2,h2,s5,hr,ao,ae]
theorem RU(hG:au GI)(s:aq)(hs:er s):AC prog GI 30 [a_ s] (.ret (.bool (cq s))):=by
 refine bP hG func30 ntmps30 c30 ?_;refine az (λS H=>S 1=.box 1 0/\H 1=some (ao s)) (by simp[a_,ao,ae]) ?_;rintro S H ⟨s1,h1⟩;refine Dz (λS H=>S 1=.box 1 0/\H 1=some (ao s)/\s.cells.any fO=false) ?_ ?_
 .simp[s1,h1,ao,ae];refine bq 3 s.cells.length (λi S H=>S 1=.box 1 0/\H 1=some (ao s)/\S 3=.int .i64 (i:Nat)/\∀j (h:j<s.cells.length),j<i->fO s.cells[j]=false) (λi S H h=>h.2.2.1) ⟨by simp[s1],by simp[h1,ao,ae],by simp,by simp⟩ ?_;clear s1 h1 S H;rintro i hi S H ⟨s1,h1,s3,hb⟩
  by_cases aw:i<s.cells.length
  .have hw:IntKind.i64.wrap ((i:Int)+1)=i+1:=aN (by have:=hs.cells;omega)
   have hn:¬(i:Int)<0:=by omega
   have oy:¬(s.cells.length:Int)<=i:=by omega
   have Kj:fO s.cells[i]=true->cq s=false:=λh=>by
    have:s.cells.any fO=true:=ag2.2 ⟨_,ae_ aw,h⟩;simp[cq,this]
   simp[s1,h1,s3,aw,hn,oy,gy,ao,ae];refine oc (q_ hG _ _ _) ?_;cases e1:bH s.cells[i].lo 1 20
   .have hr:=Kj (by simp[fO,e1]);simp[s1,h1,s3,hr]
   simp[s1,h1,s3,aw,hn,oy,gy,ao,ae];refine oc (q_ hG _ _ _) ?_;cases e2:bH s.cells[i].hi s.cells[i].lo 20
   .have hr:=Kj (by simp[fO,e2]);simp[s1,h1,s3,hr]
   simp[s1,h1,s3,hw,aw,ao,ae];intro j hj lg
   by_cases e:j=i
   .subst e;simp[fO,e1,e2]
   .exact hb j hj (by omega)
  .have cD:i=s.cells.length:=by omega
   subst cD
   have ha:s.cells.any fO=false:=by
    rw[<-iY,ir λj hj=>hb j hj hj];simp
   simp[s1,h1,s3,ha,ao,ae]
   all_goals (intro x hx;obtain⟨j,hj,rfl⟩:=afD hx;exact hb j hj hj)
 clear s1 h1 S H;rintro S H ⟨s1,h1,ha⟩;simp only[dh];refine kK 4 (λS H=>S 1=.box 1 0/\H 1=some (ao s)/\S 41=.bool (bH s.cells.length 1 12)) ?_ ?_
 .simp[s1,h1,ao,ae];refine oc (q_ hG s.cells.length 1 12) ?_;simp[s1,h1,ao,ae]
 have hT:cq s=(((((bH s.cells.length 1 12&&bH s.pos 1 s.cells.length)&&bH s.reach 1 12)&&bH s.dE 1 9)&&bH s.c_ 0 9)&&aU s.name):=by
  simp[cq,ha]
 rw[hT];clear hT;generalize bH s.cells.length 1 12=b1;rintro S1 H1 ⟨s1,h1,I2⟩;refine kK 6 (λS H=>S 1=.box 1 0/\H 1=some (ao s)/\S 47=.bool (b1&&bH s.pos 1 s.cells.length)) ?_ ?_
 .cases b1
  .simp[s1,h1,I2]
  .simp[s1,h1,I2,ao,ae];refine oc (OT hG s s.pos) ?_;simp[s1,h1,I2,ao,ae]
 generalize(b1&&bH s.pos 1 s.cells.length)=b2;clear s1 h1 I2;rintro S2 H2 ⟨s1,h1,uN⟩;refine kK 5 (λS H=>S 1=.box 1 0/\H 1=some (ao s)/\S 52=.bool (b2&&bH s.reach 1 12)) ?_ ?_
 .cases b2
  .simp[s1,h1,uN]
  .simp[s1,h1,uN,ao,ae];refine oc (OD hG s.reach) ?_;simp[s1,h1,uN,ao,ae]
 generalize(b2&&bH s.reach 1 12)=b3;clear s1 h1 uN;rintro S3 H3 ⟨s1,h1,HY⟩;refine kK 5 (λS H=>S 1=.box 1 0/\H 1=some (ao s)/\S 57=.bool (b3&&bH s.dE 1 9)) ?_ ?_
 .cases b3
  .simp[s1,h1,HY]
  .simp[s1,h1,HY,ao,ae];refine oc (OG hG s.dE) ?_;simp[s1,h1,HY,ao,ae]
 generalize(b3&&bH s.dE 1 9)=b4;clear s1 h1 HY;rintro S4 H4 ⟨s1,h1,IW⟩;refine kK 5 (λS H=>S 1=.box 1 0/\H 1=some (ao s)/\S 62=.bool (b4&&bH s.c_ 0 9)) ?_ ?_
 .cases b4
  .simp[s1,h1,IW]
  .simp[s1,h1,IW,ao,ae];refine oc (Q6 hG s.c_) ?_;simp[s1,h1,IW,ao,ae]
 generalize(b4&&bH s.c_ 0 9)=b5;clear s1 h1 IW;rintro S5 H5 ⟨s1,h1,L_⟩;cases b5
 .simp[s1,h1,L_]
 .simp[s1,h1,L_,ao,ae];refine oc (Pq hG s.name hs.name) ?_;simp[s1,h1,L_]
def kE(w:Word):Bool:=decide (w.aG.length<=8)&&decide (w.bD.length<=8)
def lq(s:ar):Bool:=(s.words.take 6).all kE&&(decide (s.aV.length<=8)&&decide (s.aQ.length<=8)&&decide (s.words.length<=6))
theorem ym{s:ar}(h:lq s=true):mG s:=by
 unfold lq at h;simp only[afa,aff]at h;obtain⟨h1,⟨h2,h3⟩,h4⟩:=h;rw[afh h4,afC]at h1
 have h5:∀w∈s.words,w.aG.length<=8/\w.bD.length<=8:=λw hw=>by simpa[kE]using h1 w hw
 exact⟨by omega,by omega,by omega,λw hw=>by have:=(h5 w hw).1;omega,λw hw=>by have:=(h5 w hw).2;omega⟩
def o7(s:aq):Bool:=lq s.name&&decide (s.cells.length<=14)
theorem sO{s:aq}(h:o7 s=true):er s/\s.cells.length<=14/\s.name.words.length<=6:=by
 unfold o7 at h;rw[afa,aff]at h
 have h6:s.name.words.length<=6:=by
  have:=h.1;unfold lq at this;simp only[afa,aff]at this;exact this.2.2
 exact⟨⟨by omega,ym h.1⟩,h.2,h6⟩
theorem QT(hG:au GI)(s:aq):AC prog GI 28 [a_ s] (.ret (.bool (o7 s))):=by
 obtain⟨n,hn⟩:∃n,s.name=n:=⟨_,rfl⟩
 obtain⟨cs,IQ⟩:∃n,s.cells=n:=⟨_,rfl⟩
 have hc:((cs.length:Int)<=14)↔cs.length<=14:=by omega
 have Qm:((n.aV.length:Int)<=8)↔n.aV.length<=8:=by omega
 have RA:((n.aQ.length:Int)<=8)↔n.aQ.length<=8:=by omega
 have Qw:((n.words.length:Int)<=6)↔n.words.length<=6:=by omega
 unfold o7;rw[hn,IQ];refine bP hG func28 ntmps28 c28 ?_;refine az (λS H=>S 1=.box 1 0/\H 1=some (ao s)) (by simp[a_,ao,ae]) ?_;rintro S H ⟨s1,h1⟩
 have hT:ao s=[.slice .view (cs.map gy),.int .i64 s.pos,.int .i64 s.reach,.int .i64 s.dE,.int .i64 s.c_]++ae n:=by rw[<-hn,<-IQ]<;>rfl
 rw[hT]at h1;generalize ao s=T at hT;simp[s1,h1];refine bq 3 (min n.words.length 6) (λi S H=>S 1=.box 1 0/\H 1=some ([.slice .view (cs.map gy),.int .i64 s.pos,.int .i64 s.reach,.int .i64 s.dE,.int .i64 s.c_]++ae n)/\S 3=.int .i64 (i:Nat)/\(∀j (hj:j<(n.words.take 6).length),j<i->kE (n.words.take 6)[j]=true)) (λi S H h=>h.2.2.1) ⟨by simp[s1],by simp[h1],by simp,by simp⟩ ?_;clear s1 h1 S H;rintro i hi S H ⟨s1,e1,s3,hb⟩
 by_cases aw:i<n.words.length
 case neg=>
  have cD:i=n.words.length:=by omega
  subst cD
  have EB:n.words.length<=6:=by omega
  have fX:(n.words.take 6).all kE=true:=qh λj hj=>hb j hj (by rw[afJ]at hj;omega)
  by_cases h0:cs.length<=14<;>by_cases h1:n.aV.length<=8<;>by_cases h2:n.aQ.length<=8<;>simp[s1,e1,s3,ae,lq,fX,h0,h1,h2,EB,hc,Qm,RA,Qw]
 by_cases h6:i<6
 case neg=>
  have FY:¬(i:Int)<6:=by omega
  have fX:(n.words.take 6).all kE=true:=qh λj hj=>hb j hj (by rw[afJ]at hj;omega)
  by_cases h0:cs.length<=14<;>by_cases h1:n.aV.length<=8<;>by_cases h2:n.aQ.length<=8<;>simp[s1,e1,s3,aw,FY,ae,lq,fX,h0,h1,h2,hc,Qm,RA,Qw]
 have hw:IntKind.i64.wrap ((i:Int)+1)=i+1:=aN (by omega)
 have FY:(i:Int)<6:=by omega
 have hit:i<(n.words.take 6).length:=by rw[afJ];omega
 have jy:(n.words.take 6)[i]=n.words[i]:=ag9
 by_cases h1:n.words[i].aG.length<=8
 case neg=>
  have hf:kE (n.words.take 6)[i]=false:=by rw[jy];simp[kE,h1]
  have Df:(8:Int)<n.words[i].aG.length:=by omega
  simp[s1,e1,s3,aw,FY,ae,bW,Df];simp[lq,nM hit hf]
 have Df:¬(8:Int)<n.words[i].aG.length:=by omega
 by_cases h2:n.words[i].bD.length<=8
 case neg=>
  have th:(8:Int)<n.words[i].bD.length:=by omega
  have hf:kE (n.words.take 6)[i]=false:=by rw[jy];simp[kE,h2]
  simp[s1,e1,s3,aw,FY,ae,bW,Df,th];simp[lq,nM hit hf]
 have th:¬(8:Int)<n.words[i].bD.length:=by omega
 have ht:kE (n.words.take 6)[i]=true:=by rw[jy];simp[kE,h1,h2]
 simp[s1,e1,s3,aw,FY,ae,bW,Df,th,hw]
 exact⟨by omega,λj hj lg=>by
  have:=jw hit hb ht j (by rw[afJ];omega) lg
  rwa [ag9]at this⟩
def EN(s:aq):Bool:=o7 s&&cq s
theorem Yf(hG:au GI)(s:aq):AC prog GI 21 [a_ s] (.ret (.bool (EN s))):=by
 have TC:=QT hG s;unfold EN
 cases hs:o7 s with
 |false=>
  rw[hs]at TC;refine bP hG func21 ntmps21 c21 ?_;simp[c21,a_,ao,ae];refine oc TC ?_;simp
 |true=>
  have h30:=RU hG s (sO hs).1;rw[hs]at TC;refine bP hG func21 ntmps21 c21 ?_;simp[c21,a_,ao,ae];refine oc TC ?_;simp;refine oc h30 ?_;simp
theorem MS(hG:au GI)(s:List UInt8):AC prog GI 168 [.bool true,.str s] (.ret (.d_ [])):=by
 refine bP hG func168 ntmps168 c168 ?_;simp[c168]
def yY(w:List UInt8):Bool:=p_ w&&decide (w.length<=2)
theorem vW{w:List UInt8}:yY w=true↔w≠[]/\w.length<=2/\(∀c∈w,digit c)/\jC (cz w)=w:=by
 unfold yY;rw[afa,AA,aff]
 constructor
 .rintro⟨⟨h1,h2,h3,h4⟩,h5⟩;exact⟨h1,h5,h3,h4⟩
 .rintro⟨h1,h2,h3,h4⟩;exact⟨⟨h1,by omega,h3,h4⟩,h2⟩
theorem qe:∀(w:List UInt8),(∀c∈w,digit c)->w.length<=2->0<=cz w/\cz w<100
 |[],_,_=>by simp[cz]
 |[a],h,_=>by have:=h a (by simp);unfold digit at this;simp[cz];omega
 |[a,b],h,_=>by have h1:=h a (by simp);have h2:=h b (by simp);unfold digit at h1 h2;simp[cz];omega
theorem I1(i:Nat)(hi:i<100):AC prog GI 162 [.int .i64 (i:Nat)] (.ret (.str (zr 20 i))):=by
 intro w old dH hG hl hr;obtain⟨v,rfl⟩:=Mm hl rfl;have e1:=(hr 0 (by simp) (by simp)).int_eq;simp only[List.getElem_toArray,List.getElem_cons_zero]at e1;subst e1;refine(Tryz.strconv_Itoa_small i hi w).mono ?_;rintro e w' ⟨rfl,rfl⟩;refine⟨aga _ _,λ_=>0,λ_ _=>rfl,_,rfl,.data _ _ ?_,trivial⟩;rw[zu 20 i (by omega) (by omega)];exact .str _
theorem sQ{n:Int}(h0:0<=n)(h1:n<100):AC prog GI 162 [.int .i64 n] (.ret (.str (jC n))):=by
 have:=I1 (GI:=GI) n.toNat (by omega);rw[ag4 h0]at this;exact this
noncomputable def qQ:af:=af.qb c169.qb.qb.qa.qb.qb
noncomputable def ye:af:=af.qb c169.qb.qb
theorem HZ(hG:au GI)(wd:List UInt8)(hw:yY wd=true):AC prog GI 169 [.str wd] (.ret (.int .i64 (cz wd))):=by
 obtain⟨dO,HB,wm,Wh⟩:=vW.1 hw
 refine AC.gY func169 rfl ntmps169 (by simp) λcc w=>?_
 have ib:∀k d,¬(oK cc w k).bx d:=λ_ _ h=>h
 refine dw hG c169.qa (λS' H'=>S' 0=.str wd) ?_ ?_
 .simp[c169,af.qa]
 rintro S1 H1 s0;refine dw hG c169.qb.qa (λS' H'=>S' 0=.str wd/\S' 3=.int .i64 0) ?_ ?_
 .simp[c169,af.qa,af.qb,s0]
 rintro S2 H2 ⟨s0,s3⟩;show SW prog GI 41 none (.seq (.seq _ (.block 0 (.loop _))) (.seq _ (.seq _ .ret))) _ _ _ _
 obtain⟨sb,kj⟩:∃sb:ByteArray,sb=⟨wd.toArray⟩:=⟨_,rfl⟩
 refine SW.seq (SW.seq (SW.mid hG (p:=1) (oh:={ dst:=some 7,op := .range 9 (.tmp 6),type:=0,pos := "text.go:97",after:=_,guard:=none }) (kY:=[_]) (lJ:=[]) (l2:=[]) rfl rfl rfl rfl (by kernel_rfl) rfl (λ_ h=>h) (lM:=(c169.qb.qb.qa.qa.dl).take 1) (kP:=[]) (by kernel_rfl) rfl (by kernel_rfl) rfl
  (K1:=λS' H'=>S' 6=.str wd/\S' 3=.int .i64 0/\S' 0=.str wd)
  (K2:=λo S' H'=>∃k b,o=oK cc w k/\k b=some (.stringIter sb 0)/\S' 7=.val (.pointer (some ⟨b,0,none⟩))/\S' 3=.int .i64 0/\S' 0=.str wd)
  (K3:=λo S' H'=>∃k b,o=oK cc w k/\k b=some (.stringIter sb 0)/\S' 7=.val (.pointer (some ⟨b,0,none⟩))/\S' 3=.int .i64 0/\S' 0=.str wd) ?_ ?_ ?_ ?_))
 .simp[c169,af.qa,af.qb,af.dl,s0,s3]
 .rintro w0 g S8 H8 a w8 ho R ⟨s6,s3,s0⟩;have t6:=R.slot 6 (by decide) (λh=>h);rw[s6]at t6
  have t6:a.eval (.tmp 6)=.string sb:=by rw[kj];exact kg t6
  have mJ:prog.underlying 9=some .string:=by kernel_rfl
  have R2:=R.kA (.stringIter sb 0);refine⟨_,_,_,av S8 7 (.val (.pointer (some ⟨w8.heap.size,0,none⟩))),H8,.inl (yE rfl mJ t6),R2.put 7 _ _ (by decide) (.data _ _ (.val _ rfl)) trivial,av g.old.bI w8.heap.size (some (.stringIter sb 0)),w8.heap.size,?_,bm _ _ _,by simp[av],by simp[av,s3],by simp[av,s0]⟩;show({ g.old with bI:=av g.old.bI w8.heap.size _ }:Old)=_
  rw[ho]<;>rfl
 .rintro o S8 H8 ⟨k,b,rfl,h⟩;exact⟨ib _,k,b,rfl,h⟩
 rintro o S8 H8 ⟨k,b,rfl,tf,s7,s3,s0⟩
 refine SW.block (SW.K0 (λo S' H'=>∃k b pos,o=oK cc w k/\k b=some (.stringIter sb pos)/\pos<=wd.length/\(∀c∈wd.take pos,digit c)/\(0<pos->wd.length<=2)/\S' 7=.val (.pointer (some ⟨b,0,none⟩))/\S' 3=.int .i64 (cz (wd.take pos))/\S' 0=.str wd)
  (λo S' _=>match S' 7 with|.val (.pointer (some a))=>(match o.bI a.block with|some (.stringIter _ p)=>wd.length-p|_=>0)|_=>0) ⟨k,b,0,rfl,tf,afK _,by simp,by simp,s7,s3,s0⟩ ?_)
 rintro o S9 H9 ⟨k,b,pos,rfl,tf,jb,Sl,pU,s7,s3,s0⟩;have m7:=s7
 have Fm:∀(S:aF)(k:Nat->Option Obj) p,S 7=.val (.pointer (some ⟨b,0,none⟩))->k b=some (.stringIter sb p)->(match S 7 with|.val (.pointer (some a))=>(match(oK cc w k).bI a.block with|some (.stringIter _ p)=>wd.length-p|_=>0)|_=>0)=wd.length-p:=by
  intro S k p h1 h2;rw[h1];show(match k b with|some (.stringIter _ p)=>wd.length-p|_=>0)=_;rw[h2]
 have bL:sb.size=wd.length:=by rw[kj]<;>rfl
 have Kb:=MS (GI:=GI) hG wd
 have e8:∀n H,fz H (.int .i64 n)=.int .i64 n:=λn H=>rfl
 have e9:∀H,fz H (.str wd)=.str wd:=λH=>rfl
 have ij:∀b H,fz H (.bool b)=.bool b:=λb H=>rfl
 show SW prog GI 41 none (.seq _ (.seq (.cond _ _ _) (.block 1 (.seq _ (.seq _ _))))) _ _ _ _
 by_cases hp:pos<wd.length
 case neg=>
  refine SW.seq (SW.mid hG (p:=0) (oh:={ dst:=some 8,op := .next (.tmp 7) true,type:=0,pos := "text.go:97",after := #[],guard:=none }) (kY:=[]) (lJ:=[_]) (l2:=[1]) rfl rfl rfl rfl (by kernel_rfl) rfl (ib _) (lM:=[]) (kP:=(qQ.qa.dl).drop 1) rfl (by kernel_rfl) rfl (by kernel_rfl)
   (K1:=λS' H'=>S' 7=.val (.pointer (some ⟨b,0,none⟩))/\S' 3=.int .i64 (cz wd)/\S' 0=.str wd)
   (K2:=λo S' H'=>o=oK cc w k/\S' 8=.d_ [.bool false]/\S' 3=.int .i64 (cz wd)/\S' 0=.str wd)
   (K3:=λo S' H'=>o=oK cc w k/\S' 9=.bool false/\S' 3=.int .i64 (cz wd)/\S' 0=.str wd) ?_ ?_ ?_ ?_)
  .have:pos=wd.length:=by omega
   subst this;rw[afS]at s3;exact⟨s7,s3,s0⟩
  .rintro w0 g my pD a DT ho R ⟨s7,s3,s0⟩;have t7:=R.slot 7 (by decide) (λh=>h);rw[s7]at t7;have t7:a.eval (.tmp 7)=.pointer (some ⟨b,0,none⟩):=t7.eU
   have hk:g.old.bI b=some (.stringIter sb pos):=by rw[ho];exact tf
   have hb:=(R.kept b _ hk).2.1;refine⟨_,_,_,av my 8 (.d_ [.bool false]),pD,.inl (sG rfl t7 hb (by omega)),R.put 8 _ _ (by decide) (.data _ _ (.d_ _ _ rfl λi h h'=>?_)) trivial,ho,bm _ _ _,by simp[av,s3],by simp[av,s0]⟩
   match i,h with
   |0,_=>exact .bool _
  .rintro o my pD ⟨rfl,s8,s3,s0⟩;refine⟨ib _,?_⟩;simp[c169,qQ,af.qa,af.qb,af.dl,bj,aD,bf,aL,ev,aT.S,aT.H,av,aY,s3,s0,s8,AV.aI]
  rintro o my pD ⟨rfl,s9,s3,s0⟩;refine SW.seq (SW.cond rfl false (by show my 9=_;rw[s9]) (SW.exit ?_));show SW prog GI 41 none (.seq _ _) _ _ _ _
  have ZB:pos=wd.length:=by omega
  have hs:=qe wd wm HB;have Fy:=sQ (GI:=GI) hs.1 hs.2
  have F3:(wd !=[])=true:=by simpa using dO
  rw[Wh]at Fy;refine yu hG ye.qa (λd _=>ib _ d) (λS' H'=>S' 3=.int .i64 (cz wd)) ?_ ?_
  .simp[c169,ye,af.qa,af.qb,bO,bj,aD,bf,aL,aP,ev,aT.S,aT.H,av,aY,s3,s0,AV.aI,dI,F3,e8];refine oc Fy ?_;simp[iH,av,AV.aI,s3,s0,dI,e9,ij];refine oc Kb ?_;simp[iH,av,AV.aI,s3,s0]
  rintro WC UM s3;show SW prog GI 41 none (.seq _ .ret) _ _ _ _;refine yu hG ye.qb.qa (λd _=>ib _ d) (λS' H'=>S' 2=.int .i64 (cz wd)) ?_ ?_
  .simp[c169,ye,af.qa,af.qb,s3]
  rintro U3 V5 s2;refine SW.ret ⟨eD.plain rfl,rfl,_,?_,rfl⟩;show cw prog 41 [.tmp 2] U3 V5=_;simp[cw,cH,cI,s2,AV.bU,AV.out]
 case pos=>
  obtain⟨c,hc⟩:∃c,wd[pos]=c:=⟨_,rfl⟩
  obtain⟨r,hr⟩:∃r:Nat,(Utf8.decode sb pos).1=r:=⟨_,rfl⟩
  obtain⟨p',wz⟩:∃p':Nat,pos+(Utf8.decode sb pos).2=p':=⟨_,rfl⟩
  have y5:sb[pos]'(by omega)=c:=by subst kj;rw[<-hc]<;>rfl
  refine SW.seq (SW.mid hG (p:=0) (oh:={ dst:=some 8,op := .next (.tmp 7) true,type:=0,pos := "text.go:97",after := #[],guard:=none }) (kY:=[]) (lJ:=[_]) (l2:=[1]) rfl rfl rfl rfl (by kernel_rfl) rfl (ib _) (lM:=[]) (kP:=(qQ.qa.dl).drop 1) rfl (by kernel_rfl) rfl (by kernel_rfl)
   (K1:=λS' H'=>S' 7=.val (.pointer (some ⟨b,0,none⟩))/\S' 3=.int .i64 (cz (wd.take pos))/\S' 0=.str wd)
   (K2:=λo S' H'=>o=oK cc w (av k b (some (.stringIter sb p')))/\S' 7=.val (.pointer (some ⟨b,0,none⟩))/\S' 8=.d_ [.bool true,.int .i64 pos,.int .i32 r]/\S' 3=.int .i64 (cz (wd.take pos))/\S' 0=.str wd)
   (K3:=λo S' H'=>o=oK cc w (av k b (some (.stringIter sb p')))/\S' 7=.val (.pointer (some ⟨b,0,none⟩))/\S' 9=.bool true/\S' 8=.d_ [.bool true,.int .i64 pos,.int .i32 r]/\S' 3=.int .i64 (cz (wd.take pos))/\S' 0=.str wd) ⟨s7,s3,s0⟩ ?_ ?_ ?_)
  .rintro w0 g my pD a DT ho R ⟨s7,s3,s0⟩;have t7:=R.slot 7 (by decide) (λh=>h);rw[s7]at t7;have t7:a.eval (.tmp 7)=.pointer (some ⟨b,0,none⟩):=t7.eU
   have hk:g.old.bI b=some (.stringIter sb pos):=by rw[ho];exact tf
   have hb:=(R.kept b _ hk).2.1;refine⟨_,_,_,av my 8 (.d_ [.bool true,.int .i64 pos,.int .i32 r]),pD,.inl (Bv rfl t7 hb (by omega) hr wz),(R.m_ hk _).put 8 _ _ (by decide) (.data _ _ (.d_ _ _ rfl λi h h'=>?_)) trivial,?_,by simp[av,s7],bm _ _ _,by simp[av,s3],by simp[av,s0]⟩
   .match i,h with
    |0,_=>exact .bool _
    |1,_=>exact .int _ _
    |2,_=>exact .int _ _
   .show({ g.old with bI:=av g.old.bI b _ }:Old)=_
    rw[ho]<;>rfl
  .rintro o my pD ⟨rfl,s7,s8,s3,s0⟩;refine⟨ib _,?_⟩;simp[c169,qQ,af.qa,af.qb,af.dl,bj,aD,bf,aL,ev,aT.S,aT.H,av,aY,s3,s0,s7,s8,AV.aI]
  rintro o my pD ⟨rfl,s7,s9,s8,s3,s0⟩;refine SW.seq (SW.cond rfl true (by show my 9=_;rw[s9]) (SW.skip ?_));show SW prog GI 41 none (.block 1 (.seq _ (.seq _ _))) _ _ _ _;have I':digit c:=wm c (hc▸ae_ hp);have FH:=I';unfold digit at FH;have J8:=decode_ascii sb pos (by omega) (by rw[y5];omega)
  have VI:r=c.toNat:=by rw[<-hr,J8,y5]
  have SU:p'=pos+1:=by rw[<-wz,J8]
  subst VI;subst SU
  have P0:∀x∈wd.take (pos+1),digit x:=by
   rw[afd hp,hc];intro x hx;rcases afr.1 hx with hx|hx
   .exact Sl x hx
   .rw[afs]at hx;rw[hx];exact I'
  have ly:wd.take (pos+1)=wd.take pos++[c]:=by rw[afd hp,hc]
  have SK:=nK (wd.take pos) Sl (by simp;omega);refine SW.block (SW.mono (Q:=λe o S' H'=>e=.normal/\o=oK cc w (av k b (some (.stringIter sb (pos+1))))/\S' 7=.val (.pointer (some ⟨b,0,none⟩))/\S' 3=.int .i64 (cz (wd.take (pos+1)))/\S' 0=.str wd) ?_ (SW.nz hG cC (by kernel_rfl) (λd _=>ib _ d) (ac:=af.qb qQ.qb.qb) (by kernel_rfl) ?_))
  .rintro e o S' H' ⟨rfl,rfl,s7,s3,s0⟩;refine⟨⟨av k b (some (.stringIter sb (pos+1))),b,pos+1,rfl,bm _ _ _,hp,P0,λ_=>HB,s7,s3,s0⟩,?_⟩;show(match S' 7 with|.val (.pointer (some a))=>(match(oK cc w (av k b (some (.stringIter sb (pos+1))))).bI a.block with|some (.stringIter _ p)=>wd.length-p|_=>0)|_=>0)<_;rw[Fm S' _ (pos+1) s7 (bm _ _ _),Fm S9 k pos m7 tf];omega
  .unfold mL.bO
   have g1:(48:Int)<=c.toNat:=by omega
   have g2:(c.toNat:Int)<=57:=by omega
   have g3:(wd.length:Int)<=2:=by omega
   have w1:IntKind.i64.wrap (10*cz (wd.take pos))=10*cz (wd.take pos):=aN (by omega);have w2:IntKind.i32.wrap ((c.toNat:Int)-48)=(c.toNat:Int)-48:=wrap32 (by omega);have w3:IntKind.i64.wrap ((c.toNat:Int)-48)=(c.toNat:Int)-48:=aN (by omega)
   have w4:IntKind.i64.wrap (10*cz (wd.take pos)+((c.toNat:Int)-48))=cz (wd.take (pos+1)):=by rw[ly,tW,aN (by omega)]
   simp[c169,qQ,af.qa,af.qb,bO,bj,aD,bf,aL,cV,ev,aT.S,aT.H,av,aY,s3,s0,s7,s8,AV.aI,dI,g1,g2,g3,e9,ij,bu];refine oc Kb ?_;simp[iH,av,AV.aI,s3,s0,s7,dI,w1,w2,w3,w4,bu]
end Go.Proofs.Tryz
namespace Go.Proofs.Tryz
open Go Go.AL Go.RowKit Go.Proofs Go.Proofs.Tram
variable{GI:World->Prop}
theorem lh{s:aq}(h:dJ s):cM s s.cells.length=false:=by
 have:=h.pos;unfold cM
 have:¬s.cells.length<s.pos.toNat:=by omega
 simp[this]
theorem yV{s:aq}(h:dJ s)(es:List End):∀x∈aR s es,0<x:=by
 intro x hx;obtain⟨i,hi,rfl⟩:=afp.1 hx;have hi:=afE.1 hi;have hw:=(jK h.name (ae_ hi)).z_;have hp:=h.dE;have ht:=h.c_;unfold pO;rw[eT hi];have a1:1*1<=s.dE*(s.name.words[i].aG.length:Int):=agh (by omega) (by omega) (by omega) (by omega);have a3:0<=s.c_*(gw es i s.name.words[i].aG.length:Int):=agc (by omega) (by omega);omega
theorem Cb{an:List Int}(hp:∀x∈an,0<x){aZ:Nat->Int}{vs:List (Nat×Nat)}{v:Nat×Nat}(hv:v∈vs)(h:an.sum<=fG aZ v.1 (v.2+1)):dq an aZ vs=an.length:=by
 obtain⟨a,b,rfl⟩:=List.append_of_mem hv
 have key:∀(b:List (Nat×Nat))(n:Nat),n=an.length->b.foldl (λn v=>n+(cy (an.drop n) (fG aZ v.1 (v.2+1))).1) n=an.length:=by
  intro b
  induction b with
  |nil=>intro n hn;exact hn
  |cons y b ih=>
   intro n hn;rw[List.foldl_cons];refine ih _ ?_;rw[hn,ag5];simp[cy]
 have e:dq an aZ (a++v::b)=b.foldl (λn v=>n+(cy (an.drop n) (fG aZ v.1 (v.2+1))).1) (dq an aZ a+(cy (an.drop (dq an aZ a)) (fG aZ v.1 (v.2+1))).1):=by
  unfold dq;rw[afy,List.foldl_cons]
 rw[e];refine key b _ ?_;have hle:=o9 an aZ a
 obtain⟨n,hn⟩:∃n,dq an aZ a=n:=⟨_,rfl⟩
 rw[hn]at hle⊢
 have pL:∀x∈an.drop n,0<x:=λx hx=>hp x (agC hx)
 have hs:(an.take n).sum+(an.drop n).sum=an.sum:=by rw[<-af8,agA]
 have h0:=iX (l:=an.take n) λx hx=>hp x (afV hx)
 have h1:=iX (l:=an.drop n) pL;have:=(Ae pL (t:=fG aZ v.1 (v.2+1)) (by omega)).2 (by omega);rw[this,agN];omega
theorem qT{s:aq}(h:dJ s)(i n:Nat):∀j,0<=dz (fK s i n) j:=λj=>by
 unfold dz fK;rw[afA,ahe];have hb:=(l_ h 0).2
 have hg:∀k,0<=(bg 0 s).getD k 0:=λk=>by
  rw[afA]
  cases hk:(bg 0 s)[k]? with
  |none=>exact af9 0
  |some x=>exact(hb x (agB hk)).1
 split
 .split
  .have:=hg i;simp only[Option.getD_some];omega
  .exact af9 0
 .have:=hg j;rwa [afA]at this
theorem vN(l:List Int)(i j:Nat)(x:Int):(l.set i x).getD j 0=if i=j then(if i<l.length then x else 0)else l.getD j 0:=by
 rw[afA,ahe];split
 .split<;>rfl
 .rw[afA]
theorem z7(s:aq)(i:Nat){m n:Nat}(U7:m<=n)(j:Nat):dz (fK s i m) j<=dz (fK s i n) j:=by
 unfold dz fK;rw[vN,vN];split
 .split
  .omega
  .exact af9 _
 .exact af9 _
theorem Bc{s:aq}(h:dJ s){an:List Int}(hp:∀x∈an,0<x)(i:Nat):∀x y,x<=y->kH s an i x=true->kH s an i y=true:=by
 intro x y Ua hx;unfold kH at hx⊢;rw[aff]at hx⊢;have h1:=yR (na:=an) (nb:=an) rfl (λ_ _ _=>af9 _) hp (qT h i x) (qT h i y) (lh h) (lh h) (λj _ hs=>⟨hs,z7 s i Ua j⟩);have h2:=o9 an (dz (fK s i y)) (dn (cM s) s.cells.length);unfold om at hx⊢;omega
theorem Cy{s:aq}(h:dJ s){f t m:Nat}(hf:f<=t)(ht:t<s.cells.length):(m:Int)<=fG (dz (fK s f m)) f (t+1):=by
 have hl:(bg 0 s).length=s.cells.length:=by simp[bg]
 have h0:(m:Int)<=dz (fK s f m) f:=by
  unfold dz fK;rw[afA,ahe,if_pos rfl,if_pos (by omega),Option.getD_some];have:=(l_ h 0).2 _ (ae_ (show f<(bg 0 s).length by omega));rw[afA,ae9 (by omega),Option.getD_some];omega
 have key:∀d,(m:Int)<=fG (dz (fK s f m)) f (f+d+1):=by
  intro d
  induction d with
  |zero=>
   rw[Nat.add_zero,nh _ (afg f),qX];omega
  |succ d ih=>
   rw[show f+(d+1)+1=(f+d+1)+1 by omega,nh _ (by omega)];have:=qT h f m (f+d+1);omega
 have:=key (t-f);rwa [show f+(t-f)+1=t+1 by omega]at this
theorem BA{s:aq}(h:dJ s){an:List Int}(hp:∀x∈an,0<x)(hv:(cL s).isEmpty=false):∃c,c<s.cells.length/\kH s an c an.sum.toNat=true:=by
 cases AK:dn (cM s) s.cells.length with
 |nil=>simp[cL,AK]at hv
 |cons v l=>
  have eK:=(sf (lh h)).1 v (by rw[AK];simp);refine⟨v.1,by omega,?_⟩;unfold kH om;rw[aff];have h0:=iX hp;exact Cb (v:=v) hp (by rw[AK];simp) (by have:=Cy h (m:=an.sum.toNat) eK.1 eK.2;omega)
def xD(p:Nat->Bool)(k:Nat):Nat:=((List.range k).find? p).getD k
theorem tq(p:Nat->Bool)(k:Nat):kN p k (xD p k):=by
 unfold xD
 cases hf:(List.range k).find? p with
 |none=>
  refine⟨afg _,λx hx=>?_,λh=>absurd h (by simp)⟩;have:=agw.1 hf x (afE.2 (by simpa using hx));simpa using this
 |some r=>
  obtain⟨h1,pa,pb,h2,h3⟩:=List.find?_eq_some_iff_append.1 hf;have hr:r<k:=afE.1 (ag8 hf);refine⟨by simp;omega,λx hx=>?_,λ_=>h1⟩;simp only[Option.getD_some]at hx
  have AJ:x∈pa++r::pb:=by rw[<-h2];exact afE.2 (by omega)
  rcases afr.1 AJ with h|h
  .have:=h3 x h;simpa using this
  .exfalso
   have HX:(pa++r::pb).Pairwise (·<·):=by rw[<-h2];exact ahw
   have HX:=(agy.1 HX).2.1;rcases afU.1 h with h|h
   .omega
   .have:=(agz.1 HX).1 x h;omega
def eM(s:aq)(an:List Int)(i:Nat):Nat:=xD (kH s an i) (an.sum.toNat+1)
def B'(s:aq)(an:List Int):Option (Nat×Nat):=match eg (eM s an) an.sum.toNat s.cells.length with
 |x::l=>some (lT x l)
 |[]=>none
def pt(s:aq):List AV:=
 if cq s then(match dV s.name with
  |some es=>if(cL s).isEmpty then[.int .i64 0,.int .i64 0,.int .i64 5]else(match B' s (aR s es)with|some q=>[.int .i64 (q.1:Nat),.int .i64 (q.2:Nat),.int .i64 0]|none=>[])
  |none=>[.int .i64 0,.int .i64 0,.int .i64 7])else[.int .i64 0,.int .i64 0,.int .i64 2]
theorem qk:∀(l:List (Nat×Nat))(x:Nat×Nat),ik (bX x) (l.map bX)=bX (lT x l)
 |[],_=>rfl
 |y::l,x=>by
  have e1:ik (bX x) ((y::l).map bX)=ik (if(bX y).2<(bX x).2 then bX y else bX x) (l.map bX):=rfl;have e2:lT x (y::l)=lT (if y.2<x.2 then y else x) l:=rfl;rw[e1,e2,<-qk l]
  congr 1
  by_cases h:y.2<x.2
  .rw[if_pos h,if_pos (by show(y.2:Int)<(x.2:Int);omega)]
  .rw[if_neg h,if_neg (by show¬(y.2:Int)<(x.2:Int);omega)]
theorem uf:∀{l:List Int}{b:Int},(∀x∈l,x<=b)->0<=b->l.sum<=l.length*b
 |[],_,_,_=>by simp
 |x::l,b,h,hb=>by
  have h1:=h x (by simp);have h2:=uf (l:=l) (λy hy=>h y (by simp[hy])) hb;simp only[List.sum_cons,List.length_cons]
  have:((l.length+1:Nat):Int)*b=l.length*b+b:=by rw[Int.natCast_add,Int.add_mul];simp
  omega
end Go.Proofs.Tryz
