/-
  A part of the proof.
-/
import Derived.Test.YtdiflocclemeaaaGreatDoorLv2
import Derived.Test.YtdiflocclemeaaaGreatDoorTie
import Derived.Test.YtdiflocclemeaaaGreatDoorCards
set_option maxRecDepth 100000
set_option maxHeartbeats 8000000
set_option linter.all false
set_option linter.unusedVariables false
set_option linter.unusedSimpArgs false
set_option linter.deprecated false
namespace Go.Proofs.Tryz
open Go Go.AL Go.RowKit Go.Proofs Go.Proofs.Tram
attribute [local simp] dF fc nC ml ef dI dJ cZ c_ ee cW cE gh gj aF aH ev aQ.S aQ.H bz ar aT AL.start AV.cells AV.storable AV.bZ bo bX dS b0 HR.okB post cy cJ cK AV.out AV.bT cb dk fz gI AV.vw df vI int b_ aM cU db gB iN eY dQ bQ AV.aG AV.bH
variable{GI:World->Prop}
theorem N9(out:List Int)(l:List (List End)):aJ 2 (l.map (aL out))=true:=gx λa=>⟨rfl,rfl⟩
theorem fX(out:List Int)(es:List End):aL out es=.agg [vI out,.slice .view (es.map aX)]:=rfl
theorem abJ(hG:aw GI)(s:aq)(cM:aU s=true)(out:List Int)(ho:out.length<1000000):AC prog GI 214 [bP s,vI out] (.ret (.slice .view ((qF s out s.rows.toNat).map (aL out)))):=by
 have hF:=eg cM;have hr:=hF.rows;have Au:=rN cM out;have kK:=ub cM out (m:=s.rows.toNat) (by omega);have aco:=abt hG s cM out ho;have a148:=abX hG s.rows.toNat [] (gV s out) (by omega) (by simp;omega) Au;have e:ch [] (gV s out) s.rows.toNat=qF s out s.rows.toNat:=rfl;rw[e,afN (by omega)]at a148;refine AC.iA (o:=if qF s out s.rows.toNat=[]then .nil else .view) ?_
 generalize qF s out s.rows.toNat=A at*
 refine bW hG func214 ntmps214 c214 ?_;refine aI (λS H=>S 1=vI out/\S 2=.box 2 0/\H 2=some (ae s)) (by simp[ai,ah,bP,ae]) ?_;rintro S H ⟨s1,s2,e2⟩;refine aI (λS H=>S 1=vI out/\S 5=.slice .view (A.map vE)) ?_ ?_
 .simp[ai,ah,s1,s2,e2,ae];refine oc aco ?_;simp[ai,ah,s1,s2,e2,ae];refine oc a148 ?_;simp[ai,ah,s1]
 clear s1 s2 e2 S H;rintro S H ⟨s1,s5⟩;simp[ai,ah,s1,s5];refine bw 7 A.length (λi S H=>S 1=vI out/\S 5=.slice .view (A.map vE)/\S 7=.int .i64 (i:Nat)/\S 6=grow 39 ((A.take i).map (aL out))) (λi S H h=>h.2.2.1) ⟨by simp[ai,ah,s1],by simp[ai,ah,s5],by simp[ai,ah],by simp[ai,ah,grow]⟩ ?_;clear s1 s5 S H;rintro i hi S H ⟨s1,s5,s7,s6⟩
 by_cases au:i<A.length
 case neg=>
  have cH:i=A.length:=by omega
  subst cH;rw[adn (adh _)]at s6
  by_cases h0:A=[]
  .subst h0;simp[ai,ah,s1,s5,s7,s6,grow]
  .have Fq:S 6=.slice (.own 39) (A.map (aL out)):=by rw[s6];simp[grow,h0]
   simp[ai,ah,s1,s5,s7,Fq,h0]
 have hw:IntKind.i64.wrap ((i:Int)+1)=i+1:=aN (by omega);have ht:A.take (i+1)=A.take i++[A[i]]:=adj au
 have xn:(A.take i).length<=277:=by rw[adM];omega
 rw[ht];generalize A.take i=B at s6 xn⊢;have dT:aJ 2 [aL out A[i]]=true:=rfl;simp[s1,s5,s7,s6,au,vE,bI];refine fx (B.map (aL out)) (aL out A[i]) (.own 39) (by simp[s6,grow]) (by simp[fX]) dT (N9 _ _) (by rw[adi];omega) ?_;intro S' sd dP;simp[sd,dP,s1,s5,s7,au,hw,vE,grow]
theorem Xh(hG:aw GI)(s:aq)(cM:aU s=true)(out:List Int)(ho:out.length<1000000)(fV:cq s out=true):AC prog GI 195 [bP s,vI out] (.ret (.slice .view ((dw s out).map (aL out)))):=by
 have hr:=(eg cM).rows;have kK:=ub cM out (m:=s.rows.toNat) (by omega);have a105:=abJ hG s cM out ho
 have hA:∀es∈qF s out s.rows.toNat,AC prog GI 215 [bP s,aL out es,.int .i64 0] (.ret (.bool (eX s out es 0))):=λes h=>by
  obtain⟨h1,h2⟩:=tI cM fV h;exact aal hG s (pY cM) cM out ho es (by omega) h1 (by omega) (by omega)
 refine AC.iA (o:=if dw s out=[]then .nil else .view) ?_;unfold dw
 generalize qF s out s.rows.toNat=A at*
 generalize hB:(A.filter λes=>eX s out es 0)=B;refine bW hG func195 ntmps195 c195 ?_;refine aI (λS H=>S 1=vI out/\S 2=.box 2 0/\H 2=some (ae s)) (by simp[ai,ah,bP,ae]) ?_;rintro S H ⟨s1,s2,e2⟩;refine aI (λS H=>S 1=vI out/\S 2=.box 2 0/\H 2=some (ae s)/\S 5=.slice .view (A.map (aL out))) ?_ ?_
 .simp[ai,ah,s1,s2,e2,ae];refine oc a105 ?_;simp[ai,ah,s1,s2,e2,ae]
 clear s1 s2 e2 S H;rintro S H ⟨s1,s2,e2,s5⟩;simp[ai,ah,s1,s2,e2,s5];refine bw 7 A.length (λi S H=>S 1=vI out/\S 2=.box 2 0/\H 2=some (ae s)/\S 5=.slice .view (A.map (aL out))/\S 7=.int .i64 (i:Nat)/\S 6=grow 39 (((A.take i).filter λes=>eX s out es 0).map (aL out))) (λi S H h=>h.2.2.2.2.1) ⟨by simp[ai,ah,s1],by simp[ai,ah,s2],by simp[ai,ah,e2],by simp[ai,ah,s5],by simp[ai,ah],by simp[ai,ah,grow]⟩ ?_;clear s1 s2 e2 s5 S H;rintro i hi S H ⟨s1,s2,e2,s5,s7,s6⟩
 by_cases au:i<A.length
 case neg=>
  have cH:i=A.length:=by omega
  subst cH;rw[adn (adh _)]at s6;rw[hB]at s6
  by_cases h0:B=[]
  .subst h0;simp[ai,ah,s1,s2,e2,s5,s7,s6,grow]
  .have Fq:S 6=.slice (.own 39) (B.map (aL out)):=by rw[s6];simp[grow,h0]
   simp[ai,ah,s1,s2,e2,s5,s7,Fq,h0]
 have hw:IntKind.i64.wrap ((i:Int)+1)=i+1:=aN (by omega)
 have ht:(A.take (i+1)).filter (λes=>eX s out es 0)=(A.take i).filter (λes=>eX s out es 0)++if eX s out A[i] 0 then[A[i]]else[]:=by
  rw[adj au,List.filter_append,List.filter_cons]
  split<;>simp
 have xn:((A.take i).filter λes=>eX s out es 0).length<=277:=by
  have:=aeV (λes=>eX s out es 0) (A.take i);rw[adM]at this;omega
 have a36:=hA A[i] (ada au);rw[ht];clear hB;generalize(A.take i).filter (λes=>eX s out es 0)=B at s6 xn⊢;have dT:aJ 2 [aL out A[i]]=true:=rfl;simp[s1,s2,e2,s5,s7,s6,au,ae,fX];refine oc a36 ?_;cases eX s out A[i] 0
 .simp[s1,s2,e2,s5,s7,s6,au,hw,ae,fX,grow]
 simp[s1,s2,e2,s5,s7,s6,au,ae,fX];refine fx (B.map (aL out)) (aL out A[i]) (.own 39) (by simp[s6,grow,fX]) (by simp[fX]) dT (N9 _ _) (by rw[adi];omega) ?_;intro S' sd dP;simp[sd,dP,s1,s2,e2,s5,s7,au,hw,ae,fX,grow]
theorem P2{A:List (List End)}{i:Nat}(h:i<A.length):oQ List.length (A.take (i+1))=if oQ List.length (A.take i)=0\/A[i].length<oQ List.length (A.take i)then A[i].length else oQ List.length (A.take i):=by
 unfold oQ;rw[adj h,adL];rfl
theorem abU(hG:aw GI)(s:aq)(cM:aU s=true):AC prog GI 196 [bP s] (.ret (.int .i64 (oQ List.length (dw s []):Nat))):=by
 have Z9:=Xh hG s cM [] (by simp) (lq cM);have Jx:=wk cM []
 have hg3:∀a∈dw s [],a.length<=3:=λa h=>(sK cM h).2.1
 generalize dw s []=A at*
 refine bW hG func196 ntmps196 c196 ?_;refine aI (λS H=>S 1=.box 1 0/\H 1=some (ae s)) (by simp[ai,ah,bP,ae]) ?_;rintro S H ⟨s1,e1⟩;refine aI (λS H=>S 3=.slice .view (A.map (aL []))) ?_ ?_
 .simp[ai,ah,s1,e1,ae];refine oc Z9 ?_;simp[ai,ah]
 clear s1 e1 S H;rintro S H s3;simp[ai,ah,s3];refine bw 5 A.length (λi S H=>S 3=.slice .view (A.map (aL []))/\S 5=.int .i64 (i:Nat)/\S 4=.int .i64 (oQ List.length (A.take i):Nat)) (λi S H h=>h.2.1) ⟨by simp[ai,ah,s3],by simp[ai,ah],by simp[ai,ah,oQ]⟩ ?_;clear s3 S H;rintro i hi S H ⟨s3,s5,s4⟩
 by_cases au:i<A.length
 case neg=>
  have cH:i=A.length:=by omega
  subst cH;rw[adn (adh _)]at s4;simp[ai,ah,s3,s5,s4]
 have hw:IntKind.i64.wrap ((i:Int)+1)=i+1:=aN (by omega);rw[P2 au];generalize oQ List.length (A.take i)=m at s4⊢;have h3:=hg3 A[i] (ada au)
 by_cases hm:m=0
 .subst hm;simp[ai,ah,s3,s5,s4,au,fX,hw]
 have EU:((m:Int)==0)=false:=by simp;omega
 by_cases hl:A[i].length<m
 .have pz:(A[i].length:Int)<m:=by omega
  simp[ai,ah,s3,s5,s4,au,fX,hw,EU,hm,hl,pz]
 .have pz:¬(A[i].length:Int)<m:=by omega
  simp[ai,ah,s3,s5,s4,au,fX,hw,EU,hm,hl,pz]
def Bz(s:aq):List End×Int:=zz List.length (jn s []) (oQ List.length (dw s [])) [] (dw s [])
theorem Tt{s:aq}{r:Nat}{A:List (List End)}{i:Nat}(h:i<A.length):zz List.length (jn s []) r [] (A.take (i+1))=if A[i].length=r/\(zz List.length (jn s []) r [] (A.take i)).2<jn s [] A[i]then(A[i],jn s [] A[i])else zz List.length (jn s []) r [] (A.take i):=by
 unfold zz;rw[adj h,adL];rfl
theorem abK(hG:aw GI)(s:aq)(cM:aU s=true):AC prog GI 156 [bP s] (.ret (.dN [aL [] (Bz s).1,.int .i64 (max 0 (Bz s).2),.bool (decide (0<=(Bz s).2))])):=by
 obtain⟨it,hit,bq⟩:=bp (P:=prog) (t:=39) (s:=2) (by kernel_rfl);have Z9:=Xh hG s cM [] (by simp) (lq cM);have a43:=abU hG s cM;have Jx:=wk cM []
 have hA:∀es∈dw s [],AC prog GI 197 [bP s,aL [] es] (.ret (.int .i64 (jn s [] es))):=λes h=>by
  obtain⟨h1,h2,_⟩:=sK cM h;exact abY hG s (pY cM) cM [] (by simp) es (by omega) h1
 unfold Bz
 generalize oQ List.length (dw s [])=r at*
 generalize dw s []=A at*
 refine bW hG func156 ntmps156 c156 ?_;refine aI (λS H=>S 1=.box 1 0/\H 1=some (ae s)/\S 2=.box 2 0/\H 2=some [.slice .nil [],.slice .nil []]) (by simp[ai,ah,bP,ae]) ?_;rintro S H ⟨s1,e1,s2,e2⟩;refine aI (λS H=>S 1=.box 1 0/\H 1=some (ae s)/\S 2=.box 2 0/\H 2=some [.slice .nil [],.slice .nil []]/\S 5=.slice .view (A.map (aL []))) ?_ ?_
 .simp[ai,ah,s1,e1,s2,e2,ae];refine oc Z9 ?_;simp[ai,ah,s1,e1,s2,e2,ae]
 clear s1 e1 s2 e2 S H;rintro S H ⟨s1,e1,s2,e2,s5⟩;refine aI (λS H=>S 1=.box 1 0/\H 1=some (ae s)/\S 2=.box 2 0/\H 2=some [.slice .nil [],.slice .nil []]/\S 5=.slice .view (A.map (aL []))/\S 6=.box 6 0/\H 6=some [.slice .nil [],.slice .nil []]) (by simp[ai,ah,s1,e1,s2,e2,s5]) ?_;clear s1 e1 s2 e2 s5 S H;rintro S H ⟨s1,e1,s2,e2,s5,s6,e6⟩;refine aI (λS H=>S 1=.box 1 0/\H 1=some (ae s)/\S 2=.box 2 0/\H 2=some [.slice .nil [],.slice .nil []]/\S 5=.slice .view (A.map (aL []))/\S 6=.box 6 0/\H 6=some [.slice .nil [],.slice .nil []]/\S 7=.int .i64 (-1)/\S 8=.int .i64 r) ?_ ?_
 .simp[ai,ah,s1,e1,s2,e2,s5,s6,e6,ae];refine oc a43 ?_;simp[ai,ah,s1,e1,s2,e2,s5,s6,e6,ae]
 clear s1 e1 s2 e2 s5 s6 e6 S H;rintro S H ⟨s1,e1,s2,e2,s5,s6,e6,s7,s8⟩;simp[ai,ah,s1,e1,s2,e2,s5,s6,e6,s7,s8];refine bw 9 A.length (λi S H=>S 1=.box 1 0/\H 1=some (ae s)/\S 2=.box 2 0/\H 2=some [.slice .nil [],.slice .nil []]/\S 5=.slice .view (A.map (aL []))/\S 6=.box 6 0/\S 8=.int .i64 r/\S 9=.int .i64 (i:Nat)/\S 7=.int .i64 (zz List.length (jn s []) r [] (A.take i)).2/\∃f,H 6=some [.slice f [],.slice f ((zz List.length (jn s []) r [] (A.take i)).1.map aX)]/\(f=.view\/f=.nil)) (λi S H h=>h.2.2.2.2.2.2.2.1) ⟨by simp[ai,ah,s1],by simp[ai,ah,e1],by simp[ai,ah,s2],by simp[ai,ah,e2],by simp[ai,ah,s5],by simp[ai,ah,s6],by simp[ai,ah,s8],by simp[ai,ah],by simp[ai,ah,s7,zz],.nil,by simp[ai,ah,e6,zz],.inr rfl⟩ ?_;clear s1 e1 s2 e2 s5 s6 e6 s7 s8 S H;rintro i hi S H ⟨s1,e1,s2,e2,s5,s6,s8,s9,s7,f,e6,hf⟩
 by_cases au:i<A.length
 case neg=>
  have cH:i=A.length:=by omega
  subst cH;rw[adn (adh _)]at s7 e6
  generalize zz List.length (jn s []) r [] A=o at*
  rcases hf with rfl|rfl
  .simp[ai,ah,s1,e1,s2,e2,s5,s6,s8,s9,s7,e6,hit,bq,eS,fX,ints]
  .simp[ai,ah,s1,e1,s2,e2,s5,s6,s8,s9,s7,e6,hit,bq,eS,fX,ints]
 have hw:IntKind.i64.wrap ((i:Int)+1)=i+1:=aN (by omega);have a35:=hA A[i] (ada au);rw[Tt au]
 generalize zz List.length (jn s []) r [] (A.take i)=o at*
 simp[ai,ah,s1,e1,s2,e2,s5,s6,s8,s9,s7,e6,au,ae,fX];refine oc a35 ?_
 by_cases hl:A[i].length=r
 case neg=>
  have pz:((A[i].length:Int)==r)=false:=by simp;omega
  simp[ai,ah,s1,e1,s2,e2,s5,s6,s8,s9,s7,e6,au,ae,fX,hl,pz,hw];exact hf
 have pz:((A[i].length:Int)==r)=true:=by simp;omega
 by_cases hm:o.2<jn s [] A[i]
 .simp[ai,ah,s1,e1,s2,e2,s5,s6,s8,s9,s7,e6,au,ae,fX,hl,pz,hm,hw];exact⟨.view,⟨⟨rfl,rfl⟩,rfl⟩,.inl rfl⟩
 .simp[ai,ah,s1,e1,s2,e2,s5,s6,s8,s9,s7,e6,au,ae,fX,hl,pz,hm,hw];exact hf
def gW(s:az)(es:List End):List Int:=(List.range s.name.words.length).map λi=>((iV es i (cg s.name i):Nat):Int)
theorem ace(hG:aw GI)(s:az)(h:eQ s)(es:List End)(he:es.length<=3):AC prog GI 96 [a_ s,vI (gW s es)] (.ret (vI (aW s es))):=by
 have WZ:1<=s.name.words.length/\s.name.words.length<=1000:=by
  have:=(eg h.name).words;omega
 have hlen:∀i,(hi:i<s.name.words.length)->s.name.words[i].aK.length<=6:=λi hi=>(lg h.name (ada hi)).uw
 have ni:(gW s es).length=s.name.words.length:=by simp[gW]
 have ac1:=h.eH;have fY:=h.dE;refine bW hG func96 ntmps96 c96 ?_;refine aI (λS H=>S 1=vI (gW s es)/\S 2=.box 2 0/\H 2=some (ao s)) (by simp[a_,ao,ae,ai,ah]) ?_;rintro S H ⟨s1,s2,h2⟩;refine aI (λS H=>S 1=vI (gW s es)/\S 2=.box 2 0/\H 2=some (ao s)/\S 5=grow 3 (ints [])) (by simp[s1,s2,h2,ao,ae,ints,grow,ai,ah]) ?_;clear s1 s2 h2 S H;rintro S H ⟨s1,s2,h2,s5⟩;simp[s1,s2,h2,s5,ni,ao,ae,ai,ah];refine bw 6 s.name.words.length (λi S H=>S 1=vI (gW s es)/\S 2=.box 2 0/\H 2=some (ao s)/\S 6=.int .i64 (i:Nat)/\S 5=grow 3 (ints ((aW s es).take i))) (λi S H h=>h.2.2.2.1) ⟨by simp[s1,ai,ah],by simp[s2,ai,ah],by simp[h2,ao,ae,ai,ah],by simp[ai,ah],by simp[s5,ai,ah]⟩ ?_;clear s1 s2 h2 s5 S H;rintro i hi S H ⟨s1,s2,h2,s6,s5⟩
 have vP:(aW s es).length=s.name.words.length:=by simp[aW]
 by_cases au:i<s.name.words.length
 .have hw:IntKind.i64.wrap ((i:Int)+1)=i+1:=aN (by omega)
  have hn:¬(i:Int)<0:=by omega
  have qi:¬(s.name.words.length:Int)<=i:=by omega
  have Jt:=hlen i au
  have Ju:cg s.name i=s.name.words[i].aK.length:=by simp[cg,au]
  have xR:=zV es i (cg s.name i)
  have hci:(gW s es)[i]'(by omega)=((iV es i (cg s.name i):Nat):Int):=by simp[gW]
  have hm:ints ((aW s es).take (i+1))=ints ((aW s es).take i)++[.int .i64 (s.eH*(s.name.words[i].aK.length:Int)+s.dE*((iV es i (cg s.name i):Nat):Int))]:=by
   rw[adj (by omega)];simp[ints,aW,ss,Ju]
  have a1:0<=s.eH*(s.name.words[i].aK.length:Int):=aeF (by omega) (by omega);have a2:s.eH*(s.name.words[i].aK.length:Int)<=9*6:=aeO (by omega) (by omega) (by omega) (by omega);have b1:0<=s.dE*((iV es i (cg s.name i):Nat):Int):=aeF (by omega) (by omega);have b2:s.dE*((iV es i (cg s.name i):Nat):Int)<=9*3:=aeO (by omega) (by omega) (by omega) (by omega)
  generalize iV es i (cg s.name i)=cn at*
  have kR:IntKind.i64.wrap (s.eH*(s.name.words[i].aK.length:Int))=s.eH*(s.name.words[i].aK.length:Int):=aN (by omega);have gD:IntKind.i64.wrap (s.dE*(cn:Int))=s.dE*(cn:Int):=aN (by omega);have om:IntKind.i64.wrap (s.eH*(s.name.words[i].aK.length:Int)+s.dE*(cn:Int))=s.eH*(s.name.words[i].aK.length:Int)+s.dE*(cn:Int):=aN (by omega)
  have BT:(ints ((aW s es).take i)).length<=s.name.words.length:=by simp[ints];omega
  have aah:=lj ((aW s es).take i);rw[hm]
  generalize ints ((aW s es).take i)=L at*
  generalize hX:s.eH*(s.name.words[i].aK.length:Int)+s.dE*(cn:Int)=X at*
  have dT:aJ 1 [AV.int .i64 X]=true:=rfl;simp[s1,s2,h2,s6,s5,ni,au,hn,qi,hci,kR,gD,om,hX,bD,ao,ae,dT];refine pn L (.int .i64 X) (.own 3) (by simp[s5,grow]) (by simp) dT aah (by omega) ?_;intro S' sd dP;simp[sd,dP,s1,s2,h2,s6,hw,au,ao,ae,grow]
 .have cH:i=s.name.words.length:=by omega
  subst cH;rw[<-vP,aea]at s5
  have BL:ints (aW s es)≠[]:=by
   intro hh
   have:(aW s es).length=0:=by simpa[ints]using congrArg List.length hh
   omega
  simp only[grow,if_neg BL]at s5
  generalize ints (aW s es)=L at*
  simp[s1,s2,h2,s6,s5,ni,ao,ae,ai,ah]
end Go.Proofs.Tryz
namespace Go.Proofs.Tryz
open Go Go.AL Go.RowKit Go.Proofs Go.Proofs.Tram
variable{GI:World->Prop}
theorem n_(a:Act)(d:Nat)(c c':Value):(a.put (some d) c).put (some d) c'=a.put (some d) c':=by
 simp[Act.put]
theorem Og(s:az):(AV.agg (ao s)).vw=.agg (ao s):=by simp[AV.vw,ao,ae,AV.bH,vI]
theorem CW{Pr:Nat->Nat->Prop}{w:World}{n:Int}{c:Value}(h:RD Pr w (mY n) c):c=.iface 192 (.agg #[.int .i64 n]):=by
 unfold mY at h
 cases h with
 |iface _ _ c h=>
  cases h with
  |agg _ vs hl h1 hr=>
   obtain⟨u,rfl⟩:=nN (vs:=vs) (by rw[<-hl];rfl);have:=hr 0 (by simp) (by simp);have:=(RV.data (al:=cj) _ _ this).int_eq;simp only[List.getElem_toArray,List.getElem_cons_zero]at this;rw[this]
section
variable{w0:World}{n:Nat}{g:Gh}{S:av}{H:aD}{a:Act}{w:World}{d i2 i6:Nat}{s:az}{z:List AV}
theorem ph (hG:aw GI) (cT:GI w0) (R:Rel prog w0 n cm g S H a w) (hd:d < n) (sX:i2 < n) (yG:i6 < n) (yE:d≠i6)
  (qO:S i2=.box i2 0) (rM:H i2=some (ao s)) (yq:S i6=.box i6 0) (Ac:H i6=some z) {R':Ending->World->Prop}
  (h:∀(c1:Value)(g1:Gh),g1.old=g.old->Rel prog w0 n cm g1 (ar S d (.agg (ao s))) H (a.put (some d) c1) w->GI w->RV (fy g1 false) (λ_=>none) w (a_ s) c1->∀(b6:Nat),a.tmps.getD i6 undef=.pointer (some ⟨b6,0,none⟩)->
   ∃RR:Ending->World->Prop,Calls prog 108 #[c1] w RR/\∀en w2,RR en w2->match en with
    |.returned v=>∀ (aC:Act) (o:Oper),aC.eval (.tmp 1) = .pointer (some ⟨b6,0,none⟩)→aC.eval (.tmp 3)=v→o.op = .store 102 (.tmp 1) (.tmp 3) →
      ∃w3,((execOp aC.eval o).run prog w2=.ok .skip w3\/∃u,(execOp aC.eval o).run prog w2=.ok (.value u) w3)/\R' (.returned (.tuple #[])) w3
    |.panicked ch=>R' (.panicked ch) w2
    |.outgrown=>False):
  Calls prog 135 #[a.tmps.getD i2 undef,a.tmps.getD i6 undef] w R':=by
 obtain⟨b2,kZ,e2⟩:=jV R sX qO;obtain⟨b6,al6,e6⟩:=jV R yG yq;have bq:=R.size;have wh:=R.below;rw[R.base]at wh;have fU:GI w:=hG w0 w cT wh;obtain⟨i40,YY,Xl⟩:=bp (P:=prog) (t:=31) (s:=15) (by kernel_rfl);obtain⟨fs,fE⟩:=cd (P:=prog) (t:=31) (by kernel_rfl)
 have ke:aH S H (.load .any (eS (.struct fs)) i40.size (.t i2))=some { v:=.agg (ao s) }:=by
  simp[aH,ev,qO,rM,HR.okB,Xl,eS,b0,ao,ae,AV.aG,vI]
 obtain ⟨c1,w1,g1,dv,xu,py,R1⟩:=FB R (o:={ dst:=some d,op := .load 31 (.tmp i2),type:=0,pos := "",after := #[],guard:=none }) (x := .tmp i2) (y := .t i2) rfl (λt ht=>by cases ht;exact ⟨hd,id⟩) YY fE (by simp [eO,sX]) (λ_ _=>id) ke
 have kR:w1=w:=by
  rcases dv with dv|⟨dv,_⟩
  .exact(nz (P:=prog) (by rfl) dv).1
  .obtain⟨_,v,hv⟩:=nz (P:=prog) (by rfl) dv;cases hv
 subst kR
 have Vr:(execOp a.eval { dst:=some d,op := .load 31 (.tmp i2),type:=0,pos := "",after := #[],guard:=none }).run prog w1 = .ok (.value c1) w1:=by
  rcases dv with dv|⟨dv,_⟩
  .exact dv
  .obtain⟨_,v,hv⟩:=nz (P:=prog) (by rfl) dv;cases hv
 have Nn:Rel prog w0 n cm g1 (ar S d (.agg (ao s))) H (a.put (some d) c1) w1:=R1
 have Z3:∀(a:Act)(d:Nat)(c:Value),d<a.tmps.size->(a.put (some d) c).tmps.getD d undef=c:=λa d c h=>by
  simp[Act.put,h]
 have mO:RV (fy g1 false) (λ_=>none) w1 (a_ s) c1:=by
  have h1:=Nn.slot d hd id;rw[aS,Z3 a d c1 (by omega)]at h1;have:=Nn.gI h1 false (by simp[qS]);have e:Go.AL.gI H (.agg (ao s))=.agg (ao s):=Og s;rw[e]at this;exact this
 obtain⟨RR,fg,hRR⟩:=h c1 g1 py Nn fU mO b6 e6;rw[e2,e6];refine afy func135 rfl ?_;refine(e_ (m:=0)).1 ?_;refine fM (λa=>a.tmps.size=4/\a.defers=[]/\a.tmps.getD 0 undef=.pointer (some ⟨b2,0,none⟩)/\a.tmps.getD 1 undef=.pointer (some ⟨b6,0,none⟩)) ⟨by simp[ntmps135],rfl,bV _ _ 0 (by simp),bV _ _ 1 (by simp)⟩ ?_;rintro aC ⟨zC,dC,t0,t1⟩
 have ir:∀(a:Act)(d:Nat)(c:Value),a.tmps.size=4->d<4->(a.put (some d) c).tmps.getD d undef=c:=λa d c h hd=>by
  simp[Act.put,h,hd]
 have eB:∀(a:Act)(d t:Nat)(c:Value),t≠d->(a.put (some d) c).tmps.getD t undef=a.tmps.getD t undef:=λa d t c h=>by
  simp[Act.put,adg (ad2 h)]
 refine adB ?_;show wpOpsIn _ _ _ _ _ [0,1,2] aC w1
 have MA:∀o:Oper,o.op=.load 31 (.tmp 0)->(execOp aC.eval o).run prog w1=.ok (.value c1) w1:=by
  intro o ho;have h1:aC.eval (.tmp 0)=a.eval (.tmp i2):=t0.trans e2.symm;rw[<-Vr];unfold execOp;simp only[ho,h1]
 refine aV rfl rfl (by rfl) (MA _ rfl) ?_;show wpOpsIn _ _ _ _ _ [1,2] (aC.put (some 2) c1) w1;refine sc rfl rfl (by rfl) (gK (k:=108) (args:=#[c1]) w1 rfl rfl ?_ (by kernel_rfl)) fg ?_
 .simp only[adK,adC,adO];show #[(aC.put (some 2) c1).tmps.getD 2 undef]=_;rw[ir _ _ _ zC (by decide)]
 rintro en w2 O_;have:=hRR en w2 O_
 cases en with
 |returned v=>
  show wpOpsIn _ _ _ _ _ [2] ((aC.put (some 2) c1).put (some 3) v) w2
  obtain ⟨w3,hr3,Cb⟩:=this ((aC.put (some 2) c1).put (some 3) v) { dst:=none,op := .store 102 (.tmp 1) (.tmp 3),type:=0,pos := "",after := #[],guard:=none }
   (by show((aC.put (some 2) c1).put (some 3) v).tmps.getD 1 undef=_;rw[eB _ _ _ _ (by decide),eB _ _ _ _ (by decide)];exact t1)
   (by show((aC.put (some 2) c1).put (some 3) v).tmps.getD 3 undef=_;exact ir _ _ _ (by simpa[Act.put]using zC) (by decide)) rfl
  have fin:∀u:Value,((aC.put (some 2) c1).put (some 3) v).defers=[]/\∃v',(results f135 ((aC.put (some 2) c1).put (some 3) v).tmps).run prog w3=.ok v' w3/\R' (.returned v') w3:=λu=>⟨dC,.tuple #[],by simp[results,results135],Cb⟩
  have jC:∀ o:Oper,o.op = .store 102 (.tmp 1) (.tmp 3)->(execOp ((aC.put (some 2) c1).put (some 3) v).eval o).run prog w2=(execOp ((aC.put (some 2) c1).put (some 3) v).eval { dst:=none,op := .store 102 (.tmp 1) (.tmp 3),type:=0,pos := "",after := #[],guard:=none }).run prog w2:=by
   intro o ho;unfold execOp;simp only[ho]
  rcases hr3 with hr|⟨u,hr⟩
  .exact dM rfl rfl (by rfl) ((jC _ rfl).trans hr) (fin undef)
  .exact aV rfl rfl (by rfl) ((jC _ rfl).trans hr) (fin u)
 |panicked ch=>exact⟨dC,this⟩
 |outgrown=>exact this.elim
theorem IC (hG:aw GI) (cT:GI w0) (R:Rel prog w0 n cm g S H a w) (hd:d < n) (sX:i2 < n) (yG:i6 < n) (yE:d≠i6)
  (qO:S i2=.box i2 0) (rM:H i2=some (ao s)) (yq:S i6=.box i6 0) (Ac:H i6=some z) (hz:z.length=16) {ns:List Int} (ou:AC prog GI 108 [a_ s] (.ret (cD s ns))):
  Calls prog 135 #[a.tmps.getD i2 undef,a.tmps.getD i6 undef] w λe w2=>e=.returned (.tuple #[])/\∃(c:Value)(g':Gh)(S':av)(H':aD),g'.old=g.old/\Rel prog w0 n cm g' S' H' (a.put (some d) c) w2/\(∀t,t≠d->S' t=S t)/\H'=ar H i6 (some (aZ s ns)):=by
 refine ph hG cT R hd sX yG yE qO rM yq Ac λc1 g1 kB R1 fU mO b6 e6=>?_
 refine⟨_,ou w (fy g1 false) #[c1] fU rfl (λi h h'=>by
  match i,h with
  |0,_=>exact mO),?_⟩
 rintro en w2 ⟨iU,hi,qR,c,rfl,EB,dO⟩;intro aC o q1 q3 ho;obtain⟨g',xu,py,R2⟩:=R1.call (some d) (λt ht=>by cases ht;exact⟨hd,id⟩) false iU qR EB dO (λh=>by cases h);rw[n_]at R2
 have Oy:∀t,t≠d->aT (ar S d (.agg (ao s))) (some d) (cD s ns) t=S t:=λt ht=>by simp[AL.aT,ar,ht]
 obtain⟨i100,rT,ry⟩:=bp (P:=prog) (t:=102) (s:=16) (by kernel_rfl)
 have jB:bo z 0 ((aZ s ns).map AV.aG)=aZ s ns:=by
  have:(aZ s ns).map AV.aG=aZ s ns:=by simp[aZ,ao,ae,vI,AV.aG]
  rw[this];simp[bo,hz,aZ,ao,ae]
 have ke:aH (aT (ar S d (.agg (ao s))) (some d) (cD s ns)) H (.store .any i100.size (.t i6) (.t d))=some { v:=b_,dm:=some d,hw:=some (i6,aZ s ns) }:=by
  show aH (aT (ar S d (.agg (ao s))) (some d) (.agg (aZ s ns))) H (.store .any i100.size (.t i6) (.t d))=_;have e1:ev (aT (ar S d (.agg (ao s))) (some d) (.agg (aZ s ns))) (.t i6)=.box i6 0:=(Oy i6 (ad2 yE)).trans yq
  have e2:ev (aT (ar S d (.agg (ao s))) (some d) (.agg (aZ s ns))) (.t d)=.agg (aZ s ns):=by simp[ev,AL.aT,ar]
  have hl:(aZ s ns).length=16:=by simp[aZ,ao,ae]
  simp only[aH,e1,e2,Ac,HR.okB];simp[AV.cells,AV.storable,ry,hl,hz,bz,jB,AV.bZ]
 obtain ⟨c2,w3,g3,dv,Mo,wG,R3⟩:=kX R2 (o:={ dst:=none,op := .store 102 (.tmp i6) (.tmp d),type:=0,pos := "",after := #[],guard:=none }) (x1 := .tmp i6) (x2 := .tmp d) (y1 := .t i6) (y2 := .t d) (hr := .any) rfl rfl rT (by simp [eO,yG]) (by simp [eO,hd]) (λ_ _=>id) (λ_ _=>id) ke;have bq:=R.size
 have f6:(a.put (some d) c).eval (.tmp i6)=.pointer (some ⟨b6,0,none⟩):=by
  show(a.put (some d) c).tmps.getD i6 undef=_;rw[<-e6];simp[Act.put,adg yE]
 have fd:(a.put (some d) c).eval (.tmp d)=c:=by
  show(a.put (some d) c).tmps.getD d undef=_;simp[Act.put,bq,hd]
 have bb:(execOp aC.eval o).run prog w2=(execOp (a.put (some d) c).eval { dst:=none,op := .store 102 (.tmp i6) (.tmp d),type:=0,pos := "",after := #[],guard:=none }).run prog w2:=by
  unfold execOp;simp only[ho,q1,q3,f6,fd]
 refine⟨w3,?_,rfl,c,g3,_,_,by rw[wG,py,kB],R3,λt ht=>?_,rfl⟩
 .rcases dv with dv|⟨dv,_⟩
  .exact .inr ⟨_,bb.trans dv⟩
  .exact .inl (bb.trans dv)
 .rw[<-Oy t ht];simp[aQ.S,AL.aT,ar,ht]
theorem E' (hG:aw GI) (cT:GI w0) (R:Rel prog w0 n cm g S H a w) (hd:d < n) (sX:i2 < n) (yG:i6 < n) (yE:d≠i6)
  (qO:S i2=.box i2 0) (rM:H i2=some (ao s)) (yq:S i6=.box i6 0) (Ac:H i6=some z) {k:Int} (ou:AC prog GI 108 [a_ s] (.panic (mY k))):
  Calls prog 135 #[a.tmps.getD i2 undef,a.tmps.getD i6 undef] w λe w2=>e=.panicked [{ v:=.iface 192 (.agg #[.int .i64 k]),recovered:=false }]/\Below w.heap.size w w2:=by
 refine ph hG cT R hd sX yG yE qO rM yq Ac λc1 g1 kB R1 fU mO b6 e6=>?_
 refine⟨_,ou w (fy g1 false) #[c1] fU rfl (λi h h'=>by
  match i,h with
  |0,_=>exact mO),?_⟩
 rintro en w2 ⟨iU,hi,qR,c,rfl,ez⟩;have hc:=CW ez;subst hc;exact⟨rfl,iU⟩
theorem oN(R:Rel prog w0 n cm g S H a w):g.old.bf w.heap.size=none:=by
 cases h:g.old.bf w.heap.size with
 |none=>rfl
 |some o=>
  have:=(ade.1 (R.kept _ o h).2.1).1;omega
theorem HH (hG:aw GI) (cT:GI w0) (R:Rel prog w0 n cm g S H a w) (hd:d < n) (sX:i2 < n) (yG:i6 < n) (yE:d≠i6)
  (qO:S i2=.box i2 0) (rM:H i2=some (ao s)) (yq:S i6=.box i6 0) (Ac:H i6=some z) (hz:z.length=16) {ns:List Int} (ou:AC prog GI 108 [a_ s] (.ret (cD s ns))):
  Calls prog 119 #[.func (.func 135) #[] #[a.tmps.getD i2 undef,a.tmps.getD i6 undef]] w λe w2=>e=.returned (.int .i64 0)/\∃(c:Value)(g':Gh)(S':av)(H':aD),g'.old=g.old/\Rel prog w0 n cm g' S' H' (a.put (some d) c) w2/\(∀t,t≠d->S' t=S t)/\H'=ar H i6 (some (aZ s ns)):=by
 have R1:=R.lO (.cells #[.int .i64 0] 34);have vf:=oN R;refine jH (by kernel_rfl) (IC hG cT R1 hd sX yG yE qO rM yq Ac hz ou) ?_;rintro e w2 ⟨rfl,c,g',S',H',ho,R2,rO,rJ⟩
 have hk:g'.old.bf w.heap.size=some (.cells #[.int .i64 0] 34):=by rw[ho];exact aS _ _ _
 have ju:=(R2.kept _ _ hk).2.1;have au:=(ade.1 ju).1;refine⟨au,⟨_,_,ju⟩,.inl ⟨_,rfl,rfl,c,_,S',H',?_,(R2.qn w.heap.size).kS ?_,rO,rJ⟩⟩
 .show({ g'.old with bf:=ar g'.old.bf w.heap.size none }:Old)=_;rw[ho]
  have:ar (ar g.old.bf w.heap.size (some (.cells #[.int .i64 0] 34))) w.heap.size none=g.old.bf:=by
   funext b
   by_cases hb:b=w.heap.size
   .subst hb;simp[ar,vf]
   .simp[ar,hb]
  show({ g.old with bf:=ar (ar g.old.bf w.heap.size (some (.cells #[.int .i64 0] 34))) w.heap.size none }:Old)=_;rw[this]
 .refine⟨rfl,rfl,rfl,by simp,λk dP=>?_⟩
  by_cases hb:k=w.heap.size
  .subst hb;rw[aeJ w2 _ _ _ _ _ ju,ju]
  .exact aec w2 _ k _ hb
theorem E7 (hG:aw GI) (cT:GI w0) (R:Rel prog w0 n cm g S H a w) (hd:d < n) (sX:i2 < n) (yG:i6 < n) (yE:d≠i6)
  (qO:S i2=.box i2 0) (rM:H i2=some (ao s)) (yq:S i6=.box i6 0) (Ac:H i6=some z) {k:Int} (ou:AC prog GI 108 [a_ s] (.panic (mY k))):
  Calls prog 119 #[.func (.func 135) #[] #[a.tmps.getD i2 undef,a.tmps.getD i6 undef]] w λe w2=>e=.returned (.int .i64 7)/\∃g',g'.old=g.old/\Rel prog w0 n cm g' S H a w2:=by
 have R1:=R.lO (.cells #[.int .i64 0] 34);have vf:=oN R;refine jH (by kernel_rfl) (E' hG cT R1 hd sX yG yE qO rM yq Ac ou) ?_;rintro en w2 ⟨rfl,iU⟩;have R2:=R1.kS iU;have hk:ar g.old.bf w.heap.size (some (.cells #[.int .i64 0] 34)) w.heap.size=some (.cells #[.int .i64 0] 34):=aS _ _ _;have ju:=(R2.kept _ _ hk).2.1;have au:=(ade.1 ju).1;refine⟨au,⟨_,_,ju⟩,.inr (.inl ⟨k,rfl,λw3 oB=>⟨rfl,?_⟩⟩)⟩;have R3:=R2.kS oB;have Hz:=(R3.kept _ _ hk).2.1;have R4:=R3.mF hk (.cells #[.int .i64 7] 34);rw[pT w3 Hz];refine⟨_,?_,R4.qn w.heap.size⟩
 have:ar (ar (ar g.old.bf w.heap.size (some (.cells #[.int .i64 0] 34))) w.heap.size (some (.cells #[.int .i64 7] 34))) w.heap.size none=g.old.bf:=by
  funext b
  by_cases hb:b=w.heap.size
  .subst hb;simp[ar,vf]
  .simp[ar,hb]
 show({ g.old with bf:=ar (ar (ar g.old.bf w.heap.size (some (.cells #[.int .i64 0] 34))) w.heap.size (some (.cells #[.int .i64 7] 34))) w.heap.size none }:Old)=_;rw[this]
end
end Go.Proofs.Tryz
namespace Go.Proofs.Tryz
open Go Go.AL Go.RowKit Go.Proofs Go.Proofs.Tram
attribute [local simp] dF fc eT dW ef dI dJ cZ c_ ee cW cE gh gj aF aH ev aQ.S aQ.H bz ar aT AL.start AV.cells AV.storable AV.bZ bo bX dS b0 HR.okB post cy cJ cK AV.out AV.bT cb dk fz gI AV.vw df vI int b_ aM cU db gB iN eY dQ bQ AV.aG AV.bH
variable{GI:World->Prop}
def zT:az:=⟨[],0,0,0,0,⟨[],[],0,0,0,0,0,[],0,0⟩⟩
def dK(s:az)(b:Bool):List AV:=
 if b then(match fq s.name with|some es=>[cD s (aW s es),.int .i64 0]|none=>[cD zT [],.int .i64 7])else[cD zT [],.int .i64 2]
def iP:List AV:=[.slice .nil [],.int .i64 0,.int .i64 0,.int .i64 0,.int .i64 0,.slice .nil [],.slice .nil [],.int .i64 0,.int .i64 0,.int .i64 0,.int .i64 0,.int .i64 0,.slice .nil [],.int .i64 0,.int .i64 0,.slice .nil []]
theorem C8(hG:aw GI)(s:az):AC prog GI 76 [a_ s,.bool false] (.ret (.dN [cD zT [],.int .i64 2])):=by
 obtain⟨i100,rT,ry⟩:=bp (P:=prog) (t:=102) (s:=16) (by kernel_rfl);obtain⟨fs,fE⟩:=cd (P:=prog) (t:=102) (by kernel_rfl);refine bW hG func76 ntmps76 c76 ?_;simp[c76,a_,ao,ae,bI,rT,ry,fE,eS,cD,aZ,zT]
 try rfl
theorem wg(hG:aw GI)(s:az)(hs:eZ s):AC prog GI 76 [a_ s,.bool (cL s)] (.ret (.dN (dK s (cL s)))):=by
 cases hI:cL s with
 |false=>exact C8 hG s
 |true=>
 have LR:=er hI
 refine AC.iF func76 rfl ntmps76 (by simp) λcc w=>?_
 refine dU hG c76.qa (λS' H'=>S' 1=.bool true/\S' 2=.box 2 0/\H' 2=some (ao s)/\S' 4=.box 4 0/\H' 4=some iP) ?_ ?_
 .simp[c76,af.qa,a_,ao,ae,iP]
 rintro S1 H1 ⟨s1,s2,h2,s4,h4⟩;refine SW.seq (dU hG c76.qb.qa.qa (λS' H'=>S' 9=.bool false/\S' 2=.box 2 0/\H' 2=some (ao s)/\S' 4=.box 4 0/\H' 4=some iP) ?_ ?_)
 .simp[c76,af.qa,af.qb,s1,s2,h2,s4,h4]
 clear s1 s2 h2 s4 h4;rintro S2 H2 ⟨s9,s2,h2,s4,h4⟩;refine SW.cond rfl false (by show S2 9=_;rw[s9]) (SW.skip ?_);show SW prog GI 15 none (.seq _ (.seq _ (.seq _ .ret))) _ _ _ _;refine dU hG c76.qb.qb.qa (λS' H'=>S' 2=.box 2 0/\H' 2=some (ao s)/\S' 4=.box 4 0/\H' 4=some iP/\S' 6=.box 6 0/\H' 6=some iP) ?_ ?_
 .simp[c76,af.qa,af.qb,s2,h2,s4,h4,iP]
 clear s9 s2 h2 s4 h4;rintro S3 H3 ⟨s2,h2,s4,h4,s6,h6⟩
 obtain ⟨l,e,hle,hO,mQ⟩:∃ (l:List AV) (e:Int),l.length=16∧dK s true=[(AV.agg (l.map AV.aG)).vw,.int .i64 e] ∧
   ∀(w0:World)(g:Gh)(S:av)(H:aD)(a:Act)(w:World),GI w0->Rel prog w0 15 cm g S H a w->S 2=.box 2 0->H 2=some (ao s)->S 6=.box 6 0->H 6=some iP->
    Calls prog 119 #[.func (.func 135) #[] #[a.tmps.getD 2 undef,a.tmps.getD 6 undef]] w λen w2=>en=.returned (.int .i64 e)/\∃(c:Value)(g':Gh)(S':av)(H':aD),g'.old=g.old/\Rel prog w0 15 cm g' S' H' (a.put (some 12) c) w2/\(∀t,t≠12->S' t=S t)/\H'=ar H 6 (some l):=by
  cases eG:fq s.name with
  |some es=>
   refine⟨aZ s (aW s es),0,by simp[aZ,ao,ae],?_,λw0 g S H a w cT R q2 Fs q6 OC=>HH hG cT R (by decide) (by decide) (by decide) (by decide) q2 Fs q6 OC rfl (FP hG s hs LR eG)⟩;simp[dK,eG,cD,aZ,ao,ae,vI,AV.aG,AV.vw,AV.bH]
  |none=>
   refine⟨iP,7,rfl,?_,λw0 g S H a w cT R q2 Fs q6 OC=>(E7 hG cT R (d:=12) (by decide) (by decide) (by decide) (by decide) q2 Fs q6 OC (zc hG s hs LR eG)).mono ?_⟩
   .simp[dK,eG,cD,aZ,ao,ae,zT,iP,vI,ints,AV.aG,AV.vw,AV.bH]
   .rintro en w2 ⟨rfl,g',z7,R'⟩;refine⟨rfl,undef,g',ar S 12 .br,H,z7,R'.put 12 .br undef (by decide) (.br _) trivial,λt ht=>bj _ _ ht,?_⟩
    funext k
    by_cases hk:k=6
    .subst hk;rw[aS];exact OC
    .rw[bj _ _ hk]
 rw[hO]
 refine SW.seq (SW.hand hG (p:=0) (lm:=[0,1]) (l2:=[2]) (kd:=[]) (oh:=[_,_]) (lI:=[_]) rfl rfl rfl rfl (by kernel_rfl) (λ_ h=>h) (lU:=[]) (kZ:=(c76.qb.qb.qb.qa.dl).drop 2) rfl (by kernel_rfl) rfl (by kernel_rfl)
  (K1:=λS' H'=>S' 2=.box 2 0/\H' 2=some (ao s)/\S' 4=.box 4 0/\H' 4=some iP/\S' 6=.box 6 0/\H' 6=some iP)
  (K2:=λo S' H'=>o=Old.plain cc w/\S' 4=.box 4 0/\H' 4=some iP/\S' 6=.box 6 0/\H' 6=some l/\S' 12=.int .i64 e)
  (K3:=λo S' H'=>o=Old.plain cc w/\S' 4=.box 4 0/\H' 4=some iP/\S' 6=.box 6 0/\H' 6=some l/\S' 7=.int .i64 e) ⟨s2,h2,s4,h4,s6,h6⟩ ?_ ?_ ?_)
 .rintro w0 g S5 H5 a w5 m cT ho R ⟨s2,h2,s4,h4,s6,h6⟩;have bq:=R.size;refine aV rfl rfl (by rfl) (lP (fn:=.func 135) (c:=#[.tmp 2,.tmp 6]) rfl) ?_
  obtain⟨fv,kM⟩:∃fv:Value,fv=.func (.func 135) #[] (#[Operand.tmp 2,.tmp 6].map a.eval):=⟨_,rfl⟩
  show wpOpsIn _ _ _ _ _ [1] (a.put (some 11) (.func (.func 135) #[] (#[Operand.tmp 2,.tmp 6].map a.eval))) w5;rw[<-kM];have R1:=R.put 11 .br fv (by decide) (.br _) trivial
  obtain⟨a1,oX⟩:∃a1,a.put (some 11) fv=a1:=⟨_,rfl⟩
  rw[oX]at R1⊢
  have wP:fv=.func (.func 135) #[] #[a1.tmps.getD 2 undef,a1.tmps.getD 6 undef]:=by
   have e1:=bB a 11 2 fv (by omega);have e4:=bB a 11 6 fv (by omega);rw[if_neg (by decide),oX]at e1 e4;have BG:a1.tmps.getD 2 undef=a.eval (.tmp 2):=e1;have EN:a1.tmps.getD 6 undef=a.eval (.tmp 6):=e4;rw[BG,EN,kM];simp only[adK,adC,adO]
  have jt:a1.eval (.tmp 11)=fv:=by rw[<-oX,bB _ _ _ _ (by omega),if_pos rfl]
  refine fH rfl rfl (by rfl) (gK (k:=119) (args:=#[.func (.func 135) #[] #[a1.tmps.getD 2 undef,a1.tmps.getD 6 undef]]) w5 rfl rfl ?_ (by kernel_rfl)) (mQ w0 g _ _ a1 w5 cT R1 (by simp[ar,s2]) h2 (by simp[ar,s6]) h6) ?_
  .simp only[adK,adC,adO,jt,<-wP]
  .rintro en w6 ⟨rfl,c,g',S',H',ru,R2,rO,rJ⟩;refine⟨_,rfl,?_⟩;have R3:=R2.put 12 (.int .i64 e) (.int .i64 e) (by decide) (.data _ _ (.int _ _)) trivial;rw[n_]at R3;refine⟨g',_,H',R3,ru.trans ho,?_,?_,?_,?_,aS _ _ _⟩
   .show ar S' 12 _ 4=_;rw[bj _ _ (by decide),rO 4 (by decide)];simp[ar,s4]
   .rw[rJ,bj _ _ (by decide)];exact h4
   .show ar S' 12 _ 6=_;rw[bj _ _ (by decide),rO 6 (by decide)];simp[ar,s6]
   .rw[rJ];exact aS _ _ _
 .rintro o S5 H5 ⟨rfl,s4,h4,s6,h6,bU⟩;refine⟨λ_ h=>h,?_⟩;simp[c76,af.qa,af.qb,af.dl,bn,aF,bg,aH,ev,aQ.S,aQ.H,ar,aT,s4,h4,s6,h6,bU,AV.aG,bz]
 .rintro o S5 H5 ⟨rfl,s4,h4,s6,h6,s7⟩;show SW prog GI 15 none (.seq _ .ret) _ _ _ _;have hT:List.take 16 (l.map AV.aG)=l.map AV.aG:=adn (by simp;omega);refine dU hG c76.qb.qb.qb.qb.qa (λS' H'=>S' 4=.box 4 0/\H' 4=some (l.map AV.aG)/\S' 5=.int .i64 e) ?_ ?_
  .simp[c76,af.qa,af.qb,s4,h4,s6,h6,s7,hle,hT,iP,fS]
  rintro S6 H6 ⟨s4,h4,s5⟩;obtain⟨i100,rT,ry⟩:=bp (P:=prog) (t:=102) (s:=16) (by kernel_rfl);obtain⟨fs,fE⟩:=cd (P:=prog) (t:=102) (by kernel_rfl);refine SW.ret ⟨eD.plain rfl,rfl,_,?_,rfl⟩;show cy prog 15 [.cell 4 102,.tmp 5] S6 H6=_;simp[cy,cJ,cK,s4,h4,s5,rT,fE,ry,b0,eS,hle,hT,fS,AV.out,AV.bT]
  try rfl
def gC(e:Nat)(s:az)(an:List Int):Nat:=dV an (eC (bm e s)) (eh (dz s) s.cells.length)
theorem iW{s:az}(h:eQ s){es:List End}(he:es.length<=3):(∀x∈aW s es,0<=x/\x<=1000)/\(aW s es).length<=1000:=by
 refine⟨λx hx=>?_,?_⟩
 .obtain⟨i,hi,rfl⟩:=adx.1 hx
  have:=uN h he (i:=i) (by
   unfold cg;split
   .rename_i x hx;obtain⟨au,rfl⟩:=adE.1 hx;exact(lg h.name (ada au)).uw
   .omega)
  omega
 .have:=(eg h.name).words;simp[aW];omega
theorem pg{s:az}(h:eQ s)(e:Nat):(bm e s).length=s.cells.length/\∀x∈bm e s,0<=x/\x<=1000:=by
 refine⟨by simp[bm],λx hx=>?_⟩;obtain⟨c,hc,rfl⟩:=adx.1 hx;have:=h.tH c hc;unfold qK
 split<;>omega
theorem tx(hG:aw GI)(s:az)(h:eQ s)(an:List Int)(hn:(∀x∈an,0<=x/\x<=1000)/\an.length<=1000)(e:Nat):AC prog GI 92 [cD s an,vI (bm e s)] (.ret (.int .i64 (gC e s an))):=
 M1 hG s h an hn.1 hn.2 (bm e s) (pg h e).1 (pg h e).2
theorem FC(hG:aw GI)(s:az)(h:eQ s)(an:List Int)(hn:(∀x∈an,0<=x/\x<=1000)/\an.length<=1000):AC prog GI 107 [cD s an] (.ret (.bool (decide (gC 0 s an=an.length)))):=by
 have LU:=B7 hG s (by have:=h.cells;omega) 0 (.inl rfl);have Bt:=tx hG s h an hn 0;refine bW hG func107 ntmps107 c107 ?_;simp[c107,cD,aZ,ao,ae];refine oc LU ?_;simp;refine oc Bt ?_;simp;rw[ad7];simp;omega
def j_(e:Nat)(s:az):List AV:=
 if cL s then(match fq s.name with|some es=>[.int .i64 (gC e s (aW s es)),.int .i64 0]|none=>[.int .i64 0,.int .i64 7])else[.int .i64 0,.int .i64 2]
theorem iI (s:az):(cL s=true∧∃ es,fq s.name=some es∧dK s (cL s)=[cD s (aW s es),.int .i64 0]) ∨
  (∃e:Int,e≠0/\dK s (cL s)=[cD zT [],.int .i64 e]/\∀k,j_ k s=[.int .i64 0,.int .i64 e]):=by
 cases hI:cL s with
 |false=>exact .inr ⟨2,by decide,by simp[dK],λk=>by simp[j_,hI]⟩
 |true=>
  cases hs:fq s.name with
  |some es=>exact .inl ⟨rfl,es,rfl,by simp[dK,hs]⟩
  |none=>exact .inr ⟨7,by decide,by simp[dK,hs],λk=>by simp[j_,hI,hs]⟩
theorem VZ(hG:aw GI)(s:az)(hs:eZ s):AC prog GI 34 [a_ s] (.ret (.dN (j_ 0 s))):=by
 have Ct:=oT hG s hs;have rp:=wg hG s hs
 rcases iI s with⟨hI,es,eG,ho⟩|⟨e,he,ho,vk⟩
 .rw[ho]at rp;have hg:=er hI;have LU:=B7 hG s (by have:=hg.cells;omega) 0 (.inl rfl);have Bt:=tx hG s hg _ (iW hg (gz hg.name eG)) 0
  have vk:j_ 0 s=[.int .i64 (gC 0 s (aW s es)),.int .i64 0]:=by simp[j_,hI,eG]
  rw[vk];refine bW hG func34 ntmps34 c34 ?_;simp[c34,a_,ao,ae];refine oc Ct ?_;simp;refine oc rp ?_;simp[cD,aZ,ao,ae,bI];refine oc LU ?_;simp;refine oc Bt ?_;simp
 .rw[ho]at rp;rw[vk]
  have ky:(e !=0)=true:=by simpa using he
  refine bW hG func34 ntmps34 c34 ?_;simp[c34,a_,ao,ae];refine oc Ct ?_;simp;refine oc rp ?_;simp[cD,aZ,ao,ae,zT,bI,he,ky]
theorem aaB(hG:aw GI)(s:az)(hs:eZ s):AC prog GI 35 [a_ s] (.ret (.dN (j_ 1 s))):=by
 have Ct:=oT hG s hs;have rp:=wg hG s hs
 rcases iI s with⟨hI,es,eG,ho⟩|⟨e,he,ho,vk⟩
 .rw[ho]at rp;have hg:=er hI;have LU:=B7 hG s (by have:=hg.cells;omega) 1 (.inr rfl);have Bt:=tx hG s hg _ (iW hg (gz hg.name eG)) 1
  have vk:j_ 1 s=[.int .i64 (gC 1 s (aW s es)),.int .i64 0]:=by simp[j_,hI,eG]
  rw[vk];refine bW hG func35 ntmps35 c35 ?_;simp[c35,a_,ao,ae];refine oc Ct ?_;simp;refine oc rp ?_;simp[cD,aZ,ao,ae,bI];refine oc LU ?_;simp;refine oc Bt ?_;simp
 .rw[ho]at rp;rw[vk]
  have ky:(e !=0)=true:=by simpa using he
  refine bW hG func35 ntmps35 c35 ?_;simp[c35,a_,ao,ae];refine oc Ct ?_;simp;refine oc rp ?_;simp[cD,aZ,ao,ae,zT,bI,he,ky]
def atR(s:az)(r:Nat):az:={ s with reach:=r }
theorem Ho{s:az}(h:eQ s){r:Nat}(h1:1<=r)(h2:r<=12):eQ (atR s r):=⟨h.cells,h.tH,h.pos,⟨by show(1:Int)<=(r:Int);omega,by show(r:Int)<=12;omega⟩,h.eH,h.dE,h.name⟩
def xq(s:az)(an:List Int)(r:Nat):Bool:=decide (gC 0 (atR s r) an=an.length)
def yU(s:az):List AV:=
 if cL s then(match fq s.name with|some es=>(match(List.range' 1 12).find? (xq s (aW s es))with|some r=>[.int .i64 (r:Nat),.int .i64 0]|none=>[.int .i64 0,.int .i64 5])|none=>[.int .i64 0,.int .i64 7])else[.int .i64 0,.int .i64 2]
theorem EF{p:Nat->Bool}{r n:Nat}(h1:1<=r)(h2:r<=n)(hp:p r=true)(hb:∀k,1<=k->k<r->p k=false):(List.range' 1 n).find? p=some r:=by
 rw[show n=(r-1)+(n-(r-1)) by omega,<-afH,List.find?_append]
 have h0:(List.range' 1 (r-1)).find? p=none:=by
  rw[aey];intro x hx;have:=aeY.1 hx;rw[hb x this.1 (by omega)];simp
 rw[h0,Option.none_or,show n-(r-1)=(n-r)+1 by omega,aeB,List.find?_cons];rw[show 1+(r-1)=r by omega,hp]
theorem yC{p:Nat->Bool}{n:Nat}(hb:∀k,1<=k->k<=n->p k=false):(List.range' 1 n).find? p=none:=by
 rw[aey];intro x hx;have:=aeY.1 hx;rw[hb x this.1 (by omega)];simp
theorem Zq(hG:aw GI)(s:az)(hs:eZ s):AC prog GI 44 [a_ s] (.ret (.dN (yU s))):=by
 have Ct:=oT hG s hs;have rp:=wg hG s hs
 rcases iI s with⟨hI,es,eG,ho⟩|⟨e,he,ho,vk⟩
 .rw[ho]at rp;have hg:=er hI;have hn:=iW hg (gz hg.name eG)
  have EE:yU s=(match(List.range' 1 12).find? (xq s (aW s es))with|some r=>[.int .i64 (r:Nat),.int .i64 0]|none=>[.int .i64 0,.int .i64 5]):=by simp[yU,hI,eG]
  rw[EE];generalize aW s es=an at rp hn⊢;refine bW hG func44 ntmps44 c44 ?_;simp[c44,a_,ao,ae];refine oc Ct ?_;simp;refine oc rp ?_;simp[cD,aZ,ao,ae,bI];refine⟨λS H=>∃r:Nat,1<=r/\r<=13/\S 4=.box 4 0/\H 4=some (aZ (atR s r) an)/\∀k,1<=k->k<r->xq s an k=false,λ_ H=>match H 4 with|some (_::_::.int _ r::_)=>(13-r).toNat|_=>0,⟨1,adh _,by decide,?_⟩,?_⟩
  .simp[aZ,ao,ae,atR];intro k h1 h2;omega
  rintro S H ⟨r,DZ,hr2,s4,h4,hb⟩
  by_cases hle:r<=12
  case neg=>
   have hr:r=13:=by omega
   subst hr;rw[yC λk h1 h2=>hb k h1 (by omega)];simp[aZ,ao,ae,atR,s4,h4]
  have uB:(r:Int)<=12:=by omega
  have OS:=FC hG (atR s r) (Ho hg DZ hle) an hn
  cases hf:xq s an r with
  |true=>
   unfold xq at hf;rw[hf]at OS;rw[EF DZ hle (show xq s an r=true from hf) hb];simp[aZ,ao,ae,atR,s4,h4,uB];refine oc OS ?_;simp[aZ,ao,ae,atR,s4,h4]
  |false=>
   have yH:=hf;unfold xq at yH;rw[yH]at OS;have hw:IntKind.i64.wrap ((r:Int)+1)=r+1:=aN (by omega);simp[aZ,ao,ae,atR,s4,h4,uB];refine oc OS ?_;simp[aZ,ao,ae,atR,s4,h4,hw];refine⟨⟨r+1,by omega,by omega,by omega,λk h1 h2=>?_⟩,by omega⟩
   by_cases hk:k=r
   .rw[hk];exact hf
   .exact hb k h1 (by omega)
 .rw[ho]at rp
  have vp:yU s=[.int .i64 0,.int .i64 e]:=by
   have:=vk 0;unfold j_ at this;unfold yU
   cases hI:cL s with
   |false=>simpa[hI]using this
   |true=>
    cases eG:fq s.name with
    |none=>simpa[hI,eG]using this
    |some es=>simp[hI,eG,dK]at ho;exact absurd ho.2.symm he
  rw[vp]
  have ky:(e !=0)=true:=by simpa using he
  refine bW hG func44 ntmps44 c44 ?_;simp[c44,a_,ao,ae];refine oc Ct ?_;simp;refine oc rp ?_;simp[cD,aZ,ao,ae,zT,bI,he,ky]
theorem En(hG:aw GI)(s:az)(hs:eZ s)(b:Bool):AC prog GI 76 [a_ s,.bool (cL s&&b)] (.ret (.dN (dK s (cL s&&b)))):=by
 cases b with
 |true=>rw[agm];exact wg hG s hs
 |false=>
  rw[Bool.and_false];have:=C8 hG s;simpa[dK]using this
theorem mA (s:az) (b:Bool):(cL s=true∧b=true∧∃ es,fq s.name=some es∧dK s (cL s && b)=[cD s (aW s es),.int .i64 0]) ∨
  (cL s&&b)=false/\dK s (cL s&&b)=[cD zT [],.int .i64 2]\/cL s=true/\b=true/\fq s.name=none/\dK s (cL s&&b)=[cD zT [],.int .i64 7]:=by
 cases hI:(cL s&&b)with
 |false=>exact .inr (.inl ⟨rfl,by simp[dK]⟩)
 |true=>
  rw[adb]at hI
  cases hs:fq s.name with
  |some es=>exact .inl ⟨hI.1,hI.2,es,rfl,by simp[dK,hs]⟩
  |none=>exact .inr (.inr ⟨hI.1,hI.2,rfl,by simp[dK,hs]⟩)
def qx(s:az):List AV:=if cL s then(match fq s.name with|some es=>[vI (aW s es),.int .i64 0]|none=>[vI [],.int .i64 7])else[vI [],.int .i64 2]
theorem ZW(hG:aw GI)(s:az)(hs:eZ s):AC prog GI 23 [a_ s] (.ret (.dN (qx s))):=by
 have lv:=oT hG s hs;have iL:=En hG s hs true
 have key:∃t:az,∃l:List Int,∃e:Int,dK s (cL s&&true)=[cD t l,.int .i64 e]/\qx s=[vI l,.int .i64 e]:=by
  rcases mA s true with⟨h1,_,es,h2,h3⟩|⟨h1,h3⟩|⟨h1,_,h2,h3⟩
  .exact⟨_,_,_,h3,by simp[qx,h1,h2]⟩
  .rw[agm]at h1;exact⟨_,_,_,h3,by simp[qx,h1]⟩
  .exact⟨_,_,_,h3,by simp[qx,h1,h2]⟩
 obtain⟨t,l,e,h3,h4⟩:=key;rw[h3,agm]at iL;rw[h4];refine bW hG func23 ntmps23 c23 ?_;simp[c23,a_,ao,ae];refine oc lv ?_;simp;refine oc iL ?_;simp[cD,aZ,ao,ae,bI]
def kU(s:az)(l:List Int):Bool:=decide (l.length=s.cells.length)&&(l.zip s.cells).all λx=>bO x.1 x.2.lo x.2.hi
theorem sq{α β:Type}(p:α×β->Bool):∀(l:List α)(m:List β),l.length=m.length->((l.zip m).all p=true↔∀i (h:i<l.length)(h':i<m.length),p (l[i],m[i])=true)
 |[],[],_=>by simp
 |a::l,b::m,h=>by
  rw[List.zip_cons_cons,List.all_cons,adb,sq p l m (by simpa using h)]
  constructor
  .rintro⟨h1,h2⟩ i hi eb
   cases i with
   |zero=>exact h1
   |succ i=>exact h2 i (by simpa using hi) (by simpa using eb)
  .intro hh;exact⟨hh 0 (by simp) (by simp),λi hi eb=>hh (i+1) (by simpa using hi) (by simpa using eb)⟩
 |[],_::_,h=>by simp at h
 |_::_,[],h=>by simp at h
theorem Ys(hG:aw GI)(s:az)(hs:s.cells.length<1000000)(l:List Int)(hl:l.length<1000000):AC prog GI 91 [a_ s,vI l] (.ret (.bool (kU s l))):=by
 refine bW hG func91 ntmps91 c91 ?_;refine aI (λS H=>S 1=vI l/\S 2=.box 2 0/\H 2=some (ao s)) (by simp[a_,ao,ae]) ?_;rintro S H ⟨s1,s2,h2⟩;simp[s1,s2,h2];refine bw 9 l.length (λi S H=>S 1=vI l/\S 2=.box 2 0/\H 2=some (ao s)/\S 7=vI l/\S 8=.int .i64 l.length/\S 9=.int .i64 (i:Nat)/\∀j (h:j<l.length),j<i->∃h':j<s.cells.length,bO l[j] s.cells[j].lo s.cells[j].hi=true) (λi S H h=>h.2.2.2.2.2.1) ⟨by simp[s1],by simp[s2],by simp[h2],by simp[s1],by simp,by simp,by simp⟩ ?_;clear s1 s2 h2 S H;rintro i hi S H ⟨s1,s2,h2,s7,s8,s9,hb⟩
 by_cases au:i<l.length
 .have hw:IntKind.i64.wrap ((i:Int)+1)=i+1:=aN (by omega)
  have hn:¬(i:Int)<0:=by omega
  by_cases hc:i<s.cells.length
  case neg=>
   have qi:(s.cells.length:Int)<=i:=by omega
   have hr:kU s l=false:=by
    unfold kU
    rw[ae_ (by omega)]<;>rfl
   simp[s1,s2,h2,s7,s8,s9,au,hn,qi,hr,ao,ae]
  have qi:¬(s.cells.length:Int)<=i:=by omega
  simp[s1,s2,h2,s7,s8,s9,au,hn,hc,qi,iK,ao,ae];refine oc (qY hG _ _ _) ?_;cases jJ:bO l[i] s.cells[i].lo s.cells[i].hi
  .have hr:kU s l=false:=by
    unfold kU
    by_cases xD:l.length=s.cells.length
    .have:¬ ((l.zip s.cells).all fun x=>bO x.1 x.2.lo x.2.hi)=true:=fun h=>by
      have:=(sq _ l s.cells xD).1 h i au hc;rw[jJ]at this;cases this
     simp only[afp]at this;rw[this,Bool.and_false]
    .rw[ae_ xD]<;>rfl
   simp[s1,s2,h2,s7,s8,s9,hr]
  .simp[s1,s2,h2,s7,s8,s9,hw,ao,ae];intro j hj gw
   by_cases e:j=i
   .subst e;exact⟨hc,jJ⟩
   .exact hb j hj (by omega)
 .have cH:i=l.length:=by omega
  subst cH
  have hr:kU s l=decide (l.length=s.cells.length):=by
   unfold kU
   by_cases xD:l.length=s.cells.length
   .rw[aeN xD,afo]
    exact(sq _ l s.cells xD).2 λi h h'=>let⟨_,q⟩:=hb i h h;q
   .rw[ae_ xD,Bool.false_and]
  simp[s1,s2,h2,s7,s8,s9,hr,ao,ae];rw[ad7];simp;omega
theorem Cd{s:az}(h:eQ s){l:List Int}(hr:kU s l=true):l.length=s.cells.length/\(∀x∈l,1<=x/\x<=20)/\∀i (h:i<l.length)(h':i<s.cells.length),s.cells[i].lo<=l[i]/\l[i]<=s.cells[i].hi:=by
 unfold kU at hr;rw[adb,adf]at hr;have h2:=(sq _ l s.cells hr.1).1 hr.2
 have h3:∀i (h:i<l.length)(h':i<s.cells.length),s.cells[i].lo<=l[i]/\l[i]<=s.cells[i].hi:=λi hi eb=>by
  have:=h2 i hi eb;simpa[bO]using this
 refine⟨hr.1,λx hx=>?_,h3⟩;obtain⟨i,hi,rfl⟩:=adG hx;have:=h3 i hi (by omega);have:=h.tH _ (ada (show i<s.cells.length by omega));omega
def tN(s:az)(an bc:List Int):Nat:=dV an (eC bc) (eh (dz s) s.cells.length)
def rn(s:az)(l:List Int):List AV:=
 if cL s&&kU s l then(match fq s.name with|some es=>[.int .i64 (tN s (aW s es) l),.int .i64 0]|none=>[.int .i64 0,.int .i64 7])else[.int .i64 0,.int .i64 2]
theorem ZI(hG:aw GI)(s:az)(hs:eZ s)(l:List Int)(hl:l.length<1000000):AC prog GI 29 [a_ s,vI l] (.ret (.dN (rn s l))):=by
 have lv:=oT hG s hs;have Ve:=Ys hG s hs.cells l hl;have iL:=En hG s hs (kU s l);rcases mA s (kU s l)with⟨h1,h0,es,h2,h3⟩|h3
 .have hg:=er h1;obtain⟨r1,r2,_⟩:=Cd hg h0;have hn:=iW hg (gz hg.name h2);have A6:=M1 hG s hg _ hn.1 hn.2 l r1 (λx hx=>by have:=r2 x hx;omega)
  have ho:rn s l=[.int .i64 (tN s (aW s es) l),.int .i64 0]:=by simp[rn,h1,h0,h2]
  rw[h3,h1,h0]at iL;rw[ho];rw[h1]at lv;rw[h0]at Ve;refine bW hG func29 ntmps29 c29 ?_;simp[c29,a_,ao,ae];refine oc lv ?_;simp;refine oc Ve ?_;simp;refine oc iL ?_;simp[cD,aZ,ao,ae,bI];refine oc A6 ?_;simp[tN]
 .have key:∃ e:Int,e≠0∧dK s (cL s && kU s l)=[cD zT [],.int .i64 e]∧rn s l=[.int .i64 0,.int .i64 e]:=by
   rcases h3 with⟨h1,h3⟩|⟨h1,h0,h2,h3⟩
   .exact⟨2,by decide,h3,by simp[rn,h1]⟩
   .exact⟨7,by decide,h3,by simp[rn,h1,h0,h2]⟩
  obtain⟨e,he,h3,h4⟩:=key
  have ky:(e !=0)=true:=by simpa using he
  rw[h3]at iL;rw[h4];refine bW hG func29 ntmps29 c29 ?_;simp[c29,a_,ao,ae];refine oc lv ?_;cases hI:cL s
  .rw[hI]at iL;simp;refine oc iL ?_;simp[cD,aZ,ao,ae,zT,bI,he,ky]
  .rw[hI]at iL;simp;refine oc Ve ?_;simp;refine oc iL ?_;simp[cD,aZ,ao,ae,zT,bI,he,ky]
def FX(s:az)(an:List Int)(w:Int):Int:=if w<(gC 0 s an:Nat)then 3 else if w<(gC 1 s an:Nat)then 2 else 1
def tu(s:az)(w:Int):Bool:=bO w 0 (s.name.words.length-1)
def ov(s:az)(w:Int):List AV:=
 if cL s&&tu s w then(match fq s.name with|some es=>[.int .i64 (FX s (aW s es) w),.int .i64 0]|none=>[.int .i64 0,.int .i64 7])else[.int .i64 0,.int .i64 2]
theorem Yn(hG:aw GI)(s:az)(hs:eZ s)(w:Int):AC prog GI 36 [a_ s,.int .i64 w] (.ret (.dN (ov s w))):=by
 have lv:=oT hG s hs;have iL:=En hG s hs (tu s w)
 have pv:IntKind.i64.wrap ((s.name.words.length:Int)-1)=(s.name.words.length:Int)-1:=by
  have:=hs.name.words;exact aN (by omega)
 rcases mA s (tu s w)with⟨h1,h0,es,h2,h3⟩|h3
 .have hg:=er h1;have hn:=iW hg (gz hg.name h2)
  have HK:∀e,e=0\/e=1->_:=λe he=>B7 hG s (by have:=hg.cells;omega) e he
  have aaw:=HK 0 (.inl rfl);have ZN:=HK 1 (.inr rfl);have Xd:=tx hG s hg _ hn 0;have aaP:=tx hG s hg _ hn 1
  have ho:ov s w=[.int .i64 (FX s (aW s es) w),.int .i64 0]:=by simp[ov,h1,h0,h2]
  rw[h3,h1,h0]at iL;rw[ho];rw[h1]at lv;have BL:=h0;unfold tu at BL;refine bW hG func36 ntmps36 c36 ?_;simp[c36,a_,ao,ae];refine oc lv ?_;simp[pv];refine oc (qY hG _ _ _) ?_;simp[BL];refine oc iL ?_;simp[cD,aZ,ao,ae,bI];refine oc aaw ?_;simp;refine oc Xd ?_;unfold FX
  by_cases c1:w<(gC 0 s (aW s es):Nat)
  .simp[c1]
  simp[c1];refine oc ZN ?_;simp;refine oc aaP ?_
  by_cases c2:w<(gC 1 s (aW s es):Nat)
  .simp[c2]
  .simp[c2]
 .have key:∃ e:Int,e≠0∧dK s (cL s && tu s w)=[cD zT [],.int .i64 e]∧ov s w=[.int .i64 0,.int .i64 e]:=by
   rcases h3 with⟨h1,h3⟩|⟨h1,h0,h2,h3⟩
   .exact⟨2,by decide,h3,by simp[ov,h1]⟩
   .exact⟨7,by decide,h3,by simp[ov,h1,h0,h2]⟩
  obtain⟨e,he,h3,h4⟩:=key
  have ky:(e !=0)=true:=by simpa using he
  rw[h3]at iL;rw[h4];refine bW hG func36 ntmps36 c36 ?_;simp[c36,a_,ao,ae];refine oc lv ?_;cases hI:cL s
  .rw[hI]at iL;simp;refine oc iL ?_;simp[cD,aZ,ao,ae,zT,bI,he,ky]
  .rw[hI]at iL;simp[pv];refine oc (qY hG _ _ _) ?_;unfold tu at iL;simp;refine oc iL ?_;simp[cD,aZ,ao,ae,zT,bI,he,ky]
theorem p7(s:az)(e:Int)(he:e≠0)(ho:dK s (cL s)=[cD zT [],.int .i64 e]):(cL s=false/\e=2)\/(cL s=true/\fq s.name=none/\e=7):=by
 cases hI:cL s with
 |false=>left;simp[dK,hI]at ho;exact⟨rfl,ho.symm⟩
 |true=>
  cases hs:fq s.name with
  |none=>right;simp[dK,hI,hs]at ho;exact⟨rfl,rfl,ho.symm⟩
  |some es=>simp[dK,hI,hs]at ho;exact absurd ho.2.symm he
def sL(s:az)(p:Nat):az:={ s with eH:=p }
theorem Hq{s:az}(h:eQ s){p:Nat}(h1:1<=p)(h2:p<=9):eQ (sL s p):=⟨h.cells,h.tH,h.pos,h.reach,⟨by show(1:Int)<=(p:Int);omega,by show(p:Int)<=9;omega⟩,h.dE,h.name⟩
def tr(s:az)(es:List End)(p:Nat):Bool:=decide (gC 0 (sL s p) (aW (sL s p) es)=(aW (sL s p) es).length)
def tM:List Nat:=[9,8,7,6,5,4,3,2,1]
def rF(s:az):List AV:=
 if cL s then(match fq s.name with|some es=>(match tM.find? (tr s es)with|some r=>[.int .i64 (r:Nat),.int .i64 0]|none=>[.int .i64 0,.int .i64 5])|none=>[.int .i64 0,.int .i64 7])else[.int .i64 0,.int .i64 2]
theorem Bk{p:Nat->Bool}{r:Nat}(h1:1<=r)(h2:r<=9)(hp:p r=true)(hb:∀k,r<k->k<=9->p k=false):tM.find? p=some r:=by
 have:r=1\/r=2\/r=3\/r=4\/r=5\/r=6\/r=7\/r=8\/r=9:=by omega
 unfold tM;rcases this with rfl|rfl|rfl|rfl|rfl|rfl|rfl|rfl|rfl
 all_goals (repeat rw[List.find?_cons]);simp[hp,hb]
theorem CG{p:Nat->Bool}(hb:∀k,0<k->k<=9->p k=false):tM.find? p=none:=by
 rw[aey];intro x hx
 have:0<x/\x<=9:=by simp[tM]at hx;omega
 rw[hb x this.1 this.2];simp
theorem Y3(hG:aw GI)(s:az)(hs:eZ s):AC prog GI 45 [a_ s] (.ret (.dN (rF s))):=by
 have lv:=oT hG s hs;have iL:=wg hG s hs
 rcases iI s with⟨hI,es,eG,ho⟩|⟨e,he,ho,vk⟩
 .rw[ho]at iL;have hg:=er hI
  have EE:rF s=(match tM.find? (tr s es)with|some r=>[.int .i64 (r:Nat),.int .i64 0]|none=>[.int .i64 0,.int .i64 5]):=by simp[rF,hI,eG]
  rw[EE];generalize aW s es=an at iL;refine bW hG func45 ntmps45 c45 ?_;simp[c45,a_,ao,ae];refine oc lv ?_;simp;refine oc iL ?_;simp[cD,aZ,ao,ae,bI];refine⟨λS H=>∃r:Nat,r<=9/\S 1=.box 1 0/\H 1=some (ao (sL s r))/\∀k,r<k->k<=9->tr s es k=false,λ_ H=>match H 1 with|some (_::_::_::.int _ r::_)=>r.toNat|_=>0,⟨9,?_⟩,?_⟩
  .simp[ao,ae,sL];intro k h1 h2;omega
  rintro S H ⟨r,hr,s1,h1,hb⟩
  by_cases h0:r=0
  .subst h0;rw[CG hb];simp[ao,ae,sL,s1,h1]
  have DZ:1<=r:=by omega
  have gf:0<r:=by omega
  have z7:=Hq hg DZ hr;have BF:=iW z7 (gz z7.name eG);have yP:=FP hG (sL s r) ⟨hs.cells,hs.name⟩ z7 (es:=es) eG;have zv:=FC hG (sL s r) z7 (aW (sL s r) es) BF
  cases hf:tr s es r with
  |true=>
   have yH:=hf;unfold tr at yH;rw[yH]at zv;rw[Bk DZ hr hf hb];simp[ao,ae,sL,s1,h1,gf];refine oc yP ?_;simp[cD,aZ,ao,ae];refine oc zv ?_;simp[ao,ae,sL,s1,h1]
  |false=>
   have yH:=hf;unfold tr at yH;rw[yH]at zv
   have hw:IntKind.i64.wrap ((r:Int)-1)=((r-1:Nat):Int):=by rw[aN (by omega)];omega
   simp[ao,ae,sL,s1,h1,gf];refine oc yP ?_;simp[cD,aZ,ao,ae];refine oc zv ?_;simp[ao,ae,sL,s1,h1,hw];refine⟨⟨r-1,by omega,rfl,λk q1 q2=>?_⟩,by omega⟩
   by_cases hk:k=r
   .rw[hk];exact hf
   .exact hb k (by omega) q2
 .rw[ho]at iL
  have vp:rF s=[.int .i64 0,.int .i64 e]:=by
   rcases p7 s e he ho with⟨h1,rfl⟩|⟨h1,h2,rfl⟩
   .simp[rF,h1]
   .simp[rF,h1,h2]
  rw[vp]
  have ky:(e !=0)=true:=by simpa using he
  refine bW hG func45 ntmps45 c45 ?_;simp[c45,a_,ao,ae];refine oc lv ?_;simp;refine oc iL ?_;simp[cD,aZ,ao,ae,zT,bI,he,ky]
theorem UW(hG:aw GI)(a b:End):AC prog GI 111 [aX a,aX b] (.ret (.bool (decide (b.2<a.2)))):=by
 refine bW hG func111 ntmps111 c111 ?_;simp[c111,aX]
def jo(x:End)(l:List End):End:=l.foldl (λo y=>if o.2<y.2 then y else o) x
theorem AG(x:End)(l:List End){i:Nat}(h:i<l.length):jo x (l.take (i+1))=if(jo x (l.take i)).2<l[i].2 then l[i]else jo x (l.take i):=by
 unfold jo;rw[afj,ac_ h,adL]
 rfl
theorem Ub(hG:aw GI)(x:End)(l:List End)(hl:l.length<1000000):AC prog GI 110 [.slice .view (aO (x::l)),.func (.func 111) [] []] (.ret (aX (jo x l))):=by
 obtain⟨iT,P5,PS⟩:=bp (P:=prog) (t:=138) (s:=2) (by kernel_rfl);obtain⟨fs,fE⟩:=cd (P:=prog) (t:=138) (by kernel_rfl);have cP:aJ 2 (aO (x::l))=true:=qj (x::l);refine bW hG func110 ntmps110 c110 ?_;refine aI (λS H=>S 0=.slice .view (aO (x::l))/\S 1=.func (.func 111) [] []/\S 4=.box 4 0/\H 4=some [.int .i64 0,.int .i64 0]) (by simp) ?_;rintro S H ⟨s0,s1,s4,h4⟩;refine aI (λS H=>S 0=.slice .view (aO (x::l))/\S 1=.func (.func 111) [] []/\S 4=.box 4 0/\H 4=some [.int .i64 0,.int .i64 0]/\S 5=.box 5 0/\H 5=some [.int .i64 x.1,.int .i64 x.2]) (by simp[s0,s1,s4,h4,aO,aX,bI]) ?_;clear s0 s1 s4 h4 S H;rintro S H ⟨s0,s1,s4,h4,s5,h5⟩
 have hd:(aO (x::l)).drop 1=aO l:=by simp[aO]
 have hlen:(aO (x::l)).length=l.length+1:=by simp[aO]
 have D2:(1:Int)<=(l.length:Int)+1:=by omega
 have lT:List.take (l.length+1) (aO (x::l))=aO (x::l):=adn (by omega);generalize aO (x::l)=L at s0 hd hlen lT cP
 have TW:((l.length:Int)+1).toNat=l.length+1:=by omega
 simp[bound,s0,s1,s4,h4,s5,h5,hd,hlen,D2,lT,cP,TW];refine bw 14 l.length (λi S H=>S 1=.func (.func 111) [] []/\S 4=.box 4 0/\H 4=some [.int .i64 0,.int .i64 0]/\S 5=.box 5 0/\H 5=some [.int .i64 (jo x (l.take i)).1,.int .i64 (jo x (l.take i)).2]/\S 12=.slice .view (aO l)/\S 13=.int .i64 l.length/\S 14=.int .i64 (i:Nat)) (λi S H h=>h.2.2.2.2.2.2.2) ⟨by simp[s1],by simp[s4],by simp[h4],by simp[s5],by simp[h5,jo],by simp,by simp[aO],by simp⟩ ?_;clear s0 s1 s4 h4 s5 h5 S H;rintro i hi S H ⟨s1,s4,h4,s5,h5,bU,cz,di⟩
 by_cases au:i<l.length
 .have hw:IntKind.i64.wrap ((i:Int)+1)=i+1:=aN (by omega)
  have hn:¬(i:Int)<0:=by omega
  have hs:=AG x l au;have Qy:=UW hG l[i] (jo x (l.take i))
  generalize jo x (l.take i)=o at*
  by_cases hc:o.2<l[i].2
  .rw[if_pos hc]at hs;rw[hs];simp[s1,s4,h4,s5,h5,bU,cz,di,au,hn,aO,aX,bI];refine oc Qy ?_;simp[s1,s4,h4,s5,h5,bU,cz,di,hc,hw,aO,aX]
  .rw[if_neg hc]at hs;rw[hs]
   have qi:l[i].2<=o.2:=by omega
   simp[s1,s4,h4,s5,h5,bU,cz,di,au,hn,aO,aX,bI];refine oc Qy ?_;simp[s1,s4,h4,s5,h5,bU,cz,di,hc,qi,hw,aO,aX]
 .have cH:i=l.length:=by omega
  subst cH;rw[aea]at h5;simp[s1,s4,h4,s5,h5,bU,cz,di,P5,PS,fE,eS,aX]
def cw(x:Nat×Nat):End:=((x.1:Int),(x.2:Int))
theorem tc:∀(l:List (Nat×Nat))(x:Nat×Nat),jo (cw x) (l.map cw)=cw (nH x l)
 |[],_=>rfl
 |y::l,x=>by
  have e1:jo (cw x) ((y::l).map cw)=jo (if(cw x).2<(cw y).2 then cw y else cw x) (l.map cw):=rfl;have e2:nH x (y::l)=nH (if x.2<y.2 then y else x) l:=rfl;rw[e1,e2,<-tc l]
  congr 1
  by_cases h:x.2<y.2
  .rw[if_pos h,if_pos (by show(x.2:Int)<(y.2:Int);omega)]
  .rw[if_neg h,if_neg (by show¬(x.2:Int)<(y.2:Int);omega)]
def oO(s:az)(a:Int):az:={ s with pos:=a }
theorem Ci{s:az}(h:eQ s){a:Nat}(h1:1<=a)(h2:a<=s.cells.length):eQ (oO s a):=⟨h.cells,h.tH,⟨by show(1:Int)<=(a:Int);omega,by show(a:Int)<=s.cells.length;omega⟩,h.reach,h.eH,h.dE,h.name⟩
def fO(s:az)(an:List Int)(a:Nat):Nat:=gC 0 (oO s (a:Int)) an
def tX(s:az)(an:List Int):Nat×Nat:=nH (1,fO s an 1) (fT (fO s an) 2 (s.cells.length-1))
def rl(s:az):List AV:=
 if cL s then(match fq s.name with|some es=>[.int .i64 ((tX s (aW s es)).1:Nat),.int .i64 ((tX s (aW s es)).2:Nat),.int .i64 0]|none=>[.int .i64 0,.int .i64 0,.int .i64 7])else[.int .i64 0,.int .i64 0,.int .i64 2]
theorem sC(f:Nat->Nat){m:Nat}(hm:1<=m):fT f 1 m=(1,f 1)::fT f 2 (m-1):=by
 obtain⟨k,rfl⟩:∃k,m=k+1:=⟨m-1,by omega⟩
 unfold fT
 rw[aeB]<;>rfl
theorem B'(f:Nat->Nat)(m:Nat):fT f 1 (m+1)=fT f 1 m++[(m+1,f (m+1))]:=by
 unfold fT;rw[ae2,adD];simp[Nat.add_comm]
theorem Z0(hG:aw GI)(s:az)(hs:eZ s):AC prog GI 52 [a_ s] (.ret (.dN (rl s))):=by
 have lv:=oT hG s hs;have iL:=wg hG s hs
 rcases iI s with⟨hI,es,eG,ho⟩|⟨e,he,ho,vk⟩
 .rw[ho]at iL;have hg:=er hI;have hc:=hg.cells
  have EE:rl s=[.int .i64 ((tX s (aW s es)).1:Nat),.int .i64 ((tX s (aW s es)).2:Nat),.int .i64 0]:=by simp[rl,hI,eG]
  rw[EE];have hn:=iW hg (gz hg.name eG);generalize aW s es=an at iL hn⊢;have HK:=B7 hG s (by omega) 0 (.inl rfl);have lD:=Ub hG (cw (1,fO s an 1)) ((fT (fO s an) 2 (s.cells.length-1)).map cw) (by simp[fT];omega);rw[tc]at lD
  have fQ:cw (1,fO s an 1)::(fT (fO s an) 2 (s.cells.length-1)).map cw=(fT (fO s an) 1 s.cells.length).map cw:=by
   rw[sC _ hc.1]<;>rfl
  rw[fQ]at lD;refine bW hG func52 ntmps52 c52 ?_;refine aI (λS H=>S 1=.box 1 0/\H 1=some (ao s)) (by simp[a_,ao,ae]) ?_;rintro S H ⟨s1,h1⟩;refine aI (λS H=>S 1=.box 1 0/\H 1=some (ao s)/\S 5=.box 5 0/\H 5=some (aZ s an)/\S 6=.int .i64 0) ?_ ?_
  .simp[s1,h1,ao,ae];refine oc lv ?_;simp;refine oc iL ?_;simp[s1,h1,cD,aZ,ao,ae,bI]
  clear s1 h1 S H;rintro S H ⟨s1,h1,s5,h5,s6⟩;refine aI (λS H=>S 1=.box 1 0/\H 1=some (ao s)/\S 5=.box 5 0/\H 5=some (aZ s an)) (by simp[s1,h1,s5,h5,s6]) ?_;clear s1 h1 s5 h5 s6 S H;rintro S H ⟨s1,h1,s5,h5⟩;refine aI (λS H=>S 1=.box 1 0/\H 1=some (ao s)/\S 5=.box 5 0/\H 5=some (aZ s an)/\S 7=.slice .nil []) (by simp[s1,h1,s5,h5]) ?_;clear s1 h1 s5 h5 S H;rintro S H ⟨s1,h1,s5,h5,s7⟩;refine aI (λS H=>S 7=grow 138 (aO ((fT (fO s an) 1 s.cells.length).map cw))) ?_ ?_
  .refine aI (λS H=>S 1=.box 1 0/\H 1=some (ao s)/\S 5=.box 5 0/\H 5=some (aZ s an)/\S 7=.slice .nil []/\S 8=.int .i64 1) (by simp[s1,h1,s5,h5,s7]) ?_;clear s1 h1 s5 h5 s7 S H;rintro S H ⟨s1,h1,s5,h5,s7,s8⟩;simp only[dF];refine⟨λS H=>∃i:Nat,i<=s.cells.length/\S 1=.box 1 0/\H 1=some (ao s)/\S 5=.box 5 0/\(∃p,H 5=some (aZ (oO s p) an))/\S 7=grow 138 (aO ((fT (fO s an) 1 i).map cw))/\S 8=.int .i64 ((i:Int)+1),λS _=>match S 8 with|.int _ r=>(13-r).toNat|_=>0,⟨0,adZ _,s1,h1,s5,⟨s.pos,h5⟩,by rw[s7]<;>rfl,s8⟩,?_⟩;clear s1 h1 s5 h5 s7 s8 S H;rintro S H ⟨i,hi,s1,h1,s5,⟨p,h5⟩,s7,s8⟩
   by_cases au:i<s.cells.length
   case neg=>
    have cH:i=s.cells.length:=by omega
    subst cH
    have hq:¬((s.cells.length:Int)+1<=s.cells.length):=by omega
    simp[s1,h1,s5,h5,s7,s8,hq,ao,ae]
   have hq:(i:Int)+1<=s.cells.length:=by omega
   have hw:IntKind.i64.wrap ((i:Int)+1+1)=(i:Int)+1+1:=aN (by omega);have A6:=tx hG (oO s ((i+1:Nat):Int)) (Ci hg (by omega) (by omega)) an hn 0
   have mL:aO ((fT (fO s an) 1 (i+1)).map cw)=aO ((fT (fO s an) 1 i).map cw)++[.agg [.int .i64 ((i:Int)+1),.int .i64 (fO s an (i+1):Nat)]]:=by
    rw[B',adD];unfold aO;rw[adD];simp[cw,aX]
   have hlen:(aO ((fT (fO s an) 1 i).map cw)).length=i:=by simp[aO,fT]
   have cP:=qj ((fT (fO s an) 1 i).map cw);have hfd:gC 0 (oO s ((i+1:Nat):Int)) an=fO s an (i+1):=rfl;rw[hfd]at A6;have k3:aJ 2 [AV.agg [.int .i64 ((i:Int)+1),.int .i64 (fO s an (i+1):Nat)]]=true:=rfl
   have pS:i+1<1048576:=by omega
   generalize aO ((fT (fO s an) 1 i).map cw)=L at s7 mL hlen cP;simp[s1,h1,s5,h5,s7,s8,hq,aZ,oO,ao,ae];refine oc HK ?_;simp[s1,h1,s5,h5,s7,s8,aZ,oO,ao,ae];refine oc A6 ?_;have fo:(AV.agg [.int .i64 ((i:Int)+1),.int .i64 (fO s an (i+1):Nat)]).storable=true:=rfl
   cases L with
   |nil=>
    have nL:grow 138 []=.slice .nil []:=rfl
    have Jr:i=0:=by simpa using hlen.symm
    subst Jr;simp[s1,h1,s5,h5,s8,nL,bI,aZ,oO,ao,ae,aJ];have gD:IntKind.i64.wrap 2=2:=aN (by omega);rw[gD];exact⟨⟨1,hc.1,rfl,by omega⟩,by omega⟩
   |cons y L=>
    have nL:grow 138 (y::L)=.slice (.own 138) (y::L):=rfl;simp[s1,h1,s5,h5,s8,nL,hw,hlen,pS,k3,cP,bI,aZ,oO,ao,ae];exact⟨⟨i+1,by omega,by rw[mL]<;>rfl,by omega⟩,by omega⟩
  .clear s1 h1 s5 h5 s7 S H;intro S H s7
   have kL:grow 138 (aO ((fT (fO s an) 1 s.cells.length).map cw))=.slice (.own 138) (aO ((fT (fO s an) 1 s.cells.length).map cw)):=by
    rw[sC _ hc.1]<;>rfl
   rw[kL]at s7;have hb:nH (1,fO s an 1) (fT (fO s an) 2 (s.cells.length-1))=tX s an:=rfl;rw[hb]at lD;generalize aO ((fT (fO s an) 1 s.cells.length).map cw)=L at s7 lD;generalize tX s an=q at lD⊢;simp[s7];refine oc lD ?_;simp[aX,cw,bI]
 .rw[ho]at iL
  have vp:rl s=[.int .i64 0,.int .i64 0,.int .i64 e]:=by
   rcases p7 s e he ho with⟨h1,rfl⟩|⟨h1,h2,rfl⟩
   .simp[rl,h1]
   .simp[rl,h1,h2]
  rw[vp]
  have ky:(e !=0)=true:=by simpa using he
  refine bW hG func52 ntmps52 c52 ?_;simp[c52,a_,ao,ae];refine oc lv ?_;simp;refine oc iL ?_;simp[cD,aZ,ao,ae,zT,bI,he,ky]
theorem Uc(hG:aw GI)(s:az)(hs:s.cells.length<1000)(e:Nat)(he:e=0\/e=1)(cI:bm e s≠[]):AC prog GI 98 [a_ s,.int .i64 (e:Nat)] (.ret (.slice (.own 3) (ints (bm e s)))):=by
 refine AC.iF func98 rfl ntmps98 (by simp) λcc w=>RT hG s hs e he cc w λS5 H5 s6=>?_
 have BL:ints (bm e s)≠[]:=by simpa[ints]using cI
 have Fq:S5 6=.slice (.own 3) (ints (bm e s)):=by rw[s6];simp[grow,BL]
 clear s6;show SW prog GI 29 none (.seq (.region _ _ false) .ret) _ _ _ _
 refine SW.seq (SW.hand hG (p:=0) (lm:=[0,1]) (l2:=[]) (kd:=[]) (oh:=[_,_]) (lI:=[]) rfl rfl rfl rfl (by kernel_rfl) (λ_ h=>h) (lU:=[]) (kZ:=[]) rfl rfl rfl rfl
  (K1:=λS H=>S 6=.slice (.own 3) (ints (bm e s))) (K2:=λo S H=>o=Old.plain cc w/\S 4=.slice (.own 3) (ints (bm e s))) (K3:=λo S H=>o=Old.plain cc w/\S 4=.slice (.own 3) (ints (bm e s))) ?_ ?_ ?_ ?_)
 .exact Fq
 .rintro w0 g S H a w' m cT ho R s6;have r6:=R.slot 6 (by decide) (λh=>h);rw[s6]at r6;have bq:=R.size
  obtain⟨c,hc⟩:∃c,a.tmps.getD 6 undef=c:=⟨_,rfl⟩
  rw[hc]at r6;have rv:RD g.Pr w' (.slice .view (ints (bm e s))) c:=(r6.fj rfl).aG;refine aV rfl rfl (by rfl) ((run_move (x:=.tmp 6) w' rfl).trans (congrArg (λv=>Result.ok (Next.value v) w') hc)) ?_;have R1:=R.put 28 (.slice .view (ints (bm e s))) c (by decide) (.data _ _ rv) trivial
  have rK:(a.put (some 28) c).tmps.getD 28 undef=c:=by simp[Act.put,bq]
  refine aV rfl rfl (by rfl) ((run_assign (x:=.tmp 28) w' rfl).trans (congrArg (λv=>Result.ok (Next.value v) w') rK)) ?_;have R2:=R1.put 4 (.slice .view (ints (bm e s))) c (by decide) (.data _ _ rv) trivial
  have e4:((a.put (some 28) c).put (some 4) c).tmps.getD 4 undef=c:=by simp[Act.put,bq]
  have e6:((a.put (some 28) c).put (some 4) c).tmps.getD 6 undef=a.tmps.getD 6 undef:=by simp[Act.put,adg]
  obtain⟨g',q1,R3⟩:=R2.JE (t:=6) (u:=4) (e:=3) (es:=ints (bm e s)) (by decide) (by decide) (by decide) (by simp[ar,s6]) (by rw[e4,e6,hc]);exact⟨g',_,_,R3,by rw[q1];exact ho,aS _ _ _⟩
 .rintro o S H ⟨rfl,s4⟩;exact⟨λ_ h=>h,rfl,s4⟩
 .rintro o S H ⟨rfl,s4⟩;refine SW.ret ⟨eD.plain rfl,rfl,_,?_,rfl⟩;show cy prog 29 [.tmp 4] S H=_;simp[cy,cJ,cK,s4,AV.bT,AV.out]
theorem DJ{a:Act}{w:World}{o:Oper}{x y:Operand}{t ty:TypeId}{m n:Int}(ho:o.op=.binOp .add t x y ty)(hx:a.eval x=.int .i64 m)(hy:a.eval y=.int .i64 n):(execOp a.eval o).run prog w=.ok (.value (.int .i64 (IntKind.i64.wrap (m+n)))) w:=by
 unfold execOp;simp[ho,hx,hy,Go.binOp,Op.intArith,eqGuard]
def gP(s:az)(i n:Nat):List Int:=(bm 0 s).set i ((bm 0 s).getD i 0+n)
def mz(s:az)(an:List Int)(i n:Nat):Bool:=decide (tN s an (gP s i n)=an.length)
theorem Mw(l:List Int):mP 1 (ints l):=λx hx=>by
 obtain⟨k,_,rfl⟩:=adx.1 hx;exact⟨rfl,rfl,λc hc=>by simp[AV.cells]at hc;subst hc;rfl⟩
theorem ints_set(l:List Int)(i:Nat)(x:Int):(ints l).set i (.int .i64 x)=ints (l.set i x):=by simp[ints,List.map_set]
structure PO(cc:Nat->Nat->Prop)(o:Old):Prop where
 c:o.c=cc
 ds:o.ds=[]
 bx:∀d,¬o.bx d
theorem TL (hG:aw GI) (s:az) (h:eQ s) (an:List Int) (hn:(∀ x∈an,0≤x∧x≤1000)∧an.length≤1000) {i:Nat} (hi:i < s.cells.length) {n:Nat} (D1:n≤900) :
  AC prog GI 104 [.int .i64 (n:Nat),.ref (ao s),.ref [.int .i64 (i:Nat)],.ref (aZ s an)] (.ret (.bool (mz s an i n))):=by
 have hc:=h.cells
 have DT:(bm 0 s).length=s.cells.length:=by simp[bm]
 have cI:bm 0 s≠[]:=λh0=>by rw[h0]at DT;simp at DT;omega
 have px:=(pg h 0).2
 have cH:i<(bm 0 s).length:=by omega
 have hxi:=px _ (ada cH)
 have ab5:(bm 0 s)[i]<=20:=by
  have:=h.tH _ (ada hi);simp[bm,qK];omega
 have Gy:(bm 0 s).getD i 0=(bm 0 s)[i]:=by simp[adN,cH]
 have HK:=Uc hG s (by omega) 0 (.inl rfl) cI
 have pv:(gP s i n).length=s.cells.length:=by simp[gP,DT]
 have A6:=M1 hG s h an hn.1 hn.2 (gP s i n) pv (λx hx=>by
  rcases agr hx with h1|h1
  .exact px x h1
  .rw[h1,Gy];omega)
 have lX:((dV an (eC (gP s i n)) (eh (dz s) s.cells.length):Int)==(an.length:Int))=mz s an i n:=by
  show _=decide (dV an (eC (gP s i n)) (eh (dz s) s.cells.length)=an.length);rw[ad7,adf,adX];omega
 obtain⟨i3,sh,mR⟩:=bp (P:=prog) (t:=3) (s:=1) (by kernel_rfl);obtain⟨d3,O9,QU⟩:=js (P:=prog) (t:=3) (by kernel_rfl)
 refine AC.iF func104 rfl ntmps104 (by simp) λcc w=>?_
 refine dU hG c104.qa (λS H=>S 0=.int .i64 (n:Nat)/\S 1=.ref (ao s)/\S 2=.ref [.int .i64 (i:Nat)]/\S 3=.ref (aZ s an)) ?_ ?_
 .simp[c104,af.qa,aZ,ao,ae]
 rintro S1 H1 ⟨s0,s1,s2,s3⟩;show SW prog GI 23 none (.seq _ (.seq _ (.seq _ .ret))) _ _ _ _
 refine SW.seq (SW.hand hG (p:=1) (lm:=[1]) (l2:=[2]) (kd:=[_]) (oh:=[_]) (lI:=[_]) rfl rfl rfl rfl (by kernel_rfl) (λ_ h=>h)
  (lU:=(c104.qb.qa.dl).take 1) (kZ:=(c104.qb.qa.dl).drop 2) (by kernel_rfl) (by kernel_rfl) (by kernel_rfl) (by kernel_rfl)
  (K1:=λS H=>S 0=.int .i64 (n:Nat)/\S 2=.ref [.int .i64 (i:Nat)]/\S 3=.ref (aZ s an)/\S 7=a_ s)
  (K2:=λo S H=>∃v,KO cc 3 1 (ints (bm 0 s)) o v/\S 0=.int .i64 (n:Nat)/\S 2=.ref [.int .i64 (i:Nat)]/\S 3=.ref (aZ s an)/\S 8=.val v)
  (K3:=λo S H=>∃v,KO cc 3 1 (ints (bm 0 s)) o v/\S 0=.int .i64 (n:Nat)/\S 2=.ref [.int .i64 (i:Nat)]/\S 3=.ref (aZ s an)/\S 6=.val v) ?_ ?_ ?_ ?_)
 .simp[c104,af.qa,af.qb,af.dl,s0,s1,s2,s3,a_,ao,ae]
 .rintro w0 g S H a w' m cT ho R ⟨s0,s2,s3,s7⟩;have r7:=R.slot 7 (by decide) (λh=>h);rw[s7]at r7
  refine fH rfl rfl (by rfl) (gK (k:=98) (args:=#[a.tmps.getD 7 undef,.int .i64 0]) w' rfl rfl ?_ (by kernel_rfl)) (HK w' (fy g false) #[a.tmps.getD 7 undef,.int .i64 0] (hG w0 w' cT (by have:=R.below;rwa [R.base]at this)) rfl (λj hj dY=>by
   match j,hj with
   |0,_=>exact(r7.cj rfl).mono (bl.same λb k _ hp=>.inl hp) λ_ _ h=>h
   |1,_=>exact .data _ _ (.int _ _))) ?_
  .simp only[adK,adC,adO,Act.eval]
  intro en w2 hE;obtain⟨v,g',rfl,R2,hK⟩:=D8 R (cc:=cc) (by rw[ho];exact⟨rfl,rfl,λ_ h=>h⟩) sh (by rw[mR];exact Mw _) hE;rw[mR]at hK;refine⟨_,rfl,?_⟩
  have nu:v.oneCell'=true:=by
   rcases hK.row with⟨⟨_,rfl⟩,_⟩|⟨_,_,_,rfl,_⟩<;>rfl
  exact⟨g',_,_,R2.put 8 (.val v) v (by decide) (.data _ _ (.val _ nu)) trivial,v,hK,by simp[ar,s0],by simp[ar,s2],by simp[ar,s3],by simp[ar]⟩
 .rintro o S H ⟨v,hK,s0,s2,s3,s8⟩;refine⟨hK.bx,?_⟩;simp[c104,af.qa,af.qb,af.dl,s0,s2,s3,s8];exact hK
 clear s0 s1 s2 s3 S1 H1;rintro o S1 H1 ⟨v,hK,s0,s2,s3,s6⟩;have ZT:=hK.bx
 refine SW.seq (SW.hand hG (p:=2) (lm:=[2,3,4,5,6,7]) (l2:=[]) (kd:=[_,_]) (oh:=[_,_,_,_,_,_]) (lI:=[]) rfl rfl rfl rfl (by kernel_rfl) ZT
  (lU:=(c104.qb.qb.qa.dl).take 2) (kZ:=[]) (by kernel_rfl) rfl (by kernel_rfl) rfl
  (K1:=λS H=>S 0=.int .i64 (n:Nat)/\S 3=.ref (aZ s an)/\S 6=.val v/\S 9=.val v/\S 10=.int .i64 (i:Nat))
  (K2:=λo S H=>PO cc o/\S 3=.ref (aZ s an)/\S 6=vI (gP s i n))
  (K3:=λo S H=>PO cc o/\S 3=.ref (aZ s an)/\S 6=vI (gP s i n)) ?_ ?_ ?_ ?_)
 .simp[c104,af.qa,af.qb,af.dl,s0,s2,s3,s6]
 .rintro w0 g S H a w' m cT ho R ⟨s0,s3,s6,s9,bL⟩;rw[<-ho]at hK
  have GQ:i<(ints (bm 0 s)).length:=by simpa[ints]using cH
  obtain⟨b,cap,cur,hv,n9,sI,fo⟩:=hK.cell R GQ
  have A2:(ints (bm 0 s))[i]=.int .i64 (bm 0 s)[i]:=by simp[ints]
  have rI:0<((ints (bm 0 s))[i]).cells.length:=by rw[A2];simp[AV.cells]
  have xh:=fo 0 rI
  have No:KB (((ints (bm 0 s))[i]).cells[0]'rI)=.int .i64 (bm 0 s)[i]:=by simp only[A2];rfl
  rw[No,aeD,Nat.add_zero]at xh;have t9:=R.slot 9 (by decide) (λh=>h);rw[s9]at t9;have e9:a.eval (.tmp 9)=.slice (some ⟨b,0,none⟩) (ints (bm 0 s)).length cap:=t9.fG.trans hv;have t10:=R.slot 10 (by decide) (λh=>h);rw[bL]at t10;have jt:a.eval (.tmp 10)=.int .i64 (i:Nat):=t10.int_eq;have t0:=R.slot 0 (by decide) (λh=>h);rw[s0]at t0;have e0:a.eval (.tmp 0)=.int .i64 (n:Nat):=t0.int_eq;have bq:=R.size;have kR:IntKind.i64.wrap ((bm 0 s)[i]+n)=(bm 0 s)[i]+n:=aN (by omega);refine aV rfl rfl (by rfl) (lH (k:=i) rfl (by kernel_rfl) sh e9 jt GQ) ?_;rw[mR,aeD];have R1:=R.put 11 (.val (.pointer (some ⟨b,i,none⟩))) (.pointer (some ⟨b,i,none⟩)) (by decide) (.data _ _ (.val _ rfl)) trivial
  have p:=λt c=>bB a 11 t c (by omega)
  have f11:=(p 11 (.pointer (some ⟨b,i,none⟩))).trans (if_pos rfl);have f9:=((p 9 (.pointer (some ⟨b,i,none⟩))).trans (if_neg (by decide))).trans e9;have f10:=((p 10 (.pointer (some ⟨b,i,none⟩))).trans (if_neg (by decide))).trans jt;have f0:=((p 0 (.pointer (some ⟨b,i,none⟩))).trans (if_neg (by decide))).trans e0;have RF:=R1.size;show wpOpsIn _ _ _ _ _ [3,4,5,6,7] (a.put (some 11) (.pointer (some ⟨b,i,none⟩))) w'
  generalize a.put (some 11) (.pointer (some ⟨b,i,none⟩))=a1 at*
  clear p e9 jt e0 t9 t10 t0;refine aV rfl rfl (by rfl) (uC rfl f11 O9 QU sI xh.2) ?_;have R2:=R1.put 12 (.int .i64 (bm 0 s)[i]) (.int .i64 (bm 0 s)[i]) (by decide) (.data _ _ (.int _ _)) trivial
  have p:=λt c=>bB a1 12 t c (by omega)
  have g12:=(p 12 (.int .i64 (bm 0 s)[i])).trans (if_pos rfl);have g9:=((p 9 (.int .i64 (bm 0 s)[i])).trans (if_neg (by decide))).trans f9;have g10:=((p 10 (.int .i64 (bm 0 s)[i])).trans (if_neg (by decide))).trans f10;have g0:=((p 0 (.int .i64 (bm 0 s)[i])).trans (if_neg (by decide))).trans f0;have yO:=R2.size;show wpOpsIn _ _ _ _ _ [4,5,6,7] (a1.put (some 12) (.int .i64 (bm 0 s)[i])) w'
  generalize a1.put (some 12) (.int .i64 (bm 0 s)[i])=a2 at*
  clear p f11 f9 f10 f0;refine aV rfl rfl (by rfl) ((run_move (x:=.tmp 0) w' rfl).trans (congrArg (λv=>Result.ok (Next.value v) w') g0)) ?_;have R3:=R2.put 13 (.int .i64 (n:Nat)) (.int .i64 (n:Nat)) (by decide) (.data _ _ (.int _ _)) trivial
  have p:=λt c=>bB a2 13 t c (by omega)
  have k13:=(p 13 (.int .i64 (n:Nat))).trans (if_pos rfl);have k12:=((p 12 (.int .i64 (n:Nat))).trans (if_neg (by decide))).trans g12;have k9:=((p 9 (.int .i64 (n:Nat))).trans (if_neg (by decide))).trans g9;have XF:=((p 10 (.int .i64 (n:Nat))).trans (if_neg (by decide))).trans g10;have aa9:=R3.size;show wpOpsIn _ _ _ _ _ [5,6,7] (a2.put (some 13) (.int .i64 (n:Nat))) w'
  generalize a2.put (some 13) (.int .i64 (n:Nat))=a3 at*
  clear p g12 g9 g10 g0;refine aV rfl rfl (by rfl) (DJ rfl k12 k13) ?_;rw[kR];have R4:=R3.put 14 (.int .i64 ((bm 0 s)[i]+n)) (.int .i64 ((bm 0 s)[i]+n)) (by decide) (.data _ _ (.int _ _)) trivial
  have p:=λt c=>bB a3 14 t c (by omega)
  have QC:=(p 14 (.int .i64 ((bm 0 s)[i]+n))).trans (if_pos rfl);have l9:=((p 9 (.int .i64 ((bm 0 s)[i]+n))).trans (if_neg (by decide))).trans k9;have l10:=((p 10 (.int .i64 ((bm 0 s)[i]+n))).trans (if_neg (by decide))).trans XF;have y0:=R4.size;show wpOpsIn _ _ _ _ _ [6,7] (a3.put (some 14) (.int .i64 ((bm 0 s)[i]+n))) w'
  generalize a3.put (some 14) (.int .i64 ((bm 0 s)[i]+n))=a4 at*
  clear p k12 k13 k9 XF;refine aV rfl rfl (by rfl) (lH (k:=i) rfl (by kernel_rfl) sh l9 l10 GQ) ?_;rw[mR,aeD];have R5:=R4.put 15 (.val (.pointer (some ⟨b,i,none⟩))) (.pointer (some ⟨b,i,none⟩)) (by decide) (.data _ _ (.val _ rfl)) trivial
  have p:=λt c=>bB a4 15 t c (by omega)
  have m15:=(p 15 (.pointer (some ⟨b,i,none⟩))).trans (if_pos rfl);have m14:=((p 14 (.pointer (some ⟨b,i,none⟩))).trans (if_neg (by decide))).trans QC;show wpOpsIn _ _ _ _ _ [7] (a4.put (some 15) (.pointer (some ⟨b,i,none⟩))) w'
  generalize a4.put (some 15) (.pointer (some ⟨b,i,none⟩))=a5 at*
  clear p QC l9 l10;obtain ⟨y3,dv,Gc,Tm⟩:=xS (o:={ dst:=none,op := .store 3 (.tmp 15) (.tmp 14),type:=0,pos := "",after := #[],guard:=none }) (v := .int .i64 ((bm 0 s)[i]+n)) rfl m15 sh mR sI xh.1 m14 rfl;refine dM rfl rfl (by rfl) dv ?_;have R6:=R5.mF n9 (.cells y3 3 (0,0));have BJ:=hK.set (j:=i) (k:=0) GQ (by rw [A2];simp [AV.cells]) (x := .int .i64 ((bm 0 s)[i]+n)) (u := .int .i64 ((bm 0 s)[i]+n)) (λx hx=>by simp at hx;subst hx;exact ⟨rfl,rfl,λc hc=>by simp [AV.cells] at hc;subst hc;rfl⟩) (by rw [A2]<;>rfl) hv n9 Gc (λm=>by rw [Tm m,aeD,Nat.add_zero]<;>rfl);rw [ints_set] at BJ
  have oW:(bm 0 s).set i ((bm 0 s)[i]+n)=gP s i n:=by rw[gP,Gy]
  rw[oW]at BJ;obtain⟨g',R7,q1,q2,q3⟩:=KO.done BJ R6 (t:=6) (by decide) (by simp[ar,s6]);exact⟨g',_,_,R7,⟨q1,q2,q3⟩,by simp[ar,s3],by simp[ar]<;>rfl⟩
 .rintro o S H ⟨hp,s3,s6⟩;exact⟨hp.bx,hp,s3,s6⟩
 clear s0 s2 s3 s6 S1 H1 hK ZT;rintro o S1 H1 ⟨hp,s3,s6⟩;refine zJ hG c104.qb.qb.qb.qa (λd _=>hp.bx d) (λS H=>S 5=.bool (mz s an i n)) ?_ ?_
 .simp[c104,af.qa,af.qb,s3,s6,aZ,ao,ae];refine oc A6 ?_;simp[s3,s6,aZ,ao,ae];exact lX
 .intro S H s5;refine SW.ret ⟨eD.plain hp.ds,hp.c,_,?_,rfl⟩;show cy prog 23 [.tmp 5] S H=_;simp[cy,cJ,cK,s5,AV.bT,AV.out]
theorem Wo{s:aq}(cM:aU s=true){x:List End}{l:List (List End)}(hg:dw s []=x::l):oQ List.length (dw s [])=(fC (ec s) x l).length/\Bz s=(fC (ec s) x l,jn s [] (fC (ec s) x l))/\0<=jn s [] (fC (ec s) x l):=by
 have hB:DL (km List.length (jn s [])) (dw s []) (fC (ec s) x l):=by rw[hg];exact Pw x l
 have h1:∀y∈dw s [],1<=y.length:=λy hy=>adV.2 (C_ (sK cM hy).1).2.1
 have h2:∀y∈dw s [],0<=jn s [] y:=λy hy=>by
  obtain⟨a,_,b⟩:=sK cM hy;rw[Uq cM (mX cM a) (by omega) (by omega)]at b;simpa using b
 have e1:=P_ hB h1;refine⟨e1,?_,h2 _ (by rw[hg];exact mg _ _ _)⟩;unfold Bz;rw[e1];exact Up hB h2
end Go.Proofs.Tryz
namespace Go.Proofs.Tryz
open Go Go.AL Go.RowKit Go.Proofs Go.Proofs.Tram
section
variable{H:Type}{enc:TypeId×Value->H}{w:World}{held:Bool}
def T0:Nat->Nat->Prop:=λ_ _=>True
def mC(w:World)(l:List AV)(cs:List Value):Prop:=l.length=cs.length/\∀i (h:i<l.length)(h':i<cs.length),(l[i]).one=true/\RD T0 w l[i] cs[i]
def jT(enc:TypeId×Value->H)(w:World)(held:Bool)(t:TypeId){α:Type}(f:α->List AV)(xA:α->Prop):Prop:=
 ∀(fuel:Nat)(cs:List Value)(x:DataW H×List MemPlace),DataW.trod enc prog w 0 (λ_=>true) held fuel t cs=some x->∃a,xA a/\mC w (f a) cs
def kh(n:Int):Prop:= -9223372036854775808<=n/\n<9223372036854775808
theorem EA{t:TypeId}(ht:prog.underlying t=some (.int .i64)):jT enc w held t (λn:Int=>[.int .i64 n]) kh:=by
 intro fuel cs x h;obtain⟨n,rfl,_,hw⟩:=DataW.trod_int ht h;refine⟨n,?_,rfl,λi hi eb=>?_⟩
 .simp only[Lit.wf,adb,adf]at hw
  have h1:IntKind.i64.min= -9223372036854775808:=by kernel_rfl
  have h2:IntKind.i64.max=9223372036854775807:=by kernel_rfl
  rw[h1,h2]at hw;exact⟨hw.1,by omega⟩
 .match i,hi with
  |0,_=>exact⟨rfl,.int _ _⟩
theorem uM{t:TypeId}(ht:prog.underlying t=some .bool):jT enc w held t (λb:Bool=>[.bool b]) (λ_=>True):=by
 intro fuel cs x h;obtain⟨b,rfl,_⟩:=DataW.trod_bool ht h;refine⟨b,trivial,rfl,λi hi eb=>?_⟩
 match i,hi with
 |0,_=>exact⟨rfl,.bool _⟩
theorem sD{α:Type}{p:Nat->α->Prop}:∀(n:Nat),(∀i,i<n->∃a,p i a)->∃l:List α,l.length=n/\∀i (h:i<l.length),p i l[i]
 |0,_=>⟨[],rfl,λi h=>by simp at h⟩
 |n+1,h=>by
  obtain⟨l,hl,hp⟩:=sD n λi hi=>h i (by omega)
  obtain⟨a,ha⟩:=h n (by omega);refine⟨l++[a],by simp[hl],λi hi=>?_⟩
  by_cases jJ:i<l.length
  .rw[adA jJ];exact hp i jJ
  .have:i=n:=by simp at hi;omega
   subst this;rw[ad_ (by omega)];simpa[hl]using ha
theorem Eu{w:World}{a:Addr}{v:Value}(h:w.cell? a=some v):a=⟨a.block,a.off,none⟩:=by
 obtain⟨b,o,s⟩:=a;unfold World.cell? at h
 cases s with
 |none=>rfl
 |some s=>
  simp at h
  split at h<;>simp at h
theorem l3 {t e:TypeId} {α:Type} {f:α→List AV} {xA:α→Prop} (mk:α→AV) (hmk:∀ a,(mk a).cells=f a) (ht:prog.underlying t=some (.slice e)) (gf:0 < prog.cellsOf e) (he:jT enc w held e f xA) :
  jT enc w held t (λl:List α=>[.slice .view (l.map mk)]) (λl=>∀a∈l,xA a):=by
 intro fuel cs x h
 rcases DataW.trod_slice ht h with⟨rfl,_⟩|⟨a,len,cap,elems,rest,n,_,rfl,_,_,hlc,yp,hlen,Au,jB,_⟩
 .refine⟨[],by simp,rfl,λi hi eb=>?_⟩
  match i,hi with
  |0,_=>exact⟨rfl,.jU _⟩
 .obtain⟨size,oq⟩:∃size,prog.cellsOf e=size:=⟨_,rfl⟩
  rw[oq]at gf Au jB;obtain⟨DT,KF⟩:=jB rfl
  by_cases fF:cap=0
  .subst fF
   have rI:len=0:=by omega
   subst rI;refine⟨[],by simp,rfl,λi hi eb=>?_⟩
   match i,hi with
   |0,_=>exact⟨rfl,.kV _ _⟩
  have vO:∃i gM,w.cells? 0 (a.add (i*size)) size=some gM/\i=0:=by
   by_cases rI:len=0
   .subst rI;have h0:=KF 0 (by omega);rw[ac_ (by omega),aep]at h0;obtain⟨gM,h1,_⟩:=h0;exact⟨0,gM,by simpa using h1,rfl⟩
   .have h0:=Au 0 (by omega);rw[ac_ (by omega),aep]at h0;obtain⟨gM,h1,_⟩:=h0;exact⟨0,gM,h1,rfl⟩
  obtain⟨_,cs0,F_,rfl⟩:=vO;rw[agX,show a.add 0=a by simp[Addr.add]]at F_;have xh:=(afU F_).2.2 0 (by omega);rw[show a.add 0=a by simp[Addr.add]]at xh;have rI:=(afU F_).2.1;rw[ac_ (by omega)]at xh
  obtain⟨b,off,rfl⟩:∃b off,a=⟨b,off,none⟩:=⟨_,_,Eu xh⟩
  clear xh F_ rI cs0 KF jB
  obtain⟨l,hl,hp⟩:=sD (p:=λi (v:α)=>xA v/\∃gM,w.cells? 0 ((⟨b,off,none⟩:Addr).add (i*size)) size=some gM/\mC w (f v) gM) len λi hi=>by
   have h0:=Au i hi;rw[ac_ (by omega),aep]at h0;obtain⟨gM,h1,h2⟩:=h0;obtain⟨v,hv,hc⟩:=he _ _ _ h2;exact⟨v,hv,gM,h1,hc⟩
  refine⟨l,λv hv=>?_,rfl,λi hi eb=>?_⟩
  .obtain⟨i,hi,rfl⟩:=adG hv;exact(hp i hi).1
  .have Jr:i=0:=by simpa using hi
   subst Jr;refine⟨rfl,?_⟩;show RD T0 w (.slice .view (l.map mk)) (.slice (some ⟨b,off,none⟩) len cap)
   have sV:len=(l.map mk).length:=by simp[hl]
   have Cv:∀i (h:i<(l.map mk).length),((l.map mk)[i]).cells=f (l[i]'(by simpa using h)):=λi h=>by rw[adp];exact hmk _
   have key:∀m,m=(l.map mk).length->RD T0 w (.slice .view (l.map mk)) (.slice (some ⟨b,off,none⟩) m cap):=?_
   .exact key _ sV
   rintro m rfl
   have fo:∀i (h:i<l.length) j,j<size->∃gM,mC w (f l[i]) gM/\gM.length=size/\w.cell? ⟨b,off+(i*size+j),none⟩=gM[j]?:=by
    intro i h j hj;obtain⟨_,gM,h1,h2⟩:=hp i h;obtain⟨_,h3,h4⟩:=afU h1;have h5:=h4 j hj;rw[aev,aev,afJ]at h5;exact⟨gM,h2,h3,h5⟩
   have Ll:∀i (h:i<l.length),(f l[i]).length=size:=by
    intro i h;obtain⟨gM,h1,h2,_⟩:=fo i h 0 gf;rw[h1.1,h2]
   refine .slice .view (l.map mk) b off cap size (λk=>(w.cell? ⟨b,off+k,none⟩).getD undef) (by rw[<-sV];exact hlc) (λh=>by cases h) (λi h=>by rw[Cv];exact Ll _ _) (λi h j hj=>?_) (λk hk=>⟨trivial,?_⟩) (λi h j hj=>?_)
   .have cH:i<l.length:=by simpa using h
    have dY:j<(f l[i]).length:=by rw[Cv]at hj;exact hj
    have U4:j<size:=by rw[Ll]at dY;exact dY
    obtain⟨gM,h1,h2,_⟩:=fo i cH j U4
    have e:((l.map mk)[i]).cells[j]=(f l[i])[j]:=by simp only[Cv]
    rw[e];exact(h1.2 j dY (by omega)).1
   .have dP:k<l.length*size:=by simpa using hk
    have hi:k/size<l.length:=agi (by rw[ae7];exact dP);have hj:k % size<size:=agS _ gf;obtain⟨gM,h1,h2,h3⟩:=fo (k/size) hi (k % size) hj
    have e:k/size*size+k % size=k:=by rw[ae7];exact agq k size
    rw[e,ac_ (by omega)]at h3;rw[h3];rfl
   .have cH:i<l.length:=by simpa using h
    have dY:j<(f l[i]).length:=by rw[Cv]at hj;exact hj
    have U4:j<size:=by rw[Ll]at dY;exact dY
    obtain⟨gM,h1,h2,h3⟩:=fo i cH j U4;rw[ac_ (by omega)]at h3
    have e:((l.map mk)[i]).cells[j]=(f l[i])[j]:=by simp only[Cv]
    rw[e,h3];exact(h1.2 j dY (by omega)).2
def fieldsOf:TypeDesc->Option (List (TypeId×Nat))
 |.struct fs=>some (fs.toList.map λf=>(f.type,f.offset))
 |_=>none
theorem jh {t:TypeId} {uI:List (TypeId×Nat)} (hf:(prog.underlying t).bind fieldsOf=some uI) {fuel:Nat} {cs:List Value} {x:DataW H×List MemPlace} (h:DataW.trod enc prog w 0 (fun _=>true) held fuel t cs=some x) :
  cs.length=prog.cellsOf t/\∀(i t' o:Nat),uI[i]?=some (t',o)->∃n x',DataW.trod enc prog w 0 (λ_=>true) held n t' ((cs.drop o).take (prog.cellsOf t'))=some x':=by
 cases hu:prog.underlying t with
 |none=>rw[hu]at hf;cases hf
 |some d=>
  rw[hu]at hf
  cases d<;>first|(cases hf;done)|skip
  rename_i fs;simp only[Option.bind_some,fieldsOf,adS]at hf;obtain⟨xs,n,_,_,hl,BK,fQ⟩:=DataW.trod_struct hu h;refine⟨hl,λi t' o hi=>?_⟩;rw[<-hf,adI,adr]at hi;obtain⟨f,Tc,e⟩:=hi;cases e
  have RY:fs[i]?=some f:=by rw[<-aeH];exact Tc
  have:=fQ i f RY;have au:i<fs.size:=(ade.1 RY).1;rw[ac_ (by omega)]at this;exact⟨n,_,this⟩
theorem mC.append{l1 l2:List AV}{c1 c2:List Value}(h1:mC w l1 c1)(h2:mC w l2 c2):mC w (l1++l2) (c1++c2):=by
 refine⟨by simp[h1.1,h2.1],λi h h'=>?_⟩
 by_cases hi:i<l1.length
 .rw[adA hi,adA (by rw[<-h1.1];exact hi)];exact h1.2 i hi _
 .rw[ad_ (by omega),ad_ (by rw[<-h1.1];omega)];have:=h1.1;simp only[this];exact h2.2 _ _ _
def tv(p:j7):Prop:=kh p.l/\kh p.r/\kh p.lo/\kh p.hi
def tQ(w:Word):Prop:=(∀n∈w.aK,kh n)/\∀n∈w.bK,kh n
structure wj(s:aq):Prop where
 aY:∀n∈s.aY,kh n
 aR:∀p∈s.aR,tv p
 ib:kh s.ib
 g_:kh s.g_
 lx:kh s.lx
 lL:kh s.lL
 cG:kh s.cG
 words:∀w∈s.words,tQ w
 wide:kh s.wide
 rows:kh s.rows
theorem JM:prog.cellsOf 3=1:=by kernel_rfl
theorem XL:prog.cellsOf 4=1:=by kernel_rfl
theorem Sd:prog.cellsOf 23=1:=by kernel_rfl
theorem W8:prog.cellsOf 24=1:=by kernel_rfl
theorem G9:prog.cellsOf 26=2:=by kernel_rfl
theorem XG:prog.cellsOf 27=1:=by kernel_rfl
theorem Sf:prog.cellsOf 29=10:=by kernel_rfl
theorem RI:prog.cellsOf 44=3:=by kernel_rfl
theorem LA:prog.cellsOf 166=4:=by kernel_rfl
theorem u3:prog.underlying 3=some (.int .i64):=by kernel_rfl
theorem jL:jT enc w held 3 (λn:Int=>[.int .i64 n]) kh:=EA u3
theorem ux:jT enc w held 23 (λl:List Int=>[vI l]) (λl=>∀n∈l,kh n):=
 l3 (e:=3) (λn:Int=>.int .i64 n) (λ_=>rfl) (by kernel_rfl) (by rw[JM];omega) jL
theorem sN:jT enc w held 26 (λp:Int×Int=>[.int .i64 p.1,.int .i64 p.2]) (λp=>kh p.1/\kh p.2):=by
 intro fuel cs x h;obtain⟨hl,hf⟩:=jh (uI:=[(3,0),(3,1)]) (by kernel_rfl) h;rw[G9]at hl
 match cs,hl with
 |[x0,x1],_=>
  obtain⟨_,_,h0⟩:=hf 0 3 0 rfl;obtain⟨_,_,h1⟩:=hf 1 3 1 rfl;rw[JM]at h0 h1;obtain⟨a,ga,ra⟩:=jL _ _ _ h0;obtain⟨b,gb,rb⟩:=jL _ _ _ h1;exact⟨(a,b),⟨ga,gb⟩,ra.append rb⟩
theorem HS:jT enc w held 166 (λp:j7=>(dq p).cells) tv:=by
 intro fuel cs x h;obtain⟨hl,hf⟩:=jh (uI:=[(3,0),(3,1),(26,2)]) (by kernel_rfl) h;rw[LA]at hl
 match cs,hl with
 |[x0,x1,x2,x3],_=>
  obtain⟨_,_,h0⟩:=hf 0 3 0 rfl;obtain⟨_,_,h1⟩:=hf 1 3 1 rfl;obtain⟨_,_,h2⟩:=hf 2 26 2 rfl;rw[JM]at h0 h1;rw[G9]at h2;obtain⟨a,ga,ra⟩:=jL _ _ _ h0;obtain⟨b,gb,rb⟩:=jL _ _ _ h1;obtain⟨c,gc,rc⟩:=sN _ _ _ h2;exact⟨⟨a,b,c.1,c.2⟩,⟨ga,gb,gc.1,gc.2⟩,ra.append (rb.append rc)⟩
theorem Mp:jT enc w held 24 (λl:List j7=>[.slice .view (l.map dq)]) (λl=>∀p∈l,tv p):=
 l3 (e:=166) dq (λ_=>rfl) (by kernel_rfl) (by rw[LA];omega) HS
theorem J9:jT enc w held 44 (λx:Word=>(bD x).cells) tQ:=by
 intro fuel cs x h;obtain⟨hl,hf⟩:=jh (uI:=[(23,0),(23,1),(4,2)]) (by kernel_rfl) h;rw[RI]at hl
 match cs,hl with
 |[x0,x1,x2],_=>
  obtain⟨_,_,h0⟩:=hf 0 23 0 rfl;obtain⟨_,_,h1⟩:=hf 1 23 1 rfl;obtain⟨_,_,h2⟩:=hf 2 4 2 rfl;rw[Sd]at h0 h1;rw[XL]at h2;obtain⟨a,ga,ra⟩:=ux _ _ _ h0;obtain⟨b,gb,rb⟩:=ux _ _ _ h1;obtain⟨c,_,rc⟩:=uM (t:=4) (by kernel_rfl) _ _ _ h2;exact⟨⟨a,b,c⟩,⟨ga,gb⟩,ra.append (rb.append rc)⟩
theorem MJ:jT enc w held 27 (λl:List Word=>[.slice .view (l.map bD)]) (λl=>∀x∈l,tQ x):=
 l3 (e:=44) bD (λ_=>rfl) (by kernel_rfl) (by rw[RI];omega) J9
theorem KS:jT enc w held 29 ae wj:=by
 intro fuel cs x h;obtain⟨hl,hf⟩:=jh (uI:=[(23,0),(24,1),(26,2),(26,4),(3,6),(27,7),(3,8),(3,9)]) (by kernel_rfl) h;rw[Sf]at hl
 match cs,hl with
 |[x0,x1,x2,x3,x4,x5,x6,x7,x8,x9],_=>
  obtain⟨_,_,h0⟩:=hf 0 23 0 rfl;obtain⟨_,_,h1⟩:=hf 1 24 1 rfl;obtain⟨_,_,h2⟩:=hf 2 26 2 rfl;obtain⟨_,_,h3⟩:=hf 3 26 4 rfl;obtain⟨_,_,h4⟩:=hf 4 3 6 rfl;obtain⟨_,_,h5⟩:=hf 5 27 7 rfl;obtain⟨_,_,h6⟩:=hf 6 3 8 rfl;obtain⟨_,_,h7⟩:=hf 7 3 9 rfl;rw[Sd]at h0;rw[W8]at h1;rw[G9]at h2 h3;rw[JM]at h4 h6 h7;rw[XG]at h5;obtain⟨a0,g0,r0⟩:=ux _ _ _ h0;obtain⟨a1,g1,r1⟩:=Mp _ _ _ h1;obtain⟨a2,g2,r2⟩:=sN _ _ _ h2;obtain⟨a3,g3,r3⟩:=sN _ _ _ h3;obtain⟨a4,g4,r4⟩:=jL _ _ _ h4;obtain⟨a5,g5,r5⟩:=MJ _ _ _ h5;obtain⟨a6,g6,r6⟩:=jL _ _ _ h6;obtain⟨a7,g7,r7⟩:=jL _ _ _ h7;exact⟨⟨a0,a1,a2.1,a2.2,a3.1,a3.2,a4,a5,a6,a7⟩,⟨g0,g1,g2.1,g2.2,g3.1,g3.2,g4,g5,g6,g7⟩,r0.append (r1.append (r2.append (r3.append (r4.append (r5.append (r6.append r7))))))⟩
def JO(s:az):Prop:=kh s.pos/\kh s.reach/\kh s.eH/\kh s.dE/\wj s.name/\∀c∈s.cells,kh c.lo/\kh c.hi
theorem Rm:prog.cellsOf 52=3:=by kernel_rfl
theorem YU:prog.cellsOf 22=1:=by kernel_rfl
theorem XS:prog.cellsOf 31=15:=by kernel_rfl
theorem JZ:jT enc w held 52 (λc:kq=>(iK c).cells) (λc=>kh c.lo/\kh c.hi):=by
 intro fuel cs x h;obtain⟨hl,hf⟩:=jh (uI:=[(26,0),(4,2)]) (by kernel_rfl) h;rw[Rm]at hl
 match cs,hl with
 |[x0,x1,x2],_=>
  obtain⟨_,_,h0⟩:=hf 0 26 0 rfl;obtain⟨_,_,h2⟩:=hf 1 4 2 rfl;rw[G9]at h0;rw[show prog.cellsOf 4=1 from XL]at h2;obtain⟨a,ga,ra⟩:=sN _ _ _ h0;obtain⟨c,_,rc⟩:=uM (t:=4) (by kernel_rfl) _ _ _ h2;exact⟨⟨a.1,a.2,c⟩,ga,ra.append rc⟩
theorem KY:jT enc w held 22 (λl:List kq=>[.slice .view (l.map iK)]) (λl=>∀c∈l,kh c.lo/\kh c.hi):=
 l3 (e:=52) iK (λ_=>rfl) (by kernel_rfl) (by rw[Rm];omega) JZ
theorem JV:jT enc w held 31 ao JO:=by
 intro fuel cs x h;obtain⟨hl,hf⟩:=jh (uI:=[(22,0),(3,1),(3,2),(3,3),(3,4),(29,5)]) (by kernel_rfl) h;rw[XS]at hl
 match cs,hl with
 |[x0,x1,x2,x3,x4,x5,x6,x7,x8,x9,xa,xb,xc,xd,xe],_=>
  obtain⟨_,_,h0⟩:=hf 0 22 0 rfl;obtain⟨_,_,h1⟩:=hf 1 3 1 rfl;obtain⟨_,_,h2⟩:=hf 2 3 2 rfl;obtain⟨_,_,h3⟩:=hf 3 3 3 rfl;obtain⟨_,_,h4⟩:=hf 4 3 4 rfl;obtain⟨_,_,h5⟩:=hf 5 29 5 rfl;rw[YU]at h0;rw[JM]at h1 h2 h3 h4;rw[Sf]at h5;obtain⟨a0,g0,r0⟩:=KY _ _ _ h0;obtain⟨a1,g1,r1⟩:=jL _ _ _ h1;obtain⟨a2,g2,r2⟩:=jL _ _ _ h2;obtain⟨a3,g3,r3⟩:=jL _ _ _ h3;obtain⟨a4,g4,r4⟩:=jL _ _ _ h4;obtain⟨a5,g5,r5⟩:=KS _ _ _ h5;exact⟨⟨a0,a1,a2,a3,a4,a5⟩,⟨g1,g2,g3,g4,g5,g0⟩,r0.append (r1.append (r2.append (r3.append (r4.append r5))))⟩
theorem Ar{d:DataW H}{ps:List MemPlace}{v:Value}{r:Reach}{base:Nat}(vr:Value.okWide prog w r base 31 v)(h:DataW.Trod enc prog w 0 (λ_=>true) held 31 v d ps):∃s:az,JO s/\RD T0 w (a_ s) v:=by
 obtain⟨fuel,hf⟩:=h;obtain⟨s,gs,hc⟩:=JV _ _ _ hf;refine⟨s,gs,?_⟩;obtain⟨fs,fE⟩:=cd (P:=prog) (t:=31) (by kernel_rfl);obtain⟨cs,rfl,_⟩:=WideShapes.okWide_struct fE vr;refine .agg _ _ (by simpa[Value.cells]using hc.1) (λi hi=>(hc.2 i hi (by rw[<-hc.1];exact hi)).1) (λi hi eb=>?_);have:=(hc.2 i hi (by rw[<-hc.1];exact hi)).2;simpa[Value.cells]using this
end
end Go.Proofs.Tryz
namespace Go.Proofs.YtdiflocclemeaaaGreatDoor
open Go Go.AL Go.ChangeShapes Go.WideShapes Go.ChangeAt Go.RowKit
theorem own:ownKnob Tryz.prog.godebug=none:=by kernel_rfl
theorem y4:laidOutB Tryz.prog=true:=by kernel_rfl
def GI(w:World):Prop:=∃m,w.cell? ⟨1,0,none⟩=some (.int .i64 m)
theorem Eg:aw GI:=by
 rintro w w' ⟨m,hm⟩ hb;refine⟨m,?_⟩
 have h1:1<w.heap.size:=by
  unfold World.cell? at hm
  by_cases h:1<w.heap.size
  .exact h
  .have:w.heap[1]?=none:=by simp;omega
   simp[this]at hm
 unfold World.cell? at hm⊢;rw[hb.block 1 h1];exact hm
theorem Ug{w:World}(h:w.ShapedOpen Tryz.prog):GI w:=
 cell_of_shapedOpen_int (g:=1) (t:=3) (zero:=#[.int .i64 0]) (k:=.i64) h (aeQ (by kernel_rfl)) (by kernel_rfl) rfl (by kernel_rfl) (by kernel_rfl) (by kernel_rfl)
abbrev oP:List (String×DataW Unit):=Rows.tramSetRow.laid
variable{H:Type}{enc:TypeId×Value->H}
theorem o8{w:World}{base:Nat}{spare:Nat->Bool}{held:Bool}:∀{ts:List TypeId}{vs:List Value}{ds:List (DataW H)}{ps:List MemPlace},DataW.TrodAll enc Tryz.prog w base spare held ts vs ds ps->ds.length=ts.length
 |[],[],[],_,_=>rfl
 |_::_,_::_,_::_,_,⟨_,_,_,h,_⟩=>congrArg (·+1) (o8 h)
theorem qc {W W':World} (hb:Below W.heap.size W W'):∀ {ts:List TypeId} {vs:List Value} {ds:List (DataW H)} {ps:List MemPlace},(∀ t∈ts,Tryz.prog.readableRec t=true∧t < Tryz.prog.types.size) →
  DataW.TrodAll enc Tryz.prog W 0 (λ_=>true) true ts vs ds ps->(∀x∈ps,x.block<W.heap.size)->DataW.TrodAll enc Tryz.prog W' 0 (λb=>decide (b<W.heap.size)) true ts vs ds ps
 |[],[],[],_,_,h,_=>h
 |t::_,_::_,_::_,_,hr,⟨p,q,h1,h2,e⟩,au=>by
  subst e;exact⟨p,q,Below.trod y4 (hr t adt).1 (hr t adt).2 h1 hb (λx hx=>au x (aeu _ hx)),qc hb (λu hu=>hr u (ado _ hu)) h2 (λx hx=>au x (af_ _ hx)),rfl⟩
theorem Ff (f:FuncId) (fn:Func) (QF:Tryz.checked.prog.funcs[f]? = some fn) (PN:Tryz.checked.prog.inits.idxOf? f=none) (R8:fn.resultTypes = #[4]) (spec:ChangeSpec) (L6:spec.vars=[])
  (Fp:∀(ds:List (DataW H)),ds.length=fn.params.size->spec.fn H ds={ results:=[.lit (.bool true)],args:=ds })
  (ez:∀t∈fn.params.toList,Tryz.prog.readableRec t=true/\t<Tryz.prog.types.size)
  (os:Os) (started:os.Started) (oI:Array Value) (fuel:Nat)
  (cM:((World.laidAll Tryz.prog os oP).forCall (λ_ _=>0) ⟨#[],oI,[]⟩).Shaped Tryz.checked.prog)
  (cP:Input.okWideB Tryz.checked.prog ((World.laidAll Tryz.prog os oP).forCall (λ_ _=>0) ⟨#[],oI,[]⟩) f ⟨#[],oI,[]⟩=true)
  (Ra:spec.preB enc Tryz.checked.prog fn [] false ((World.laidAll Tryz.prog os oP).forCall (λ_ _=>0) ⟨#[],oI,[]⟩).memory oI fuel=true)
  (bq:spec.sizedB enc Tryz.checked.prog fn false ((World.laidAll Tryz.prog os oP).forCall (λ_ _=>0) ⟨#[],oI,[]⟩).memory oI fuel=true)
  (hx:laidMetH Tryz.prog oP ((World.laidAll Tryz.prog os oP).forCall (λ_ _=>0) ⟨#[],oI,[]⟩).memory)
  (fg:∀(W:World)(base:Nat)(args:Array Value)(ds:List (DataW H))(p:List MemPlace),GI W->
   (∀(j:Nat) t v,fn.params[j]?=some t->args[j]?=some v->Value.okWide Tryz.prog W .any base t v)->
   DataW.TrodAll enc Tryz.prog W 0 (λ_=>true) true fn.params.toList args.toList ds p->
   Calls Tryz.prog f args W λe W'=>e=.returned (.bool true)/\Below W.heap.size W W'):
  ReturnsInHanded {} Tryz.checked os f .any (λw args=>(spec.pre enc Tryz.checked.prog fn [] false w args/\laidMetH Tryz.checked.prog oP w)/\sizedMet enc Tryz.checked.prog fn (OpenSpec.ofChange spec) false w args)
   (spec.post enc Tryz.checked.prog fn false true false false):=by
 refine returnsInHanded_of_calls (C:=Tryz.checked) own started PN
  (ChangeSpec.witness_shaped (enc:=enc) (C:=Tryz.checked) (os:=os) (X:=λw _=>laidMetH Tryz.prog oP w) false (World.laidAll Tryz.prog os oP) oI fuel (World.laidAll_os _ _ _) cM cP Ra bq hx) ?_
 intro w tape i _ Vi _ Dg hp _;obtain⟨_,_,_,Kx,X1,_,_,_,_,vr⟩:=Dg;have e:Kx=fn:=adw (X1.symm.trans QF);subst e;obtain⟨⟨⟨ds,gs,before,hw,hc⟩,_⟩,hz⟩:=hp;have LW:=DataW.Whole.of_heap (w':=w.forCall tape i) (by rfl) hw;have hW:=LW;obtain⟨p,q,hA,hV,rfl,_,_⟩:=LW
 have ir:gs=[]/\q=[]:=by
  rw[L6]at hV;obtain⟨rfl,rfl⟩:=trodVars_none hV;exact⟨rfl,rfl⟩
 obtain⟨rfl,rfl⟩:=ir;have Sz:DataW.TrodAll enc Tryz.prog (w.forCall tape i) 0 (λ_=>true) true Kx.params.toList i.args.toList ds p:=hA
 have au:∀x∈p,x.block<(w.forCall tape i).heap.size:=λx hx=>by simpa using hW.lt x (aeu _ hx)
 refine(fg (w.forCall tape i) w.heap.size i.args ds p (Ug Vi) vr Sz).mono λe W' ⟨he,hb⟩=>?_
 subst he;show spec.post enc Tryz.checked.prog Kx false true false false (w.forCall tape i).blind i.args (.bool true) W'.blind;refine ChangeSpec.post_blind (?_:spec.post enc Tryz.checked.prog Kx false true false false (w.forCall tape i) i.args (.bool true) W')
 have K9:ds.length=Kx.params.size:=by
  rw[o8 Sz];simp
 refine⟨ds,[],p++[],[],p,[],hW,?_,?_,?_,hb.frame _,λh=>by cases h⟩
 .rw[adT,Fp ds K9,R8];exact trodAll_mk1 (shut_bool (by kernel_rfl) _)
 .rw[adT,Fp ds K9];exact qc hb ez Sz au
 .rw[adT,Fp ds K9,L6]
  rfl
end Go.Proofs.YtdiflocclemeaaaGreatDoor
namespace Go.Proofs.YtdiflocclemeaaaGreatDoor
open Go Go.AL Go.ChangeShapes Go.WideShapes Go.ChangeAt Go.RowKit
def ch(l:List Nat):List Char:=l.map Char.ofNat
def w1:List Nat:=[104,97,114,110,101,115,115]
def w2:List Nat:=[54,52,48,57,100,55,57,99,57,51,56,56,56,49,50,53,56,99,102,54,99,48,49,97,52,98,98,98,53,98,57,100,97,57,53,99,102,102,101,56,57,98,102,54,57,56,52,52,99,49,102,54,101,51,55,98,52,54,51,52,56,49,53,56]
def w3:List Nat:=[99,117,116]
def w4:List Nat:=[97,116,32,109,97,104,108,115,116,105,99,107,47,109,97,104,108,115,116,105,99,107,108,97,119,48,57,46,84,114,97,109,83,101,116,32,109,97,104,108,115,116,105,99,107,47,109,97,104,108,115,116,105,99,107,108,97,119,48,57,46,84,114,97,109,86,105,101,119,101,100,32,109,97,104,108,115,116,105,99,107,47,109,97,104,108,115,116,105,99,107,108,97,119,48,57,46,84,114,97,109,83,101,101,115,32,109,97,104,108,115,116,105,99,107,47,109,97,104,108,115,116,105,99,107,108,97,119,48,57,46,84,114,97,109,87,111,114,100,115,32,109,97,104,108,115,116,105,99,107,47,109,97,104,108,115,116,105,99,107,108,97,119,48,57,46,84,114,97,109,84,114,117,101,32,109,97,104,108,115,116,105,99,107,47,109,97,104,108,115,116,105,99,107,108,97,119,48,57,46,84,114,97,109,83,116,111,112,115,32,109,97,104,108,115,116,105,99,107,47,109,97,104,108,115,116,105,99,107,108,97,119,48,57,46,84,114,97,109,87,97,105,116,101,100,32,109,97,104,108,115,116,105,99,107,47,109,97,104,108,115,116,105,99,107,108,97,119,48,57,46,84,114,97,109,70,97,114,115,32,109,97,104,108,115,116,105,99,107,47,109,97,104,108,115,116,105,99,107,108,97,119,48,57,46,84,114,97,109,80,97,99,101,100,32,109,97,104,108,115,116,105,99,107,47,109,97,104,108,115,116,105,99,107,108,97,119,48,57,46,84,114,97,109,72,97,110,103,115,32,109,97,104,108,115,116,105,99,107,47,109,97,104,108,115,116,105,99,107,108,97,119,48,57,46,84,114,97,109,72,117,110,103,32,109,97,104,108,115,116,105,99,107,47,109,97,104,108,115,116,105,99,107,108,97,119,48,57,46,84,114,97,109,76,101,97,118,101,115,32,109,97,104,108,115,116,105,99,107,47,109,97,104,108,115,116,105,99,107,108,97,119,48,57,46,84,114,97,109,77,111,114,101,32,109,97,104,108,115,116,105,99,107,47,109,97,104,108,115,116,105,99,107,108,97,119,48,57,46,84,114,97,109,78,101,101,100,115,32,109,97,104,108,115,116,105,99,107,47,109,97,104,108,115,116,105,99,107,108,97,119,48,57,46,84,114,97,109,80,114,105,110,116,115,32,109,97,104,108,115,116,105,99,107,47,109,97,104,108,115,116,105,99,107,108,97,119,48,57,46,84,114,97,109,82,101,97,100,115,32,109,97,104,108,115,116,105,99,107,47,109,97,104,108,115,116,105,99,107,108,97,119,48,57,46,84,114,97,109,83,112,111,105,108,116,32,109,97,104,108,115,116,105,99,107,47,109,97,104,108,115,116,105,99,107,108,97,119,48,57,46,84,114,97,109,76,101,102,116]
theorem mT:∀{a b:List Char},(a.all λc=>c !=Char.ofNat 32)=true->wordsSigns (a++Char.ofNat 32::b)=a::wordsSigns b
 |[],b,_=>rfl
 |c::a,b,h=>by
  simp only[List.all_cons,adb,af2]at h;have ih:=mT (b:=b) h.2;show wordsSigns (c::(a++Char.ofNat 32::b))=_
  conv=>lhs;unfold wordsSigns
  split
  .rename_i e;cases e
  .rename_i e;cases e;exact absurd rfl h.1
  .rename_i e;cases e;rw[ih]
theorem head_eq:Tryz.prog.initOrder=String.ofList (ch w1++Char.ofNat 32::(ch w2++Char.ofNat 32::(ch w3++Char.ofNat 32::ch w4))):=by kernel_rfl
theorem uz:wordsSigns Tryz.prog.initOrder.toList=ch w1::ch w2::ch w3::wordsSigns (ch w4):=by
 rw[head_eq,afI,mT (by kernel_rfl),mT (by kernel_rfl),mT (by kernel_rfl)]
theorem Vg:ch w2 = "6409d79c938881258cf6c01a4bbb5b9da95cffe89bf69844c1f6e37b46348158".toList:=by
 have : "6409d79c938881258cf6c01a4bbb5b9da95cffe89bf69844c1f6e37b46348158" = String.ofList (ch w2):=by kernel_rfl
 rw[this,afI]
theorem tl(s:String)(l:List Nat)(h:s=String.ofList (ch l)):s.toList=ch l:=by rw[h,afI]
theorem uG : "harness".toList=ch [104,97,114,110,101,115,115]:=tl _ _ (by kernel_rfl)
theorem C9 : "ownmain".toList=ch [111,119,110,109,97,105,110]:=tl _ _ (by kernel_rfl)
theorem Ft : "gc".toList=ch [103,99]:=tl _ _ (by kernel_rfl)
theorem BZ : "spec".toList=ch [115,112,101,99]:=tl _ _ (by kernel_rfl)
theorem MZ : "stop".toList=ch [115,116,111,112]:=tl _ _ (by kernel_rfl)
theorem pO : "carried".toList=ch [99,97,114,114,105,101,100]:=tl _ _ (by kernel_rfl)
theorem vA : "cut".toList=ch [99,117,116]:=tl _ _ (by kernel_rfl)
theorem wV : "finals".toList=ch [102,105,110,97,108,115]:=tl _ _ (by kernel_rfl)
theorem vl : "reflectrows".toList=ch [114,101,102,108,101,99,116,114,111,119,115]:=tl _ _ (by kernel_rfl)
theorem zS : "leanrows".toList=ch [108,101,97,110,114,111,119,115]:=tl _ _ (by kernel_rfl)
theorem zQ : "onebuild".toList=ch [111,110,101,98,117,105,108,100]:=tl _ _ (by kernel_rfl)
theorem xj : "publicsums".toList=ch [112,117,98,108,105,99,115,117,109,115]:=tl _ _ (by kernel_rfl)
theorem CU : "eqguard".toList=ch [101,113,103,117,97,114,100]:=tl _ _ (by kernel_rfl)
theorem yc : "ownunsafe".toList=ch [111,119,110,117,110,115,97,102,101]:=tl _ _ (by kernel_rfl)
theorem x_ : "libbeside".toList=ch [108,105,98,98,101,115,105,100,101]:=tl _ _ (by kernel_rfl)
theorem ym : "ownbeside".toList=ch [111,119,110,98,101,115,105,100,101]:=tl _ _ (by kernel_rfl)
theorem wb : "reflbeside".toList=ch [114,101,102,108,98,101,115,105,100,101]:=tl _ _ (by kernel_rfl)
theorem Cs : "aliases".toList=ch [97,108,105,97,115,101,115]:=tl _ _ (by kernel_rfl)
theorem xV : "afterinit".toList=ch [97,102,116,101,114,105,110,105,116]:=tl _ _ (by kernel_rfl)
theorem zP : "crcplain".toList=ch [99,114,99,112,108,97,105,110]:=tl _ _ (by kernel_rfl)
theorem wL : "roadunsafe".toList=ch [114,111,97,100,117,110,115,97,102,101]:=tl _ _ (by kernel_rfl)
theorem yB : "fmthandon".toList=ch [102,109,116,104,97,110,100,111,110]:=tl _ _ (by kernel_rfl)
theorem Ck:isSumSigns (ch w2)=true:=by kernel_rfl
def vC(ws:List (List Char)):Option (Bool×List Char):=match ws with
 |h::s::_=>if !isSumSigns s then none else if h == "harness".toList then some (true,s) else if h == "ownmain".toList then some (false,s) else none
 |_=>none
theorem EJ(P:Program):P.mainIs=vC (wordsSigns P.initOrder.toList):=rfl
theorem FQ(R:List (List Char)):vC (ch w1::ch w2::ch w3::R)=some (true,ch w2):=by
 simp only[vC,Ck,uG]
 rfl
theorem Hi:Tryz.prog.mainIs=some (true,ch w2):=(EJ _).trans ((congrArg vC uz).trans (FQ _))
theorem E1(R:List (List Char)):behindMainWord (ch w1::ch w2::R)=R:=by
 simp only[behindMainWord,Ck,uG,C9]
 rfl
theorem qD:behindMainWord (wordsSigns Tryz.prog.initOrder.toList)=ch w3::wordsSigns (ch w4):=(congrArg behindMainWord uz).trans (E1 _)
theorem Cl(R:List (List Char)):stripLifts liftWords (ch w3::R)=([],ch w3::R):=by
 unfold liftWords;simp only[stripLifts,wV,vl,zS,zQ,xj,CU,yc,x_,ym,wb,Cs,xV,zP,wL,yB]
 rfl
def vz (ws:List (List Char)):List String:=if (stripLifts liftWords ws).2.head? == some "cut".toList then (stripLifts liftWords ws).1 else []
theorem yF(P:Program):P.headLifts=vz (behindMainWord (wordsSigns P.initOrder.toList)):=rfl
theorem E6(R:List (List Char)):vz (ch w3::R)=[]:=by
 simp only[vz,Cl,vA]
 rfl
theorem sY:Tryz.prog.headLifts=[]:=(yF _).trans ((congrArg vz qD).trans (E6 _))
theorem E9{P:Program}{R:List (List Char)}(h:behindMainWord (wordsSigns P.initOrder.toList)=ch w3::R)(hl:P.headLifts=[]):P.make=some .cut:=by
 unfold Program.make;rw[h];simp only[vA,Ft,BZ,wV,pO,hl]
 rfl
theorem PE:Tryz.prog.make=some .cut:=E9 qD sY
theorem wJ{P:Program}{R:List (List Char)}(h:behindMainWord (wordsSigns P.initOrder.toList)=ch w3::R)(hl:P.headLifts=[]):P.liftsFinal=false:=by
 unfold Program.liftsFinal;simp only[h,vA,Ft,pO,hl]
 rfl
theorem yD:Tryz.prog.liftsFinal=false:=wJ qD sY
theorem AQ:Tryz.prog.laysLater=false:=by kernel_rfl
theorem vc:Tryz.prog.bearsReflect=false:=by kernel_rfl
theorem Dz:Tryz.prog.doorFits []=true:=by kernel_rfl
theorem Am{P:Program}{R:List (List Char)}(h:behindMainWord (wordsSigns P.initOrder.toList)=ch w3::R)(h1:P.laysLater=false)(h2:P.bearsReflect=false)(h3:P.doorFits []=true):P.mayEnter=true:=by
 unfold Program.mayEnter;rw[h];simp only[Cl,vA,Ft,pO,BZ,MZ,h1,h2,h3]
 rfl
theorem B8:Tryz.prog.mayEnter=true:=Am qD AQ vc Dz
end Go.Proofs.YtdiflocclemeaaaGreatDoor
namespace Go.Proofs.Tryz
open Go Go.AL Go.RowKit Go.Proofs Go.Proofs.Tram
variable{GI:World->Prop}
theorem po{s:az}(h:eQ s):dz s s.cells.length=false:=by
 have:=h.pos;unfold dz
 have:¬s.cells.length<s.pos.toNat:=by omega
 simp[this]
theorem Fg{s:az}(h:eQ s)(es:List End):∀x∈aW s es,0<x:=by
 intro x hx;obtain⟨i,hi,rfl⟩:=adx.1 hx;have hi:=adF.1 hi;have hw:=(lg h.name (ada hi)).C0;have hp:=h.eH;have ht:=h.dE;unfold ss;rw[fP hi];have a1:1*1<=s.eH*(s.name.words[i].aK.length:Int):=aeO (by omega) (by omega) (by omega) (by omega);have a3:0<=s.dE*(iV es i s.name.words[i].aK.length:Int):=aeF (by omega) (by omega);omega
theorem Fl{an:List Int}(hp:∀x∈an,0<x){bc:Nat->Int}{vs:List (Nat×Nat)}{v:Nat×Nat}(hv:v∈vs)(h:an.sum<=ia bc v.1 (v.2+1)):dV an bc vs=an.length:=by
 obtain⟨a,b,rfl⟩:=List.append_of_mem hv
 have key:∀(b:List (Nat×Nat))(n:Nat),n=an.length->b.foldl (λn v=>n+(cQ (an.drop n) (ia bc v.1 (v.2+1))).1) n=an.length:=by
  intro b
  induction b with
  |nil=>intro n hn;exact hn
  |cons y b ih=>
   intro n hn;rw[List.foldl_cons];refine ih _ ?_;rw[hn,afq];simp[cQ]
 have e:dV an bc (a++v::b)=b.foldl (λn v=>n+(cQ (an.drop n) (ia bc v.1 (v.2+1))).1) (dV an bc a+(cQ (an.drop (dV an bc a)) (ia bc v.1 (v.2+1))).1):=by
  unfold dV;rw[adL,List.foldl_cons]
 rw[e];refine key b _ ?_;have hle:=qp an bc a
 obtain⟨n,hn⟩:∃n,dV an bc a=n:=⟨_,rfl⟩
 rw[hn]at hle⊢
 have pW:∀x∈an.drop n,0<x:=λx hx=>hp x (ae3 hx)
 have hs:(an.take n).sum+(an.drop n).sum=an.sum:=by rw[<-aeC,aeq]
 have h0:=j4 (l:=an.take n) λx hx=>hp x (aeg hx)
 have h1:=j4 (l:=an.drop n) pW;have:=(Dq pW (t:=ia bc v.1 (v.2+1)) (by omega)).2 (by omega);rw[this,ad8];omega
theorem tE{s:az}(h:eQ s)(i n:Nat):∀j,0<=eC (gP s i n) j:=λj=>by
 unfold eC gP;rw[adN,afV];have hb:=(pg h 0).2
 have hg:∀k,0<=(bm 0 s).getD k 0:=λk=>by
  rw[adN]
  cases hk:(bm 0 s)[k]? with
  |none=>exact aeE 0
  |some x=>exact(hb x (aet hk)).1
 split
 .split
  .have:=hg i;simp only[Option.getD_some];omega
  .exact aeE 0
 .have:=hg j;rwa [adN]at this
theorem zl(l:List Int)(i j:Nat)(x:Int):(l.set i x).getD j 0=if i=j then(if i<l.length then x else 0)else l.getD j 0:=by
 rw[adN,afV];split
 .split<;>rfl
 .rw[adN]
theorem CC(s:az)(i:Nat){m n:Nat}(hmn:m<=n)(j:Nat):eC (gP s i m) j<=eC (gP s i n) j:=by
 unfold eC gP;rw[zl,zl];split
 .split
  .omega
  .exact aeE _
 .exact aeE _
theorem EO{s:az}(h:eQ s){an:List Int}(hp:∀x∈an,0<x)(i:Nat):∀x y,x<=y->mz s an i x=true->mz s an i y=true:=by
 intro x y hxy hx;unfold mz at hx⊢;rw[adf]at hx⊢;have h1:=EV (na:=an) (nb:=an) rfl (λ_ _ _=>aeE _) hp (tE h i x) (tE h i y) (po h) (po h) (λj _ hs=>⟨hs,CC s i hxy j⟩);have h2:=qp an (eC (gP s i y)) (eh (dz s) s.cells.length);unfold tN at hx⊢;omega
theorem Fj{s:az}(h:eQ s){f t m:Nat}(hf:f<=t)(ht:t<s.cells.length):(m:Int)<=ia (eC (gP s f m)) f (t+1):=by
 have hl:(bm 0 s).length=s.cells.length:=by simp[bm]
 have h0:(m:Int)<=eC (gP s f m) f:=by
  unfold eC gP;rw[adN,afV,if_pos rfl,if_pos (by omega),Option.getD_some];have:=(pg h 0).2 _ (ada (show f<(bm 0 s).length by omega));rw[adN,ac_ (by omega),Option.getD_some];omega
 have key:∀d,(m:Int)<=ia (eC (gP s f m)) f (f+d+1):=by
  intro d
  induction d with
  |zero=>
   rw[Nat.add_zero,p_ _ (adh f),tz];omega
  |succ d ih=>
   rw[show f+(d+1)+1=(f+d+1)+1 by omega,p_ _ (by omega)];have:=tE h f m (f+d+1);omega
 have:=key (t-f);rwa [show f+(t-f)+1=t+1 by omega]at this
theorem FJ{s:az}(h:eQ s){an:List Int}(hp:∀x∈an,0<x)(hv:(dn s).isEmpty=false):∃c,c<s.cells.length/\mz s an c an.sum.toNat=true:=by
 cases vb:eh (dz s) s.cells.length with
 |nil=>simp[dn,vb]at hv
 |cons v l=>
  have cP:=(vV (po h)).1 v (by rw[vb];simp);refine⟨v.1,by omega,?_⟩;unfold mz tN;rw[adf];have h0:=j4 hp;exact Fl (v:=v) hp (by rw[vb];simp) (by have:=Fj h (m:=an.sum.toNat) cP.1 cP.2;omega)
def zL(p:Nat->Bool)(k:Nat):Nat:=((List.range k).find? p).getD k
theorem wT(p:Nat->Bool)(k:Nat):mw p k (zL p k):=by
 unfold zL
 cases hf:(List.range k).find? p with
 |none=>
  refine⟨adh _,λx hx=>?_,λh=>absurd h (by simp)⟩;have:=aey.1 hf x (adF.2 (by simpa using hx));simpa using this
 |some r=>
  obtain⟨h1,pa,pb,h2,h3⟩:=List.find?_eq_some_iff_append.1 hf;have hr:r<k:=adF.1 (afx hf);refine⟨by simp;omega,λx hx=>?_,λ_=>h1⟩;simp only[Option.getD_some]at hx
  have pc:x∈pa++r::pb:=by rw[<-h2];exact adF.2 (by omega)
  rcases adm.1 pc with h|h
  .have:=h3 x h;simpa using this
  .exfalso
   have TD:(pa++r::pb).Pairwise (·<·):=by rw[<-h2];exact afn
   have TD:=(ae4.1 TD).2.1;rcases ad6.1 h with h|h
   .omega
   .have:=(aeT.1 TD).1 x h;omega
def fJ(s:az)(an:List Int)(i:Nat):Nat:=zL (mz s an i) (an.sum.toNat+1)
def Ef(s:az)(an:List Int):Option (Nat×Nat):=match fb (fJ s an) an.sum.toNat s.cells.length with
 |x::l=>some (nI x l)
 |[]=>none
def rQ(s:az):List AV:=
 if cL s then(match fq s.name with
  |some es=>if(dn s).isEmpty then[.int .i64 0,.int .i64 0,.int .i64 5]else(match Ef s (aW s es)with|some q=>[.int .i64 (q.1:Nat),.int .i64 (q.2:Nat),.int .i64 0]|none=>[])
  |none=>[.int .i64 0,.int .i64 0,.int .i64 7])else[.int .i64 0,.int .i64 0,.int .i64 2]
theorem sU:∀(l:List (Nat×Nat))(x:Nat×Nat),jl (cw x) (l.map cw)=cw (nI x l)
 |[],_=>rfl
 |y::l,x=>by
  have e1:jl (cw x) ((y::l).map cw)=jl (if(cw y).2<(cw x).2 then cw y else cw x) (l.map cw):=rfl;have e2:nI x (y::l)=nI (if y.2<x.2 then y else x) l:=rfl;rw[e1,e2,<-sU l]
  congr 1
  by_cases h:y.2<x.2
  .rw[if_pos h,if_pos (by show(y.2:Int)<(x.2:Int);omega)]
  .rw[if_neg h,if_neg (by show¬(y.2:Int)<(x.2:Int);omega)]
theorem xl:∀{l:List Int}{b:Int},(∀x∈l,x<=b)->0<=b->l.sum<=l.length*b
 |[],_,_,_=>by simp
 |x::l,b,h,hb=>by
  have h1:=h x (by simp);have h2:=xl (l:=l) (λy hy=>h y (by simp[hy])) hb;simp only[List.sum_cons,List.length_cons]
  have:((l.length+1:Nat):Int)*b=l.length*b+b:=by rw[Int.natCast_add,Int.add_mul];simp
  omega
def rG(s:az):List End:=(fq s.name).getD []
theorem L_{s:aq}(hs:aU s=true):(Bz s).1=(fq s).getD []/\decide (0<=(Bz s).2)=(fq s).isSome:=by
 unfold fq
 cases hg:dw s []with
 |nil=>
  have hD:Bz s=([],-1):=by unfold Bz;rw[hg]<;>rfl
  rw[hD];exact⟨rfl,rfl⟩
 |cons x l=>
  obtain⟨_,hD,h0⟩:=Wo hs hg;rw[hD];exact⟨rfl,by simpa using h0⟩
theorem J_{s:az}(h:eQ s):(rG s).length<=3:=by
 unfold rG
 cases he:fq s.name with
 |none=>simp
 |some es=>exact gz h.name he
theorem WS{s:az}(h:eQ s):∀e∈rG s,0<=e.1/\e.1.toNat<s.name.words.length:=by
 unfold rG fq
 cases hg:dw s.name []with
 |nil=>intro e he;cases he
 |cons x l=>
  intro e he
  have hm:fC (ec s.name) x l∈dw s.name []:=by rw[hg];exact mg _ _ _
  have h1:=(lB h.name (lq h.name)).1 hm;have h2:=(C_ h1.1).2.2.1 e he;unfold rD bO at h2;simp only[adb,adf]at h2;omega
theorem TU (s:az) (es:List End) (k:Nat) (hk:k < es.length) (h0:0≤es[k].1) (h1:es[k].1.toNat < s.name.words.length) :
  gW s (es.take (k+1))=if es[k].2<((s.name.words[es[k].1.toNat].aK.length:Nat):Int)then(gW s (es.take k)).set es[k].1.toNat ((gW s (es.take k)).getD es[k].1.toNat 0+1)else gW s (es.take k):=by
 rw[adj hk]
 have hc:∀i n,iV (es.take k++[es[k]]) i n=iV (es.take k) i n+if es[k].1=((i:Nat):Int)/\es[k].2<((n:Nat):Int)then 1 else 0:=by
  intro i n;unfold iV;rw[List.countP_append,List.countP_cons,List.countP_nil];simp
 have hl:∀l,(gW s l).length=s.name.words.length:=by intro l;simp[gW]
 apply afg
 .split<;>simp[hl]
 .intro i h2 h3
  have hi:i<s.name.words.length:=by rw[hl]at h2;exact h2
  have e1:(gW s (es.take k++[es[k]]))[i]=((iV (es.take k++[es[k]]) i (cg s.name i):Nat):Int):=by simp[gW]
  have e2:∀(hh:i<(gW s (es.take k)).length),(gW s (es.take k))[i]=((iV (es.take k) i (cg s.name i):Nat):Int):=by intro hh;simp[gW]
  rw[e1,hc]
  by_cases hb:es[k].2<((s.name.words[es[k].1.toNat].aK.length:Nat):Int)
  .simp only[if_pos hb];rw[agd]
   by_cases pI:es[k].1.toNat=i
   .rw[if_pos pI];subst pI;rw[fP hi,if_pos ⟨by omega,hb⟩]
    have:(gW s (es.take k)).getD es[k].1.toNat 0=((iV (es.take k) es[k].1.toNat (cg s.name es[k].1.toNat):Nat):Int):=by
     rw[adN,ac_ (by rw[hl];exact hi)];exact e2 _
    rw[this,fP hi];simp
   .rw[if_neg pI,e2,if_neg (by omega)];simp
  .simp only[if_neg hb];rw[e2]
   by_cases pI:es[k].1=((i:Nat):Int)
   .have:es[k].1.toNat=i:=by omega
    subst this;rw[fP hi,if_neg (λh=>hb h.2)];simp
   .rw[if_neg (λh=>pI h.1)];simp
theorem WI(s:az):ints (gW s [])=List.replicate s.name.words.length (.int .i64 0):=by
 apply afg
 .simp[gW,ints]
 .intro i h1 h2;simp[gW,ints,iV]
theorem qy(l:List Int):∀x∈ints l,x.cells.length=1/\x.storable=true/\∀c∈x.cells,c.one=true:=by
 intro x hx;obtain⟨e,_,rfl⟩:=adx.1 hx;exact⟨rfl,rfl,λc hc=>by simp[AV.cells]at hc;subst hc;rfl⟩
theorem rR(l:List Int):∀x∈ints l,∀c∈x.cells,iC c=true:=by
 intro x hx c hc;obtain⟨e,_,rfl⟩:=adx.1 hx;simp[AV.cells]at hc;subst hc;rfl
theorem BQ(l:List (List Int)):∀x∈l.map vI,x.cells.length=1/\x.storable=true/\∀c∈x.cells,c.one=true:=by
 intro x hx;obtain⟨e,_,rfl⟩:=adx.1 hx;exact⟨rfl,rfl,λc hc=>by simp[AV.cells,vI]at hc;subst hc;rfl⟩
structure Lv(wB:World)(Mi:Nat->Nat->Prop)(bF bN:Nat)(s:az)(cS cR fv:Value)(fs:List (List Int))(es:List Int)(w:World):Prop where
 below:Below wB.heap.size wB w
 ge:wB.heap.size<=bF/\wB.heap.size<=bN/\bF≠bN
 lt:∀b k,Mi b k->b<w.heap.size
 gF:∀k,¬Mi bF k
 gN:∀k,¬Mi bN k
 st:∃u tD xF v wH xN,w.heap[bF]?=some (.cells #[u] tD (0,0))/\w.ownsRow (bF+1) 23 1 u fs.length xF/\kH (λb k=>Mi b k/\wB.heap.size<=b) w 1 (fs.map vI) xF/\(∀b,u.ownBlock=some b->b≠bN/\∀k,¬Mi b k)/\
  w.heap[bN]?=some (.cells #[v] wH (0,0))/\w.ownsRow (bN+1) 3 1 v es.length xN/\kH (λ_ _=>False) w 1 (ints es) xN/\∀b,v.ownBlock=some b->b≠bF/\u.ownBlock≠some b/\∀k,¬Mi b k
 s:RV Mi cj w (.ref (ao s)) cS
 r:RV Mi cj w (.ref [.val fv]) cR
variable{wB:World}{Mi:Nat->Nat->Prop}{bF bN:Nat}{s:az}{cS cR fv:Value}{fs:List (List Int)}{es:List Int}{w w':World}
theorem fK{base:Nat}{e:TypeId}{size:Nat}{v:Value}{n:Nat}{xs:List Value}(h:w.ownsRow base e size v n xs)(hk:∀b,v.ownBlock=some b->w'.heap[b]?=w.heap[b]?):w'.ownsRow base e size v n xs:=by
 refine⟨h.1,?_⟩
 rcases h.2 with h|⟨gg,cap,cur,rfl,qL,Ah,rest⟩
 .exact .inl h
 .exact .inr ⟨gg,cap,cur,rfl,qL,(hk gg rfl).trans Ah,rest⟩
theorem Lv.grow(st:Lv wB Mi bF bN s cS cR fv fs es w)(hb:Below w.heap.size w w'):Lv wB Mi bF bN s cS cR fv fs es w':=by
 have hk:bl Mi Mi w w':=bl.iY (λb h=>hb.block b h) λ_ _ _ h=>h
 obtain⟨u,tD,xF,v,wH,xN,f1,f2,f3,f4,n1,n2,n3,n4⟩:=st.st;have lF:=(ade.1 f1).1;have lN:=(ade.1 n1).1
 exact⟨st.below.trans (hb.mono st.below.size),st.ge,λb k h=>adU (st.lt b k h) hb.size,st.gF,st.gN,
  ⟨u,tD,xF,v,wH,xN,(hb.block _ lF).trans f1,fK f2 λb h=>hb.block _ (f2.lt b h).2,f3.mono (bl.iY (λb h=>hb.block b h) λ_ _ _ h=>h),f4,(hb.block _ lN).trans n1,fK n2 λb h=>hb.block _ (n2.lt b h).2,n3.mono (bl.of_eq λ_ _ h=>h.elim),n4⟩,
  st.s.mono hk λ_ _ h=>h,st.r.mono hk λ_ _ h=>h⟩
end Go.Proofs.Tryz
namespace Go.Proofs.Tryz
open Go Go.AL Go.RowKit Go.Proofs Go.Proofs.Tram
attribute [local simp] dF fc eT dW ef dI dJ cZ c_ ee cW cE gh gj aF aH ev aQ.S aQ.H bz ar aT AL.start AV.cells AV.storable AV.bZ bo bX dS b0 HR.okB post cy cJ cK AV.out AV.bT cb dk fz gI AV.vw df vI int b_ aM cU db gB iN eY dQ bQ AV.aG AV.bH
variable{GI:World->Prop}
theorem ZV(hG:aw GI)(s:az)(hs:eZ s):AC prog GI 40 [a_ s] (.ret (.dN (rQ s))):=by
 have lv:=oT hG s hs;have iL:=wg hG s hs
 rcases iI s with⟨hI,es,eG,ho⟩|⟨e,he,ho,vk⟩
 .rw[ho]at iL;have hg:=er hI;have hc:=hg.cells
  have EE:rQ s=if(dn s).isEmpty then[.int .i64 0,.int .i64 0,.int .i64 5]else(match Ef s (aW s es)with|some q=>[.int .i64 (q.1:Nat),.int .i64 (q.2:Nat),.int .i64 0]|none=>[]):=by unfold rQ;rw[if_pos hI,eG]<;>rfl
  rw[EE];have hn:=iW hg (gz hg.name eG);have hp:=Fg hg es
  have hle:(aW s es).sum<=400:=by
   have hb:∀x∈aW s es,x<=81:=λx hx=>by
    obtain⟨i,hi,rfl⟩:=adx.1 hx
    exact(uN hg (gz hg.name eG) (by
     rw[fP (adF.1 hi)]
     exact(lg hg.name (ada _)).uw)).2
   have h1:=xl hb (by decide)
   have h2:(aW s es).length<=4:=by
    have:=(eg hg.name).words;simp[aW];omega
   omega
  generalize aW s es=an at iL hn hp hle⊢;have h0:=j4 hp;have xO:=Lr hG an (by omega) hn.1
  obtain⟨most,zK⟩:∃most,an.sum.toNat=most:=⟨_,rfl⟩
  have uR:an.sum=(most:Nat):=by omega
  rw[uR]at xO
  have vK:most<=400:=by omega
  have hvw:(ao s).map AV.bH=ao s:=by simp[ao,ae,AV.bH,vI]
  have aam:(aZ s an).map AV.bH=aZ s an:=by simp[aZ,ao,ae,AV.bH,vI]
  have aar:∀i:Nat,i<s.cells.length->AC prog GI 103 [.int .i64 ((most+1:Nat):Int),.func (.func 104) [] [.ref (ao s),.ref [.int .i64 (i:Nat)],.ref (aZ s an)]] (.ret (.int .i64 (fJ s an i:Nat))):=λi hi=>by
   have:=U' hG (n:=most+1) (by omega) 104 (ao s) [.int .i64 (i:Nat)] (aZ s an) (by kernel_rfl) (EO hg hp i) (λy hy=>TL hG s hg an hn hi (n:=y) (by omega)) (wT (mz s an i) (most+1));unfold fJ;rw[zK];exact this
  have CT:=MX hG s;have ou:=Sv hG s (ps:=dn s) (by have:=uJ s;omega) (ES hG s hg);have ou:=AC.iA (o:=if(dn s).isEmpty then .nil else .view) ou;unfold Ef;rw[zK];refine bW hG func40 ntmps40 c40 ?_;refine aI (λS H=>S 1=.box 1 0/\H 1=some (ao s)) (by simp[a_,ao,ae]) ?_;rintro S H ⟨s1,h1⟩;refine aI (λS H=>S 1=.box 1 0/\H 1=some (ao s)/\S 5=.box 5 0/\H 5=some (aZ s an)/\S 6=.int .i64 0) ?_ ?_
  .simp[s1,h1,ao,ae];refine oc lv ?_;simp;refine oc iL ?_;simp[s1,h1,cD,aZ,ao,ae,bI]
  clear s1 h1 S H;rintro S H ⟨s1,h1,s5,h5,s6⟩;refine aI (λS H=>S 1=.box 1 0/\H 1=some (ao s)/\S 5=.box 5 0/\H 5=some (aZ s an)) (by simp[s1,h1,s5,h5,s6]) ?_;clear s1 h1 s5 h5 s6 S H;rintro S H ⟨s1,h1,s5,h5⟩;refine aI (λS H=>S 1=.box 1 0/\H 1=some (ao s)/\S 5=.box 5 0/\H 5=some (aZ s an)/\S 7=.int .i64 (most:Nat)) ?_ ?_
  .simp[s1,h1,s5,h5,aZ,ao,ae];refine oc xO ?_;simp[s1,h1,s5,h5,aZ,ao,ae]
  clear s1 h1 s5 h5 S H;rintro S H ⟨s1,h1,s5,h5,s7⟩;refine aI (λS H=>S 1=.box 1 0/\H 1=some (ao s)/\S 5=.box 5 0/\H 5=some (aZ s an)/\S 7=.int .i64 (most:Nat)/\S 8=.slice .nil []) (by simp[s1,h1,s5,h5,s7]) ?_;clear s1 h1 s5 h5 s7 S H;rintro S H ⟨s1,h1,s5,h5,s7,s8⟩;refine aI (λS H=>S 1=.box 1 0/\H 1=some (ao s)/\S 8=grow 132 (aO ((fb (fJ s an) most s.cells.length).map cw))) ?_ ?_
  .refine aI (λS H=>S 1=.box 1 0/\H 1=some (ao s)/\S 5=.box 5 0/\H 5=some (aZ s an)/\S 7=.int .i64 (most:Nat)/\S 8=.slice .nil []/\S 27=.int .i64 s.cells.length/\S 28=.int .i64 ((0:Nat):Int)) (by simp[s1,h1,s5,h5,s7,s8,ao,ae]) ?_;clear s1 h1 s5 h5 s7 s8 S H;rintro S H ⟨s1,h1,s5,h5,s7,s8,oz,xk⟩;refine bw 28 s.cells.length (λi S H=>S 1=.box 1 0/\H 1=some (ao s)/\S 5=.box 5 0/\H 5=some (aZ s an)/\S 7=.int .i64 (most:Nat)/\S 8=grow 132 (aO ((fb (fJ s an) most i).map cw))/\S 27=.int .i64 s.cells.length/\S 28=.int .i64 (i:Nat)) (λi S H h=>h.2.2.2.2.2.2.2) ⟨s1,h1,s5,h5,s7,by rw[s8]<;>rfl,oz,xk⟩ ?_;clear s1 h1 s5 h5 s7 s8 oz xk S H;rintro i hi S H ⟨s1,h1,s5,h5,s7,s8,oz,xk⟩
   by_cases au:i<s.cells.length
   case neg=>
    have cH:i=s.cells.length:=by omega
    subst cH;simp[s1,h1,s5,h5,s7,s8,oz,xk]
   have hw:IntKind.i64.wrap ((i:Int)+1)=i+1:=aN (by omega)
   have gD:IntKind.i64.wrap ((most:Int)+1)=((most+1:Nat):Int):=by rw[aN (by omega)];omega
   have mL:=z_ (fJ s an) most i
   have hlen:(aO ((fb (fJ s an) most i).map cw)).length<=i:=by
    simp only[aO,adi];have:=afZ (λk=>if fJ s an k<=most then some (k,fJ s an k)else none) (List.range i);simpa[fb]using this
   have cP:=qj ((fb (fJ s an) most i).map cw);have hh:=aar i au
   have Ta:((most+1:Nat):Int)=(most:Int)+1:=by omega
   rw[Ta]at hh gD;simp[s1,h1,s5,h5,s7,s8,oz,xk,au,gD,hvw,aam];refine⟨_,by kernel_rfl,hh,λ_=>rfl,?_⟩
   by_cases yp:fJ s an i<=most
   .rw[if_pos yp]at mL
    have hE:aO ((fb (fJ s an) most (i+1)).map cw)=aO ((fb (fJ s an) most i).map cw)++[.agg [.int .i64 (i:Nat),.int .i64 (fJ s an i:Nat)]]:=by
     rw[mL,adD];unfold aO
     rw[adD]<;>rfl
    rw[hE];have k3:aJ 2 [AV.agg [.int .i64 (i:Nat),.int .i64 (fJ s an i:Nat)]]=true:=rfl;generalize aO ((fb (fJ s an) most i).map cw)=L at s8 hlen cP⊢
    cases L with
    |nil=>
     have nL:grow 132 []=.slice .nil []:=rfl;simp[s1,h1,s5,h5,s7,s8,oz,xk,yp,nL,hw,bI,k3]
     try rfl
    |cons y L=>
     have nL:grow 132 (y::L)=.slice (.own 132) (y::L):=rfl
     have BO:∀z,grow 132 (y::(L++[z]))=.slice (.own 132) (y::(L++[z])):=λ_=>rfl
     have pS:L.length+1+1<1048576:=by simp at hlen;omega
     simp[s1,h1,s5,h5,s7,s8,oz,xk,yp,nL,BO,hw,bI,k3,cP,pS]
   .rw[if_neg yp,adT]at mL;rw[mL]
    have Jx:∀L,grow 132 L=.slice (if L=[]then .nil else .own 132) L:=λ_=>rfl
    simp[s1,h1,s5,h5,s7,s8,oz,xk,yp,hw,Jx]
  .clear s1 h1 s5 h5 s7 s8 S H;rintro S H ⟨s1,h1,s8⟩
   cases hv:(dn s).isEmpty with
   |true=>
    have si:dn s=[]:=by simpa using hv
    rw[si]at ou;simp[s1,h1,ao,ae];refine oc CT ?_;simp;refine⟨_,by kernel_rfl,ou,by simp[df,qS],?_⟩;simp
   |false=>
    have si:dn s≠[]:=by intro h;rw[h]at hv;cases hv
    have wh:(((dn s).length:Int)==0)=false:=by
     have:(dn s).length≠0:=λh=>si (adQ h)
     rw[adW];omega
    obtain⟨c,q1,q2⟩:=FJ hg hp hv;rw[zK]at q2;obtain⟨x,l,BK⟩:=E4 (p:=mz s an) (f:=fJ s an) (most:=most) (m:=s.cells.length) (λj _=>by unfold fJ;rw[zK];exact wT _ _) q1 (adh _) q2
    have lD:=Un hG (cw x) (l.map cw) (by
     have h1:=congrArg List.length BK;have:=afZ (λk=>if fJ s an k<=most then some (k,fJ s an k)else none) (List.range s.cells.length);simp[fb]at h1 this
     simp;omega)
    rw[sU]at lD
    have fQ:cw x::l.map cw=(fb (fJ s an) most s.cells.length).map cw:=by rw[BK]<;>rfl
    have kL:grow 132 (aO ((fb (fJ s an) most s.cells.length).map cw))=.slice (.own 132) (aO ((fb (fJ s an) most s.cells.length).map cw)):=by rw[BK]<;>rfl
    rw[kL]at s8;rw[fQ]at lD;rw[BK];generalize aO ((fb (fJ s an) most s.cells.length).map cw)=L at s8 lD
    obtain⟨q,hq⟩:∃q,nI x l=q:=⟨_,rfl⟩
    rw[hq]at lD;simp[s1,h1,s8,ao,ae];refine oc CT ?_;simp[s8];refine⟨_,by kernel_rfl,ou,by simp[df,qS],?_⟩;simp[s8,si,wh,aO];refine oc lD ?_;simp[aX,cw,bI,hq]
 .rw[ho]at iL
  have vp:rQ s=[.int .i64 0,.int .i64 0,.int .i64 e]:=by
   rcases p7 s e he ho with⟨h1,rfl⟩|⟨h1,h2,rfl⟩
   .simp[rQ,h1]
   .simp[rQ,h1,h2]
  rw[vp]
  have ky:(e !=0)=true:=by simpa using he
  refine bW hG func40 ntmps40 c40 ?_;simp[c40,a_,ao,ae];refine oc lv ?_;simp;refine oc iL ?_;simp[cD,aZ,ao,ae,zT,bI,he,ky]
def aat : af := .ops [⟨(some 22), none, .mv false (.t 8)⟩,
    ⟨(some 23),none,.fieldAddr 1 (.t 4)⟩,
    ⟨(some 24),none,.load .any false 1 (.t 23)⟩,
    ⟨(some 25),none,.j6 (.t 24)⟩,
    ⟨(some 26),none,.bin .lss (.t 22) (.t 25)⟩]
def Zi:af := .ops [⟨(some 29),none,.fieldAddr 1 (.t 4)⟩,
     ⟨(some 30),none,.load .any false 1 (.t 29)⟩,
     ⟨(some 31),none,.mv false (.t 8)⟩,
     ⟨(some 32),none,.indexAddr 2 (.t 30) (.t 31)⟩,
     ⟨(some 33),none,.fieldAddr 0 (.t 32)⟩,
     ⟨(some 34),none,.load .any false 1 (.t 33)⟩,
     ⟨(some 9),none,.mv true (.t 34)⟩]
def Xg:af := .dc [⟨(some 35),none,.fieldAddr 1 (.t 4)⟩,
     ⟨(some 36),none,.load (.box 4) false 1 (.t 35)⟩,
     ⟨(some 37),none,.mv false (.t 8)⟩,
     ⟨(some 38),none,.indexAddr 2 (.t 36) (.t 37)⟩,
     ⟨(some 39),none,.fieldAddr 1 (.t 38)⟩,
     ⟨(some 40),none,.load .ref false 1 (.t 39)⟩,
     ⟨(some 41),none,.fieldAddr 5 (.t 1)⟩,
     ⟨(some 42),none,.fieldAddr 7 (.t 41)⟩,
     ⟨(some 43),none,.load (.box 1) false 1 (.t 42)⟩,
     ⟨(some 44),none,.mv false (.t 9)⟩,
     ⟨(some 45),none,.indexAddr 3 (.t 43) (.t 44)⟩,
     ⟨(some 46),none,.fieldAddr 0 (.t 45)⟩,
     ⟨(some 47),none,.load .ref false 1 (.t 46)⟩,
     ⟨(some 48),none,.j6 (.t 47)⟩,
     ⟨(some 49),none,.bin .lss (.t 40) (.t 48)⟩]
def XR : af := .ops [⟨(some 27), none, .mv false (.t 8)⟩,
    ⟨(some 28),none,.bin .add (.t 27) (.c (.int .i64 1))⟩,
    ⟨(some 8),none,.mv true (.t 28)⟩]
def aay:List cC:=[⟨(some 50),none,.mv false (.t 7)⟩,
      ⟨(some 51),none,.mv false (.t 9)⟩,
      ⟨(some 52),none,.indexAddr 1 (.t 50) (.t 51)⟩,
      ⟨(some 53),none,.load .any false 1 (.t 52)⟩,
      ⟨(some 54),none,.bin .add (.t 53) (.c (.int .i64 1))⟩,
      ⟨(some 55),none,.indexAddr 1 (.t 50) (.t 51)⟩,
      ⟨none,none,.store .any 1 (.t 55) (.t 54)⟩]
structure Gb(s:az)(es:List End)(ok:Bool)(S:av)(H:aD):Prop where
 s1:S 1=.box 1 0
 h1:H 1=some (ao s)
 s4:S 4=.box 4 0
 h4:H 4=some [vI [],.slice .view (es.map aX)]
 s6:S 6=.bool ok
theorem acI(hG:aw GI)(s:az)(h:eQ s):AC prog GI 95 [a_ s] (.ret (.dN [vI (gW s (rG s)),.bool (fq s.name).isSome])):=by
 have aap:=abK hG s.name h.name;rw[(L_ h.name).1,(L_ h.name).2]at aap;have Au:=J_ h;have heo:=WS h
 have ni:∀l,(gW s l).length=s.name.words.length:=by intro l;simp[gW]
 have pv:=(eg h.name).words
 have jC:=λk hk=>TU s (rG s) k hk (heo _ (ada hk)).1 (heo _ (ada hk)).2
 change AC prog GI 156 [bP s.name] (.ret (.dN [aL [] (rG s),.int .i64 (max 0 (Bz s.name).2),.bool (fq s.name).isSome]))at aap
 generalize rG s=es at*
 generalize(fq s.name).isSome=ok at*
 generalize max 0 (Bz s.name).2=mx at*
 obtain⟨i3,sh,PU⟩:=adr.1 (show(prog.info? 3).map (λi=>(i.zero,i.size,i.bytes))=some (some (Value.int .i64 0),1,8) by kernel_rfl);simp only[agj]at PU;obtain⟨hz3,mR,oB⟩:=PU;obtain⟨d3,O9,QU⟩:=js (P:=prog) (t:=3) (by kernel_rfl)
 have gE:prog.underlying 23=some (.slice 3):=by kernel_rfl
 refine AC.iF func95 rfl ntmps95 (by simp) λcc w=>?_
 refine dU hG c95.qa (λS H=>S 1=.box 1 0/\H 1=some (ao s)) ?_ ?_
 .simp[c95,af.qa,a_,ao,ae]
 rintro S1 H1 ⟨s1,h1⟩;refine dU hG c95.qb.qa (Gb s es ok) ?_ ?_
 .simp[c95,af.qa,af.qb,s1,h1,ao,ae];refine oc aap ?_;simp[s1,h1,ao,ae,aL];exact⟨by first|exact s1|simp[ar,s1],by first|exact h1|simp[ar,h1,ao,ae],by first|exact s4|simp[ar,s4]|simp[ar],by first|exact h4|simp[ar,h4]|simp[ar,aO,vI],by first|exact s6|simp[ar,s6]|simp[ar]⟩
 clear s1 h1;rintro S2 H2 hF;obtain⟨s1,h1,s4,h4,s6⟩:=hF;show SW prog GI 58 none (.seq _ (.seq (.seq _ (.block 0 (.loop (.seq (.seq _ (.cond _ .skip (.exit 0))) (.seq (.block 1 (.seq _ (.seq _ (.cond _ _ .skip)))) _))))) (.seq _ .ret))) _ _ _ _
 refine SW.seq (SW.hand hG (p:=4) (lm:=[4]) (l2:=[5]) (kd:=[_,_,_,_]) (oh:=[_]) (lI:=[_]) rfl rfl rfl rfl (by kernel_rfl) (λ_ h=>h)
  (lU:=(c95.qb.qb.qa.dl).take 4) (kZ:=(c95.qb.qb.qa.dl).drop 5) (by kernel_rfl) (by kernel_rfl) (by kernel_rfl) (by kernel_rfl)
  (K1:=λS H=>Gb s es ok S H/\S 20=.int .i64 s.name.words.length)
  (K2:=λo S H=>∃v,KO cc 3 1 (ints (gW s (es.take 0))) o v/\Gb s es ok S H/\S 21=.val v)
  (K3:=λo S H=>∃v,KO cc 3 1 (ints (gW s (es.take 0))) o v/\Gb s es ok S H/\S 7=.val v) ?_ ?_ ?_ ?_)
 .simp[c95,af.qa,af.qb,af.dl,s1,h1,s4,h4,s6,ao,ae];exact⟨by first|exact s1|simp[ar,s1],by first|exact h1|simp[ar,h1,ao,ae],by first|exact s4|simp[ar,s4]|simp[ar],by first|exact h4|simp[ar,h4]|simp[ar,aO,vI],by first|exact s6|simp[ar,s6]|simp[ar]⟩
 .rintro w0 g S H a w' m cT ho R ⟨⟨s1,h1,s4,h4,s6⟩,nf⟩;have t20:=R.slot 20 (by decide) (λh=>h);rw[nf]at t20;have Pk:a.eval (.tmp 20)=.int .i64 (s.name.words.length:Nat):=t20.int_eq;refine aV rfl rfl (by rfl) (Nb (m:=s.name.words.length) rfl gE sh hz3 mR (by rw[oB];omega) (by omega) Pk Pk) ?_;obtain⟨g',R1,hK⟩:=KO.make (cc:=cc) (e:=3) R (by rw[ho];exact⟨rfl,rfl,λ_ h=>h⟩) (m:=s.name.words.length) (by omega);rw[<-WI s]at hK;exact⟨g',_,_,R1.put 21 (.val _) _ (by decide) (.data _ _ (.val _ rfl)) trivial,_,hK,⟨by simp[ar,s1],h1,by simp[ar,s4],h4,by simp[ar,s6]⟩,aS _ _ _⟩
 .rintro o S H ⟨v,hK,⟨s1,h1,s4,h4,s6⟩,lV⟩;refine⟨hK.bx,?_⟩;simp[c95,af.qa,af.qb,af.dl,s1,h1,s4,h4,s6,lV];exact⟨hK,⟨by first|exact s1|simp[ar,s1],by first|exact h1|simp[ar,h1,ao,ae],by first|exact s4|simp[ar,s4]|simp[ar],by first|exact h4|simp[ar,h4]|simp[ar,aO,vI],by first|exact s6|simp[ar,s6]|simp[ar]⟩⟩
 .rintro o S3 H3 ⟨v,hK,⟨s1,h1,s4,h4,s6⟩,s7⟩;refine SW.seq (zJ hG (.ops [⟨some 8,none,.mv true (.c (.int .i64 0))⟩]) (λd _=>hK.bx d) (λS H=>Gb s es ok S H/\S 7=.val v/\S 8=.int .i64 ((0:Nat):Int)) ?_ ?_)
  .simp[s1,h1,s4,h4,s6,s7];exact⟨by first|exact s1|simp[ar,s1],by first|exact h1|simp[ar,h1,ao,ae],by first|exact s4|simp[ar,s4]|simp[ar],by first|exact h4|simp[ar,h4]|simp[ar,aO,vI],by first|exact s6|simp[ar,s6]|simp[ar]⟩
  clear s1 h1 s4 h4 s6 s7;rintro S4 H4 ⟨hF,s7,s8⟩;refine SW.block (SW.loop (λo S H=>∃k,k<=es.length/\KO cc 3 1 (ints (gW s (es.take k))) o v/\Gb s es ok S H/\S 7=.val v/\S 8=.int .i64 (k:Nat)) (λS _=>match S 8 with|.int _ j=>es.length-j.toNat|_=>0) ⟨0,by omega,hK,hF,s7,s8⟩ ?_);clear hF s7 s8 hK;rintro o S5 H5 ⟨k,hk,hK,hF,s7,s8⟩;have hF5:=hF;obtain⟨s1,h1,s4,h4,s6⟩:=hF
  have hdk:decide ((k:Int)<(es.length:Int))=decide (k<es.length):=by simp
  refine SW.seq (zJ hG aat (λd _=>hK.bx d) (λS H=>Gb s es ok S H/\S 7=.val v/\S 8=.int .i64 (k:Nat)/\S 26=.bool (decide (k<es.length))) ?_ ?_)
  .simp[aat,s1,h1,s4,h4,s6,s7,s8];exact⟨by first|exact s1|simp[ar,s1],by first|exact h1|simp[ar,h1,ao,ae],by first|exact s4|simp[ar,s4]|simp[ar],by first|exact h4|simp[ar,h4]|simp[ar,aO,vI],by first|exact s6|simp[ar,s6]|simp[ar]⟩
  clear s1 h1 s4 h4 s6 s7 hF5;rintro S6 H6 ⟨hF,s7,Wu,tF⟩;refine SW.cond (c':=.t 26) (by kernel_rfl) (decide (k<es.length)) tF ?_
  by_cases au:k<es.length
  case neg=>
   rw[ae_ au]
   have UC:k=es.length:=by omega
   subst UC;rw[aea]at hK;refine SW.exit ?_;show SW prog GI 58 none (.seq _ .ret) _ _ _ _;obtain⟨s1,h1,s4,h4,s6⟩:=hF;refine SW.ghost (K:=λo S H=>PO cc o/\S 7=vI (gW s es)/\S 6=.bool ok) ?_ ?_
   .rintro w0 g a w ho R;rw[<-ho]at hK;obtain⟨g',R2,q1,q2,q3⟩:=KO.done hK R (t:=7) (by decide) s7;exact⟨g',_,_,R2,⟨q1,q2,q3⟩,aS _ _ _,by simp[ar,s6]⟩
   rintro o S7 H7 ⟨hp,s7,s6⟩;refine zJ hG c95.qb.qb.qb.qb.qa (λd _=>hp.bx d) (λS H=>S 2=vI (gW s es)/\S 3=.bool ok) ?_ ?_
   .simp[c95,af.qa,af.qb,s6,s7]
   intro S H ⟨s2,s3⟩;refine SW.ret ⟨eD.plain hp.ds,hp.c,_,?_,rfl⟩;show cy prog 58 [.tmp 2,.tmp 3] S H=_;simp[cy,cJ,cK,s2,s3,vI,AV.bT,AV.out,AV.vw,AV.bH]
  rw[aeN au];refine SW.skip ?_;show SW prog GI 58 none (.seq (.block 1 (.seq _ (.seq _ (.cond _ _ .skip)))) _) _ _ _ _;have hek:=heo _ (ada au);have Ru:=jC k au;refine SW.seq (SW.block (SW.mono (Q:=λx o S H=>x=.normal/\KO cc 3 1 (ints (gW s (es.take (k+1)))) o v/\Gb s es ok S H/\S 7=.val v/\S 8=.int .i64 (k:Nat)) ?_ ?_))
  .rintro x o S H ⟨rfl,hK,⟨s1,h1,s4,h4,s6⟩,s7,HV⟩;have hw:IntKind.i64.wrap ((k:Int)+1)=k+1:=aN (by omega);refine SW.last hG cV (by kernel_rfl) (ac:=XR) (by kernel_rfl) (λd _=>hK.bx d) (λS H=>Gb s es ok S H/\S 7=.val v/\S 8=.int .i64 ((k+1:Nat):Int)) ?_ ?_
   .simp[XR,s1,h1,s4,h4,s6,s7,HV,hw];exact⟨by first|exact s1|simp[ar,s1],by first|exact h1|simp[ar,h1,ao,ae],by first|exact s4|simp[ar,s4]|simp[ar],by first|exact h4|simp[ar,h4]|simp[ar,aO,vI],by first|exact s6|simp[ar,s6]|simp[ar]⟩
   rintro S' H' ⟨hF,s7,Wu⟩;refine⟨⟨k+1,by omega,hK,hF,s7,Wu⟩,?_⟩;rw[s8,Wu];simp;omega
  have lE:es[k].1.toNat<s.name.words.length:=hek.2
  have hiw:((es[k].1.toNat:Nat):Int)=es[k].1:=by omega
  obtain⟨j,hj⟩:∃j,es[k].1.toNat=j:=⟨_,rfl⟩
  simp only[hj]at Ru lE hiw;clear jC
  have vf:¬(k:Int)<0:=by omega
  have iQ:¬(es.length:Int)<=k:=by omega
  have zw:¬es[k].1<0:=by omega
  have nc:¬(s.name.words.length:Int)<=es[k].1:=by omega
  obtain⟨s1,h1,s4,h4,s6⟩:=hF;refine zJ hG Zi (λd _=>hK.bx d) (λS H=>Gb s es ok S H/\S 7=.val v/\S 8=.int .i64 (k:Nat)/\S 9=.int .i64 es[k].1) ?_ ?_
  .simp[Zi,s1,h1,s4,h4,s6,s7,Wu,au,vf,iQ,aX];exact⟨by first|exact s1|simp[ar,s1],by first|exact h1|simp[ar,h1,ao,ae],by first|exact s4|simp[ar,s4]|simp[ar],by first|exact h4|simp[ar,h4]|simp[ar,aO,vI],by first|exact s6|simp[ar,s6]|simp[ar]⟩
  clear s1 h1 s4 h4 s6 s7;rintro S7 H7 ⟨⟨s1,h1,s4,h4,s6⟩,s7,HV,s9⟩;refine zJ hG Xg (λd _=>hK.bx d) (λS H=>Gb s es ok S H/\S 7=.val v/\S 8=.int .i64 (k:Nat)/\S 9=.int .i64 es[k].1/\S 49=.bool (decide (es[k].2<((s.name.words[j].aK.length:Nat):Int)))) ?_ ?_
  .simp[Xg,s1,h1,s4,h4,s6,s7,HV,s9,au,vf,iQ,zw,nc,hek.1,hj,lE,aX,bD,ao,ae];exact⟨by first|exact s1|simp[ar,s1],by first|exact h1|simp[ar,h1,ao,ae],by first|exact s4|simp[ar,s4]|simp[ar],by first|exact h4|simp[ar,h4]|simp[ar,aO,vI],by first|exact s6|simp[ar,s6]|simp[ar]⟩
  clear s1 h1 s4 h4 s6 s7 HV s9;rintro S8 H8 ⟨⟨s1,h1,s4,h4,s6⟩,s7,HV,s9,s49⟩;refine SW.cond (c':=.t 49) (by kernel_rfl) _ s49 ?_
  by_cases hb:es[k].2<((s.name.words[j].aK.length:Nat):Int)
  case neg=>
   rw[ae_ hb];rw[if_neg hb]at Ru;refine SW.skip ⟨rfl,by rw[Ru];exact hK,⟨s1,h1,s4,h4,s6⟩,s7,HV⟩
  rw[aeN hb];rw[if_pos hb]at Ru;have hlen:(gW s (es.take k)).length=s.name.words.length:=ni _
  have acU:∀x∈gW s (es.take k),0<=x/\x<=3:=by
   intro x hx;obtain⟨i,_,rfl⟩:=adx.1 hx;have:=zV (es.take k) i (cg s.name i);rw[adM]at this;omega
  rw[<-hj]at Ru
  generalize gW s (es.take (k+1))=l2 at*
  generalize gW s (es.take k)=l at*
  have I_:es[k].1.toNat<l.length:=by omega
  have hxi:=acU _ (ada I_)
  have Gy:l.getD es[k].1.toNat 0=l[es[k].1.toNat]:=by simp[adN,I_]
  rw[Gy]at Ru
  have YR:S8 9=.int .i64 ((j:Nat):Int):=by rw[s9,<-hiw]
  simp only[hj]at Ru hxi I_
  have IZ:j<(ints l).length:=by simpa[ints]using I_
  refine SW.hand hG (p:=2) (lm:=[2,3,4,5,6]) (l2:=[]) (kd:=[_,_]) (oh:=[_,_,_,_,_]) (lI:=[]) rfl rfl rfl rfl (by kernel_rfl) hK.bx
   (lU:=aay.take 2) (kZ:=[]) (by kernel_rfl) rfl (by kernel_rfl) rfl
   (K1:=λS H=>Gb s es ok S H/\S 7=.val v/\S 8=.int .i64 (k:Nat)/\S 50=.val v/\S 51=.int .i64 (j:Nat))
   (K2:=λo S H=>KO cc 3 1 (ints l2) o v/\Gb s es ok S H/\S 7=.val v/\S 8=.int .i64 (k:Nat))
   (K3:=λo S H=>KO cc 3 1 (ints l2) o v/\Gb s es ok S H/\S 7=.val v/\S 8=.int .i64 (k:Nat)) ?_ ?_ ?_ ?_
  .simp[aay,s1,h1,s4,h4,s6,s7,HV,YR];exact⟨by first|exact s1|simp[ar,s1],by first|exact h1|simp[ar,h1,ao,ae],by first|exact s4|simp[ar,s4]|simp[ar],by first|exact h4|simp[ar,h4]|simp[ar,aO,vI],by first|exact s6|simp[ar,s6]|simp[ar]⟩
  .rintro w0 g S H a w' m cT ho R ⟨⟨s1,h1,s4,h4,s6⟩,s7,HV,s50,s51⟩;rw[<-ho]at hK;obtain⟨b,cap,cur,hv,n9,sI,fo⟩:=hK.cell R IZ
   have A2:(ints l)[j]=.int .i64 l[j]:=by simp[ints]
   have rI:0<((ints l)[j]).cells.length:=by rw[A2];simp[AV.cells]
   have xh:=fo 0 rI
   have No:KB (((ints l)[j]).cells[0]'rI)=.int .i64 l[j]:=by simp only[A2];rfl
   rw[No,aeD,Nat.add_zero]at xh;have t9:=R.slot 50 (by decide) (λh=>h);rw[s50]at t9;have e9:a.eval (.tmp 50)=.slice (some ⟨b,0,none⟩) (ints l).length cap:=t9.fG.trans hv;have t10:=R.slot 51 (by decide) (λh=>h);rw[s51]at t10;have jt:a.eval (.tmp 51)=.int .i64 (j:Nat):=t10.int_eq;have bq:=R.size;have kR:IntKind.i64.wrap (l[j]+1)=l[j]+1:=aN (by omega);refine aV rfl rfl (by rfl) (lH (k:=j) rfl (by kernel_rfl) sh e9 jt IZ) ?_;rw[mR,aeD];have R1:=R.put 52 (.val (.pointer (some ⟨b,j,none⟩))) (.pointer (some ⟨b,j,none⟩)) (by decide) (.data _ _ (.val _ rfl)) trivial
   have p:=λt c=>bB a 52 t c (by omega)
   have f11:=(p 52 (.pointer (some ⟨b,j,none⟩))).trans (if_pos rfl);have f9:=((p 50 (.pointer (some ⟨b,j,none⟩))).trans (if_neg (by decide))).trans e9;have f10:=((p 51 (.pointer (some ⟨b,j,none⟩))).trans (if_neg (by decide))).trans jt;have RF:=R1.size;show wpOpsIn _ _ _ _ _ [3,4,5,6] (a.put (some 52) (.pointer (some ⟨b,j,none⟩))) w'
   generalize a.put (some 52) (.pointer (some ⟨b,j,none⟩))=a1 at*
   clear p e9 jt t9 t10;refine aV rfl rfl (by rfl) (uC rfl f11 O9 QU sI xh.2) ?_;have R2:=R1.put 53 (.int .i64 l[j]) (.int .i64 l[j]) (by decide) (.data _ _ (.int _ _)) trivial
   have p:=λt c=>bB a1 53 t c (by omega)
   have g12:=(p 53 (.int .i64 l[j])).trans (if_pos rfl);have g9:=((p 50 (.int .i64 l[j])).trans (if_neg (by decide))).trans f9;have g10:=((p 51 (.int .i64 l[j])).trans (if_neg (by decide))).trans f10;have yO:=R2.size;show wpOpsIn _ _ _ _ _ [4,5,6] (a1.put (some 53) (.int .i64 l[j])) w'
   generalize a1.put (some 53) (.int .i64 l[j])=a2 at*
   clear p f11 f9 f10;refine aV rfl rfl (by rfl) (DJ (n:=1) rfl g12 rfl) ?_;rw[kR];have R4:=R2.put 54 (.int .i64 (l[j]+1)) (.int .i64 (l[j]+1)) (by decide) (.data _ _ (.int _ _)) trivial
   have p:=λt c=>bB a2 54 t c (by omega)
   have QC:=(p 54 (.int .i64 (l[j]+1))).trans (if_pos rfl);have l9:=((p 50 (.int .i64 (l[j]+1))).trans (if_neg (by decide))).trans g9;have l10:=((p 51 (.int .i64 (l[j]+1))).trans (if_neg (by decide))).trans g10;have y0:=R4.size;show wpOpsIn _ _ _ _ _ [5,6] (a2.put (some 54) (.int .i64 (l[j]+1))) w'
   generalize a2.put (some 54) (.int .i64 (l[j]+1))=a4 at*
   clear p g12 g9 g10;refine aV rfl rfl (by rfl) (lH (k:=j) rfl (by kernel_rfl) sh l9 l10 IZ) ?_;rw[mR,aeD];have R5:=R4.put 55 (.val (.pointer (some ⟨b,j,none⟩))) (.pointer (some ⟨b,j,none⟩)) (by decide) (.data _ _ (.val _ rfl)) trivial
   have p:=λt c=>bB a4 55 t c (by omega)
   have m15:=(p 55 (.pointer (some ⟨b,j,none⟩))).trans (if_pos rfl);have m14:=((p 54 (.pointer (some ⟨b,j,none⟩))).trans (if_neg (by decide))).trans QC;show wpOpsIn _ _ _ _ _ [6] (a4.put (some 55) (.pointer (some ⟨b,j,none⟩))) w'
   generalize a4.put (some 55) (.pointer (some ⟨b,j,none⟩))=a5 at*
   clear p QC l9 l10;obtain ⟨y3,dv,Gc,Tm⟩:=xS (o:={ dst:=none,op := .store 3 (.tmp 55) (.tmp 54),type:=0,pos := "",after := #[],guard:=none }) (v := .int .i64 (l[j]+1)) rfl m15 sh mR sI xh.1 m14 rfl;refine dM rfl rfl (by rfl) dv ?_;have R6:=R5.mF n9 (.cells y3 3 (0,0));have BJ:=hK.set (j:=j) (k:=0) IZ (by rw [A2];simp [AV.cells]) (x := .int .i64 (l[j]+1)) (u := .int .i64 (l[j]+1)) (λx hx=>by simp at hx;subst hx;exact ⟨rfl,rfl,λc hc=>by simp [AV.cells] at hc;subst hc;rfl⟩) (by rw [A2]<;>rfl) hv n9 Gc (λm=>by rw [Tm m,aeD,Nat.add_zero]<;>rfl);rw [ints_set,<-Ru] at BJ;exact ⟨_,_,_,R6,BJ,⟨by simp [ar,s1],h1,by simp [ar,s4],h4,by simp [ar,s6]⟩,by simp [ar,s7],by simp [ar,HV]⟩
  .rintro o S H ⟨hK,hF,s7,HV⟩;exact⟨hK.bx,hK,hF,s7,HV⟩
  .rintro o S H ⟨hK,hF,s7,HV⟩;exact⟨rfl,hK,hF,s7,HV⟩
end Go.Proofs.Tryz
namespace Go.Proofs.Tryz
open Go Go.AL Go.RowKit Go.Proofs Go.Proofs.Tram
attribute [local simp] dF fc eT dW ef dI dJ cZ c_ ee cW cE gh gj aF aH ev aQ.S aQ.H bz ar aT AL.start AV.cells AV.storable AV.bZ bo bX dS b0 HR.okB post cy cJ cK AV.out AV.bT cb dk fz gI AV.vw df vI int b_ aM cU db gB iN eY dQ bQ AV.aG AV.bH
variable{GI:World->Prop}{S:av}{H:aD}{Q:dp->av->aD->Prop}
def gL(v:Nat×Nat):AV:=.agg [.int .i64 (v.1:Nat),.int .i64 (v.2:Nat)]
noncomputable def Zs:af :=
    .seq (.seq (.ops [⟨(some 22),none,.mv false (.t 10)⟩,
      ⟨(some 23),none,.mv false (.t 1)⟩,
      ⟨(some 24),none,.mv false (.t 8)⟩,
      ⟨(some 25),none,.indexAddr 2 (.t 23) (.t 24)⟩,
      ⟨(some 26),none,.fieldAddr 1 (.t 25)⟩,
      ⟨(some 27),none,.load .any false 1 (.t 26)⟩,
      ⟨(some 28),none,.bin .leq (.t 22) (.t 27)⟩])<|
    .cond (.t 28)
     (.skip)
     (.exit 2))<|
    .seq (.block 3 <| .ops [⟨(some 31),none,.mv false (.t 9)⟩,
       ⟨(some 32),none,.mv false (.t 2)⟩,
       ⟨(some 33),none,.mv false (.t 10)⟩,
       ⟨(some 34),none,.indexAddr 1 (.t 32) (.t 33)⟩,
       ⟨(some 35),none,.load .any false 1 (.t 34)⟩,
       ⟨(some 36),none,.bin .add (.t 31) (.t 35)⟩,
       ⟨(some 9),none,.mv true (.t 36)⟩])<|
    .ops [⟨(some 29),none,.mv false (.t 10)⟩,
      ⟨(some 30),none,.bin .add (.t 29) (.c (.int .i64 1))⟩,
      ⟨(some 10),none,.mv true (.t 30)⟩]
noncomputable def VT:af :=
    .seq (.seq (.ops [⟨(some 37),none,.mv false (.t 7)⟩,
      ⟨(some 38),none,.mv false (.t 0)⟩,
      ⟨(some 39),none,.j6 (.t 38)⟩,
      ⟨(some 40),none,.bin .lss (.t 37) (.t 39)⟩,
      ⟨(some 41),none,.mv false (.t 40)⟩,
      ⟨(some 42),(some (41,true)),.mv false (.t 0)⟩,
      ⟨(some 43),(some (41,true)),.mv false (.t 7)⟩,
      ⟨(some 44),(some (41,true)),.indexAddr 1 (.t 42) (.t 43)⟩,
      ⟨(some 45),(some (41,true)),.load .any false 1 (.t 44)⟩,
      ⟨(some 46),(some (41,true)),.mv false (.t 9)⟩,
      ⟨(some 47),(some (41,true)),.bin .leq (.t 45) (.t 46)⟩,
      ⟨(some 48),none,.pick (.t 41) (.t 47) (.c (.bool false))⟩])<|
    .cond (.t 48)
     (.skip)
     (.exit 4))<|
    .block 5 <| .seq (.ops [⟨(some 49),none,.mv false (.t 9)⟩,
       ⟨(some 50),none,.mv false (.t 0)⟩,
       ⟨(some 51),none,.mv false (.t 7)⟩,
       ⟨(some 52),none,.indexAddr 1 (.t 50) (.t 51)⟩,
       ⟨(some 53),none,.load .any false 1 (.t 52)⟩,
       ⟨(some 54),none,.bin .sub (.t 49) (.t 53)⟩,
       ⟨(some 9),none,.mv true (.t 54)⟩])<|
     .ops [⟨(some 55),none,.mv false (.t 7)⟩,
       ⟨(some 56),none,.bin .add (.t 55) (.c (.int .i64 1))⟩,
       ⟨(some 7),none,.mv true (.t 56)⟩]
theorem Um{l:List Int}{i:Nat}(h:i<l.length):eC l i=l[i]:=by simp[eC,adN,h]
theorem IQ{bc:List Int}(px:∀x∈bc,0<=x/\x<=1000)(hr:bc.length<=100){a b:Nat}(pq:a<=b)(hb:b<=bc.length):0<=ia (eC bc) a b/\ia (eC bc) a b<=100000:=by
 rw[<-xE bc pq hb];have:=nY (l:=(bc.take b).drop a) (λx hx=>px x (aeg (ae3 hx)))
 have hl:((bc.take b).drop a).length<=100:=by simp;omega
 omega
theorem aao {vs:List (Nat×Nat)} {bc an:List Int} {n i f t:Nat} (hi:i < vs.length) (hv:vs[i]=(f,t)) (FO:f≤t) (ht:t < bc.length) (hr:bc.length≤100) (px:∀ x∈bc,0≤x∧x≤1000)
  (s0:S 0=vI an) (s1:S 1=.slice .view (vs.map gL)) (s2:S 2=vI bc) (s7:S 7=.int .i64 (n:Nat)) (s8:S 8=.int .i64 (i:Nat)) (s9:S 9=.int .i64 0) (bL:S 10=.int .i64 (f:Nat))
  (hQ:∀S H,S 0=vI an->S 1=.slice .view (vs.map gL)->S 2=vI bc->S 7=.int .i64 (n:Nat)->S 8=.int .i64 (i:Nat)->S 9=.int .i64 (ia (eC bc) f (t+1))->Q (.exit 2) S H):bC prog GI (.loop Zs) Q S H:=by
 refine⟨λS _=>∃m:Nat,f<=m/\m<=t+1/\S 0=vI an/\S 1=.slice .view (vs.map gL)/\S 2=vI bc/\S 7=.int .i64 (n:Nat)/\S 8=.int .i64 (i:Nat)/\S 9=.int .i64 (ia (eC bc) f m)/\S 10=.int .i64 (m:Nat),
  λS _=>match S 10 with|.int _ j=>(t+1-j).toNat|_=>0,⟨f,adh _,by omega,s0,s1,s2,s7,s8,by rw[tz];exact s9,bL⟩,?_⟩
 clear s0 s1 s2 s7 s8 s9 bL;rintro S H ⟨m,FN,RP,s0,s1,s2,s7,s8,s9,bL⟩
 have hn8:¬(i:Int)<0:=by omega
 have Rx:¬(vs.length:Int)<=i:=by omega
 by_cases au:m<=t
 .have hb:=IQ px hr FN (by omega:m<=bc.length);have iU:=px bc[m] (ada (by omega));have hw:IntKind.i64.wrap ((m:Int)+1)=m+1:=aN (by omega);have gD:IntKind.i64.wrap (ia (eC bc) f m+bc[m])=ia (eC bc) f m+bc[m]:=aN (by omega);have hs:=p_ (eC bc) FN;rw[Um (by omega:m<bc.length)]at hs
  have hn:¬(m:Int)<0:=by omega
  have hl:¬(bc.length:Int)<=m:=by omega
  have vK:m<bc.length:=by omega
  have jN:(m:Int)<=t:=by omega
  rw[<-hs]at gD
  generalize hy:ia (eC bc) f m=y at*
  simp[Zs,s0,s1,s2,s7,s8,s9,bL,hi,hv,hn8,Rx,gL,au,hn,hl,vK,hw];rw[<-hs,gD];refine⟨⟨m+1,by omega,by omega,by simp,by simp⟩,?_⟩;omega
 .have PM:m=t+1:=by omega
  subst PM
  have jN:¬((t:Int)+1<=t):=by omega
  have acb:S 10=.int .i64 ((t:Int)+1):=by rw[bL];simp
  simp[Zs,s0,s1,s2,s7,s8,s9,acb,hi,hv,hn8,Rx,gL,jN];exact hQ _ _ (by simp[s0]) (by simp[s1]) (by simp[s2]) (by simp[s7]) (by simp[s8]) (by simp[s9])
theorem Yd {V:AV} {an:List Int} {bc:AV} {n i mc:Nat} {T:Int} (hn:∀ x∈an,0≤x∧x≤1000) (EW:an.length≤1000) (G0:n≤an.length) (hT:0≤T∧T≤100000) (vt:(cQ (an.drop n) T).1=mc)
  (s0:S 0=vI an) (s1:S 1=V) (s2:S 2=bc) (s7:S 7=.int .i64 (n:Nat)) (s8:S 8=.int .i64 (i:Nat)) (s9:S 9=.int .i64 T)
  (hQ:∀S H,S 0=vI an->S 1=V->S 2=bc->S 7=.int .i64 ((n+mc:Nat):Int)->S 8=.int .i64 (i:Nat)->Q (.exit 4) S H):bC prog GI (.loop VT) Q S H:=by
 have xn:mc<=an.length-n:=by rw[<-vt];have:=oA (an.drop n) T;simpa using this
 refine⟨λS _=>∃m:Nat,m<=mc/\S 0=vI an/\S 1=V/\S 2=bc/\S 7=.int .i64 ((n+m:Nat):Int)/\S 8=.int .i64 (i:Nat)/\S 9=.int .i64 (T-((an.drop n).take m).sum)/\T-((an.drop n).take m).sum<=T/\0<=T-((an.drop n).take m).sum,
  λS _=>match S 7 with|.int _ j=>(an.length-j).toNat|_=>0,⟨0,adZ _,s0,s1,s2,s7,s8,by simpa using s9,by simp,by simpa using hT.1⟩,?_⟩
 clear s0 s1 s2 s7 s8 s9;rintro S H ⟨m,hm,s0,s1,s2,s7,s8,s9,uX,iU⟩;have jB:=pR (an.drop n) T m (by omega);rw[afb]at jB
 have BD:mc=m+(cQ (an.drop (n+m)) (T-((an.drop n).take m).sum)).1:=by
  rw[<-vt,jB]
 obtain⟨left,MM⟩:∃left,T-((an.drop n).take m).sum=left:=⟨_,rfl⟩
 rw[MM]at BD s9 uX iU
 have MS:S 7=.int .i64 ((n:Int)+m):=by rw[s7];simp
 by_cases xU:n+m<an.length
 case neg=>
  have EU:(cQ (an.drop (n+m)) left).1=0:=by
   have:=oA (an.drop (n+m)) left;simp at this;omega
  have D1:¬((n:Int)+m<an.length):=by omega
  have J2:mc=m:=by omega
  subst J2;simp[VT,s0,s1,s2,MS,s8,s9,xU,D1];exact hQ _ _ (by simp[s0]) (by simp[s1]) (by simp[s2]) (by simp[MS]) (by simp[s8])
 have hd:an.drop (n+m)=an[n+m]::an.drop (n+m+1):=aek xU;have hx:=hn an[n+m] (ada xU)
 have D1:(n:Int)+m<an.length:=by omega
 have tC:¬(n:Int)+m<0:=by omega
 have WB:(0:Int)<=(n:Int)+m:=by omega
 have X6:¬(an.length:Int)<=(n:Int)+m:=by omega
 have Jy:((n:Int)+m).toNat=n+m:=by omega
 by_cases hle:an[n+m]<=left
 case neg=>
  have EU:(cQ (an.drop (n+m)) left).1=0:=by rw[hd,cQ,if_neg hle]
  have J2:mc=m:=by omega
  subst J2;simp[VT,s0,s1,s2,MS,s8,s9,xU,D1,tC,X6,WB,Jy,hle];refine hQ _ _ ?_ ?_ ?_ ?_ ?_
  .simp[s0]
  .simp[s1]
  .simp[s2]
  .simp[MS]
  .simp[s8]
 case pos=>
  have FN:m+1<=mc:=by rw[hd,cQ,if_pos hle]at BD;omega
  have kR:IntKind.i64.wrap (left-an[n+m])=left-an[n+m]:=aN (by omega);have gD:IntKind.i64.wrap ((n:Int)+m+1)=n+m+1:=aN (by omega)
  have Km:T-((an.drop n).take (m+1)).sum=left-an[n+m]:=by
   rw[adj (by simp;omega),aeC];simp;omega
  simp[VT,s0,s1,s2,MS,s8,s9,xU,D1,tC,X6,WB,Jy,hle,kR,gD];refine⟨⟨m+1,FN,by omega,by rw[Km],by omega,by omega⟩,by omega⟩
theorem ab9 (hG:aw GI) (an:List Int) (hn:∀ x∈an,0≤x∧x≤1000) (EW:an.length≤1000) (vs:List (Nat×Nat)) (hvl:vs.length < 1000) (bc:List Int) (hr:bc.length≤100) (px:∀ x∈bc,0≤x∧x≤1000)
  (vb:∀v∈vs,v.1<=v.2/\v.2<bc.length):AC prog GI 97 [vI an,.slice .view (vs.map gL),vI bc] (.ret (.int .i64 (dV an (eC bc) vs))):=by
 refine bW hG func97 ntmps97 c97 ?_;refine aI (λS H=>S 0=vI an/\S 1=.slice .view (vs.map gL)/\S 2=vI bc) (by simp) ?_;rintro S H ⟨s0,s1,s2⟩;refine aI (λS H=>S 0=vI an/\S 1=.slice .view (vs.map gL)/\S 2=vI bc/\S 7=.int .i64 0) (by simp[s0,s1,s2]) ?_;clear s0 s1 s2 S H;rintro S H ⟨s0,s1,s2,s7⟩;refine aI (λS H=>S 7=.int .i64 (dV an (eC bc) vs)) ?_ ?_
 case refine_2=>
  rintro S H s7;simp[s7]
 refine aI (λS H=>S 0=vI an/\S 1=.slice .view (vs.map gL)/\S 2=vI bc/\S 7=.int .i64 0/\S 8=.int .i64 0) (by simp[s0,s1,s2,s7]) ?_;clear s0 s1 s2 s7 S H;rintro S H ⟨s0,s1,s2,s7,s8⟩;rw[dF.2.2.2.2.2.1];refine bw 8 vs.length (λi S H=>S 0=vI an/\S 1=.slice .view (vs.map gL)/\S 2=vI bc/\S 8=.int .i64 (i:Nat)/\S 7=.int .i64 (dV an (eC bc) (vs.take i))) (λi S H h=>h.2.2.2.1) ⟨s0,s1,s2,s8,s7⟩ ?_;clear s0 s1 s2 s7 s8 S H;rintro i hi S H ⟨s0,s1,s2,s8,s7⟩
 by_cases au:i<vs.length
 case neg=>
  have cH:i=vs.length:=by omega
  subst cH;rw[aea]at s7;simp[s0,s1,s2,s7,s8]
 have hw:IntKind.i64.wrap ((i:Int)+1)=i+1:=aN (by omega)
 obtain⟨f,t,hv⟩:∃f t,vs[i]=(f,t):=⟨_,_,rfl⟩
 have FO:=vb _ (ada au);rw[hv]at FO;simp only at FO
 have jP:dV an (eC bc) (vs.take (i+1))=dV an (eC bc) (vs.take i)+(cQ (an.drop (dV an (eC bc) (vs.take i))) (ia (eC bc) f (t+1))).1:=by
  rw[adj au,hv,l8]
 have G0:dV an (eC bc) (vs.take i)<=an.length:=qp _ _ _;have hT:=IQ px hr (by omega:f<=t+1) (by omega:t+1<=bc.length);rw[jP]
 generalize dV an (eC bc) (vs.take i)=n at*
 have hn8:¬(i:Int)<0:=by omega
 have Rx:¬(vs.length:Int)<=i:=by omega
 refine aI (λS H=>S 0=vI an/\S 1=.slice .view (vs.map gL)/\S 2=vI bc/\S 8=.int .i64 (i:Nat)/\S 7=.int .i64 (n:Nat)) (by simp[s0,s1,s2,s7,s8,au]) ?_;clear s0 s1 s2 s7 s8 S H;rintro S H ⟨s0,s1,s2,s8,s7⟩;refine aI (λS H=>S 0=vI an/\S 1=.slice .view (vs.map gL)/\S 2=vI bc/\S 8=.int .i64 (i:Nat)/\S 7=.int .i64 ((n+(cQ (an.drop n) (ia (eC bc) f (t+1))).1:Nat):Int)) ?_ ?_
 case refine_2=>
  clear s0 s1 s2 s7 s8;rintro S H ⟨s0,s1,s2,s8,s7⟩;simp[s0,s1,s2,s7,s8,au,hw]
 rw[dF.2.2.2.2.2.1];refine aI (λS H=>S 0=vI an/\S 1=.slice .view (vs.map gL)/\S 2=vI bc/\S 8=.int .i64 (i:Nat)/\S 7=.int .i64 (n:Nat)/\S 9=.int .i64 0) (by simp[s0,s1,s2,s7,s8]) ?_;clear s0 s1 s2 s7 s8 S H;rintro S H ⟨s0,s1,s2,s8,s7,s9⟩;refine aI (λS H=>S 0=vI an/\S 1=.slice .view (vs.map gL)/\S 2=vI bc/\S 8=.int .i64 (i:Nat)/\S 7=.int .i64 (n:Nat)/\S 9=.int .i64 (ia (eC bc) f (t+1))) ?_ ?_
 .refine aI (λS H=>S 0=vI an/\S 1=.slice .view (vs.map gL)/\S 2=vI bc/\S 8=.int .i64 (i:Nat)/\S 7=.int .i64 (n:Nat)/\S 9=.int .i64 0/\S 10=.int .i64 (f:Nat)) (by simp[s0,s1,s2,s7,s8,s9,au,hn8,Rx,hv,gL]) ?_;clear s0 s1 s2 s7 s8 s9 S H;rintro S H ⟨s0,s1,s2,s8,s7,s9,bL⟩;rw[dF.2.2.2.2.2.1];refine aao au hv FO.1 FO.2 hr px s0 s1 s2 s7 s8 s9 bL ?_;intro S H s0 s1 s2 s7 s8 s9;simp[s0,s1,s2,s7,s8,s9]
 clear s0 s1 s2 s7 s8 s9 S H;rintro S H ⟨s0,s1,s2,s8,s7,s9⟩;rw[dF.2.2.2.2.2.1];refine Yd hn EW G0 hT rfl s0 s1 s2 s7 s8 s9 ?_;intro S H s0 s1 s2 s7 s8;simp[s0,s1,s2,s7,s8]
end Go.Proofs.Tryz
namespace Go.Proofs.Tryz
open Go Go.AL Go.RowKit Go.Proofs Go.Proofs.Tram
attribute [local simp] dF fc nC ml ef dI dJ cZ c_ ee cW cE gh gj aF aH ev aQ.S aQ.H bz ar aT AL.start AV.cells AV.storable AV.bZ bo bX dS b0 HR.okB post cy cJ cK AV.out AV.bT cb dk fz gI AV.vw df vI int b_ aM cU db gB iN eY dQ bQ AV.aG AV.bH
variable{GI:World->Prop}
theorem abS(hG:aw GI)(s:az)(hs:s.cells.length<1000)(h0:s.cells≠[]):AC prog GI 100 [a_ s] (.ret (vI (bm 0 s))):=by
 refine bW hG func100 ntmps100 c100 ?_;refine aI (λS H=>S 1=.box 1 0/\H 1=some (ao s)) (by simp[a_,ao,ae,ai,ah]) ?_;rintro S H ⟨s1,h1⟩;refine aI (λS H=>S 1=.box 1 0/\H 1=some (ao s)/\S 3=grow 3 (ints [])) (by simp[s1,h1,ao,ae,ints,grow,ai,ah]) ?_;clear s1 h1 S H;rintro S H ⟨s1,h1,s3⟩;simp[s1,h1,s3,ao,ae,ai,ah];refine bw 4 s.cells.length (λi S H=>S 1=.box 1 0/\H 1=some (ao s)/\S 4=.int .i64 (i:Nat)/\S 3=grow 3 (ints ((bm 0 s).take i))) (λi S H h=>h.2.2.1) ⟨by simp[s1,ai,ah],by simp[h1,ao,ae,ai,ah],by simp[ai,ah],by simp[s3,ai,ah]⟩ ?_;clear s1 h1 s3 S H;rintro i hi S H ⟨s1,h1,s4,s3⟩
 have vP:(bm 0 s).length=s.cells.length:=by simp[bm]
 by_cases au:i<s.cells.length
 .have hw:IntKind.i64.wrap ((i:Int)+1)=i+1:=aN (by omega)
  have hn:¬(i:Int)<0:=by omega
  have qi:¬(s.cells.length:Int)<=i:=by omega
  have hm:ints ((bm 0 s).take (i+1))=ints ((bm 0 s).take i)++[.int .i64 s.cells[i].lo]:=by
   rw[adj (by omega)];simp[ints,bm,qK]
  have hlen:(ints ((bm 0 s).take i)).length<=s.cells.length:=by simp[ints];omega
  have aah:=lj ((bm 0 s).take i);rw[hm]
  generalize ints ((bm 0 s).take i)=L at*
  have dT:aJ 1 [AV.int .i64 s.cells[i].lo]=true:=rfl;simp[s1,h1,s4,s3,au,hn,qi,iK,ao,ae,dT];refine fx L (.int .i64 s.cells[i].lo) (.own 3) (by simp[s3,grow]) (by simp) dT aah (by omega) ?_;intro S' sd dP;simp[sd,dP,s1,h1,s4,hw,au,ao,ae,grow]
 .have cH:i=s.cells.length:=by omega
  subst cH;rw[<-vP,aea]at s3
  have BL:ints (bm 0 s)≠[]:=by simpa[ints,bm]using h0
  simp only[grow,if_neg BL]at s3
  generalize ints (bm 0 s)=L at*
  simp[s1,h1,s4,s3,ao,ae,ai,ah]
theorem Yb(hG:aw GI)(s:az)(h:eQ s)(c:Nat):AC prog GI 117 [a_ s,.int .i64 (c:Nat)] (.ret (.bool (decide (c<s.cells.length)&&dz s c))):=by
 have vO:=h.cells;have gf:=h.pos;have VN:=h.reach;have kR:IntKind.i64.wrap (s.pos-s.reach)=s.pos-s.reach:=aN (by omega);have gD:IntKind.i64.wrap (s.pos-1)=s.pos-1:=aN (by omega)
 have hn:¬(c:Int)<0:=by omega
 refine bW hG func117 ntmps117 c117 ?_;simp[c117,a_,ao,ae,ai,ah];refine oc (abb hG s (by omega) c) ?_;cases e1:bO (c:Int) 0 ((s.cells.length:Int)-1)
 .have hc:¬ c < s.cells.length:=by
   simp[bO]at e1;omega
  simp[ai,ah,hc]
 .have hc:c < s.cells.length:=by
   simp[bO]at e1;omega
  have qi:¬(s.cells.length:Int)<=c:=by omega
  simp[ai,ah,hc,kR,gD];refine oc (uT hG c (s.pos-s.reach) (s.pos-1)) ?_;cases e2:bO (c:Int) (s.pos-s.reach) (s.pos-1)
  .have hz:dz s c=false:=by
    simp[bO]at e2;unfold dz iR;simp;omega
   simp[ai,ah,hz]
  .have hz:dz s c = !s.cells[c].hid:=by
    simp[bO]at e2;unfold dz iR nX
    have a1:c<s.pos.toNat:=by omega
    simp[hc,a1];omega
   simp[ai,ah,hn,qi,hc,iK,hz]
end Go.Proofs.Tryz
namespace Go.Proofs.Tryz
open Go Go.AL Go.RowKit Go.Proofs Go.Proofs.Tram
attribute [local simp] dF fc eT dW ef dI dJ cZ c_ ee cW cE gh gj aF aH ev aQ.S aQ.H bz ar aT AL.start AV.cells AV.storable AV.bZ bo bX dS b0 HR.okB post cy cJ cK AV.out AV.bT cb dk fz gI AV.vw df vI int b_ aM cU db gB iN eY dQ bQ AV.aG AV.bH
variable{GI:World->Prop}
theorem aa0(hG:aw GI)(s:az)(h:eQ s)(c:Int)(hc:c<0):AC prog GI 117 [a_ s,.int .i64 c] (.ret (.bool false)):=by
 have vO:=h.cells
 have e1:bO c 0 ((s.cells.length:Int)-1)=false:=by
  simp[bO];omega
 have h26:=abb hG s (by omega) c;rw[e1]at h26;refine bW hG func117 ntmps117 c117 ?_;simp[c117,a_,ao,ae];refine oc h26 ?_;simp
theorem aa2(hG:aw GI)(s:az)(h:eQ s)(c:Nat)(hc:c<s.cells.length):AC prog GI 117 [a_ s,.int .i64 ((c:Int)-1)] (.ret (.bool (decide (0<c)&&dz s (c-1)))):=by
 by_cases h0:0<c
 .have:=Yb hG s h (c-1);rw[aeN (by omega),afo,show(((c-1:Nat):Nat):Int)=(c:Int)-1 by omega]at this;rw[aeN h0,afo];exact this
 .rw[ae_ h0,Bool.false_and];exact aa0 hG s h _ (by omega)
def ZP : af := .ops [⟨(some 5), none, .mv false (.t 4)⟩,
    ⟨(some 6),none,.fieldAddr 0 (.t 1)⟩,
    ⟨(some 7),none,.load .any false 1 (.t 6)⟩,
    ⟨(some 8),none,.j6 (.t 7)⟩,
    ⟨(some 9),none,.bin .lss (.t 5) (.t 8)⟩]
def VQ:af := .ops [⟨(some 12),none,.load .any true 15 (.t 1)⟩,
     ⟨(some 13),none,.mv false (.t 4)⟩,
     ⟨(some 14),none,.call 117 [(.t 12),(.t 13)]⟩,
     ⟨(some 15),none,.not (.t 14)⟩]
def VY:af := .ops [⟨(some 16),none,.load .any true 15 (.t 1)⟩,
     ⟨(some 17),none,.mv false (.t 4)⟩,
     ⟨(some 18),none,.bin .sub (.t 17) (.c (.int .i64 1))⟩,
     ⟨(some 19),none,.call 117 [(.t 16),(.t 18)]⟩]
def VR:List cC:=[⟨(some 20),none,.mv false (.t 3)⟩,
      ⟨(some 21),none,.mv false (.t 3)⟩,
      ⟨(some 22),none,.j6 (.t 21)⟩,
      ⟨(some 23),none,.bin .sub (.t 22) (.c (.int .i64 1))⟩,
      ⟨(some 24),none,.mv false (.t 4)⟩,
      ⟨(some 25),none,.indexAddr 2 (.t 20) (.t 23)⟩,
      ⟨(some 26),none,.fieldAddr 1 (.t 25)⟩,
      ⟨none,none,.store .any 1 (.t 26) (.t 24)⟩]
def JG:List cC:=[⟨(some 27),none,.mv true (.t 3)⟩,
      ⟨(some 28),none,.mv false (.t 4)⟩,
      ⟨(some 29),none,.mv false (.t 4)⟩,
      ⟨(some 30),none,.build [(.int .i64 0),(.int .i64 0)] [(0,1,(.t 28)),(1,1,(.t 29))]⟩,
      ⟨(some 31),none,.buildSlice 48 26 2 [(.t 30)]⟩,
      ⟨(some 32),none,.append 48 26 2 16 (.t 27) (.t 31)⟩,
      ⟨(some 3),none,.mv true (.t 32)⟩]
def VX : af := .ops [⟨(some 10), none, .mv false (.t 4)⟩,
    ⟨(some 11),none,.bin .add (.t 10) (.c (.int .i64 1))⟩,
    ⟨(some 4),none,.mv true (.t 11)⟩]
def mJ(s:az)(k:Nat):List (Nat×Nat):=(List.range k).foldl (j8 (dz s)) []
theorem F0(s:az)(k:Nat):mJ s (k+1)=j8 (dz s) (mJ s k) k:=by
 unfold mJ
 rw[adY,adL]<;>rfl
theorem SX{s:az}{k:Nat}(h:dz s k=true):mJ s (k+1)≠[]:=by
 rw[F0];unfold j8;rw[if_pos h]
 split<;>simp
theorem IB(s:az)(k:Nat):(mJ s k).length<=k:=by
 induction k with
 |zero=>simp[mJ]
 |succ k ih=>
  rw[F0];unfold j8;split
  .split
   .simp;omega
   .simp;omega
  .omega
theorem RH(l:List (Nat×Nat)):mP 2 (l.map gL):=λx hx=>by
 obtain⟨v,_,rfl⟩:=adx.1 hx;exact⟨rfl,rfl,λc hc=>by simp[gL,AV.cells]at hc;rcases hc with rfl|rfl<;>rfl⟩
theorem N0{α:Type}:∀(l:List α)(x:α),l≠[]->l.set (l.length-1) x=l.dropLast++[x]
 |[],_,h=>absurd rfl h
 |[a],x,_=>rfl
 |a::b::l,x,_=>by
  have:=N0 (b::l) x (by simp);simp only[List.length_cons,aeL]at this⊢;rw[List.set_cons_succ,List.dropLast_cons_of_ne_nil (by simp),List.cons_append];rw[<-this]
structure HZ(s:az)(v:Value)(k:Nat)(S:av)(H:aD):Prop where
 s1:S 1=.box 1 0
 h1:H 1=some (ao s)
 s3:S 3=.val v
 s4:S 4=.int .i64 (k:Nat)
theorem acs(hG:aw GI)(s:az)(h:eQ s):AC prog GI 61 [a_ s] (.ret (.slice .view ((eh (dz s) s.cells.length).map gL))):=by
 have ni:=h.cells;have vb:eh (dz s) s.cells.length=mJ s s.cells.length:=I2 (po h);rw[vb];obtain⟨i3,sh,mR⟩:=bp (P:=prog) (t:=3) (s:=1) (by kernel_rfl);obtain⟨i26,abj,PU⟩:=adr.1 (show(prog.info? 26).map (λi=>(i.zero.map λz=>z.cells.size,i.size,i.bytes))=some (some 2,2,16) by kernel_rfl);simp only[agj]at PU;obtain⟨Zy,Q9,abZ⟩:=PU;obtain⟨z26,Zy,aby⟩:=adr.1 Zy
 have gE:prog.underlying 48=some (.slice 26):=by kernel_rfl
 refine AC.iF func61 rfl ntmps61 (by simp) λcc w=>?_
 refine dU hG c61.qa (λS H=>S 1=.box 1 0/\H 1=some (ao s)) ?_ ?_
 .simp[c61,af.qa,a_,ao,ae]
 rintro S1 H1 ⟨s1,h1⟩;refine dU hG c61.qb.qa (λS H=>S 1=.box 1 0/\H 1=some (ao s)/\S 3=.slice .nil []) ?_ ?_
 .simp[c61,af.qa,af.qb,s1,h1]
 clear s1 h1;rintro S2 H2 ⟨s1,h1,s3⟩;show SW prog GI 34 none (.seq (.seq _ (.block 0 (.loop (.seq (.seq _ (.cond _ .skip (.exit 0))) (.seq (.block 1 (.seq (.seq _ (.cond _ (.exit 1) .skip)) (.seq _ (.cond _ _ _)))) _))))) (.seq _ .ret)) _ _ _ _;refine SW.seq (zJ hG (.ops [⟨some 4,none,.mv true (.c (.int .i64 0))⟩]) (λd _ h=>h) (λS H=>S 1=.box 1 0/\H 1=some (ao s)/\S 3=.slice .nil []/\S 4=.int .i64 ((0:Nat):Int)) ?_ ?_)
 .simp[s1,h1,s3]
 clear s1 h1 s3;rintro S3 H3 ⟨s1,h1,s3,s4⟩;refine SW.ghost (K:=λo S H=>∃v,KO cc 26 2 ((mJ s 0).map gL) o v/\HZ s v 0 S H) ?_ ?_
 .rintro w0 g a w ho R;obtain⟨v,R2,hK⟩:=KO.start (cc:=cc) (e:=26) (size:=2) R (by rw[ho];exact⟨rfl,rfl,λ_ h=>h⟩) (t:=3) (by decide) s3;exact⟨_,_,_,R2,v,hK,by simp[ar,s1],h1,by simp[ar],by simp[ar,s4]⟩
 rintro o S4 H4 ⟨v,hK,hF⟩;refine SW.block (SW.loop (λo S H=>∃k v,k<=s.cells.length/\KO cc 26 2 ((mJ s k).map gL) o v/\HZ s v k S H) (λS _=>match S 4 with|.int _ j=>s.cells.length-j.toNat|_=>0) ⟨0,v,by omega,hK,hF⟩ ?_);clear hF hK s1 h1 s3 s4 v;rintro o S5 H5 ⟨k,v,hk,hK,⟨s1,h1,s3,s4⟩⟩;refine SW.seq (zJ hG ZP (λd _=>hK.bx d) (λS H=>HZ s v k S H/\S 9=.bool (decide (k<s.cells.length))) ?_ ?_)
 .simp[ZP,s1,h1,s3,s4,ao,ae];exact⟨by first|exact s1|simp[s1],by first|exact h1|simp[h1,ao,ae],by first|exact s3|simp[s3],by first|exact s4|simp[s4]⟩
 have m4:=s4;clear s1 h1 s3 s4;rintro S6 H6 ⟨⟨s1,h1,s3,s4⟩,s9⟩;refine SW.cond (c':=.t 9) (by kernel_rfl) (decide (k<s.cells.length)) s9 ?_
 by_cases au:k<s.cells.length
 case neg=>
  rw[ae_ au]
  have UC:k=s.cells.length:=by omega
  subst UC;refine SW.exit ?_;show SW prog GI 34 none (.seq _ .ret) _ _ _ _;refine SW.ghost (K:=λo S H=>PO cc o/\S 3=.slice .view ((mJ s s.cells.length).map gL)) ?_ ?_
  .rintro w0 g a w ho R;rw[<-ho]at hK;obtain⟨g',R2,q1,q2,q3⟩:=KO.done hK R (t:=3) (by decide) s3;exact⟨g',_,_,R2,⟨q1,q2,q3⟩,aS _ _ _⟩
  rintro o S7 H7 ⟨hp,s3⟩;refine zJ hG c61.qb.qb.qb.qa (λd _=>hp.bx d) (λS H=>S 2=.slice .view ((mJ s s.cells.length).map gL)) ?_ ?_
  .simp[c61,af.qa,af.qb,s3]
  intro S H s2;refine SW.ret ⟨eD.plain hp.ds,hp.c,_,?_,rfl⟩;show cy prog 34 [.tmp 2] S H=_;simp[cy,cJ,cK,s2,AV.bT,AV.out,AV.vw,AV.bH]
  try rfl
 rw[aeN au];refine SW.skip ?_;show SW prog GI 34 none (.seq (.block 1 (.seq (.seq _ (.cond _ (.exit 1) .skip)) (.seq _ (.cond _ _ _)))) _) _ _ _ _;have mL:=F0 s k;refine SW.seq (SW.block (SW.mono (Q:=λx o S H=>(x=.normal\/x=.exit 1)/\∃v,KO cc 26 2 ((mJ s (k+1)).map gL) o v/\HZ s v k S H) ?_ ?_))
 .rintro x o S H ⟨hx,v,hK,⟨s1,h1,s3,s4⟩⟩;have hw:IntKind.i64.wrap ((k:Int)+1)=k+1:=aN (by omega);rcases hx with rfl|rfl
  all_goals
   refine SW.last hG cV (by kernel_rfl) (ac:=VX) (by kernel_rfl) (λd _=>hK.bx d) (λS H=>HZ s v (k+1) S H) ?_ ?_
   .simp[VX,s1,h1,s3,s4,hw];exact⟨by first|exact s1|simp[s1],by first|exact h1|simp[h1,ao,ae],by first|exact s3|simp[s3],by simp[ar]⟩
   rintro S' H' hF;refine⟨⟨k+1,v,by omega,hK,hF⟩,?_⟩;have e:=hF.s4;rw[m4,e];simp;omega
 refine SW.seq (zJ hG VQ (λd _=>hK.bx d) (λS H=>HZ s v k S H/\S 15=.bool (!dz s k)) ?_ ?_)
 .have VU:=Yb hG s h k;rw[aeN au,afo]at VU;simp[VQ,s1,h1,s3,s4,ao,ae];refine oc VU ?_;simp[s1,h1,s3,s4,ao,ae];exact⟨by first|exact s1|simp[s1],by first|exact h1|simp[h1,ao,ae],by first|exact s3|simp[s3],by first|exact s4|simp[s4]⟩
 clear s1 h1 s3 s4;rintro S7 H7 ⟨hF,gm⟩;refine SW.cond (c':=.t 15) (by kernel_rfl) _ gm ?_;cases hsn:dz s k
 .refine SW.exit ⟨.inr rfl,v,?_,hF⟩;rw[mL];unfold j8;rw[hsn];exact hK
 refine SW.skip ?_;obtain⟨s1,h1,s3,s4⟩:=hF;show SW prog GI 34 none (.seq _ (.cond _ _ _)) _ _ _ _;refine zJ hG VY (λd _=>hK.bx d) (λS H=>HZ s v k S H/\S 19=.bool (decide (0<k)&&dz s (k-1))) ?_ ?_
 .have VU:=aa2 hG s h k au;have hw:IntKind.i64.wrap ((k:Int)-1)=k-1:=aN (by omega);simp[VY,s1,h1,s3,s4,hw,ao,ae];refine oc VU ?_;simp[s1,h1,s3,s4,ao,ae];exact⟨by first|exact s1|simp[s1],by first|exact h1|simp[h1,ao,ae],by first|exact s3|simp[s3],by first|exact s4|simp[s4]⟩
 clear s1 h1 s3 s4;rintro S8 H8 ⟨⟨s1,h1,s3,s4⟩,p6⟩;refine SW.cond (c':=.t 19) (by kernel_rfl) _ p6 ?_
 cases hb:(decide (0<k)&&dz s (k-1))
 .have jC:j8 (dz s) (mJ s k) k=mJ s k++[(k,k)]:=by
   unfold j8;rw[if_pos hsn,if_neg (λhh=>by rw[aeN hh.1,hh.2]at hb;cases hb)]
  rw[jC]at mL;have vP:=IB s k;show SW prog GI 34 none (.region 8 _ false) _ _ _ _
  refine SW.hand hG (p:=5) (lm:=[5]) (l2:=[6]) (kd:=[_,_,_,_,_]) (oh:=[_]) (lI:=[_]) rfl rfl rfl rfl (by kernel_rfl) hK.bx
   (lU:=JG.take 5) (kZ:=JG.drop 6) (by kernel_rfl) (by kernel_rfl) (by kernel_rfl) (by kernel_rfl)
   (K1:=λS H=>HZ s v k S H/\S 27=.val v/\S 31=.slice (.own 26) [gL (k,k)])
   (K2:=λo S H=>∃v',KO cc 26 2 ((mJ s (k+1)).map gL) o v'/\HZ s v k S H/\S 32=.val v')
   (K3:=λo S H=>∃v',KO cc 26 2 ((mJ s (k+1)).map gL) o v'/\HZ s v' k S H) ?_ ?_ ?_ ?_
  .simp[JG,s1,h1,s3,s4,gL,bI,aJ];exact⟨by first|exact s1|simp[ar,s1],by first|exact h1|simp[h1,ao,ae],by first|exact s3|simp[ar,s3]|simp[ar],by first|exact s4|simp[ar,s4]⟩
  .rintro w0 g S H a w' m cT ho R ⟨⟨s1,h1,s3,s4⟩,oz,tL⟩;rw [<-ho] at hK;have t27:=R.slot 27 (by decide) (λh=>h);rw [oz] at t27;have e27:a.eval (.tmp 27)=v:=t27.fG;rw [<-Q9] at hK;obtain ⟨v',w2,g',dv,R2,BJ⟩:=KO.append R hK (o:={ dst:=some 32,op := .call { callee := .builtin .append,args := #[.tmp 27,.tmp 31],argTypes := #[48,48] },type:=48,pos := "",after := #[],guard:=none }) (x:=gL (k,k)) (t:=48) rfl rfl rfl rfl gE abj Zy (by rw [aby,Q9]) (by rw [abZ];decide) e27 (y2 := .t 31) (by kernel_rfl) tL (by rw [Q9];exact RH [(k,k)]) (by simp;omega);refine aV rfl rfl (by rfl) dv ?_
   have nu:v'.oneCell'=true:=by
    rcases BJ.row with⟨⟨_,rfl⟩,_⟩|⟨_,_,_,rfl,_⟩<;>rfl
   rw[Q9]at BJ
   have D0:(mJ s k).map gL++[gL (k,k)]=(mJ s (k+1)).map gL:=by rw[mL];simp
   rw[D0]at BJ;exact⟨g',_,_,R2.put 32 (.val v') v' (by decide) (.data _ _ (.val _ nu)) trivial,v',BJ,⟨by simp[ar,s1],h1,by simp[ar,s3],by simp[ar,s4]⟩,aS _ _ _⟩
  .rintro o S H ⟨v',hK,⟨s1,h1,s3,s4⟩,tT⟩;refine⟨hK.bx,?_⟩;simp[JG,s1,h1,s3,s4,tT];exact⟨v',hK,by first|exact s1|simp[s1],by first|exact h1|simp[h1,ao,ae],by first|exact s3|simp[ar,s3]|simp[ar],by first|exact s4|simp[s4]⟩
  .rintro o S H ⟨v',hK,hF⟩;exact⟨.inl rfl,v',hK,hF⟩
 have iU:0<k/\dz s (k-1)=true:=by simpa using hb
 have cI:mJ s k≠[]:=by
  have:=SX iU.2;rwa [show k-1+1=k by omega]at this
 have vP:=IB s k;have Nu:0<(mJ s k).length:=adV.2 cI
 obtain⟨j,hj⟩:∃j,(mJ s k).length-1=j:=⟨_,rfl⟩
 have nc:j<(mJ s k).length:=by omega
 obtain⟨p0,q0,yh⟩:∃p0 q0,(mJ s k)[j]=(p0,q0):=⟨_,_,rfl⟩
 have jC:j8 (dz s) (mJ s k) k=(mJ s k).set j (p0,k):=by
  rw[<-hj,N0 _ _ cI];unfold j8;rw[if_pos hsn,if_pos iU,List.getLast?_eq_getElem?,hj,ac_ nc,yh]
  rfl
 rw[jC]at mL
 have abM:((mJ s k).map gL).set j (gL (p0,k))=(mJ s (k+1)).map gL:=by rw[mL,List.map_set]
 clear jC mL
 generalize mJ s (k+1)=l2 at*
 generalize mJ s k=l at*
 have IZ:j<(l.map gL).length:=by simp;omega
 show SW prog GI 34 none (.region 7 _ false) _ _ _ _
 refine SW.hand hG (p:=2) (lm:=[2,3,4,5,6,7]) (l2:=[]) (kd:=[_,_]) (oh:=[_,_,_,_,_,_]) (lI:=[]) rfl rfl rfl rfl (by kernel_rfl) hK.bx
  (lU:=VR.take 2) (kZ:=[]) (by kernel_rfl) rfl (by kernel_rfl) rfl
  (K1:=λS H=>HZ s v k S H/\S 20=.val v/\S 21=.val v)
  (K2:=λo S H=>KO cc 26 2 (l2.map gL) o v/\HZ s v k S H)
  (K3:=λo S H=>KO cc 26 2 (l2.map gL) o v/\HZ s v k S H) ?_ ?_ ?_ ?_
 .simp[VR,s1,h1,s3,s4];exact⟨by first|exact s1|simp[ar,s1],by first|exact h1|simp[h1,ao,ae],by first|exact s3|simp[ar,s3]|simp[ar],by first|exact s4|simp[ar,s4]⟩
 .rintro w0 g S H a w' m cT ho R ⟨⟨s1,h1,s3,s4⟩,nf,lV⟩;rw[<-ho]at hK;obtain⟨b,cap,cur,hv,n9,sI,fo⟩:=hK.cell R IZ
  have A2:(l.map gL)[j]=gL (p0,q0):=by rw[adp,yh]
  have rI:1<((l.map gL)[j]).cells.length:=by rw[A2];simp[gL,AV.cells]
  have xh:=fo 1 rI;have t20:=R.slot 20 (by decide) (λh=>h);rw[nf]at t20;have Pk:a.eval (.tmp 20)=.slice (some ⟨b,0,none⟩) (l.map gL).length cap:=t20.fG.trans hv;have t21:=R.slot 21 (by decide) (λh=>h);rw[lV]at t21;have WV:a.eval (.tmp 21)=.slice (some ⟨b,0,none⟩) (l.map gL).length cap:=t21.fG.trans hv;have t4:=R.slot 4 (by decide) (λh=>h);rw[s4]at t4;have e4:a.eval (.tmp 4)=.int .i64 (k:Nat):=t4.int_eq;have bq:=R.size
  have hlm:(l.map gL).length=l.length:=by simp
  have kR:IntKind.i64.wrap (((l.map gL).length:Int)-1)=(j:Nat):=by
   rw[hlm,aN (by omega)];omega
  refine aV rfl rfl (by rfl) (NZ (t:=48) rfl rfl rfl rfl gE WV) ?_;have R1:=R.put 22 (.int .i64 ((l.map gL).length:Int)) (.int .i64 ((l.map gL).length:Int)) (by decide) (.data _ _ (.int _ _)) trivial
  have p:=λt c=>bB a 22 t c (by omega)
  have f22:=(p 22 (.int .i64 ((l.map gL).length:Int))).trans (if_pos rfl);have f20:=((p 20 (.int .i64 ((l.map gL).length:Int))).trans (if_neg (by decide))).trans Pk;have f4:=((p 4 (.int .i64 ((l.map gL).length:Int))).trans (if_neg (by decide))).trans e4;have RF:=R1.size;show wpOpsIn _ _ _ _ _ [3,4,5,6,7] (a.put (some 22) (.int .i64 ((l.map gL).length:Int))) w'
  generalize a.put (some 22) (.int .i64 ((l.map gL).length:Int))=a1 at*
  clear p Pk WV e4 t20 t21 t4;refine aV rfl rfl (by rfl) (NJ (q:=1) rfl f22 rfl) ?_;rw[kR];have R2:=R1.put 23 (.int .i64 (j:Nat)) (.int .i64 (j:Nat)) (by decide) (.data _ _ (.int _ _)) trivial
  have p:=λt c=>bB a1 23 t c (by omega)
  have g23:=(p 23 (.int .i64 (j:Nat))).trans (if_pos rfl);have g20:=((p 20 (.int .i64 (j:Nat))).trans (if_neg (by decide))).trans f20;have g4:=((p 4 (.int .i64 (j:Nat))).trans (if_neg (by decide))).trans f4;have yO:=R2.size;show wpOpsIn _ _ _ _ _ [4,5,6,7] (a1.put (some 23) (.int .i64 (j:Nat))) w'
  generalize a1.put (some 23) (.int .i64 (j:Nat))=a2 at*
  clear p f22 f20 f4;refine aV rfl rfl (by rfl) ((run_move (x:=.tmp 4) w' rfl).trans (congrArg (λv=>Result.ok (Next.value v) w') g4)) ?_;have R3:=R2.put 24 (.int .i64 (k:Nat)) (.int .i64 (k:Nat)) (by decide) (.data _ _ (.int _ _)) trivial
  have p:=λt c=>bB a2 24 t c (by omega)
  have k24:=(p 24 (.int .i64 (k:Nat))).trans (if_pos rfl);have k23:=((p 23 (.int .i64 (k:Nat))).trans (if_neg (by decide))).trans g23;have WX:=((p 20 (.int .i64 (k:Nat))).trans (if_neg (by decide))).trans g20;have aa9:=R3.size;show wpOpsIn _ _ _ _ _ [5,6,7] (a2.put (some 24) (.int .i64 (k:Nat))) w'
  generalize a2.put (some 24) (.int .i64 (k:Nat))=a3 at*
  clear p g23 g20 g4;refine aV rfl rfl (by rfl) (lH (k:=j) rfl gE abj WX k23 IZ) ?_;rw[Q9];have R4:=R3.put 25 (.val (.pointer (some ⟨b,j*2,none⟩))) (.pointer (some ⟨b,j*2,none⟩)) (by decide) (.data _ _ (.val _ rfl)) trivial
  have p:=λt c=>bB a3 25 t c (by omega)
  have l25:=(p 25 (.pointer (some ⟨b,j*2,none⟩))).trans (if_pos rfl);have l24:=((p 24 (.pointer (some ⟨b,j*2,none⟩))).trans (if_neg (by decide))).trans k24;have y0:=R4.size;show wpOpsIn _ _ _ _ _ [6,7] (a3.put (some 25) (.pointer (some ⟨b,j*2,none⟩))) w'
  generalize a3.put (some 25) (.pointer (some ⟨b,j*2,none⟩))=a4 at*
  clear p k24 k23 WX;refine aV rfl rfl (by rfl) (oV (s:=26) (j:=1) (aaO:=1) (sz:=1) (x:=.tmp 25) (by kernel_rfl) (by decide) rfl l25) ?_;have R5:=R4.put 26 (.val (.pointer (some ⟨b,j*2+1,none⟩))) (.pointer (some ⟨b,j*2+1,none⟩)) (by decide) (.data _ _ (.val _ rfl)) trivial
  have p:=λt c=>bB a4 26 t c (by omega)
  have m26:=(p 26 (.pointer (some ⟨b,j*2+1,none⟩))).trans (if_pos rfl);have m24:=((p 24 (.pointer (some ⟨b,j*2+1,none⟩))).trans (if_neg (by decide))).trans l24;show wpOpsIn _ _ _ _ _ [7] (a4.put (some 26) (.pointer (some ⟨b,j*2+1,none⟩))) w'
  generalize a4.put (some 26) (.pointer (some ⟨b,j*2+1,none⟩))=a5 at*
  clear p l25 l24;obtain ⟨y3,dv,Gc,Tm⟩:=xS (o:={ dst:=none,op := .store 3 (.tmp 26) (.tmp 24),type:=0,pos := "",after := #[],guard:=none }) (v := .int .i64 (k:Nat)) rfl m26 sh mR sI xh.1 m24 rfl;refine dM rfl rfl (by rfl) dv ?_;have R6:=R5.mF n9 (.cells y3 26 (0,0));have BJ:=hK.set (j:=j) (k:=1) IZ rI (x:=gL (p0,k)) (u := .int .i64 (k:Nat)) (RH [(p0,k)]) (by rw [A2]<;>rfl) hv n9 Gc (λm=>by rw [Tm m]<;>rfl);rw [abM] at BJ;exact ⟨_,_,_,R6,BJ,⟨by simp [ar,s1],h1,by simp [ar,s3],by simp [ar,s4]⟩⟩
 .rintro o S H ⟨hK,hF⟩;exact⟨hK.bx,hK,hF⟩
 .rintro o S H ⟨hK,hF⟩;exact⟨.inl rfl,v,hK,hF⟩
theorem Ye{s:az}(h:eQ s):(eh (dz s) s.cells.length).length<1000:=by
 have hc:=h.cells;rw[I2 (po h)];have:=IB s s.cells.length;unfold mJ at this;unfold VM;omega
theorem abO(hG:aw GI)(s:az)(h:eQ s)(es:List End)(he:es.length<=3):AC prog GI 109 [a_ s,vI (gW s es)] (.ret (.bool (decide (gC 0 s (aW s es)=(aW s es).length)))):=by
 have hc:=h.cells
 have cI:s.cells≠[]:=λh0=>by rw[h0]at hc;simp at hc
 have Px:=ace hG s h es he;have h61:=acs hG s h;have acn:=abS hG s (by omega) cI;have hn:=iW h he;have hv:=(vV (po h)).1;have hr:=pg h 0
 have r0:AC prog GI 97 [vI (aW s es),.slice .view ((eh (dz s) s.cells.length).map gL),vI (bm 0 s)] (.ret (.int .i64 (gC 0 s (aW s es)))):=
  ab9 hG _ hn.1 hn.2 (eh (dz s) s.cells.length) (Ye h) (bm 0 s) (by omega) hr.2 (λv hx=>by have:=hv v hx;omega)
 have hl:(gW s es).length=(aW s es).length:=by simp[gW,aW]
 rw[<-hl]
 generalize gC 0 s (aW s es)=n0 at*
 generalize eh (dz s) s.cells.length=vs at*
 generalize aW s es=ns at*
 generalize gW s es=cs at*
 have hd:((n0:Int)==(cs.length:Int))=decide (n0=cs.length):=by
  rw[ad7,adf,adX];omega
 refine bW hG func109 ntmps109 c109 ?_;simp[c109,a_,ao,ae];refine oc Px ?_;simp;refine oc h61 ?_;simp;refine oc acn ?_;simp;refine oc r0 ?_;simp;exact hd.symm
theorem Iy(a b:End):(a.1=b.1/\a.2=b.2)↔a=b:=by
 obtain⟨a1,a2⟩:=a;obtain⟨b1,b2⟩:=b;simp
theorem aaz(hG:aw GI)(a b:List End)(ha:a.length<1000000):AC prog GI 60 [.slice .view (a.map aX),.slice .view (b.map aX)] (.ret (.bool (a==b))):=by
 refine bW hG func60 ntmps60 c60 ?_
 by_cases hl:a.length=b.length
 case neg=>
  have pz:((a.length:Int)!=b.length)=true:=by simp;omega
  have cI:(a==b)=false:=by
   rw[adW];intro e;exact hl (by rw[e])
  simp[c60,pz,cI]
 have pz:((a.length:Int)!=b.length)=false:=by simp;omega
 simp[c60,pz];refine bw 5 a.length (λi S H=>S 0=.slice .view (a.map aX)/\S 1=.slice .view (b.map aX)/\S 5=.int .i64 (i:Nat)/\∀j (hj:j<a.length),j<i->a[j]=b[j]'(by omega)) (λi S H h=>h.2.2.1) ⟨by simp,by simp,by simp,λj _ h=>absurd h (afm _)⟩ ?_;rintro i hi S H ⟨s0,s1,s5,hb⟩
 by_cases au:i<a.length
 case neg=>
  have he:(a==b)=true:=by
   rw[adX]
   exact afg hl λj h1 h2=>hb j h1 (by omega)
  have hn:¬(i:Int)<a.length:=by omega
  simp[s0,s1,s5,hn,he]
 have hw:IntKind.i64.wrap ((i:Int)+1)=i+1:=aN (by omega)
 have Ui:i<b.length:=by omega
 by_cases he:a[i]=b[i]
 .simp[s0,s1,s5,au,Ui,hw,he,aX,wc];intro j hj gw
  by_cases e:j=i
  .subst e;exact he
  .exact hb j hj (by omega)
 .have cI:(a==b)=false:=by
   rw[adW];intro e;subst e;exact he rfl
  have ky:¬(a[i].1=b[i].1/\a[i].2=b[i].2):=λh=>he ((Iy _ _).1 h)
  have iU:([a[i].1,a[i].2]!=[b[i].1,b[i].2])=true:=by
   rw[af2];intro e;simp at e;exact ky e
  simp[s0,s1,s5,au,Ui,aX,wc,cI,iU]
def Hw(s:az):Bool:=(fq s.name).isSome&&decide (gC 0 s (aW s (rG s))=(aW s (rG s)).length)
theorem abo(hG:aw GI)(s:az)(h:eQ s):AC prog GI 116 [a_ s] (.ret (.bool (Hw s))):=by
 have Xr:=acI hG s h;have acz:=abO hG s h (rG s) (J_ h);unfold Hw
 generalize decide (gC 0 s (aW s (rG s))=(aW s (rG s)).length)=b at*
 generalize gW s (rG s)=cs at*
 generalize(fq s.name).isSome=ok at*
 refine bW hG func116 ntmps116 c116 ?_;simp[c116,a_,ao,ae];refine oc Xr ?_;cases ok
 .simp
 .simp;refine oc acz ?_;simp
def mm(w:Word):Bool:=decide (w.aK.length<=8)&&decide (w.bK.length<=8)
def mU(s:aq):Bool:=(s.words.take 6).all mm&&(decide (s.aY.length<=8)&&decide (s.aR.length<=8)&&decide (s.words.length<=6))
theorem Ab{s:aq}(h:mU s=true):mG s:=by
 unfold mU at h;simp only[adb,adf]at h;obtain⟨h1,⟨h2,h3⟩,h4⟩:=h;rw[adn h4,adu]at h1
 have h5:∀w∈s.words,w.aK.length<=8/\w.bK.length<=8:=λw hw=>by simpa[mm]using h1 w hw
 exact⟨by omega,by omega,by omega,λw hw=>by have:=(h5 w hw).1;omega,λw hw=>by have:=(h5 w hw).2;omega⟩
def q_(s:az):Bool:=mU s.name&&decide (s.cells.length<=14)
theorem vQ{s:az}(h:q_ s=true):eZ s/\s.cells.length<=14/\s.name.words.length<=6:=by
 unfold q_ at h;rw[adb,adf]at h
 have h6:s.name.words.length<=6:=by
  have:=h.1;unfold mU at this;simp only[adb,adf]at this;exact this.2.2
 exact⟨⟨by omega,Ab h.1⟩,h.2,h6⟩
theorem Xs(hG:aw GI)(s:az):AC prog GI 28 [a_ s] (.ret (.bool (q_ s))):=by
 obtain⟨n,hn⟩:∃n,s.name=n:=⟨_,rfl⟩
 obtain⟨cs,vi⟩:∃n,s.cells=n:=⟨_,rfl⟩
 have hc:((cs.length:Int)<=14)↔cs.length<=14:=by omega
 have YG:((n.aY.length:Int)<=8)↔n.aY.length<=8:=by omega
 have ZJ:((n.aR.length:Int)<=8)↔n.aR.length<=8:=by omega
 have XK:((n.words.length:Int)<=6)↔n.words.length<=6:=by omega
 unfold q_;rw[hn,vi];refine bW hG func28 ntmps28 c28 ?_;refine aI (λS H=>S 1=.box 1 0/\H 1=some (ao s)) (by simp[a_,ao,ae]) ?_;rintro S H ⟨s1,h1⟩
 have hT:ao s=[.slice .view (cs.map iK),.int .i64 s.pos,.int .i64 s.reach,.int .i64 s.eH,.int .i64 s.dE]++ae n:=by rw[<-hn,<-vi]<;>rfl
 rw[hT]at h1;generalize ao s=T at hT;simp[s1,h1];refine bw 3 (min n.words.length 6) (λi S H=>S 1=.box 1 0/\H 1=some ([.slice .view (cs.map iK),.int .i64 s.pos,.int .i64 s.reach,.int .i64 s.eH,.int .i64 s.dE]++ae n)/\S 3=.int .i64 (i:Nat)/\(∀j (hj:j<(n.words.take 6).length),j<i->mm (n.words.take 6)[j]=true)) (λi S H h=>h.2.2.1) ⟨by simp[s1],by simp[h1],by simp,by simp⟩ ?_;clear s1 h1 S H;rintro i hi S H ⟨s1,e1,s3,hb⟩
 by_cases au:i<n.words.length
 case neg=>
  have cH:i=n.words.length:=by omega
  subst cH
  have Jt:n.words.length<=6:=by omega
  have fQ:(n.words.take 6).all mm=true:=sJ λj hj=>hb j hj (by rw[adM]at hj;omega)
  by_cases h0:cs.length<=14<;>by_cases h1:n.aY.length<=8<;>by_cases h2:n.aR.length<=8<;>simp[s1,e1,s3,ae,mU,fQ,h0,h1,h2,Jt,hc,YG,ZJ,XK]
 by_cases h6:i<6
 case neg=>
  have Kr:¬(i:Int)<6:=by omega
  have fQ:(n.words.take 6).all mm=true:=sJ λj hj=>hb j hj (by rw[adM]at hj;omega)
  by_cases h0:cs.length<=14<;>by_cases h1:n.aY.length<=8<;>by_cases h2:n.aR.length<=8<;>simp[s1,e1,s3,au,Kr,ae,mU,fQ,h0,h1,h2,hc,YG,ZJ,XK]
 have hw:IntKind.i64.wrap ((i:Int)+1)=i+1:=aN (by omega)
 have Kr:(i:Int)<6:=by omega
 have hit:i<(n.words.take 6).length:=by rw[adM];omega
 have iJ:(n.words.take 6)[i]=n.words[i]:=afk
 by_cases h1:n.words[i].aK.length<=8
 case neg=>
  have hf:mm (n.words.take 6)[i]=false:=by rw[iJ];simp[mm,h1]
  have DY:(8:Int)<n.words[i].aK.length:=by omega
  simp[s1,e1,s3,au,Kr,ae,bD,DY];simp[mU,pP hit hf]
 have DY:¬(8:Int)<n.words[i].aK.length:=by omega
 by_cases h2:n.words[i].bK.length<=8
 case neg=>
  have sT:(8:Int)<n.words[i].bK.length:=by omega
  have hf:mm (n.words.take 6)[i]=false:=by rw[iJ];simp[mm,h2]
  simp[s1,e1,s3,au,Kr,ae,bD,DY,sT];simp[mU,pP hit hf]
 have sT:¬(8:Int)<n.words[i].bK.length:=by omega
 have ht:mm (n.words.take 6)[i]=true:=by rw[iJ];simp[mm,h1,h2]
 simp[s1,e1,s3,au,Kr,ae,bD,DY,sT,hw]
 exact⟨by omega,λj hj gw=>by
  have:=jY hit hb ht j (by rw[adM];omega) gw
  rwa [afk]at this⟩
theorem UX(hG:aw GI)(s:List UInt8):AC prog GI 168 [.bool true,.str s] (.ret (.dN [])):=by
 refine bW hG func168 ntmps168 c168 ?_;simp[c168]
def CQ(w:List UInt8):Bool:=Bb w&&decide (w.length<=2)
theorem ze{w:List UInt8}:CQ w=true↔w≠[]/\w.length<=2/\(∀c∈w,digit c)/\kJ (de w)=w:=by
 unfold CQ;rw[adb,CD,adf]
 constructor
 .rintro⟨⟨h1,h2,h3,h4⟩,h5⟩;exact⟨h1,h5,h3,h4⟩
 .rintro⟨h1,h2,h3,h4⟩;exact⟨⟨h1,by omega,h3,h4⟩,h2⟩
theorem sR:∀(w:List UInt8),(∀c∈w,digit c)->w.length<=2->0<=de w/\de w<100
 |[],_,_=>by simp[de]
 |[a],h,_=>by have:=h a (by simp);unfold digit at this;simp[de];omega
 |[a,b],h,_=>by have h1:=h a (by simp);have h2:=h b (by simp);unfold digit at h1 h2;simp[de];omega
theorem Pp(i:Nat)(hi:i<100):AC prog GI 162 [.int .i64 (i:Nat)] (.ret (.str (B6 20 i))):=by
 intro w old ck hG hl hr;obtain⟨v,rfl⟩:=U5 hl rfl;have e1:=(hr 0 (by simp) (by simp)).int_eq;simp only[List.getElem_toArray,List.getElem_cons_zero]at e1;subst e1;refine(Tryz.strconv_Itoa_small i hi w).mono ?_;rintro e w' ⟨rfl,rfl⟩;refine⟨aeb _ _,λ_=>0,λ_ _=>rfl,_,rfl,.data _ _ ?_,trivial⟩;rw[B0 20 i (by omega) (by omega)];exact .str _
theorem vy{n:Int}(h0:0<=n)(h1:n<100):AC prog GI 162 [.int .i64 n] (.ret (.str (kJ n))):=by
 have:=Pp (GI:=GI) n.toNat (by omega);rw[afN h0]at this;exact this
noncomputable def tY:af:=af.qb c169.qb.qb.qa.qb.qb
noncomputable def A9:af:=af.qb c169.qb.qb
theorem OH(hG:aw GI)(wd:List UInt8)(hw:CQ wd=true):AC prog GI 169 [.str wd] (.ret (.int .i64 (de wd))):=by
 obtain⟨cI,Lz,zF,hde⟩:=ze.1 hw
 refine AC.iF func169 rfl ntmps169 (by simp) λcc w=>?_
 have dH:∀k d,¬(oK cc w k).bx d:=λ_ _ h=>h
 refine dU hG c169.qa (λS' H'=>S' 0=.str wd) ?_ ?_
 .simp[c169,af.qa]
 rintro S1 H1 s0;refine dU hG c169.qb.qa (λS' H'=>S' 0=.str wd/\S' 3=.int .i64 0) ?_ ?_
 .simp[c169,af.qa,af.qb,s0]
 rintro S2 H2 ⟨s0,s3⟩;show SW prog GI 41 none (.seq (.seq _ (.block 0 (.loop _))) (.seq _ (.seq _ .ret))) _ _ _ _
 obtain⟨sb,lX⟩:∃sb:ByteArray,sb=⟨wd.toArray⟩:=⟨_,rfl⟩
 refine SW.seq (SW.seq (SW.mid hG (p:=1) (oh:={ dst:=some 7,op := .range 9 (.tmp 6),type:=0,pos := "text.go:97",after:=_,guard:=none }) (kd:=[_]) (lI:=[]) (l2:=[]) rfl rfl rfl rfl (by kernel_rfl) rfl (λ_ h=>h) (lU:=(c169.qb.qb.qa.qa.dl).take 1) (kZ:=[]) (by kernel_rfl) rfl (by kernel_rfl) rfl
  (K1:=λS' H'=>S' 6=.str wd/\S' 3=.int .i64 0/\S' 0=.str wd)
  (K2:=λo S' H'=>∃k b,o=oK cc w k/\k b=some (.stringIter sb 0)/\S' 7=.val (.pointer (some ⟨b,0,none⟩))/\S' 3=.int .i64 0/\S' 0=.str wd)
  (K3:=λo S' H'=>∃k b,o=oK cc w k/\k b=some (.stringIter sb 0)/\S' 7=.val (.pointer (some ⟨b,0,none⟩))/\S' 3=.int .i64 0/\S' 0=.str wd) ?_ ?_ ?_ ?_))
 .simp[c169,af.qa,af.qb,af.dl,s0,s3]
 .rintro w0 g S8 H8 a w8 ho R ⟨s6,s3,s0⟩;have t6:=R.slot 6 (by decide) (λh=>h);rw[s6]at t6
  have t6:a.eval (.tmp 6)=.string sb:=by rw[lX];exact l0 t6
  have gE:prog.underlying 9=some .string:=by kernel_rfl
  have R2:=R.lO (.stringIter sb 0);refine⟨_,_,_,ar S8 7 (.val (.pointer (some ⟨w8.heap.size,0,none⟩))),H8,.inl (xG rfl gE t6),R2.put 7 _ _ (by decide) (.data _ _ (.val _ rfl)) trivial,ar g.old.bf w8.heap.size (some (.stringIter sb 0)),w8.heap.size,?_,aS _ _ _,by simp[ar],by simp[ar,s3],by simp[ar,s0]⟩;show({ g.old with bf:=ar g.old.bf w8.heap.size _ }:Old)=_
  rw[ho]<;>rfl
 .rintro o S8 H8 ⟨k,b,rfl,h⟩;exact⟨dH _,k,b,rfl,h⟩
 rintro o S8 H8 ⟨k,b,rfl,vm,s7,s3,s0⟩
 refine SW.block (SW.Qe (λo S' H'=>∃k b pos,o=oK cc w k/\k b=some (.stringIter sb pos)/\pos<=wd.length/\(∀c∈wd.take pos,digit c)/\(0<pos->wd.length<=2)/\S' 7=.val (.pointer (some ⟨b,0,none⟩))/\S' 3=.int .i64 (de (wd.take pos))/\S' 0=.str wd)
  (λo S' _=>match S' 7 with|.val (.pointer (some a))=>(match o.bf a.block with|some (.stringIter _ p)=>wd.length-p|_=>0)|_=>0) ⟨k,b,0,rfl,vm,adZ _,by simp,by simp,s7,s3,s0⟩ ?_)
 rintro o S9 H9 ⟨k,b,pos,rfl,vm,gf,Z6,rI,s7,s3,s0⟩;have m7:=s7
 have Lq:∀(S:av)(k:Nat->Option Obj) p,S 7=.val (.pointer (some ⟨b,0,none⟩))->k b=some (.stringIter sb p)->(match S 7 with|.val (.pointer (some a))=>(match(oK cc w k).bf a.block with|some (.stringIter _ p)=>wd.length-p|_=>0)|_=>0)=wd.length-p:=by
  intro S k p h1 h2;rw[h1];show(match k b with|some (.stringIter _ p)=>wd.length-p|_=>0)=_;rw[h2]
 have bq:sb.size=wd.length:=by rw[lX]<;>rfl
 have QD:=UX (GI:=GI) hG wd
 have e8:∀n H,fz H (.int .i64 n)=.int .i64 n:=λn H=>rfl
 have e9:∀H,fz H (.str wd)=.str wd:=λH=>rfl
 have jt:∀b H,fz H (.bool b)=.bool b:=λb H=>rfl
 show SW prog GI 41 none (.seq _ (.seq (.cond _ _ _) (.block 1 (.seq _ (.seq _ _))))) _ _ _ _
 by_cases hp:pos<wd.length
 case neg=>
  refine SW.seq (SW.mid hG (p:=0) (oh:={ dst:=some 8,op := .next (.tmp 7) true,type:=0,pos := "text.go:97",after := #[],guard:=none }) (kd:=[]) (lI:=[_]) (l2:=[1]) rfl rfl rfl rfl (by kernel_rfl) rfl (dH _) (lU:=[]) (kZ:=(tY.qa.dl).drop 1) rfl (by kernel_rfl) rfl (by kernel_rfl)
   (K1:=λS' H'=>S' 7=.val (.pointer (some ⟨b,0,none⟩))/\S' 3=.int .i64 (de wd)/\S' 0=.str wd)
   (K2:=λo S' H'=>o=oK cc w k/\S' 8=.dN [.bool false]/\S' 3=.int .i64 (de wd)/\S' 0=.str wd)
   (K3:=λo S' H'=>o=oK cc w k/\S' 9=.bool false/\S' 3=.int .i64 (de wd)/\S' 0=.str wd) ?_ ?_ ?_ ?_)
  .have:pos=wd.length:=by omega
   subst this;rw[aea]at s3;exact⟨s7,s3,s0⟩
  .rintro w0 g oH rB a Iv ho R ⟨s7,s3,s0⟩;have t7:=R.slot 7 (by decide) (λh=>h);rw[s7]at t7;have t7:a.eval (.tmp 7)=.pointer (some ⟨b,0,none⟩):=t7.fG
   have hk:g.old.bf b=some (.stringIter sb pos):=by rw[ho];exact vm
   have hb:=(R.kept b _ hk).2.1;refine⟨_,_,_,ar oH 8 (.dN [.bool false]),rB,.inl (so rfl t7 hb (by omega)),R.put 8 _ _ (by decide) (.data _ _ (.dN _ _ rfl λi h h'=>?_)) trivial,ho,aS _ _ _,by simp[ar,s3],by simp[ar,s0]⟩
   match i,h with
   |0,_=>exact .bool _
  .rintro o oH rB ⟨rfl,s8,s3,s0⟩;refine⟨dH _,?_⟩;simp[c169,tY,af.qa,af.qb,af.dl,bn,aF,bg,aH,ev,aQ.S,aQ.H,ar,aT,s3,s0,s8,AV.aG]
  rintro o oH rB ⟨rfl,s9,s3,s0⟩;refine SW.seq (SW.cond rfl false (by show oH 9=_;rw[s9]) (SW.exit ?_));show SW prog GI 41 none (.seq _ _) _ _ _ _
  have hpe:pos=wd.length:=by omega
  have hs:=sR wd zF Lz;have J3:=vy (GI:=GI) hs.1 hs.2
  have L0:(wd !=[])=true:=by simpa using cI
  rw[hde]at J3;refine zJ hG A9.qa (λd _=>dH _ d) (λS' H'=>S' 3=.int .i64 (de wd)) ?_ ?_
  .simp[c169,A9,af.qa,af.qb,bC,bn,aF,bg,aH,aM,ev,aQ.S,aQ.H,ar,aT,s3,s0,AV.aG,dS,L0,e8];refine oc J3 ?_;simp[iD,ar,AV.aG,s3,s0,dS,e9,jt];refine oc QD ?_;simp[iD,ar,AV.aG,s3,s0]
  rintro S11 H11 s3;show SW prog GI 41 none (.seq _ .ret) _ _ _ _;refine zJ hG A9.qb.qa (λd _=>dH _ d) (λS' H'=>S' 2=.int .i64 (de wd)) ?_ ?_
  .simp[c169,A9,af.qa,af.qb,s3]
  rintro S12 H12 s2;refine SW.ret ⟨eD.plain rfl,rfl,_,?_,rfl⟩;show cy prog 41 [.tmp 2] S12 H12=_;simp[cy,cJ,cK,s2,AV.bT,AV.out]
 case pos=>
  obtain⟨c,hc⟩:∃c,wd[pos]=c:=⟨_,rfl⟩
  obtain⟨r,hr⟩:∃r:Nat,(Utf8.decode sb pos).1=r:=⟨_,rfl⟩
  obtain⟨p',xW⟩:∃p':Nat,pos+(Utf8.decode sb pos).2=p':=⟨_,rfl⟩
  have CO:sb[pos]'(by omega)=c:=by subst lX;rw[<-hc]<;>rfl
  refine SW.seq (SW.mid hG (p:=0) (oh:={ dst:=some 8,op := .next (.tmp 7) true,type:=0,pos := "text.go:97",after := #[],guard:=none }) (kd:=[]) (lI:=[_]) (l2:=[1]) rfl rfl rfl rfl (by kernel_rfl) rfl (dH _) (lU:=[]) (kZ:=(tY.qa.dl).drop 1) rfl (by kernel_rfl) rfl (by kernel_rfl)
   (K1:=λS' H'=>S' 7=.val (.pointer (some ⟨b,0,none⟩))/\S' 3=.int .i64 (de (wd.take pos))/\S' 0=.str wd)
   (K2:=λo S' H'=>o=oK cc w (ar k b (some (.stringIter sb p')))/\S' 7=.val (.pointer (some ⟨b,0,none⟩))/\S' 8=.dN [.bool true,.int .i64 pos,.int .i32 r]/\S' 3=.int .i64 (de (wd.take pos))/\S' 0=.str wd)
   (K3:=λo S' H'=>o=oK cc w (ar k b (some (.stringIter sb p')))/\S' 7=.val (.pointer (some ⟨b,0,none⟩))/\S' 9=.bool true/\S' 8=.dN [.bool true,.int .i64 pos,.int .i32 r]/\S' 3=.int .i64 (de (wd.take pos))/\S' 0=.str wd) ⟨s7,s3,s0⟩ ?_ ?_ ?_)
  .rintro w0 g oH rB a Iv ho R ⟨s7,s3,s0⟩;have t7:=R.slot 7 (by decide) (λh=>h);rw[s7]at t7;have t7:a.eval (.tmp 7)=.pointer (some ⟨b,0,none⟩):=t7.fG
   have hk:g.old.bf b=some (.stringIter sb pos):=by rw[ho];exact vm
   have hb:=(R.kept b _ hk).2.1;refine⟨_,_,_,ar oH 8 (.dN [.bool true,.int .i64 pos,.int .i32 r]),rB,.inl (Fk rfl t7 hb (by omega) hr xW),(R.mF hk _).put 8 _ _ (by decide) (.data _ _ (.dN _ _ rfl λi h h'=>?_)) trivial,?_,by simp[ar,s7],aS _ _ _,by simp[ar,s3],by simp[ar,s0]⟩
   .match i,h with
    |0,_=>exact .bool _
    |1,_=>exact .int _ _
    |2,_=>exact .int _ _
   .show({ g.old with bf:=ar g.old.bf b _ }:Old)=_
    rw[ho]<;>rfl
  .rintro o oH rB ⟨rfl,s7,s8,s3,s0⟩;refine⟨dH _,?_⟩;simp[c169,tY,af.qa,af.qb,af.dl,bn,aF,bg,aH,ev,aQ.S,aQ.H,ar,aT,s3,s0,s7,s8,AV.aG]
  rintro o oH rB ⟨rfl,s7,s9,s8,s3,s0⟩;refine SW.seq (SW.cond rfl true (by show oH 9=_;rw[s9]) (SW.skip ?_));show SW prog GI 41 none (.block 1 (.seq _ (.seq _ _))) _ _ _ _;have PB:digit c:=zF c (hc▸ada hp);have Ls:=PB;unfold digit at Ls;have RL:=decode_ascii sb pos (by omega) (by rw[CO];omega)
  have hrc:r=c.toNat:=by rw[<-hr,RL,CO]
  have Jm:p'=pos+1:=by rw[<-xW,RL]
  subst hrc;subst Jm
  have YH:∀x∈wd.take (pos+1),digit x:=by
   rw[adj hp,hc];intro x hx;rcases adm.1 hx with hx|hx
   .exact Z6 x hx
   .rw[ady]at hx;rw[hx];exact PB
  have lT:wd.take (pos+1)=wd.take pos++[c]:=by rw[adj hp,hc]
  have ZL:=qe (wd.take pos) Z6 (by simp;omega);refine SW.block (SW.mono (Q:=λe o S' H'=>e=.normal/\o=oK cc w (ar k b (some (.stringIter sb (pos+1))))/\S' 7=.val (.pointer (some ⟨b,0,none⟩))/\S' 3=.int .i64 (de (wd.take (pos+1)))/\S' 0=.str wd) ?_ (SW.og hG cV (by kernel_rfl) (λd _=>dH _ d) (ac:=af.qb tY.qb.qb) (by kernel_rfl) ?_))
  .rintro e o S' H' ⟨rfl,rfl,s7,s3,s0⟩;refine⟨⟨ar k b (some (.stringIter sb (pos+1))),b,pos+1,rfl,aS _ _ _,hp,YH,λ_=>Lz,s7,s3,s0⟩,?_⟩;show(match S' 7 with|.val (.pointer (some a))=>(match(oK cc w (ar k b (some (.stringIter sb (pos+1))))).bf a.block with|some (.stringIter _ p)=>wd.length-p|_=>0)|_=>0)<_;rw[Lq S' _ (pos+1) s7 (aS _ _ _),Lq S9 k pos m7 vm];omega
  .unfold jM.bC
   have g1:(48:Int)<=c.toNat:=by omega
   have g2:(c.toNat:Int)<=57:=by omega
   have g3:(wd.length:Int)<=2:=by omega
   have w1:IntKind.i64.wrap (10*de (wd.take pos))=10*de (wd.take pos):=aN (by omega);have w2:IntKind.i32.wrap ((c.toNat:Int)-48)=(c.toNat:Int)-48:=wrap32 (by omega);have w3:IntKind.i64.wrap ((c.toNat:Int)-48)=(c.toNat:Int)-48:=aN (by omega)
   have w4:IntKind.i64.wrap (10*de (wd.take pos)+((c.toNat:Int)-48))=de (wd.take (pos+1)):=by rw[lT,wz,aN (by omega)]
   simp[c169,tY,af.qa,af.qb,bC,bn,aF,bg,aH,cU,ev,aQ.S,aQ.H,ar,aT,s3,s0,s7,s8,AV.aG,dS,g1,g2,g3,e9,jt,bz];refine oc QD ?_;simp[iD,ar,AV.aG,s3,s0,s7,dS,w1,w2,w3,w4,bz]
end Go.Proofs.Tryz
namespace Go.Proofs.Tryz
open Go Go.AL Go.RowKit Go.Proofs Go.Proofs.Tram
variable{GI:World->Prop}
section
variable{w0:World}{n:Nat}{g:Gh}{S:av}{H:aD}{a:Act}{w:World}{d i1 i4 i5:Nat}{t u e:List UInt8}{z x:List AV}{y:AV}
theorem KH(R:Rel prog w0 n cm g S H a w){i:Nat}(hi:i<n)(hS:S i=.box i 0)(hH:H i=some [.str t]):∃b,a.tmps.getD i undef=.pointer (some ⟨b,0,none⟩)/\w.cell? ⟨b,0,none⟩=some (.string ⟨t.toArray⟩):=by
 obtain⟨b,al,e⟩:=jV R hi hS;obtain⟨cs,vs,ty,k0,k1,k2,k3,k4,k5,k6,k7,k8⟩:=R.box i b al;rw[hH]at k0;cases k0
 have h0:0<vs.size:=by rw[<-k5];exact Nat.zero_lt_one
 have hv:=l0 (RV.data (al:=cj) _ _ (k6 0 (by simp) h0));exact⟨b,e,by simp[World.cell?,k2,h0,hv]⟩
theorem Il (hG:aw GI) (cT:GI w0) (R:Rel prog w0 n cm g S H a w) (hd:d < n) (LJ:i1 < n) (Ek:i4 < n) (EP:i5 < n) (FT:d≠i4) (Hm:d≠i5) (Mh:i4≠i5)
  (Lu:S i1=.box i1 0) (MR:H i1=some [.str t]) (AX:S i4=.box i4 0) (Fh:H i4=some z) (vd:S i5=.box i5 0) (zZ:H i5=some [y]) (hz:z.length=15) (hx:x.length=15) (Zw:AC prog GI 121 [.str t] (.ret (.dN [.agg x,.str u]))):
  Calls prog 120 #[a.tmps.getD i1 undef,a.tmps.getD i4 undef,a.tmps.getD i5 undef] w λe w2=>e=.returned (.tuple #[])/\∃(c:Value)(g':Gh)(S':av)(H':aD),g'.old=g.old/\Rel prog w0 n cm g' S' H' (a.put (some d) c) w2/\(∀t,t≠d->S' t=S t)/\H'=ar (ar H i4 (some (x.map AV.aG))) i5 (some [.str u]):=by
 have bq:=R.size;have fU:GI w:=hG w0 w cT (by have:=R.below;rwa [R.base]at this);obtain⟨b1,e1,fo⟩:=KH R LJ Lu MR;obtain⟨b4,al4,e4⟩:=jV R Ek AX;obtain⟨b5,SU,e5⟩:=jV R EP vd;refine afy func120 rfl ?_;refine(e_ (m:=0)).1 ?_;refine fM (λa=>a.tmps.size=8/\a.defers=[]/\a.tmps.getD 0 undef=.pointer (some ⟨b1,0,none⟩)/\a.tmps.getD 1 undef=.pointer (some ⟨b4,0,none⟩)/\a.tmps.getD 2 undef=.pointer (some ⟨b5,0,none⟩)) ⟨by simp[ntmps120],rfl,(bV _ _ 0 (by simp)).trans e1,(bV _ _ 1 (by simp)).trans e4,(bV _ _ 2 (by simp)).trans e5⟩ ?_;rintro aC ⟨zC,dC,t0,t1,t2⟩;refine adB ?_;show wpOpsIn _ _ _ _ _ [0,1,2,3,4,5,6] aC w;refine aV rfl rfl (by rfl) (kN (t:=9) (d:=.string) (b:=b1) (off:=0) rfl t0 (by kernel_rfl) rfl fo) ?_;show wpOpsIn _ _ _ _ _ [1,2,3,4,5,6] (aC.put (some 4) (.string ⟨t.toArray⟩)) w
 refine fH rfl rfl (by rfl) (gK (k:=121) (args:=#[.string ⟨t.toArray⟩]) w rfl rfl ?_ (by kernel_rfl)) (Zw w (fy g false) #[.string ⟨t.toArray⟩] fU rfl (λi h h'=>by
  match i,h with
  |0,_=>exact .data _ _ (.str t))) ?_
 .simp only[adK,adC,adO];show #[(aC.put (some 4) _).eval (.tmp 4)]=_;rw[bB _ _ _ _ (by omega),if_pos rfl]
 rintro e w2 ⟨iU,hi,qR,c,rfl,EB,dO⟩;refine⟨c,rfl,?_⟩;obtain⟨g',xu,py,R2⟩:=R.call (some d) (λt ht=>by cases ht;exact⟨hd,id⟩) false iU qR EB dO (λh=>by cases h);have Bm:=R2.slot d hd id
 have Xf:(a.put (some d) c).tmps.getD d undef=c:=by rw[iH _ _ _ _ (by omega),if_pos rfl]
 rw[Xf]at Bm;have Oy:aT S (some d) (.dN [.agg x,.str u]) d=.dN [.agg x,.str u]:=aS _ _ _;rw[Oy]at Bm
 obtain⟨c0,rfl,r0⟩:∃c0,c=.tuple #[c0,.string ⟨u.toArray⟩]/\RD g'.Pr w2 (.agg x) c0:=by
  cases Bm with
  |data _ _ h=>
   cases h with
   |dN cs vs hl hr=>
    have h2:vs.size=2:=by rw[<-hl]<;>rfl
    have q0:=hr 0 (by simp) (by omega);have q1:=hr 1 (by simp) (by omega);simp only[List.getElem_cons_zero,List.getElem_cons_succ]at q0 q1;have q1:=l0 (RV.data (al:=cj) _ _ q1);refine⟨vs[0],?_,q0⟩
    congr 1
    apply aeI
    .simpa using h2
    .intro i h1 h2
     match i,h2 with
     |0,_=>rfl
     |1,_=>exact q1
 have R3:=R2.put d (.agg x) c0 hd (.data _ _ r0) trivial;rw[xi]at R3;obtain⟨i31,my,mq⟩:=bp (P:=prog) (t:=31) (s:=15) (by kernel_rfl);obtain⟨i9,hi9,Hd⟩:=bp (P:=prog) (t:=9) (s:=1) (by kernel_rfl)
 have jB:bo z 0 (x.map AV.aG)=x.map AV.aG:=by simp[bo,hz,hx]
 obtain⟨S3,EY⟩:∃S3,ar (aT S (some d) (.dN [.agg x,.str u])) d (.agg x)=S3:=⟨_,rfl⟩
 rw[EY]at R3
 have k3d:S3 d=.agg x:=by rw[<-EY];exact aS _ _ _
 have k3:∀t,t≠d->S3 t=S t:=λt ht=>by rw[<-EY];simp[ar,aT,ht]
 have ke:aH S3 H (.store .any i31.size (.t i4) (.t d))=some { v:=b_,dm:=some d,hw:=some (i4,x.map AV.aG) }:=by
  simp[aH,ev,k3d,k3 i4 (ad2 FT),AX,Fh,HR.okB,AV.cells,AV.storable,AV.bZ,mq,hx,hz,bz,jB]
 obtain ⟨c2,w3,g3,dv,Mo,wG,R4⟩:=kX R3 (o:={ dst:=none,op := .store 31 (.tmp i4) (.tmp d),type:=0,pos := "",after := #[],guard:=none }) (x1 := .tmp i4) (x2 := .tmp d) (y1 := .t i4) (y2 := .t d) (hr := .any) rfl rfl my (by simp [eO,Ek]) (by simp [eO,hd]) (λ_ _=>id) (λ_ _=>id) ke;have R5:=R4.put d (.str u) (.string ⟨u.toArray⟩) hd (.data _ _ (.str u)) trivial;have R5:Rel prog w0 n cm g3 (ar _ d (.str u)) (ar H i4 (some (x.map AV.aG))) ((a.put (some d) c0).put (some d) (.string ⟨u.toArray⟩)) w3:=R5;rw [xi] at R5
 obtain⟨S5,Dr⟩:∃S5,ar (aQ.S { v:=b_,dm:=some d,hw:=some (i4,x.map AV.aG) } S3 none) d (.str u)=S5:=⟨_,rfl⟩
 rw[Dr]at R5
 have k5d:S5 d=.str u:=by rw[<-Dr];exact aS _ _ _
 have k5:∀t,t≠d->S5 t=S t:=λt ht=>by rw[<-Dr,bj _ _ ht,<-k3 t ht];simp[aQ.S,aT,ar,ht]
 have aan:aH S5 (ar H i4 (some (x.map AV.aG))) (.store .any i9.size (.t i5) (.t d))=some { v:=b_,dm:=some d,hw:=some (i5,[.str u]) }:=by
  simp[aH,ev,k5d,k5 i5 (ad2 Hm),vd,zZ,ar,ad2 Mh,HR.okB,AV.cells,AV.storable,AV.bZ,Hd,bo,bz,AV.aG]
 obtain ⟨c3,w4,g4,LH,acw,W9,R6⟩:=kX R5 (o:={ dst:=none,op := .store 9 (.tmp i5) (.tmp d),type:=0,pos := "",after := #[],guard:=none }) (x1 := .tmp i5) (x2 := .tmp d) (y1 := .t i5) (y2 := .t d) (hr := .any) rfl rfl hi9 (by simp [eO,EP]) (by simp [eO,hd]) (λ_ _=>id) (λ_ _=>id) aan;show wpOpsIn _ _ _ _ _ [2,3,4,5,6] ((aC.put (some 4) (.string ⟨t.toArray⟩)).put (some 5) (.tuple #[c0,.string ⟨u.toArray⟩])) w2
 obtain⟨A,hA,zA,dA,q1,q2,q5⟩:∃A,(aC.put (some 4) (.string ⟨t.toArray⟩)).put (some 5) (.tuple #[c0,.string ⟨u.toArray⟩])=A/\A.tmps.size=8/\A.defers=[]/\A.eval (.tmp 1)=.pointer (some ⟨b4,0,none⟩)/\A.eval (.tmp 2)=.pointer (some ⟨b5,0,none⟩)/\A.eval (.tmp 5)=.tuple #[c0,.string ⟨u.toArray⟩]:=by
  have SM:(aC.put (some 4) (.string ⟨t.toArray⟩)).tmps.size=8:=by rw[jD];exact zC
  refine⟨_,rfl,by rw[jD];exact SM,dC,?_,?_,?_⟩
  .rw[bB _ _ _ _ (by omega),if_neg (by decide),bB _ _ _ _ (by omega),if_neg (by decide)];exact t1
  .rw[bB _ _ _ _ (by omega),if_neg (by decide),bB _ _ _ _ (by omega),if_neg (by decide)];exact t2
  .rw[bB _ _ _ _ (by omega),if_pos rfl]
 rw[hA]
 have v5:(execOp A.eval { dst:=some 3,op := .move (.tmp 5),type:=146,pos := "",after := #[],guard:=none }).run prog w2 = .ok (.value (.tuple #[c0,.string ⟨u.toArray⟩])) w2:=by unfold execOp;simp [q5]
 refine aV rfl rfl (by rfl) v5 ?_;show wpOpsIn _ _ _ _ _ [3,4,5,6] (A.put (some 3) (.tuple #[c0,.string ⟨u.toArray⟩])) w2
 obtain⟨B,hB⟩:∃B,A.put (some 3) (.tuple #[c0,.string ⟨u.toArray⟩])=B:=⟨_,rfl⟩
 have zB:B.tmps.size=8:=by rw[<-hB,jD];exact zA
 have dB:B.defers=[]:=by rw[<-hB];exact dA
 have p1:B.eval (.tmp 1)=.pointer (some ⟨b4,0,none⟩):=by rw[<-hB,bB _ _ _ _ (by omega),if_neg (by decide)];exact q1
 have p2:B.eval (.tmp 2)=.pointer (some ⟨b5,0,none⟩):=by rw[<-hB,bB _ _ _ _ (by omega),if_neg (by decide)];exact q2
 have p3:B.eval (.tmp 3)=.tuple #[c0,.string ⟨u.toArray⟩]:=by rw[<-hB,bB _ _ _ _ (by omega),if_pos rfl]
 rw[hB]
 have v6:(execOp B.eval { dst:=some 6,op := .extract (.tmp 3) 0,type:=31,pos := "",after := #[],guard:=none }).run prog w2 = .ok (.value c0) w2:=by unfold execOp;simp [p3,Instr.extract]
 refine aV rfl rfl (by rfl) v6 ?_;show wpOpsIn _ _ _ _ _ [4,5,6] (B.put (some 6) c0) w2
 obtain⟨C,hC⟩:∃C,B.put (some 6) c0=C:=⟨_,rfl⟩
 have zC:C.tmps.size=8:=by rw[<-hC,jD];exact zB
 have o1:C.eval (.tmp 1)=.pointer (some ⟨b4,0,none⟩):=by rw[<-hC,bB _ _ _ _ (by omega),if_neg (by decide)];exact p1
 have o2:C.eval (.tmp 2)=.pointer (some ⟨b5,0,none⟩):=by rw[<-hC,bB _ _ _ _ (by omega),if_neg (by decide)];exact p2
 have o3:C.eval (.tmp 3)=.tuple #[c0,.string ⟨u.toArray⟩]:=by rw[<-hC,bB _ _ _ _ (by omega),if_neg (by decide)];exact p3
 have o6:C.eval (.tmp 6)=c0:=by rw[<-hC,bB _ _ _ _ (by omega),if_pos rfl]
 rw[hC]
 have v7:(execOp C.eval { dst:=some 7,op := .extract (.tmp 3) 1,type:=9,pos := "",after := #[],guard:=none }).run prog w2 = .ok (.value (.string ⟨u.toArray⟩)) w2:=by unfold execOp;simp [o3,Instr.extract]
 refine aV rfl rfl (by rfl) v7 ?_;show wpOpsIn _ _ _ _ _ [5,6] (C.put (some 7) (.string ⟨u.toArray⟩)) w2
 obtain⟨D,hD⟩:∃D,C.put (some 7) (.string ⟨u.toArray⟩)=D:=⟨_,rfl⟩
 have zD:D.tmps.size=8:=by rw[<-hD,jD];exact zC
 have dD:D.defers=[]:=by rw[<-hD,<-hC];exact dB
 have m1:D.eval (.tmp 1)=.pointer (some ⟨b4,0,none⟩):=by rw[<-hD,bB _ _ _ _ (by omega),if_neg (by decide)];exact o1
 have m2:D.eval (.tmp 2)=.pointer (some ⟨b5,0,none⟩):=by rw[<-hD,bB _ _ _ _ (by omega),if_neg (by decide)];exact o2
 have m6:D.eval (.tmp 6)=c0:=by rw[<-hD,bB _ _ _ _ (by omega),if_neg (by decide)];exact o6
 have m7:D.eval (.tmp 7)=.string ⟨u.toArray⟩:=by rw[<-hD,bB _ _ _ _ (by omega),if_pos rfl]
 rw[hD]
 have f4:∀c,(a.put (some d) c).eval (.tmp i4)=.pointer (some ⟨b4,0,none⟩):=λc=>by rw[bB _ _ _ _ (by omega),if_neg (ad2 FT)];exact e4
 have f5:∀c,(a.put (some d) c).eval (.tmp i5)=.pointer (some ⟨b5,0,none⟩):=λc=>by rw[bB _ _ _ _ (by omega),if_neg (ad2 Hm)];exact e5
 have fd:∀c,(a.put (some d) c).eval (.tmp d)=c:=λc=>by rw[bB _ _ _ _ (by omega),if_pos rfl]
 have bb:∀ o:Oper,o.op = .store 31 (.tmp 1) (.tmp 6)->(execOp D.eval o).run prog w2=(execOp (a.put (some d) c0).eval { dst:=none,op := .store 31 (.tmp i4) (.tmp d),type:=0,pos := "",after := #[],guard:=none }).run prog w2:=by
  intro o ho;unfold execOp;simp only[ho,m1,m6,f4,fd]
 have iy:∀ (D':Act) (o:Oper),o.op = .store 9 (.tmp 2) (.tmp 7)->D'.tmps=D.tmps->(execOp D'.eval o).run prog w3=(execOp (a.put (some d) (.string ⟨u.toArray⟩)).eval { dst:=none,op := .store 9 (.tmp i5) (.tmp d),type:=0,pos := "",after := #[],guard:=none }).run prog w3:=by
  intro D' o ho ht
  have n2:D'.eval (.tmp 2)=.pointer (some ⟨b5,0,none⟩):=by show D'.tmps.getD 2 undef=_;rw[ht];exact m2
  have n7:D'.eval (.tmp 7)=.string ⟨u.toArray⟩:=by show D'.tmps.getD 7 undef=_;rw[ht];exact m7
  unfold execOp;simp only[ho,n2,n7,f5,fd]
 have fin:∀v1 v2:Value,((D.put none v1).put none v2).defers=[]/\∃v',(results f120 ((D.put none v1).put none v2).tmps).run prog w4=.ok v' w4/\(Ending.returned v'=.returned (.tuple #[])/\∃(c:Value)(g':Gh)(S':av)(H':aD),g'.old=g.old/\Rel prog w0 n cm g' S' H' (a.put (some d) c) w4/\(∀t,t≠d->S' t=S t)/\H'=ar (ar H i4 (some (x.map AV.aG))) i5 (some [.str u])):=λv1 v2=>
  ⟨dD,.tuple #[],by simp[results,results120],rfl,_,g4,_,_,by rw[W9];exact wG.trans py,R6,λt ht=>by rw[<-k5 t ht];simp[aQ.S,aT,ar,ht],rfl⟩
 rcases dv with hr|⟨hr,_⟩
 .refine aV rfl rfl (by rfl) ((bb _ rfl).trans hr) ?_
  rcases LH with hr|⟨hr,_⟩
  .exact aV rfl rfl (by rfl) ((iy (D.put none c2) _ rfl rfl).trans hr) (fin c2 _)
  .exact dM rfl rfl (by rfl) ((iy (D.put none c2) _ rfl rfl).trans hr) (fin c2 undef)
 .refine dM rfl rfl (by rfl) ((bb _ rfl).trans hr) ?_
  rcases LH with hr|⟨hr,_⟩
  .exact aV rfl rfl (by rfl) ((iy (D.put none undef) _ rfl rfl).trans hr) (fin undef _)
  .exact dM rfl rfl (by rfl) ((iy (D.put none undef) _ rfl rfl).trans hr) (fin undef undef)
end
def JK:Nat->Bool:=λt=>decide (14<=t)
structure L2(a0:Act)(w:World)(u v:Value)(es:List Int)(c:Bool)(k:Nat)(a:Act)(w':World):Prop where
 size:a.tmps.size=50
 defers:a.defers=[]
 same:eL JK a0 a
 below:Below w.heap.size w w'
 t14:c=true->a.tmps.getD 14 undef=u
 t15:1<=k->a.tmps.getD 15 undef=v
 t16:2<=k->DB w w' (ints es) (a.tmps.getD 16 undef)
 t17:3<=k->∃HT,a.tmps.getD 17 undef=.slice (some ⟨HT,0,none⟩) 1 1/\w'.heap[HT]?=some (.cells #[a.tmps.getD 16 undef] 23 (0,0))/\w.heap.size<=HT
theorem wo{a0 a:Act}(h:eL JK a0 a){d:Nat}(hd:14<=d)(c:Value):eL JK a0 (a.put (some d) c):=h.trans (eL.put (λt ht=>by cases ht;simp[JK,hd]) c)
section
variable{a0 a:Act}{w w':World}{u v:Value}{es:List Int}{c:Bool}{k:Nat}
theorem L2.load(h:L2 a0 w u v es c k a w'):L2 a0 w u v es true k (a.put (some 14) u) w':=by
 have hp:=λt (c:Value)=>iH a 14 t c (by rw[h.size];omega)
 refine⟨by simp[Act.put,h.size],h.defers,wo h.same (by omega) _,h.below,λ_=>by rw[hp,if_pos rfl],λhk=>by rw[hp,if_neg (by decide)];exact h.t15 hk,λhk=>by rw[hp,if_neg (by decide)];exact h.t16 hk,λhk=>?_⟩;rw[hp,if_neg (by decide),hp,if_neg (by decide)];exact h.t17 hk
theorem L2.now(h:L2 a0 w u v es c 0 a w'):L2 a0 w u v es c 1 (a.put (some 15) v) w':=by
 have hp:=λt (c:Value)=>iH a 15 t c (by rw[h.size];omega)
 exact⟨by simp[Act.put,h.size],h.defers,wo h.same (by omega) _,h.below,λhc=>by rw[hp,if_neg (by decide)];exact h.t14 hc,λ_=>by rw[hp,if_pos rfl],λhk=>by omega,λhk=>by omega⟩
theorem L2.copy(h:L2 a0 w u v es c 1 a w'){w2:World}{cl:Value}(hb:Below w'.heap.size w' w2)(hf:DB w' w2 (ints es) cl):L2 a0 w u v es c 2 (a.put (some 16) cl) w2:=by
 have hp:=λt (c:Value)=>iH a 16 t c (by rw[h.size];omega)
 refine⟨by simp[Act.put,h.size],h.defers,wo h.same (by omega) _,h.below.trans (hb.mono h.below.size),λhc=>by rw[hp,if_neg (by decide)];exact h.t14 hc,λhk=>by rw[hp,if_neg (by decide)];exact h.t15 (by omega),λ_=>?_,λhk=>by omega⟩;rw[hp,if_pos rfl];obtain⟨hi,hr⟩:=hf;exact⟨hi,hr.mono (bl.same λb k _ hp=>⟨⟨ael h.below.size hp.1.1,hp.1.2⟩,hp.2⟩)⟩
theorem Af(w:World)(o:Obj):Below w.heap.size w (w.alloc o):=(aeb _ _).alloc (adh _) _
theorem L2.row(h:L2 a0 w u v es c 2 a w'):L2 a0 w u v es c 3 (a.put (some 17) (.slice (some ⟨w'.heap.size,0,none⟩) 1 1)) (w'.alloc (.cells #[a.tmps.getD 16 undef] 23)):=by
 have hp:=λt (c:Value)=>iH a 17 t c (by rw[h.size];omega)
 have hb:=Af w' (.cells #[a.tmps.getD 16 undef] 23);refine⟨by simp[Act.put,h.size],h.defers,wo h.same (by omega) _,h.below.trans (hb.mono h.below.size),λhc=>by rw[hp,if_neg (by decide)];exact h.t14 hc,λhk=>by rw[hp,if_neg (by decide)];exact h.t15 (by omega),λ_=>?_,λ_=>?_⟩
 .rw[hp,if_neg (by decide)];exact(h.t16 (by omega)).grow hb
 .rw[hp,if_pos rfl,hp,if_neg (by decide)];exact⟨_,rfl,ad4 _ _,h.below.size⟩
end
def QG(ops:Array Oper):Bool:=decide (ops.size=6)&&
 (Region.ready .any ops #[false,false,false,false,false,false]==[0,1])&&(Region.ready .any ops #[true,false,false,false,false,false]==[1])&&(Region.ready .any ops #[false,true,false,false,false,false]==[0,2])&&
 (Region.ready .any ops #[true,true,false,false,false,false]==[2])&&(Region.ready .any ops #[false,true,true,false,false,false]==[0,3])&&(Region.ready .any ops #[true,true,true,false,false,false]==[3])&&
 (Region.ready .any ops #[false,true,true,true,false,false]==[0])&&(Region.ready .any ops #[true,true,true,true,false,false]==[4])&&(Region.ready .any ops #[true,true,true,true,true,false]==[5])&&(Region.ready .any ops #[true,true,true,true,true,true]==[])
section
variable{wB:World}{Mi:Nat->Nat->Prop}{bF bN:Nat}{s:az}{cS cR fv:Value}{fs:List (List Int)}{es:List Int}{w:World}{a:Act}{Q:Exit->Act->World->Prop}{m:Nat}
theorem A4 (hG:aw GI) (st:Lv wB Mi bF bN s cS cR fv fs es w) (fU:GI w) (bq:a.tmps.size=50) (dZ:a.defers=[]) (t3:a.tmps.getD 3 undef = .pointer (some ⟨bN,0,none⟩)) (t4:a.tmps.getD 4 undef = .pointer (some ⟨bF,0,none⟩)) (nU:es.length < 1000) (fE:fs.length < 100000)
  {id:Nat} {ops:Array Oper} {o0 o1 o2 o3 o4 o5:Oper} {UN Oh:Call} (h0:ops[0]?=some o0) (h1:ops[1]?=some o1) (h2:ops[2]?=some o2) (h3:ops[3]?=some o3) (h4:ops[4]?=some o4) (h5:ops[5]?=some o5)
  (q0:o0.op=.load 141 (.tmp 4)/\o0.dst=some 14/\o0.guard=none) (q1:o1.op=.load 23 (.tmp 3)/\o1.dst=some 15/\o1.guard=none) (q2:o2.op=.call UN/\o2.dst=some 16/\o2.guard=none) (q3:o3.op=.buildSlice 141 1 #[(0,.tmp 16)]/\o3.dst=some 17/\o3.guard=none)
  (q4:o4.op=.call Oh/\o4.dst=some 18/\o4.guard=none) (q5:o5.op=.store 141 (.tmp 4) (.tmp 18)/\o5.dst=none/\o5.guard=none)
  (c2:UN.callee=.value (.func 114)/\UN.args=#[.tmp 15]) (c4:Oh.callee=.builtin .append/\Oh.args=#[.tmp 14,.tmp 17]/\Oh.argTypes=#[141,141]) (hr:QG ops=true)
  (hk:∀a' w' oe,a'.tmps.size=50->a'.defers=[]->eL JK a a'->(∀b k,Mi b k->oe b k)->Lv wB oe bF bN s cS cR fv (fs++[es]) es w'->Q .normal a' w'):(Code.region id ops true).wpIn (FR none) m prog Q a w:=by
 unfold QG at hr;simp only[adb,adX,adf]at hr;obtain⟨⟨⟨⟨⟨⟨⟨⟨⟨⟨r0,ra⟩,rb⟩,rc⟩,rd⟩,re⟩,rf⟩,rg⟩,rh⟩,ri⟩,rj⟩:=hr;obtain⟨u,tD,xF,v,wH,xN,f1,f2,f3,f4,n1,n2,n3,n4⟩:=st.st;have lF:=(ade.1 f1).1;have lN:=(ade.1 n1).1;obtain⟨d141,ZB,aaU⟩:=js (P:=prog) (t:=141) (by kernel_rfl);obtain⟨d23,ZZ,g23⟩:=js (P:=prog) (t:=23) (by kernel_rfl)
 have KG:prog.underlying 141=some (.slice 23):=by kernel_rfl
 obtain⟨i3,sh,mR⟩:=bp (P:=prog) (t:=3) (s:=1) (by kernel_rfl);obtain⟨i141,Tj,SO⟩:=bp (P:=prog) (t:=141) (s:=1) (by kernel_rfl);obtain⟨i23,Gw,y7⟩:=aep.1 (show(prog.info? 23).bind (λi=>if i.size=1/\i.bytes<=65536 then i.zero else none)=some (.slice none 0 0) by kernel_rfl)
 have Ut:(i23.size=1/\i23.bytes<=65536)/\i23.zero=some (.slice none 0 0):=by
  split at y7
  .exact⟨by assumption,y7⟩
  .cases y7
 obtain⟨⟨Dj,SZ⟩,y7⟩:=Ut;have aaI:=Iq hG (GI:=GI) (ints es) (lj es) (by rw[cb];omega)
 have load:∀{c k a' w' K},L2 a w u v es c k a' w'->(∀a' w',L2 a w u v es true k a' w'->K a' w')->wpOpIn (FR none) m prog ops Q 0 K a' w':=λ{c k a' w' K} h hK=>
  uD h0 q0.2.2 (by rw[q0.1]<;>rfl) (kN (b:=bF) (off:=0) (v:=u) q0.1 ((h.same 4 rfl).trans t4) ZB aaU (by simp[World.cell?,(h.below.block bF lF).trans f1])) (by rw[q0.2.1];exact hK _ _ h.load)
 have now:∀{c a' w' K},L2 a w u v es c 0 a' w'->(∀a' w',L2 a w u v es c 1 a' w'->K a' w')->wpOpIn (FR none) m prog ops Q 1 K a' w':=λ{c a' w' K} h hK=>
  uD h1 q1.2.2 (by rw[q1.1]<;>rfl) (kN (b:=bN) (off:=0) (v:=v) q1.1 ((h.same 3 rfl).trans t3) ZZ g23 (by simp[World.cell?,(h.below.block bN lN).trans n1])) (by rw[q1.2.1];exact hK _ _ h.now)
 have copy:∀{c a' w' K},L2 a w u v es c 1 a' w'->(∀a' w',L2 a w u v es c 2 a' w'->K a' w')->wpOpIn (FR none) m prog ops Q 2 K a' w':=λ{c a' w' K} h hK=>by
  have hv:a'.tmps.getD 15 undef=v:=h.t15 (adh _)
  have WB:w'.ownsRow (bN+1) 3 1 v es.length xN:=fK n2 λb hb=>h.below.block _ (n2.lt b hb).2
  have CH:RD (λ_ _=>True) w' (.slice .view (ints es)) v:=RD.ofRow (size:=1) (es:=ints es) (by rw[cb];exact WB) (n3.mono (bl.of_eq λ_ _ h=>h.elim)) λ_ _ _ _=>trivial
  refine N5 h2 q2.2.2 (by rw[q2.1]<;>rfl) (gK (k:=114) (args:=#[v]) w' q2.1 c2.1 ?_ (by kernel_rfl)) (aaI w' (λ_ _=>True) #[v] (hG w w' fU h.below) rfl (λi hi eb=>by
   match i,hi with
   |0,_=>exact .data _ _ CH)) ?_
  .rw[c2.2];simp only[adK,adC,adO];show #[a'.tmps.getD 15 undef]=_;rw[hv]
  intro en w2 hE;obtain⟨hb,cc,rfl,hf⟩:=Je sh (by rw[mR];exact qy es) (rR es) hE;refine⟨_,rfl,?_⟩;rw[q2.2.1];exact hK _ _ (h.copy hb hf)
 have row:∀{c a' w' K},L2 a w u v es c 2 a' w'->(∀a' w',L2 a w u v es c 3 a' w'->K a' w')->wpOpIn (FR none) m prog ops Q 3 K a' w':=λ{c a' w' K} h hK=>by
  obtain⟨hi,ez⟩:=h.t16 (adh _);exact uD h3 q3.2.2 (by rw[q3.1]<;>rfl) (IH q3.1 KG Gw y7 Dj rfl (ez.one rfl)) (by rw[q3.2.1];exact hK _ _ h.row)
 have tail:∀{a' w'},L2 a w u v es true 3 a' w'->wpAnyIn (FR none) m prog .any ops Q 2 #[true,true,true,true,false,false] a' w':=λ{a' w'} h=>by
  obtain⟨HT,aak,IP,D2⟩:=h.t17 (adh _);have h14:=h.t14 rfl;have Sr:=h.t16 (by omega)
  have nu:(a'.tmps.getD 16 undef).oneCell'=true:=by
   obtain⟨hi,ez⟩:=Sr;exact ez.one rfl
  have Hs:w'.ownsRow (bF+1) 23 1 u fs.length xF:=fK f2 λb hb=>h.below.block _ (f2.lt b hb).2
  have hle:bF+1<=w'.heap.size:=adU lF h.below.size;refine oY rh ?_;obtain⟨u',w2,b',dv,dO,Ij,fY,hor⟩:=I3 (P:=prog) (t:=141) (ty:=o4.type) KG Gw y7 (by rw[Dj]<;>rfl) Dj SZ Hs (by omega) hle (ad:=⟨HT,0,none⟩) (cap:=1) (c:=a'.tmps.getD 16 undef) (by simp[World.cell?,IP]) nu;refine uD (v:=u') (w':=w2) h4 q4.2.2 (by rw[q4.1]<;>rfl) ?_ ?_
  .have e1:a'.eval (.tmp 14)=u:=h14;have e2:a'.eval (.tmp 17)=.slice (some ⟨HT,0,none⟩) 1 1:=aak;unfold execOp;simp[q4.1,c4.1,c4.2.1,c4.2.2,resolve,invoke,builtin,e1,e2,dv]
  rw[q4.2.1];show wpAnyIn (FR none) m prog .any ops Q 1 #[true,true,true,true,true,false] (a'.put (some 18) u') w2;refine oY ri ?_
  have hp:=λt (c:Value)=>iH a' 18 t c (by rw[h.size];omega)
  have uF:u.ownBlock≠some bF:=λe=>by have:=(f2.lt bF e).1;omega
  have Zj:∀b,u.ownBlock=some b->b<w.heap.size:=λb hb=>(f2.lt b hb).2
  have Y6:w2.heap[bF]?=some (.cells #[u] tD (0,0)):=(fY.block bF (adU lF h.below.size) uF).trans ((h.below.block bF lF).trans f1)
  have Ud:u'.oneCell'=true:=by
   rcases dO.2 with⟨rfl,_⟩|⟨_,_,_,rfl,_⟩<;>rfl
  refine N' h5 q5.2.2 (by rw[q5.1]<;>rfl) (gr q5.1 (by show(a'.put (some 18) u').tmps.getD 4 undef=_;rw[hp,if_neg (by decide)];exact(h.same 4 rfl).trans t4) Tj SO Y6 (by show(a'.put (some 18) u').tmps.getD 18 undef=u';rw[hp,if_pos rfl]) Ud) ?_;rw[q5.2.1];refine⟨rj,?_⟩;obtain⟨hi,ez⟩:=Sr
  have LV:∀b,b<w.heap.size->b<w'.heap.size:=λb hb=>adU hb h.below.size
  have XQ:w'.heap.size<=w2.heap.size:=fY.size
  have TK:(w2.setRow bF #[u']).heap.size=w2.heap.size:=by simp
  have old:∀b,b<w'.heap.size->b≠bF->u.ownBlock≠some b->(w2.setRow bF #[u']).heap[b]?=w'.heap[b]?:=λb hb h1 h2=>(aec w2 bF b #[u'] h1).trans (fY.block b hb h2)
  have GX:∀b,b<w.heap.size->b≠bF->u.ownBlock≠some b->(w2.setRow bF #[u']).heap[b]?=w.heap[b]?:=λb hb h1 h2=>(old b (LV b hb) h1 h2).trans (h.below.block b hb)
  have bF':b'≠bF:=λe=>by have:=(dO.lt b' Ij).1;omega
  refine hk (a'.put (some 18) u') (w2.setRow bF #[u']) (λb k=>Mi b k\/((w.heap.size<=b/\b<w'.heap.size)/\k<hi b)) (by simp[Act.put,h.size]) h.defers (wo h.same (by omega) _) (λb k hm=>.inl hm) ?_
  have MH:bl Mi (λb k=>Mi b k\/((w.heap.size<=b/\b<w'.heap.size)/\k<hi b)) w (w2.setRow bF #[u']):=bl.of_eq λb k hm=>⟨.inl hm,GX b (st.lt b k hm) (λe=>st.gF k (e▸hm)) λe=>(f4 b e).2 k hm⟩
  refine⟨?_,st.ge,?_,?_,?_,⟨u',tD,xF++[a'.tmps.getD 16 undef],v,wH,xN,aeJ w2 bF _ #[u'] tD (0,0) Y6,?_,⟨BQ _,?_⟩,?_,?_,?_,?_,?_⟩,st.s.mono MH λ_ _ h=>h,st.r.mono MH λ_ _ h=>h⟩
  .have b1:=st.below.trans (h.below.mono st.below.size);have b2:=b1.trans (fY.below b1.size λb hb=>ael st.ge.1 (agx (f2.lt b hb).1));refine b2.trans ⟨rfl,rfl,rfl,by rw[TK];exact adh _,λk hk=>aec w2 bF k #[u'] λe=>?_⟩;have:=st.ge.1;omega
  .rintro b k (hm|hm)
   .rw[TK];exact adU (LV b (st.lt b k hm)) XQ
   .rw[TK];exact adU hm.1.2 XQ
  .rintro k (hm|hm)
   .exact st.gF k hm
   .have:=hm.1.1;omega
  .rintro k (hm|hm)
   .exact st.gN k hm
   .have:=hm.1.1;omega
  .have e:(fs++[es]).length=fs.length+1:=by simp
   rw[e]
   exact fK dO λb hb=>aec w2 bF b #[u'] λe=>bF' (by rw[Ij]at hb;cases hb;exact e)
  .intro j hj k Ew
   have BK:xF.length=fs.length:=by have:=f2.1;simpa using this
   have Ez:k=0:=by
    have h1:=(BQ (fs++[es]) _ (ada hj)).1;omega
   subst Ez;rw[aeD,Nat.add_zero]
   by_cases nc:j<fs.length
   .have dY:j<(fs.map vI).length:=by simpa using nc
    have iJ:((fs++[es]).map vI)[j]=(fs.map vI)[j]:=by
     rw[adp,adp,adA nc]
    obtain⟨x,x1,x2⟩:=f3.2 j dY 0 (by rw[<-iJ];exact Ew);rw[aeD,Nat.add_zero]at x1;refine⟨x,by rw[aem (by omega)];exact x1,?_⟩;simp only[iJ];exact x2.mono (bl.of_eq λb k hm=>⟨⟨.inl hm.1,hm.2⟩,GX b (st.lt b k hm.1) (λe=>st.gF k (e▸hm.1)) λe=>(f4 b e).2 k hm.1⟩)
   .have Bu:j=fs.length:=by simp at hj;omega
    subst Bu;refine⟨a'.tmps.getD 16 undef,by rw[<-BK];simp,?_⟩
    have iJ:((fs++[es]).map vI)[fs.length]=vI es:=by simp
    simp only[iJ];exact ez.mono (bl.of_eq λb k hm=>⟨⟨.inr hm,ael st.below.size hm.1.1⟩,old b hm.1.2 (λe=>by have:=hm.1.1;omega) λe=>by have:=Zj b e;have:=hm.1.1;omega⟩)
  .intro b hb;rw[Ij]at hb;cases hb;rcases hor with ho|ho
   .refine⟨(f4 b' ho).1,?_⟩;rintro k (hm|hm)
    .exact(f4 b' ho).2 k hm
    .have:=Zj b' ho;have:=hm.1.1;omega
   .refine⟨λe=>by have:=LV bN lN;omega,?_⟩;rintro k (hm|hm)
    .have:=LV b' (st.lt b' k hm);omega
    .have:=hm.1.2;omega
  .exact(GX bN lN (λe=>st.ge.2.2 e.symm) λe=>(f4 bN e).1 rfl).trans n1
  .exact fK n2 λb hb=>GX b (n2.lt b hb).2 (n4 b hb).1 (n4 b hb).2.1
  .exact n3.mono (bl.of_eq λ_ _ h=>h.elim)
  .intro b hb;refine⟨(n4 b hb).1,λe=>?_,?_⟩
   .rw[Ij]at e;cases e;rcases hor with ho|ho
    .exact(n4 b' hb).2.1 ho
    .have:=LV b' (n2.lt b' hb).2;omega
   .rintro k (hm|hm)
    .exact(n4 b hb).2.2 k hm
    .have:=(n2.lt b hb).2;have:=hm.1.1;omega
 have s3:∀{a' w'},L2 a w u v es true 3 a' w'->wpAnyIn (FR none) m prog .any ops Q 2 #[true,true,true,true,false,false] a' w':=tail
 have s2:∀{a' w'},L2 a w u v es true 2 a' w'->wpAnyIn (FR none) m prog .any ops Q 3 #[true,true,true,false,false,false] a' w':=λh=>oY rf (row h λ_ _ h=>s3 h)
 have s1:∀{a' w'},L2 a w u v es true 1 a' w'->wpAnyIn (FR none) m prog .any ops Q 4 #[true,true,false,false,false,false] a' w':=λh=>oY rd (copy h λ_ _ h=>s2 h)
 have p3:∀{a' w'},L2 a w u v es false 3 a' w'->wpAnyIn (FR none) m prog .any ops Q 3 #[false,true,true,true,false,false] a' w':=λh=>oY rg (load h λ_ _ h=>s3 h)
 have p2:∀{a' w'},L2 a w u v es false 2 a' w'->wpAnyIn (FR none) m prog .any ops Q 4 #[false,true,true,false,false,false] a' w':=λh=>y8 re (load h λ_ _ h=>s2 h) (row h λ_ _ h=>p3 h)
 have p1:∀{a' w'},L2 a w u v es false 1 a' w'->wpAnyIn (FR none) m prog .any ops Q 5 #[false,true,false,false,false,false] a' w':=λh=>y8 rc (load h λ_ _ h=>s1 h) (copy h λ_ _ h=>p2 h)
 have s0:∀{a' w'},L2 a w u v es true 0 a' w'->wpAnyIn (FR none) m prog .any ops Q 5 #[true,false,false,false,false,false] a' w':=λh=>oY rb (now h λ_ _ h=>s1 h)
 refine afC cV ?_;rw[r0];show wpAnyIn (FR none) m prog .any ops Q 6 #[false,false,false,false,false,false] a { w with drawn:=w.drawn+1 }
 have XB:L2 a w u v es false 0 a { w with drawn:=w.drawn+1 }:=⟨bq,dZ,eL.refl _ _,⟨rfl,rfl,rfl,adh _,λ_ _=>rfl⟩,(λh=>by cases h),λh=>by omega,λh=>by omega,λh=>by omega⟩
 exact y8 ra (load XB λ_ _ h=>s0 h) (now XB λ_ _ h=>p1 h)
end
end Go.Proofs.Tryz
namespace Go.Proofs.Tryz
open Go Go.AL Go.RowKit Go.Proofs Go.Proofs.Tram
attribute [local simp] dF fc nC ml ef dI dJ cZ c_ ee cW cE gh gj aF aH ev aQ.S aQ.H bz ar aT AL.start AV.cells AV.storable AV.bZ bo bX dS b0 HR.okB post cy cJ cK AV.out AV.bT cb dk fz gI AV.vw df vI int b_ aM cU db gB iN eY dQ bQ AV.aG AV.bH
variable{GI:World->Prop}
def Yy(n:Int):Prop:=0<=n/\n<100
def T7(l:List Int):Prop:=∀n∈l,Yy n
theorem Vf(hG:aw GI)(l:List Int)(h0:l≠[])(hl:l.length<1000)(h:T7 l):AC prog GI 279 [vI l] (.ret (.slice (.own 9) ((l.map kJ).map .str))):=by
 refine AC.iF func279 rfl ntmps279 (by simp) λcc w=>?_
 refine dU hG c279.qa (λS' H'=>S' 0=vI l) (by simp[c279,af.qa,ai,ah]) ?_;rintro S1 H1 s0;refine dU hG c279.qb.qa (λS' H'=>S' 0=vI l/\S' 3=.slice .nil []) (by simp[c279,af.qa,af.qb,s0,ai,ah]) ?_;rintro S2 H2 ⟨s0,s3⟩;refine dU hG c279.qb.qb.qa (λS' H'=>S' 3=grow 9 ((l.map kJ).map AV.str)) ?_ ?_
 .simp[c279,af.qa,af.qb,s0,s3,ai,ah];refine bw 8 l.length (λi S H=>S 6=vI l/\S 7=.int .i64 (l.length:Nat)/\S 8=.int .i64 (i:Nat)/\S 3=grow 9 (((l.take i).map kJ).map AV.str)) (λi S H h=>h.2.2.1) ⟨by simp[s0,ai,ah],by simp[s0,ai,ah],by simp[ai,ah],by simp[s3,grow,ai,ah]⟩ ?_;clear s0 s3;rintro i hi S H ⟨s6,s7,s8,s3⟩
  by_cases au:i<l.length
  case neg=>
   have cH:i=l.length:=by omega
   subst cH;rw[adn (adh _)]at s3;simp[s6,s7,s8,s3,grow,h0,ai,ah]
  have hw:IntKind.i64.wrap ((i:Int)+1)=i+1:=aN (by omega);have hn:=h _ (ada au);have a157:=vy (GI:=GI) hn.1 hn.2
  have ht:(l.take (i+1)).map kJ=(l.take i).map kJ++[kJ l[i]]:=by
   rw[adj au,adD]<;>rfl
  have hlen:((l.take i).map kJ).length<=1000:=by simp;omega
  rw[ht]
  generalize(l.take i).map kJ=B at*
  generalize kJ l[i]=t at*
  have dT:aJ 1 [AV.str t]=true:=rfl;simp[s6,s7,s8,s3,au];refine oc a157 ?_;simp[s6,s7,s8,s3,dT];refine fx (B.map AV.str) (AV.str t) (.own 9) (by simp[s3,grow]) (by simp) dT (L5 B) (by rw[adi];omega) ?_;intro S' sd dP;simp[sd,dP,s6,s7,s8,au,hw,grow]
 clear s0 s3;rintro S3 H3 s3
 have hg:grow 9 ((l.map kJ).map AV.str)=.slice (.own 9) ((l.map kJ).map AV.str):=by unfold grow;rw[if_neg (by simpa using h0)]
 rw[hg]at s3;generalize(l.map kJ).map AV.str=L at s3⊢;show SW prog GI 19 none (.seq (.region _ _ false) .ret) _ _ _ _
 refine SW.seq (SW.hand hG (p:=0) (lm:=[0,1]) (l2:=[]) (kd:=[]) (oh:=[_,_]) (lI:=[]) rfl rfl rfl rfl (by kernel_rfl) (λ_ h=>h) (lU:=[]) (kZ:=[]) rfl rfl rfl rfl
  (K1:=λS H=>S 3=.slice (.own 9) L) (K2:=λo S H=>o=Old.plain cc w/\S 2=.slice (.own 9) L) (K3:=λo S H=>o=Old.plain cc w/\S 2=.slice (.own 9) L) ?_ ?_ ?_ ?_)
 .exact s3
 .rintro w0 g S H a w' m cT ho R s6;have r6:=R.slot 3 (by decide) (λh=>h);rw[s6]at r6;have bq:=R.size
  obtain⟨c,hc⟩:∃c,a.tmps.getD 3 undef=c:=⟨_,rfl⟩
  rw[hc]at r6;have rv:RD g.Pr w' (.slice .view L) c:=(r6.fj rfl).aG;refine aV rfl rfl (by rfl) ((run_move (x:=.tmp 3) w' rfl).trans (congrArg (λv=>Result.ok (Next.value v) w') hc)) ?_;have R1:=R.put 18 (.slice .view L) c (by decide) (.data _ _ rv) trivial
  have rK:(a.put (some 18) c).tmps.getD 18 undef=c:=by simp[Act.put,bq]
  refine aV rfl rfl (by rfl) ((run_assign (x:=.tmp 18) w' rfl).trans (congrArg (λv=>Result.ok (Next.value v) w') rK)) ?_;have R2:=R1.put 2 (.slice .view L) c (by decide) (.data _ _ rv) trivial
  have e4:((a.put (some 18) c).put (some 2) c).tmps.getD 2 undef=c:=by simp[Act.put,bq]
  have e6:((a.put (some 18) c).put (some 2) c).tmps.getD 3 undef=a.tmps.getD 3 undef:=by simp[Act.put,adg]
  obtain⟨g',q1,R3⟩:=R2.JE (t:=3) (u:=2) (e:=9) (es:=L) (by decide) (by decide) (by decide) (by simp[ar,s6]) (by rw[e4,e6,hc]);exact⟨g',_,_,R3,by rw[q1];exact ho,aS _ _ _⟩
 .rintro o S H ⟨rfl,s4⟩;exact⟨λ_ h=>h,rfl,s4⟩
 .rintro o S H ⟨rfl,s4⟩;refine SW.ret ⟨eD.plain rfl,rfl,_,?_,rfl⟩;show cy prog 19 [.tmp 2] S H=_;simp[cy,cJ,cK,s4,AV.bT,AV.out]
end Go.Proofs.Tryz
namespace Go.Proofs.YtdiflocclemeaaaGreatDoor
open Go Go.AL Go.ChangeShapes Go.WideShapes Go.ChangeAt Go.RowKit Go.Proofs.Tryz
theorem A7:mapsRowed Tryz.prog=true:=by kernel_rfl
theorem KQ:(Tryz.prog.stops==[])=true:=by kernel_rfl
theorem Ai:(Tryz.prog.stopKnobs==[])=true:=by kernel_rfl
theorem zU:Tryz.prog.plainKeys=false:=by kernel_rfl
theorem yb:Tryz.prog.stopsHeard=true:=by kernel_rfl
theorem LF:true=Tryz.prog.looks []:=by kernel_rfl
theorem FL {f:FuncId} {fn:Func} {s:ChangeSpec} {c:OpenClaim}
  (h0:c.stops=[]/\c.knobs=[]/\c.plainKeys=false/\c.shortTexts=none/\c.lifted=false/\c.make=.cut)
  (h1:c.wf (OpenSpec.ofChange s)=true) (h2:fn.params.all (Tryz.prog.readableRec ·)=true) (h3:namedTie Tryz.prog c.named s.vars=true)
  (h4:(c.inPlace==Tryz.prog.inPlace f)=true) (h5:(c.unfollowed==Tryz.prog.unfollowed f)=true) (h6:(c.recurses==Tryz.prog.recurses f)=true) (h7:(c.named==Tryz.prog.varsNamed f)=true)
  (h8:((c.maps==(fn.params.toList++s.plain.varTypes Tryz.prog).any (Tryz.prog.mapsRec ·))&&(c.ifaces==(fn.params.toList++s.plain.varTypes Tryz.prog).any (Tryz.prog.ifacesRec ·))&&(c.mapsOut==Tryz.prog.mapsAmong fn.resultTypes.toList)&&
   (c.loops==(fn.params.toList++s.plain.varTypes Tryz.prog).any (Tryz.prog.loopsFrom ·))&&(c.wideKeys==(fn.params.toList++s.plain.varTypes Tryz.prog++fn.resultTypes.toList).any (Tryz.prog.wideKeysFrom ·))&&
   s.vars.all (Tryz.prog.varReadable ·)&&fn.resultTypes.all (λt=>Tryz.prog.readableRec t&&decide (t<Tryz.prog.types.size))&&(c.ifacesOut==fn.resultTypes.toList.any (Tryz.prog.ifacesRec ·))&&(c.loopsOut==fn.resultTypes.toList.any (Tryz.prog.loopsFrom ·)))=true)
  (h9:(c.kinds==(if c.domain.isEmpty then[]else fn.params.toList.map λt=>match Tryz.prog.underlying t with|some (.int k)=>some k|_=>none))=true) (nB:(c.pinned==c.pinnedBy)=true)
  (L':((c.veiled==(fn.params.toList++s.plain.varTypes Tryz.prog++fn.resultTypes.toList).any (Tryz.prog.veiledRec ·))&&c.veiledFits Tryz.prog fn.params.toList (fn.params.toList++s.plain.varTypes Tryz.prog++fn.resultTypes.toList))=true):
  joinedFacts Tryz.prog f fn s c=true:=by
 obtain⟨a1,a2,a3,a4,a5,a6⟩:=h0;unfold joinedFacts;simp only[adb]at h8 L'⊢;obtain⟨⟨⟨⟨⟨⟨⟨⟨b1,b2⟩,b3⟩,b4⟩,b5⟩,b6⟩,b7⟩,b8⟩,b9⟩:=h8;refine⟨⟨⟨⟨⟨⟨⟨⟨⟨⟨⟨⟨⟨⟨⟨⟨⟨⟨⟨⟨⟨⟨⟨⟨⟨⟨⟨⟨⟨⟨⟨h1,y4⟩,A7⟩,h2⟩,h3⟩,?_⟩,KQ⟩,?_⟩,Ai⟩,h4⟩,h5⟩,h6⟩,h7⟩,b1⟩,b2⟩,b3⟩,b4⟩,b5⟩,b6⟩,b7⟩,b8⟩,b9⟩,?_⟩,?_⟩,yb⟩,B8⟩,?_⟩,?_⟩,h9⟩,nB⟩,L'.1⟩,L'.2⟩
 .rw[a1];rfl
 .rw[a2];rfl
 .rw[a3,zU];rfl
 .rw[a4];rfl
 .rw[a5,yD];rfl
 .rw[PE,a6];rfl
theorem IF {G:World→Prop} {f:Nat} {PV:List AV} {W:World} {args:Array Value} (h:AC Tryz.prog G f PV (.ret (.bool true))) (hG:G W) (hl:PV.length=args.size) (hr:∀ i (h:i < PV.length) (h':i < args.size),RV T0 (fun _=>none) W PV[i] args[i]) :
  Calls Tryz.prog f args W λe W'=>e=.returned (.bool true)/\Below W.heap.size W W':=by
 refine(h W T0 args hG hl hr).mono ?_;rintro e W' ⟨hb,hi,_,c,rfl,hv,_⟩
 cases hv with
 |data _ _ h=>cases h with
  |bool b=>exact⟨rfl,hb⟩
end Go.Proofs.YtdiflocclemeaaaGreatDoor
namespace Go.AL
open Go.RowKit
variable{P:Program}{GI:World->Prop}
theorem VC {K:av→aD→Prop} {Qp:AV→Prop} {S:av} {H:aD} {t e size cap d i j:Nat} {rest:List cC} (l vs:List AV) (o:Ow) (hi:S i=grow e l) (hj:S j = .slice o vs) (hv:aJ size vs=true) (hl:aJ size l=true) (hn:l.length+vs.length < 1048576)
  (h:∀S',S' d=grow e (l++vs)->(∀k,k≠d->k≠i->S' k=S k)->bn P GI rest K Qp S' H):bn P GI (⟨some d,none,.append t e size cap (.t i) (.t j)⟩::rest) K Qp S H:=by
 obtain⟨dm,Df,ke⟩:=Y8 (t:=t) (cap:=cap) (H:=H) hi hj hv hl hn;obtain⟨k1,k2⟩:=qo (S:=S) (d:=d) Df (grow e (l++vs));rw[ai];simp only[aF,ke];exact h _ k1 k2
theorem Vz {K:av→aD→Prop} {Qp:AV→Prop} {S:av} {H:aD} {t e size cap d j:Nat} {rest:List cC} (vs:List AV) (o:Ow) (hj:S j = .slice o vs) (hv:aJ size vs=true) (hn:vs.length < 1048576)
  (h:bn P GI rest K Qp (ar S d (grow e vs)) H):bn P GI (⟨some d,none,.append t e size cap (.c (.slice .nil [])) (.t j)⟩::rest) K Qp S H:=by
 have ej:ev S (.t j)=.slice o vs:=hj;rw[ai];simp only[aF,aH,ej];have e1:ev S (.c (.slice .nil []))=.slice .nil []:=rfl;rw[e1];have e2:aJ size []=true:=rfl
 by_cases h0:vs=[]
 .subst h0;simp[grow,aT,bX]at h⊢;exact h
 .have hg:grow e vs=.slice (.own e) vs:=by unfold grow;rw[if_neg h0]
  rw[hg]at h;simp[hv,hn,h0,aT,bX];exact h
end Go.AL
namespace Go.Proofs.Tryz
open Go Go.AL Go.RowKit Go.Proofs Go.Proofs.Tram
attribute [local simp] dF fc eT dW ef dI dJ cZ c_ ee cW cE gh gj aF aH ev aQ.S aQ.H bz ar aT AL.start AV.cells AV.storable AV.bZ bo bX dS b0 HR.okB post cy cJ cK AV.out AV.bT cb dk fz gI AV.vw df vI int b_ aM cU db gB iN eY dQ bQ AV.aG AV.bH
def bS:aq:=⟨[6,4,8],[⟨0,1,1,3⟩,⟨2,0,0,2⟩],2,4,5,8,3,[⟨[2,0,1],[],false⟩,⟨[0,2],[1],true⟩],18,2⟩
variable{GI:World->Prop}
theorem Bw(hG:aw GI)(a b:Int):AC prog GI 182 [.int .i64 a,.int .i64 b] (.ret (aX (a,b))):=by
 obtain⟨i33,Ka,KU⟩:=bp (P:=prog) (t:=26) (s:=2) (by kernel_rfl);obtain⟨fs,fE⟩:=cd (P:=prog) (t:=26) (by kernel_rfl);refine bW hG func182 ntmps182 c182 ?_;simp[c182,Ka,KU,fE,eS,aX,bI]
theorem UY(hG:aw GI):AC prog GI 134 [] (.ret (bP { bS with wide:=21 })):=by
 obtain⟨i36,nO,nS⟩:=bp (P:=prog) (t:=29) (s:=10) (by kernel_rfl);obtain⟨fs,fE⟩:=cd (P:=prog) (t:=29) (by kernel_rfl);refine bW hG func134 ntmps134 c134 ?_;simp[c134,aJ];refine oc (Bw hG 1 3) ?_;simp[aX,bI,aJ];refine oc (Bw hG 0 2) ?_;simp[aX,bI,aJ];refine oc (Bw hG 2 4) ?_;simp[aX,bI,aJ];refine oc (Bw hG 5 8) ?_;simp[aX,bI,aJ,nO,nS,fE,eS,bP,ae,bS,bD,dq,ints]
end Go.Proofs.Tryz
namespace Go.Proofs.Tryz
open Go Go.AL Go.RowKit Go.Proofs Go.Proofs.Tram
attribute [local simp] dF fc eT dW ef dI dJ cZ c_ ee cW cE gh gj aF aH ev aQ.S aQ.H bz ar aT AL.start AV.cells AV.storable AV.bZ bo bX dS b0 HR.okB post cy cJ cK AV.out AV.bT cb dk fz gI AV.vw df vI int b_ aM cU db gB iN eY dQ bQ AV.aG AV.bH
variable{GI:World->Prop}
def jr:az:=⟨[⟨2,3,false⟩,⟨2,2,false⟩,⟨1,2,true⟩,⟨3,4,false⟩,⟨2,5,false⟩,⟨1,1,false⟩],6,5,2,1,{ bS with wide:=21 }⟩
def xm:az:={ jr with eH:=1 }
def sr:az:={ jr with name:=⟨[5],[],0,0,0,0,1,[⟨[0,0,0,0],[1,3],false⟩],16,2⟩ }
theorem AH:qx sr=[vI [9],.int .i64 0]:=by kernel_rfl
theorem A5:Ak jr=[.slice .view (aO [(1,1),(3,5)]),.int .i64 0]:=by kernel_rfl
theorem CN:rn jr [3,2,2,4,5,1]=[.int .i64 2,.int .i64 0]:=by kernel_rfl
theorem Du:j_ 0 jr=[.int .i64 1,.int .i64 0]:=by kernel_rfl
theorem BP:j_ 1 sr=[.int .i64 1,.int .i64 0]:=by kernel_rfl
theorem Dk:ov jr 1=[.int .i64 2,.int .i64 0]:=by kernel_rfl
theorem CK:rQ jr=[.int .i64 1,.int .i64 4,.int .i64 0]:=by kernel_rfl
theorem Ep:yU xm=[.int .i64 3,.int .i64 0]:=by kernel_rfl
theorem BU:rF jr=[.int .i64 1,.int .i64 0]:=by kernel_rfl
theorem Dn:rl xm=[.int .i64 4,.int .i64 2,.int .i64 0]:=by kernel_rfl
theorem oC:eZ jr:=⟨by decide,by decide,by decide,by decide,λw hw=>by
 simp[jr,bS]at hw;rcases hw with rfl|rfl<;>decide,λw hw=>by
 simp[jr,bS]at hw;rcases hw with rfl|rfl<;>decide⟩
theorem Ml:eZ xm:=⟨oC.cells,oC.name⟩
theorem Ky:eZ sr:=⟨by decide,by decide,by decide,by decide,λw hw=>by
 simp[sr]at hw;subst hw;decide,λw hw=>by
 simp[sr]at hw;subst hw;decide⟩
theorem tO(hG:aw GI)(lo hi:Int)(hid:Bool):AC prog GI 133 [.int .i64 lo,.int .i64 hi,.bool hid] (.ret (iK ⟨lo,hi,hid⟩)):=by
 obtain⟨i52,ZU,aas⟩:=bp (P:=prog) (t:=52) (s:=3) (by kernel_rfl);obtain⟨fs,fE⟩:=cd (P:=prog) (t:=52) (by kernel_rfl);refine bW hG func133 ntmps133 c133 ?_;simp[c133,ZU,aas,fE,eS,iK,bI]
theorem qu:∃it,prog.info? 31=some it/\it.size=15:=bp (by kernel_rfl)
theorem J8(hG:aw GI):AC prog GI 74 [] (.ret (a_ jr)):=by
 obtain⟨i31,my,mq⟩:=qu;obtain⟨fs,fE⟩:=cd (P:=prog) (t:=31) (by kernel_rfl);refine bW hG func74 ntmps74 c74 ?_;simp[c74];refine oc (tO hG 2 3 false) ?_;simp[iK];refine oc (tO hG 2 2 false) ?_;simp[iK];refine oc (tO hG 1 2 true) ?_;simp[iK];refine oc (tO hG 3 4 false) ?_;simp[iK];refine oc (tO hG 2 5 false) ?_;simp[iK];refine oc (tO hG 1 1 false) ?_;simp[iK,aJ];refine oc (UY hG) ?_;simp[iK,aJ,bI,my,mq,fE,eS,a_,ao,bP,ae,jr]
theorem ZY(hG:aw GI)(s:az)(p:Int):AC prog GI 51 [a_ s,.int .i64 p] (.ret (a_ { s with eH:=p })):=by
 obtain⟨i31,my,mq⟩:=qu;obtain⟨fs,fE⟩:=cd (P:=prog) (t:=31) (by kernel_rfl);refine bW hG func51 ntmps51 c51 ?_;simp[c51,a_,ao,ae,my,mq,fE,eS,bI]
theorem aad(hG:aw GI):AC prog GI 75 [] (.ret (a_ xm)):=by
 obtain⟨i31,my,mq⟩:=qu;obtain⟨fs,fE⟩:=cd (P:=prog) (t:=31) (by kernel_rfl);have h:=ZY hG jr 1;refine bW hG func75 ntmps75 c75 ?_;simp[c75];refine oc (J8 hG) ?_;simp[a_,ao,ae];refine oc h ?_;simp[my,mq,fE,eS,bI,a_,ao,ae,xm]
theorem aai(hG:aw GI):AC prog GI 73 [] (.ret (a_ sr)):=by
 obtain⟨i31,my,mq⟩:=qu;obtain⟨fs,fE⟩:=cd (P:=prog) (t:=31) (by kernel_rfl);refine bW hG func73 ntmps73 c73 ?_;simp[c73];refine oc (J8 hG) ?_;simp[my,mq,fE,eS,bI,aJ,a_,ao,ae,sr,bD,ints]
end Go.Proofs.Tryz
namespace Go.Proofs.Tryz
open Go Go.AL Go.RowKit Go.Proofs Go.Proofs.Tram
attribute [local simp] dF fc eT dW ef dI dJ cZ c_ ee cW cE gh gj aF aH ev aQ.S aQ.H bz ar aT AL.start AV.cells AV.storable AV.bZ bo bX dS b0 HR.okB post cy cJ cK AV.out AV.bT cb dk fz gI AV.vw df vI int b_ aM cU db gB iN eY dQ bQ
variable{GI:World->Prop}
def fD(s:az)(out:List Int):az:={ s with name:=tg s.name out }
theorem rX{s:az}(hs:cL s=true){l:List Int}(ho:cq s.name l=true):cL (fD s l)=true:=by
 unfold cL at hs⊢;rw[adb]at hs⊢;exact⟨hs.1,CR hs.2 ho⟩
def lM(s:az)(l:List Word):List AV:=[.slice .view (s.cells.map iK),.int .i64 s.pos,.int .i64 s.reach,.int .i64 s.eH,.int .i64 s.dE,vI s.name.aY,.slice .view (s.name.aR.map dq),.int .i64 s.name.ib,.int .i64 s.name.g_,.int .i64 s.name.lx,.int .i64 s.name.lL,.int .i64 s.name.cG,grow 44 (l.map bD),.int .i64 s.name.wide,.int .i64 s.name.rows]
theorem wi(l:List Word):aJ 3 (l.map bD)=true:=gx λa=>⟨rfl,rfl⟩
theorem UJ(hG:aw GI)(s:az)(hl:s.name.words.length<1000)(out:List Int)(ho:out.length<1000000):AC prog GI 160 [a_ s,vI out] (.ret (a_ (fD s out))):=by
 obtain⟨it,my,mq⟩:=qu;obtain⟨fs,fE⟩:=cd (P:=prog) (t:=31) (by kernel_rfl)
 have YK:=λi:Nat=>EX (GI:=GI) hG out ho (i:Int)
 refine bW hG func160 ntmps160 c160 ?_;refine aI (λS H=>S 1=vI out/\S 2=.box 2 0/\H 2=some (ao s)/\S 4=.box 4 0/\∃z,H 4=some z/\z.length=15) (by simp[a_,ao,ae,AV.aG,AV.bH]) ?_;rintro S H ⟨s1,s2,h2,s4,z,h4,hz⟩;refine aI (λS H=>S 1=vI out/\S 2=.box 2 0/\H 2=some (ao s)/\S 4=.box 4 0/\H 4=some z/\S 5=.box 5 0/\H 5=some (ao s)) (by simp[s1,s2,h2,s4,h4,ao,ae,AV.aG,AV.bH]) ?_;clear s1 s2 h2 s4 h4 S H;rintro S H ⟨s1,s2,h2,s4,h4,s5,h5⟩;refine aI (λS H=>S 1=vI out/\S 2=.box 2 0/\H 2=some (ao s)/\S 4=.box 4 0/\H 4=some z/\S 5=.box 5 0/\H 5=some (lM s [])) (by simp[s1,s2,h2,s4,h4,s5,h5,ao,ae,lM,grow,AV.aG,AV.bH]) ?_;clear s1 s2 h2 s4 h4 s5 h5 S H;rintro S H ⟨s1,s2,h2,s4,h4,s5,h5⟩;refine aI (λS H=>S 4=.box 4 0/\H 4=some z/\S 5=.box 5 0/\H 5=some (lM s (fL out 0 s.name.words))) ?_ ?_
 .simp[s1,s2,h2,s4,h4,s5,h5,ao,ae,AV.aG,AV.bH];refine bw 15 s.name.words.length (λi S H=>S 1=vI out/\S 13=.slice .view (s.name.words.map bD)/\S 14=.int .i64 s.name.words.length/\S 4=.box 4 0/\H 4=some z/\S 5=.box 5 0/\H 5=some (lM s (fL out 0 (s.name.words.take i)))/\S 15=.int .i64 (i:Nat)) (λi S H h=>h.2.2.2.2.2.2.2) ⟨by simp[s1,AV.aG,AV.bH],by simp[s1,h2,ao,ae,AV.aG,AV.bH],by simp[s1,h2,ao,ae,AV.aG,AV.bH],by simp[s4,AV.aG,AV.bH],by simp[h4,AV.aG,AV.bH],by simp[s5,AV.aG,AV.bH],by simp[h5,fL,AV.aG,AV.bH],by simp[AV.aG,AV.bH]⟩ ?_;clear s1 s2 h2 s4 h4 s5 h5 S H;rintro i hi S H ⟨s1,cz,di,s4,h4,s5,h5,gm⟩
  by_cases au:i<s.name.words.length
  case neg=>
   have cH:i=s.name.words.length:=by omega
   subst cH;rw[adn (adh _)]at h5;simp[s1,cz,di,s4,h4,s5,h5,gm,AV.aG,AV.bH]
  have hw:IntKind.i64.wrap ((i:Int)+1)=i+1:=aN (by omega);have jC:=tw out au;have hle:=nM out (s.name.words.take i) 0
  have uB:(fL out 0 (s.name.words.take i)).length<1000:=by rw[adM]at hle;omega
  obtain⟨wd,lE⟩:∃wd,s.name.words[i]=wd:=⟨_,rfl⟩
  have a198:=YK i;rw[jC]
  generalize fL out 0 (s.name.words.take i)=L at*
  refine aI (λS H=>S 1=vI out/\S 13=.slice .view (s.name.words.map bD)/\S 14=.int .i64 s.name.words.length/\S 4=.box 4 0/\H 4=some z/\S 5=.box 5 0/\H 5=some (lM s L)/\S 15=.int .i64 (i:Nat)/\S 16=.bool true) (by simp[s1,cz,di,s4,h4,s5,h5,gm,au,AV.aG,AV.bH]) ?_;clear s1 cz di s4 h4 s5 h5 gm S H;rintro S H ⟨s1,cz,di,s4,h4,s5,h5,gm,eV⟩
  cases hc:out.contains (i:Int)with
  |true=>
   rw[hc]at a198;simp[s1,cz,di,s4,h4,s5,h5,gm,eV,au,lE,bD,AV.aG,AV.bH];refine oc a198 ?_;simp[s1,cz,di,s4,h4,s5,h5,gm,eV,au,lE,bD,hw,AV.aG,AV.bH]
  |false=>
   rw[hc]at a198;simp[s1,cz,di,s4,h4,s5,h5,gm,eV,au,lE,bD,AV.aG,AV.bH];refine oc a198 ?_;have cP:=wi L
   have hL:(L.map bD).length<1000:=by simpa using uB
   have e1:(L++[s.name.words[i]]).map bD=L.map bD++[bD wd]:=by rw[adD,lE]<;>rfl
   have k3:aJ 3 [AV.agg [.slice .view (ints wd.aK),.slice .view (ints wd.bK),.bool wd.free]]=true:=rfl;simp only[lE]at e1;simp[lM,e1];unfold lM at h5
   generalize L.map bD=M at*
   cases M with
   |nil=>
    have nL:grow 44 []=.slice .nil []:=rfl;simp[s1,cz,di,s4,h4,s5,h5,gm,eV,au,lE,nL,hw,k3,bD,AV.aG,AV.bH]
    try rfl
   |cons y M=>
    have nL:grow 44 (y::M)=.slice (.own 44) (y::M):=rfl
    have BO:∀z,grow 44 (y::(M++[z]))=.slice (.own 44) (y::(M++[z])):=λ_=>rfl
    have pS:M.length+1+1<1048576:=by simp at hL;omega
    simp[s1,cz,di,s4,h4,s5,h5,gm,eV,au,lE,nL,BO,hw,k3,cP,pS,bD,AV.aG,AV.bH]
 .clear s1 s2 h2 s4 h4 s5 h5 S H;rintro S H ⟨s4,h4,s5,h5⟩;have KD:List.drop 15 z=[]:=aes (by omega);unfold lM at h5;simp[s4,h4,s5,h5,hz,KD,my,mq,fE,eS,Kl,La,xy];simp[a_,ao,ae,fD,tg,vI,ints]
end Go.Proofs.Tryz
namespace Go.Proofs.Tryz
open Go Go.AL Go.RowKit Go.Proofs Go.Proofs.Tram
attribute [local simp] dF fc eT dW ef dI dJ cZ c_ ee cW cE gh gj aF aH ev aQ.S aQ.H bz ar aT AL.start AV.cells AV.storable AV.bZ bo bX dS b0 HR.okB post cy cJ cK AV.out AV.bT cb dk fz gI AV.vw df vI int b_ aM cU db gB iN eY dQ bQ AV.aG AV.bH
variable{GI:World->Prop}
section
variable{w0:World}{n:Nat}{g:Gh}{S:av}{H:aD}{a:Act}{w:World}{d:Nat}
theorem HI{k:Nat->Option Obj}{b:Nat}(o:Option Obj)(h:k b=none):ar (ar k b o) b none=k:=by
 funext c
 by_cases hc:c=b
 .subst hc;simp[ar,h]
 .simp[ar,hc]
theorem sW {k:Nat} {us:Array Value} (nv:dX prog k=true) (R:Rel prog w0 n cm g S H a w) {X:av→aD→Prop}
  (hc:∀g1 w1,Rel prog w0 n cm g1 S H a w1->g1.old={ g.old with bf:=ar g.old.bf w.heap.size (some (.cells #[.int .i64 0] 34)) }->Below w.heap.size w w1->w1=w.alloc (.cells #[.int .i64 0] 34)->
   Calls prog k us w1 λe w2=>e=.returned (.tuple #[])/\∃(c:Value)(g':Gh)(S':av)(H':aD),g'.old=g1.old/\Rel prog w0 n cm g' S' H' (a.put (some d) c) w2/\X S' H'):
  Calls prog 119 #[.func (.func k) #[] us] w λe w2=>e=.returned (.int .i64 0)/\∃(c:Value)(g':Gh)(S':av)(H':aD),g'.old=g.old/\Rel prog w0 n cm g' S' H' (a.put (some d) c) w2/\X S' H':=by
 have R1:=R.lO (.cells #[.int .i64 0] 34);have vf:=oN R;refine jH nv (hc _ _ R1 rfl ((aeb _ _).alloc (adh _) _) rfl) ?_;rintro e w2 ⟨rfl,c,g',S',H',ho,R2,hX⟩
 have hk:g'.old.bf w.heap.size=some (.cells #[.int .i64 0] 34):=by rw[ho];exact aS _ _ _
 have ju:=(R2.kept _ _ hk).2.1;have au:=(ade.1 ju).1;refine⟨au,⟨_,_,ju⟩,.inl ⟨_,rfl,rfl,c,_,S',H',?_,(R2.qn w.heap.size).kS ?_,hX⟩⟩
 .show({ g'.old with bf:=ar g'.old.bf w.heap.size none }:Old)=_;rw[ho];show({ g.old with bf:=ar (ar g.old.bf w.heap.size (some (.cells #[.int .i64 0] 34))) w.heap.size none }:Old)=_;rw[HI _ vf]
 .refine⟨rfl,rfl,rfl,by simp,λk dP=>?_⟩
  by_cases hb:k=w.heap.size
  .subst hb;rw[aeJ w2 _ _ _ _ _ ju,ju]
  .exact aec w2 _ k _ hb
theorem Dx {k:Nat} {us:Array Value} (nv:dX prog k=true) (R:Rel prog w0 n cm g S H a w) {r:Int}
  (hc:∀g1 w1,Rel prog w0 n cm g1 S H a w1->Below w.heap.size w w1->w1=w.alloc (.cells #[.int .i64 0] 34)->
   Calls prog k us w1 λe w2=>Below w1.heap.size w1 w2/\((r=7/\∃n,e=.panicked [{ v:=.iface 192 (.agg #[.int .i64 n]),recovered:=false }])\/(r=4/\∃s:List UInt8,e=.panicked [{ v:=.iface 203 (.agg #[.string ⟨s.toArray⟩]),recovered:=false }]))):
  Calls prog 119 #[.func (.func k) #[] us] w λe w2=>e=.returned (.int .i64 r)/\∃g',g'.old=g.old/\Rel prog w0 n cm g' S H a w2:=by
 have R1:=R.lO (.cells #[.int .i64 0] 34);have vf:=oN R;refine jH nv (hc _ _ R1 ((aeb _ _).alloc (adh _) _) rfl) ?_;rintro en w2 ⟨iU,O_⟩;have R2:=R1.kS iU;have hk:ar g.old.bf w.heap.size (some (.cells #[.int .i64 0] 34)) w.heap.size=some (.cells #[.int .i64 0] 34):=aS _ _ _;have ju:=(R2.kept _ _ hk).2.1;have au:=(ade.1 ju).1
 have fin:∀w3,Below w2.heap.size w2 w3->∃g',g'.old=g.old/\Rel prog w0 n cm g' S H a (w3.setRow w.heap.size #[.int .i64 r]):=λw3 oB=>by
  have R3:=R2.kS oB;have Hz:=(R3.kept _ _ hk).2.1;have R4:=R3.mF hk (.cells #[.int .i64 r] 34);rw[pT w3 Hz];refine⟨_,?_,R4.qn w.heap.size⟩;show({ g.old with bf:=ar (ar (ar g.old.bf w.heap.size (some (.cells #[.int .i64 0] 34))) w.heap.size (some (.cells #[.int .i64 r] 34))) w.heap.size none }:Old)=_
  have:ar (ar (ar g.old.bf w.heap.size (some (.cells #[.int .i64 0] 34))) w.heap.size (some (.cells #[.int .i64 r] 34))) w.heap.size none=g.old.bf:=by
   funext c
   by_cases hc:c=w.heap.size
   .subst hc;simp[ar,vf]
   .simp[ar,hc]
  rw[this]
 rcases O_ with⟨rfl,k,rfl⟩|⟨rfl,k,rfl⟩
 .exact⟨au,⟨_,_,ju⟩,.inr (.inl ⟨k,rfl,λw3 oB=>⟨rfl,fin w3 oB⟩⟩)⟩
 .exact⟨au,⟨_,_,ju⟩,.inr (.inr ⟨k,rfl,λw3 oB=>⟨rfl,fin w3 oB⟩⟩)⟩
variable{i2 i3 i5:Nat}{s x:az}{out ns:List Int}{b:Bool}{z:AV}
theorem wY(s:az):(ao s).map AV.bH=ao s:=by simp[ao,ae,AV.bH,vI]
theorem nQ(R:Rel prog w0 n cm g S H a w){i:Nat}{cs:List AV}(hi:i<n)(hS:S i=.box i 0)(hH:H i=some cs)(hv:cs.map AV.bH=cs):RV (fy g true) cj w (.ref cs) (a.tmps.getD i undef):=by
 have h:=R.slot i hi id;rw[hS]at h;have:=R.gI h true (λ_=>rfl);simp only[Go.AL.gI,hH,List.drop_zero,hv]at this;exact this
theorem El (hG:aw GI) (cT:GI w0) (R:Rel prog w0 n cm g S H a w) (sX:i2 < n) (Tx:i3 < n) (EP:i5 < n)
  (qO:S i2=.box i2 0) (rM:H i2=some (ao s)) (EY:S i3=.box i3 0) (Uo:H i3=some [vI out]) (vd:S i5=.box i5 0) (zZ:H i5=some [.bool false])
  (wa:AC prog GI 160 [a_ s,vI out] (.ret (a_ x))) {k:Int} (yP:AC prog GI 108 [a_ x] (.panic (mY k))):
  Calls prog 159 #[a.tmps.getD i2 undef,a.tmps.getD i3 undef,a.tmps.getD i5 undef] w λe w2=>Below w.heap.size w w2/\e=.panicked [{ v:=.iface 192 (.agg #[.int .i64 k]),recovered:=false }]:=by
 have fU:GI w:=hG w0 w cT (by have:=R.below;rwa [R.base]at this)
 have hA:AC prog GI 159 [.ref (ao s),.ref [vI out],.ref [.bool false]] (.panic (mY k)):=by
  refine bW hG func159 ntmps159 c159 ?_;simp[c159,ao,ae];refine oc wa ?_;simp[a_,ao,ae];refine oc yP ?_;simp[iD]
 refine(hA w (fy g true) #[a.tmps.getD i2 undef,a.tmps.getD i3 undef,a.tmps.getD i5 undef] fU rfl (λi h h'=>?_)).mono ?_
 .match i,h with
  |0,_=>exact nQ R sX qO rM (wY s)
  |1,_=>exact nQ R Tx EY Uo rfl
  |2,_=>exact nQ R EP vd zZ rfl
 .rintro en w2 ⟨iU,hi,qR,c,rfl,ez⟩;have hc:=CW ez;subst hc;exact⟨iU,rfl⟩
theorem Hn (hG:aw GI) (cT:GI w0) (R:Rel prog w0 n cm g S H a w) (hd:d < n) (sX:i2 < n) (Tx:i3 < n) (EP:i5 < n) (Hm:d≠i5)
  (qO:S i2=.box i2 0) (rM:H i2=some (ao s)) (EY:S i3=.box i3 0) (Uo:H i3=some [vI out]) (vd:S i5=.box i5 0) (zZ:H i5=some [z])
  (wa:AC prog GI 160 [a_ s,vI out] (.ret (a_ x))) (yP:AC prog GI 108 [a_ x] (.ret (cD x ns))) (zv:AC prog GI 107 [cD x ns] (.ret (.bool b))):
  Calls prog 159 #[a.tmps.getD i2 undef,a.tmps.getD i3 undef,a.tmps.getD i5 undef] w λe w2=>e=.returned (.tuple #[])/\∃(c:Value)(g':Gh)(S':av)(H':aD),g'.old=g.old/\Rel prog w0 n cm g' S' H' (a.put (some d) c) w2/\(∀t,t≠d->S' t=S t)/\H'=ar H i5 (some [.bool b]):=by
 have fU:GI w:=hG w0 w cT (by have:=R.below;rwa [R.base]at this);have r2:=nQ R sX qO rM (wY s);have r3:=nQ R Tx EY Uo rfl;obtain⟨b5,SU,e5⟩:=jV R EP vd;have bq:=R.size;refine afy func159 rfl ?_;refine(e_ (m:=0)).1 ?_;refine fM (λc=>c.tmps.size=8/\c.defers=[]/\c.tmps.getD 0 undef=a.tmps.getD i2 undef/\c.tmps.getD 1 undef=a.tmps.getD i3 undef/\c.tmps.getD 2 undef=a.tmps.getD i5 undef) ⟨by simp[ntmps159],rfl,bV _ _ 0 (by simp),bV _ _ 1 (by simp),bV _ _ 2 (by simp)⟩ ?_;rintro aC ⟨zC,dC,t0,t1,t2⟩
 refine jz hG (n:=8) (p:=5) (l2:=[5]) rfl (by kernel_rfl) (by kernel_rfl) (l:=(af.dl c159).take 5) (by kernel_rfl) (by decide) (W:=λt=>decide (3<=t)) (by kernel_rfl) fU (fy g true)
  (λt=>match t with|0=>.ref (ao s)|1=>.ref [vI out]|2=>.val (.pointer (some ⟨b5,0,none⟩))|_=>.br) zC dC ?_ (K:=λS' _=>S' 7=.bool b/\S' 2=.val (.pointer (some ⟨b5,0,none⟩))) ?_ ?_
 .intro t ht;split
  .exact⟨rfl,by rw[t0];exact r2⟩
  .exact⟨rfl,by rw[t1];exact r3⟩
  .exact⟨rfl,by rw[t2,e5];exact .data _ _ (.val _ rfl)⟩
  .exact⟨rfl,.br _⟩
 .simp[c159,af.dl,ao,ae];refine oc wa ?_;simp[a_,ao,ae];refine oc yP ?_;simp[cD,aZ,ao,ae];refine oc zv ?_;simp
 .rintro g1 S1 H1 a1 w1 kB R1 ⟨q7,q2⟩ _
  have uX:Below w.heap.size w w1:=by have:=R1.below;rwa [R1.base]at this
  have u7:=R1.slot 7 (by decide) id;rw[q7]at u7;have u7:=u7.eE;have u2:=R1.slot 2 (by decide) id;rw[q2]at u2;have u2:=u2.fG;have R2:=(R.kS uX).put d (.bool b) (.bool b) hd (.data _ _ (.bool _)) trivial;obtain⟨i4,O',HB⟩:=bp (P:=prog) (t:=4) (s:=1) (by kernel_rfl);have Dr:ar S d (.bool b) i5=.box i5 0:=(bj _ _ (ad2 Hm)).trans vd
  have ke:aH (ar S d (.bool b)) H (.store .any i4.size (.t i5) (.t d))=some { v:=b_,dm:=some d,hw:=some (i5,[.bool b]) }:=by
   simp[aH,ev,Dr,vd,ad2 Hm,zZ,HR.okB,HB,AV.cells,AV.storable,AV.bZ,bo,bz,aS]
  obtain ⟨c2,w3,g3,dv,Mo,wG,R3⟩:=kX R2 (o:={ dst:=none,op := .store 4 (.tmp i5) (.tmp d),type:=0,pos := "",after := #[],guard:=none }) (x1 := .tmp i5) (x2 := .tmp d) (y1 := .t i5) (y2 := .t d) (hr := .any) rfl rfl O' (by simp [eO,EP]) (by simp [eO,hd]) (λ_ _=>id) (λ_ _=>id) ke
  have f5:(a.put (some d) (.bool b)).eval (.tmp i5)=.pointer (some ⟨b5,0,none⟩):=by
   show(a.put (some d) (.bool b)).tmps.getD i5 undef=_;rw[iH _ _ _ _ (by omega),if_neg (ad2 Hm),e5]
  have fd:(a.put (some d) (.bool b)).eval (.tmp d)=.bool b:=by
   show(a.put (some d) (.bool b)).tmps.getD d undef=_;rw[iH _ _ _ _ (by omega),if_pos rfl]
  have bb:∀ o:Oper,o.op = .store 4 (.tmp 2) (.tmp 7)->(execOp a1.eval o).run prog w1=(execOp (a.put (some d) (.bool b)).eval { dst:=none,op := .store 4 (.tmp i5) (.tmp d),type:=0,pos := "",after := #[],guard:=none }).run prog w1:=by
   intro o ho;have k2:a1.eval (.tmp 2)=.pointer (some ⟨b5,0,none⟩):=u2;have k7:a1.eval (.tmp 7)=.bool b:=u7;unfold execOp;simp only[ho,k2,k7,f5,fd]
  have fin:∀u:Value,(a1.put none u).defers=[]/\∃v',(results f159 (a1.put none u).tmps).run prog w3=.ok v' w3/\(v'=.tuple #[]/\∃(c:Value)(g':Gh)(S':av)(H':aD),g'.old=g.old/\Rel prog w0 n cm g' S' H' (a.put (some d) c) w3/\(∀t,t≠d->S' t=S t)/\H'=ar H i5 (some [.bool b])):=λu=>
   ⟨R1.defers.trans (by rw[kB]<;>rfl),.tuple #[],by simp[results,results159],rfl,.bool b,g3,_,_,wG,R3,λt ht=>by simp[aQ.S,AL.aT,ar,ht],rfl⟩
  have II:∀u:Value,(a1.put none u).defers=[]/\∃v',(results f159 (a1.put none u).tmps).run prog w3=.ok v' w3/\(Ending.returned v'=.returned (.tuple #[])/\∃(c:Value)(g':Gh)(S':av)(H':aD),g'.old=g.old/\Rel prog w0 n cm g' S' H' (a.put (some d) c) w3/\(∀t,t≠d->S' t=S t)/\H'=ar H i5 (some [.bool b])):=λu=>by
   obtain⟨q1,v',q2,rfl,q3⟩:=fin u;exact⟨q1,_,q2,rfl,q3⟩
  rcases dv with hr|⟨hr,_⟩
  .exact aV rfl rfl (by rfl) ((bb _ rfl).trans hr) (II _)
  .exact dM rfl rfl (by rfl) ((bb _ rfl).trans hr) (II undef)
end
def ft(s:az)(out:List Int):Bool:=match fq (fD s out).name with
 |some es=>decide (gC 0 (fD s out) (aW (fD s out) es)=(aW (fD s out) es).length)
 |none=>false
theorem vY{s:az}(h:eZ s)(out:List Int):eZ (fD s out):=by
 have hl:=nM out s.name.words 0;exact⟨h.cells,⟨h.name.aY,h.name.aR,Nat.lt_of_le_of_lt hl h.name.words,λw hw=>h.name.aK w (nD hw),λw hw=>h.name.bK w (nD hw)⟩⟩
theorem To(hG:aw GI)(s:az)(hs:eZ s)(hI:cL s=true)(out:List Int)(ho:cq s.name out=true):AC prog GI 113 [a_ s,vI out] (.ret (.bool (ft s out))):=by
 have hI2:=rX hI ho;have hg:=er hI;have me:=er hI2;have jA:=(eg hg.name).words;have hol:=uv ho;have a160:=UJ hG s (by omega) out (by omega);have uu:eZ (fD s out):=vY hs out;unfold ft
 obtain ⟨b,e,hO,mQ⟩:∃ (b:Bool) (e:Int),(match fq (fD s out).name with
   |some es=>decide (gC 0 (fD s out) (aW (fD s out) es)=(aW (fD s out) es).length)
   |none=>false)=(e==0&&b)/\
   ∀(w0:World)(g:Gh)(S:av)(H:aD)(a:Act)(w:World),GI w0->Rel prog w0 14 cm g S H a w->S 2=.box 2 0->H 2=some (ao s)->S 3=.box 3 0->H 3=some [vI out]->S 5=.box 5 0->H 5=some [.bool false]->
    Calls prog 119 #[.func (.func 159) #[] #[a.tmps.getD 2 undef,a.tmps.getD 3 undef,a.tmps.getD 5 undef]] w λen w2=>en=.returned (.int .i64 e)/\∃(c:Value)(g':Gh)(S':av)(H':aD),g'.old=g.old/\Rel prog w0 14 cm g' S' H' (a.put (some 8) c) w2/\S' 5=.box 5 0/\H' 5=some [.bool b]:=by
  cases eG:fq (fD s out).name with
  |some es=>
   have hn:=iW me (gz me.name eG);refine⟨_,0,(afo _).symm,λw0 g S H a w cT R q2 Fs q3 Tf q5 Qj=>?_⟩
   refine sW (d:=8) (by kernel_rfl) R λg1 w1 R1 kB _ _=>?_
   refine(Hn hG cT R1 (d:=8) (by decide) (by decide) (by decide) (by decide) (by decide) q2 Fs q3 Tf q5 Qj a160 (FP hG (fD s out) uu me eG) (FC hG (fD s out) me (aW (fD s out) es) hn)).mono ?_;rintro en w2 ⟨rfl,c,g',S',H',ru,R',rO,rJ⟩;exact⟨rfl,c,g',S',H',ru,R',by rw[rO 5 (by decide)];exact q5,by rw[rJ];exact aS _ _ _⟩
  |none=>
   refine⟨false,7,rfl,λw0 g S H a w cT R q2 Fs q3 Tf q5 Qj=>?_⟩;refine(Dx (by kernel_rfl) R (r:=7) λg1 w1 R1 _ _=>?_).mono ?_
   .refine(El hG cT R1 (by decide) (by decide) (by decide) q2 Fs q3 Tf q5 Qj a160 (zc hG (fD s out) uu me eG)).mono ?_;rintro en w2 ⟨hb,rfl⟩;exact⟨hb,.inl ⟨rfl,_,rfl⟩⟩
   .rintro en w2 ⟨rfl,g',z7,R'⟩;exact⟨rfl,undef,g',ar S 8 .br,H,z7,R'.put 8 .br undef (by decide) (.br _) trivial,(bj _ _ (by decide)).trans q5,Qj⟩
 rw[hO]
 refine AC.iF func113 rfl ntmps113 (by simp) λcc w=>?_
 refine dU hG c113.qa (λS' H'=>S' 2=.box 2 0/\H' 2=some (ao s)/\S' 3=.box 3 0/\H' 3=some [vI out]) ?_ ?_
 .simp[c113,af.qa,a_,ao,ae]
 rintro S1 H1 ⟨s2,h2,s3,h3⟩;show SW prog GI 14 none (.seq _ (.seq _ (.seq _ .ret))) _ _ _ _;refine dU hG c113.qb.qa (λS' H'=>S' 2=.box 2 0/\H' 2=some (ao s)/\S' 3=.box 3 0/\H' 3=some [vI out]/\S' 5=.box 5 0/\H' 5=some [.bool false]) ?_ ?_
 .simp[c113,af.qa,af.qb,s2,h2,s3,h3]
 clear s2 h2 s3 h3;rintro S3 H3 ⟨s2,h2,s3,h3,s5,h5⟩
 refine SW.seq (SW.hand hG (p:=0) (lm:=[0,1]) (l2:=[2]) (kd:=[]) (oh:=[_,_]) (lI:=[_]) rfl rfl rfl rfl (by kernel_rfl) (λ_ h=>h) (lU:=[]) (kZ:=(c113.qb.qb.qa.dl).drop 2) rfl (by kernel_rfl) rfl (by kernel_rfl)
  (K1:=λS' H'=>S' 2=.box 2 0/\H' 2=some (ao s)/\S' 3=.box 3 0/\H' 3=some [vI out]/\S' 5=.box 5 0/\H' 5=some [.bool false])
  (K2:=λo S' H'=>o=Old.plain cc w/\S' 5=.box 5 0/\H' 5=some [.bool b]/\S' 8=.int .i64 e)
  (K3:=λo S' H'=>o=Old.plain cc w/\S' 5=.box 5 0/\H' 5=some [.bool b]/\S' 6=.int .i64 e) ⟨s2,h2,s3,h3,s5,h5⟩ ?_ ?_ ?_)
 .rintro w0 g S5 H5 a w5 m cT ho R ⟨s2,h2,s3,h3,s5,h5⟩;have bq:=R.size;refine aV rfl rfl (by rfl) (lP (fn:=.func 159) (c:=#[.tmp 2,.tmp 3,.tmp 5]) rfl) ?_
  obtain⟨fv,kM⟩:∃fv:Value,fv=.func (.func 159) #[] (#[Operand.tmp 2,.tmp 3,.tmp 5].map a.eval):=⟨_,rfl⟩
  show wpOpsIn _ _ _ _ _ [1] (a.put (some 7) (.func (.func 159) #[] (#[Operand.tmp 2,.tmp 3,.tmp 5].map a.eval))) w5;rw[<-kM];have R1:=R.put 7 .br fv (by decide) (.br _) trivial
  obtain⟨a1,oX⟩:∃a1,a.put (some 7) fv=a1:=⟨_,rfl⟩
  rw[oX]at R1⊢
  have wP:fv=.func (.func 159) #[] #[a1.tmps.getD 2 undef,a1.tmps.getD 3 undef,a1.tmps.getD 5 undef]:=by
   have e1:=bB a 7 2 fv (by omega);have e2:=bB a 7 3 fv (by omega);have e4:=bB a 7 5 fv (by omega);rw[if_neg (by decide),oX]at e1 e2 e4;have BG:a1.tmps.getD 2 undef=a.eval (.tmp 2):=e1;have Pb:a1.tmps.getD 3 undef=a.eval (.tmp 3):=e2;have EN:a1.tmps.getD 5 undef=a.eval (.tmp 5):=e4;rw[BG,Pb,EN,kM];simp only[adK,adC,adO]
  have jt:a1.eval (.tmp 7)=fv:=by rw[<-oX,bB _ _ _ _ (by omega),if_pos rfl]
  refine fH rfl rfl (by rfl) (gK (k:=119) (args:=#[.func (.func 159) #[] #[a1.tmps.getD 2 undef,a1.tmps.getD 3 undef,a1.tmps.getD 5 undef]]) w5 rfl rfl ?_ (by kernel_rfl)) (mQ w0 g _ _ a1 w5 cT R1 (by simp[ar,s2]) h2 (by simp[ar,s3]) h3 (by simp[ar,s5]) h5) ?_
  .simp only[adK,adC,adO,jt,<-wP]
  .rintro en w6 ⟨rfl,c,g',S',H',ru,R2,vd,zZ⟩;refine⟨_,rfl,?_⟩;have R3:=R2.put 8 (.int .i64 e) (.int .i64 e) (by decide) (.data _ _ (.int _ _)) trivial;rw[n_]at R3;exact⟨g',_,H',R3,ru.trans ho,by rw[bj _ _ (by decide)];exact vd,zZ,aS _ _ _⟩
 .rintro o S5 H5 ⟨rfl,s5,h5,s8⟩;refine⟨λ_ h=>h,?_⟩;simp[c113,af.qa,af.qb,af.dl,s5,h5,s8]
 .rintro o S5 H5 ⟨rfl,s5,h5,s6⟩;show SW prog GI 14 none (.seq _ .ret) _ _ _ _;refine dU hG c113.qb.qb.qb.qa (λS' H'=>S' 4=.bool (e==0&&b)) ?_ ?_
  .by_cases he:e=0
   .subst he;simp[c113,af.qa,af.qb,s5,h5,s6]
   .have ky:(e==0)=false:=by simpa using he
    simp[c113,af.qa,af.qb,s5,h5,s6,ky]
  rintro S6 H6 s4;refine SW.ret ⟨eD.plain rfl,rfl,_,?_,rfl⟩;show cy prog 14 [.tmp 4] S6 H6=_;simp[cy,cJ,cK,s4,AV.bT,AV.out]
end Go.Proofs.Tryz
namespace Go.Proofs.Tryz
open Go Go.AL Go.RowKit Go.Proofs Go.Proofs.Tram
def iw(s:az)(d:Nat)(es:List Int):List (List Int):=(nR s.name d es).filter (ft s)
def oL(s:az)(d:Nat)(es:List Int)(i:Nat):List (List Int):=(List.range' i (s.name.words.length-i)).flatMap λk=>if jG s.name k then iw s d (es++[(k:Int)])else[]
theorem B_(s:az)(es:List Int):iw s 0 es=if ft s es then[es]else[]:=by
 unfold iw nR
 cases h:ft s es<;>simp[h]
theorem Dp(s:az)(d:Nat)(es:List Int):iw s (d+1) es=oL s d es (dR es):=by
 unfold iw oL nR;rw[afd]
 refine nn λi _=>?_
 cases jG s.name i<;>rfl
theorem CY(s:az)(d:Nat)(es:List Int){i:Nat}(h:i<s.name.words.length):oL s d es i=(if jG s.name i then iw s d (es++[(i:Int)])else[])++oL s d es (i+1):=by
 unfold oL;rw[show s.name.words.length-i=s.name.words.length-(i+1)+1 by omega,aeB,aex]
theorem E2(s:az)(d:Nat)(es:List Int):oL s d es s.name.words.length=[]:=by
 unfold oL
 rw[afQ]<;>rfl
theorem tP{α β:Type}{f:α->List β}{b:Nat}(hf:∀x,(f x).length<=b):∀l:List α,(l.flatMap f).length<=b*l.length
 |[]=>by simp
 |a::l=>by
  rw[aex,adq,List.length_cons,Nat.mul_succ];have:=tP hf l;have:=hf a;omega
theorem wF{s:aq}(h:s.words.length<=4):∀(d:Nat)(now:List Int),(nR s d now).length<=4^d
 |0,now=>by simp[nR]
 |d+1,now=>by
  unfold nR
  have h1:∀i:Nat,(if jG s i then nR s d (now++[(i:Int)])else[]).length<=4^d:=by
   intro i;split
   .exact wF h d _
   .simp
  have h2:=tP h1 (List.range' (dR now) (s.words.length-dR now));rw[List.length_range']at h2;rw[Nat.pow_succ];have h3:4^d*(s.words.length-dR now)<=4^d*4:=Nat.mul_le_mul_left _ (by omega);omega
theorem Ey{s:az}(h:s.name.words.length<=4){d:Nat}(hd:d<4)(es:List Int):(iw s d es).length<=64:=by
 have h1:=aeV (ft s) (nR s.name d es);have h2:=wF h d es;have h3:4^d<=4^3:=Nat.pow_le_pow_right (by decide) (by omega);unfold iw;omega
def kG(s:az):Option (List Int):=(vL s.name).find? (ft s)
theorem uk(s:az):kG s=((List.range s.name.words.length).flatMap λd=>iw s d []).head?:=by
 unfold kG vL iw;rw[<-List.head?_filter,afd]
theorem FE{α:Type}(f:Nat->List α){n m:Nat}(h:m<n)(hb:∀j,j<m->f j=[]){x:α}{l:List α}(hm:f m=x::l):((List.range n).flatMap f).head?=some x:=by
 have e:List.range n=List.range m++m::List.range' (m+1) (n-(m+1)):=by
  have h1:List.range' 0 m++List.range' (0+m) (n-(m+1)+1)=List.range' 0 (m+(n-(m+1)+1)):=afH;rw[ad3,show m+(n-(m+1)+1)=n by omega]at h1;rw[aeR,aeR,<-h1,aeB]
 rw[e,aee,af0.2 λj hj=>hb j (adF.1 hj),List.nil_append,aex,hm]
 rfl
theorem EI{α:Type}(f:Nat->List α){n:Nat}(hb:∀j,j<n->f j=[]):((List.range n).flatMap f).head?=none:=by
 rw[af0.2 λj hj=>hb j (adF.1 hj)]
 rfl
def sH(s:az):List AV:=match kG s with
 |some l=>[vI l,.int .i64 0]
 |none=>[vI [],.int .i64 5]
def vG(s:az):List AV:=if cL s then sH s else[vI [],.int .i64 2]
end Go.Proofs.Tryz
