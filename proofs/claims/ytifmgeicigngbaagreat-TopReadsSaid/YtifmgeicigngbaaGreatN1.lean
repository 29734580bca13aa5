/- A part of the proof. -/
import Derived.Still
import Derived.Laws.Concat
import Derived.Laws.Strings2
import Derived.Great.BuildSlice
import Derived.Laws.IdiomStrings
import Derived.Laws.BytesArg
import Derived.Maps.Own
import Derived.OrdersIn
import Derived.RangeFuncRecord
import Derived.Laws.RangeString
import Derived.Recover
import Derived.Laws.Pointers
import Derived.Deep.OwnRows
import Derived.Shelf.Vars
import Derived.ProofKit
import Derived.OpenShut
import Derived.LaidMore
import Derived.Lay
import Derived.SevenTiedAt
set_option maxRecDepth 100000
set_option maxHeartbeats 8000000
set_option linter.all false
namespace Go.Proofs.Tram
end Go.Proofs.Tram
namespace Go.AL
inductive Ow where
 |view|nil|own (e:Nat)
 deriving DecidableEq
inductive AV where
 |bool (b:Bool)
 |kI
 |int (k:IntKind) (n:Int)
 |str (l:List UInt8)
 |slice (o:Ow) (es:List AV)
 |agg (cs:List AV)
 |eS (vs:List AV)
 |ref (cs:List AV)
 |pc
 |iface (t:TypeId) (v:AV)
 |nR
 |map (ks vs:List AV)
 |box (i off:Nat)
 |func (fn:Fn) (first cap:List AV)
 |fN (fs:List AV)
 |val (c:Value)
 |bh
namespace AV
def cells:AV->List AV
 |.agg cs=>cs
 |v=>[v]
def aA:AV->AV
 |.slice (.own _) es=>.slice .view es
 |v=>v
def bF:AV->AV
 |.slice _ es=>.slice .view es
 |v=>v
def vw:AV->AV
 |.agg cs=>.agg (cs.map bF)
 |v=>v.bF
def bC:AV->Bool
 |.box ..|.func ..|.fN _|.bh=>false
 |_=>true
def one:AV->Bool
 |.agg _|.eS _=>false
 |_=>true
def storable:AV->Bool
 |.box ..|.func ..|.fN _|.bh|.eS _=>false
 |_=>true
end AV
inductive RD(Pr:Nat->Nat->Prop)(w:World):AV->Value->Prop
 |bool (b:Bool):RD Pr w (.bool b) (.bool b)
 |kI (b:Bool):RD Pr w .kI (.bool b)
 |int (k:IntKind) (n:Int):RD Pr w (.int k n) (.int k n)
 |str (l:List UInt8):RD Pr w (.str l) (.string ⟨l.toArray⟩)
 |gy (o:Ow):RD Pr w (.slice o []) (.slice none 0 0)
 |iF (o:Ow) (a:Addr):RD Pr w (.slice o []) (.slice (some a) 0 0)
 |slice (o:Ow) (es:List AV) (b off cap size:Nat) (cs:Nat→Value) (dX:es.length≤cap) (hn:o = .nil→cap=0)
   (aI:∀i (h:i<es.length),(es[i]).cells.length=size) (h1:∀i (h:i<es.length) j (hj:j<(es[i]).cells.length),((es[i]).cells[j]).one=true)
   (hc:∀k,k<es.length*size->Pr b (off+k)/\w.cell? ⟨b,off+k,none⟩=some (cs k))
   (hr:∀i (h:i<es.length) j (hj:j<(es[i]).cells.length),RD Pr w ((es[i]).cells[j]) (cs (i*size+j))):
   RD Pr w (.slice o es) (.slice (some ⟨b,off,none⟩) es.length cap)
 |agg (cs:List AV) (vs:Array Value) (hl:cs.length=vs.size) (h1:∀ i (h:i < cs.length),(cs[i]).one=true)
   (hr:∀i (h:i<cs.length)(h':i<vs.size),RD Pr w cs[i] vs[i]):RD Pr w (.agg cs) (.agg vs)
 |eS (cs:List AV) (vs:Array Value) (hl:cs.length=vs.size)
   (hr:∀i (h:i<cs.length)(h':i<vs.size),RD Pr w cs[i] vs[i]):RD Pr w (.eS cs) (.tuple vs)
 |ref (cs:List AV) (b off:Nat) (vs:Nat→Value) (h1:∀ i (h:i < cs.length),(cs[i]).one=true)
   (hc:∀k,k<cs.length->Pr b (off+k)/\w.cell? ⟨b,off+k,none⟩=some (vs k))
   (hr:∀k (h:k<cs.length),RD Pr w cs[k] (vs k)):RD Pr w (.ref cs) (.pointer (some ⟨b,off,none⟩))
 |map (ks vs:List AV) (b:Nat) (es:Array MapEntry) (clock:Nat) (hb:Pr b 0) (hm:w.heap[b]? = some (.map es clock)) (hk:ks.length=es.size) (hv:vs.length=es.size)
   (hr:∀i (h:i<ks.length)(h':i<es.size),RD Pr w ks[i] (es[i]).key) (iR:∀i (h:i<vs.length)(h':i<es.size),RD Pr w vs[i] (es[i]).val):RD Pr w (.map ks vs) (.map (some b))
 |rn:RD Pr w (.map [] []) (.map none)
 |pc:RD Pr w .pc (.pointer none)
 |iface (t:TypeId) (v:AV) (c:Value) (h:RD Pr w v c):RD Pr w (.iface t v) (.iface t c)
 |nR:RD Pr w .nR .nilIface
 |val (c:Value) (h:c.oneCell'=true):RD Pr w (.val c) c
inductive RV(Pr:Nat->Nat->Prop)(al:Nat->Option Nat)(w:World):AV->Value->Prop
 |data (v:AV) (c:Value) (h:RD Pr w v c):RV Pr al w v c
 |box (i off b:Nat) (h:al i=some b):RV Pr al w (.box i off) (.pointer (some ⟨b,off,none⟩))
 |func (fn:Fn) (first cap:List AV) (vs us:Array Value) (h1:first.length=vs.size) (h2:cap.length=us.size)
   (ZN:∀i (h:i<first.length)(h':i<vs.size),RV Pr al w first[i] vs[i])
   (Xe:∀i (h:i<cap.length)(h':i<us.size),RV Pr al w cap[i] us[i]):RV Pr al w (.func fn first cap) (.func fn vs us)
 |fN (fs:List AV) (vs:Array Value) (h1:fs.length=vs.size) (hr:∀i (h:i<fs.length)(h':i<vs.size),RV Pr al w fs[i] vs[i]):RV Pr al w (.fN fs) (.agg vs)
 |bh (c:Value):RV Pr al w .bh c
structure aL(Pr dB:Nat->Nat->Prop)(w w':World):Prop where
 cell:∀b k,Pr b k->∀u,w.cell? ⟨b,k,none⟩=some u->dB b k/\w'.cell? ⟨b,k,none⟩=some u
 map:∀b,Pr b 0->∀es c,w.heap[b]?=some (.map es c)->dB b 0/\w'.heap[b]?=some (.map es c)
def aL.fI{Pr dB:Nat->Nat->Prop}{w w':World}(h:∀b,b<w.heap.size->w'.heap[b]?=w.heap[b]?)(hp:∀b k,b<w.heap.size->Pr b k->dB b k):aL Pr dB w w':={
 cell b k hb u hu:=by
  have av:=World.block_lt_of_cell? _ _ hu;exact⟨hp b k av hb,by rw[World.cell?_of_block (w:=w) (h b av)];exact hu⟩
 map b hb es c hm:=by
  have av:=(Array.getElem?_eq_some_iff.1 hm).1
  exact⟨hp b 0 av hb,by rw[h b av];exact hm⟩ }
def aL.trans{Pr dB RG:Nat->Nat->Prop}{w w' fD:World}(h:aL Pr dB w w')(h':aL dB RG w' fD):aL Pr RG w fD:={
 cell b k hp u hu:=h'.cell b k (h.cell b k hp u hu).1 u (h.cell b k hp u hu).2
 map b hp es c hm:=h'.map b (h.map b hp es c hm).1 es c (h.map b hp es c hm).2 }
def aL.iO{Pr:Nat->Nat->Prop}{w w':World}(h:∀b k,b<w.heap.size->Pr b k->w'.heap[b]?=w.heap[b]?):aL Pr Pr w w':={
 cell b k hb u hu:=⟨hb,by rw[World.cell?_of_block (w:=w) (h b k (World.block_lt_of_cell? _ _ hu) hb)];exact hu⟩
 map b hb es c hm:=⟨hb,by rw[h b 0 (Array.getElem?_eq_some_iff.1 hm).1 hb];exact hm⟩ }
def aL.same{Pr dB:Nat->Nat->Prop}{w:World}(hp:∀b k,b<w.heap.size->Pr b k->dB b k):aL Pr dB w w:=aL.fI (λ_ _=>rfl) hp
def RD.mono {Pr dB:Nat→Nat→Prop} {w w':World} {v:AV} {c:Value} (h:RD Pr w v c)
  (hp:aL Pr dB w w'):RD dB w' v c:=by
 induction h with
 |bool b=>exact .bool b
 |kI b=>exact .kI b
 |int k n=>exact .int k n
 |str l=>exact .str l
 |gy o=>exact .gy o
 |iF o a=>exact .iF o a
 |slice o es b off cap size cs dX hn aI h1 hc _ ih=>
  exact .slice o es b off cap size cs dX hn aI h1 (λk hk=>hp.cell _ _ (hc k hk).1 _ (hc k hk).2) ih
 |agg cs vs hl h1 _ ih=>exact .agg cs vs hl h1 ih
 |eS cs vs hl _ ih=>exact .eS cs vs hl ih
 |ref cs b off vs h1 hc _ ih=>exact .ref cs b off vs h1 (λk hk=>hp.cell _ _ (hc k hk).1 _ (hc k hk).2) ih
 |map ks vs b es clock hb hm hk hv _ _ ih ih'=>exact .map ks vs b es clock (hp.map b hb es clock hm).1 (hp.map b hb es clock hm).2 hk hv ih ih'
 |rn=>exact .rn
 |pc=>exact .pc
 |iface t v c _ ih=>exact .iface t v c ih
 |nR=>exact .nR
 |val c h=>exact .val c h
def RV.mono {Pr dB:Nat→Nat→Prop} {al DU:Nat→Option Nat} {w w':World} {v:AV} {c:Value} (h:RV Pr al w v c)
  (hp:aL Pr dB w w')
  (ha:∀i b,al i=some b->DU i=some b):RV dB DU w' v c:=by
 induction h with
 |data v c h=>exact .data v c (h.mono hp)
 |box i off b h=>exact .box i off b (ha i b h)
 |func fn first cap vs us h1 h2 _ _ ih1 ih2=>exact .func fn first cap vs us h1 h2 ih1 ih2
 |fN fs vs h1 _ ih=>exact .fN fs vs h1 ih
 |bh c=>exact .bh c
def RD.bC{Pr:Nat->Nat->Prop}{w:World}{v:AV}{c:Value}(h:RD Pr w v c):v.bC=true:=by
 cases h<;>rfl
def RV.dA{Pr:Nat->Nat->Prop}{al:Nat->Option Nat}{w:World}{v:AV}{c:Value}(h:RV Pr al w v c)(hd:v.bC=true):RD Pr w v c:=by
 cases h with
 |data v c h=>exact h
 |box i off b h=>cases hd
 |func=>cases hd
 |fN=>cases hd
 |bh c=>cases hd
def RD.aA{Pr:Nat->Nat->Prop}{w:World}{v:AV}{c:Value}(h:RD Pr w v c):RD Pr w v.aA c:=by
 cases h with
 |gy o=>cases o<;>exact .gy _
 |iF o a=>cases o<;>exact .iF _ a
 |slice o es b off cap size cs dX hn aI h1 hc hr=>
  cases o with
  |own e=>exact .slice _ es b off cap size cs dX (λh=>by cases h) aI h1 hc hr
  |view=>exact .slice _ es b off cap size cs dX hn aI h1 hc hr
  |nil=>exact .slice _ es b off cap size cs dX hn aI h1 hc hr
 |bool b=>exact .bool b
 |kI b=>exact .kI b
 |int k n=>exact .int k n
 |str l=>exact .str l
 |agg cs vs hl h1 hr=>exact .agg cs vs hl h1 hr
 |eS cs vs hl hr=>exact .eS cs vs hl hr
 |ref cs b off vs h1 hc hr=>exact .ref cs b off vs h1 hc hr
 |map ks vs b es clock hb hm hk hv hr iR=>exact .map ks vs b es clock hb hm hk hv hr iR
 |rn=>exact .rn
 |pc=>exact .pc
 |iface t v c h=>exact .iface t v c h
 |nR=>exact .nR
 |val c h=>exact .val c h
def RV.aA{Pr:Nat->Nat->Prop}{al:Nat->Option Nat}{w:World}{v:AV}{c:Value}(h:RV Pr al w v c):RV Pr al w v.aA c:=by
 cases h with
 |data v c h=>exact .data _ _ h.aA
 |box i off b h=>exact .box i off b h
 |func fn first cap vs us h1 h2 r1 r2=>exact .func fn first cap vs us h1 h2 r1 r2
 |fN fs vs h1 hr=>exact .fN fs vs h1 hr
 |bh c=>exact .bh c
def RD.cells {Pr:Nat→Nat→Prop} {w:World} {v:AV} {c:Value} (h:RD Pr w v c) :
  v.cells.length=c.cells.size/\∀i (h:i<v.cells.length)(h':i<c.cells.size),RD Pr w v.cells[i] c.cells[i]:=by
 cases h with
 |agg cs vs hl h1 hr=>exact⟨hl,hr⟩
 |bool b=>exact⟨rfl,λi h _=>by simp[AV.cells]at h;subst h;exact .bool b⟩
 |kI b=>exact⟨rfl,λi h _=>by simp[AV.cells]at h;subst h;exact .kI b⟩
 |int k n=>exact⟨rfl,λi h _=>by simp[AV.cells]at h;subst h;exact .int k n⟩
 |str l=>exact⟨rfl,λi h _=>by simp[AV.cells]at h;subst h;exact .str l⟩
 |gy o=>exact⟨rfl,λi h _=>by simp[AV.cells]at h;subst h;exact .gy o⟩
 |iF o a=>exact⟨rfl,λi h _=>by simp[AV.cells]at h;subst h;exact .iF o a⟩
 |slice o es b off cap size cs dX hn aI h1 hc hr=>exact⟨rfl,λi h _=>by simp[AV.cells]at h;subst h;exact .slice o es b off cap size cs dX hn aI h1 hc hr⟩
 |eS cs vs hl hr=>exact⟨rfl,λi h _=>by simp[AV.cells]at h;subst h;exact .eS cs vs hl hr⟩
 |ref cs b off vs h1 hc hr=>exact⟨rfl,λi h _=>by simp[AV.cells]at h;subst h;exact .ref cs b off vs h1 hc hr⟩
 |map ks vs b es clock hb hm hk hv hr iR=>exact⟨rfl,λi h _=>by simp[AV.cells]at h;subst h;exact .map ks vs b es clock hb hm hk hv hr iR⟩
 |rn=>exact⟨rfl,λi h _=>by simp[AV.cells]at h;subst h;exact .rn⟩
 |pc=>exact⟨rfl,λi h _=>by simp[AV.cells]at h;subst h;exact .pc⟩
 |iface t v c hh=>exact⟨rfl,λi h _=>by simp[AV.cells]at h;subst h;exact .iface t v c hh⟩
 |nR=>exact⟨rfl,λi h _=>by simp[AV.cells]at h;subst h;exact .nR⟩
 |val c hc=>
  have jA:c.cells=#[c]:=by cases c<;>first|rfl|cases hc
  exact⟨by rw[jA];rfl,λi h h'=>by simp[AV.cells]at h;subst h;simp only[jA];exact .val c hc⟩
def RD.one{Pr:Nat->Nat->Prop}{w:World}{v:AV}{c:Value}(h:RD Pr w v c)(h1:v.one=true):c.oneCell'=true:=by
 cases h<;>first|rfl|(cases h1;done)|assumption
def RD.cells_one{Pr:Nat->Nat->Prop}{w:World}{v:AV}{c:Value}(h:RD Pr w v c)(h1:v.storable=true):∀i (h:i<v.cells.length),(v.cells[i]).one=true:=by
 cases h with
 |agg cs vs hl ho hr=>exact ho
 |eS=>cases h1
 |_=>intro i hi;simp[AV.cells]at hi;subst hi;rfl
def AV.mU(v:AV):v.aA.one=v.one:=by
 cases v<;>try rfl
 rename_i o es;cases o<;>rfl
def AV.Ph(v:AV):v.bF.one=v.one:=by cases v<;>rfl
def AV.idem(v:AV):v.aA.aA=v.aA:=by
 cases v<;>try rfl
 rename_i o es;cases o<;>rfl
def RD.bF{Pr:Nat->Nat->Prop}{w:World}{v:AV}{c:Value}(h:RD Pr w v c):RD Pr w v.bF c:=by
 cases h with
 |gy o=>exact .gy _
 |iF o a=>exact .iF _ a
 |slice o es b off cap size cs dX hn aI h1 hc hr=>exact .slice _ es b off cap size cs dX (λh=>by cases h) aI h1 hc hr
 |bool b=>exact .bool b
 |kI b=>exact .kI b
 |int k n=>exact .int k n
 |str l=>exact .str l
 |agg cs vs hl h1 hr=>exact .agg cs vs hl h1 hr
 |eS cs vs hl hr=>exact .eS cs vs hl hr
 |ref cs b off vs h1 hc hr=>exact .ref cs b off vs h1 hc hr
 |map ks vs b es clock hb hm hk hv hr iR=>exact .map ks vs b es clock hb hm hk hv hr iR
 |rn=>exact .rn
 |pc=>exact .pc
 |iface t v c h=>exact .iface t v c h
 |nR=>exact .nR
 |val c h=>exact .val c h
def RD.vw{Pr:Nat->Nat->Prop}{w:World}{v:AV}{c:Value}(h:RD Pr w v c):RD Pr w v.vw c:=by
 cases h with
 |agg cs vs hl h1 hr=>
  refine .agg _ vs (by simpa using hl) (λi hi=>?_) (λi hi ck=>?_)
  .simp only[List.length_map]at hi;have:=h1 i hi;simp only[List.getElem_map];generalize cs[i]=u at this
   cases u<;>first|rfl|cases this
  .simp only[List.length_map]at hi;simp only[List.getElem_map];exact(hr i hi ck).bF
 |gy o=>exact .gy _
 |iF o a=>exact .iF _ a
 |slice o es b off cap size cs dX hn aI h1 hc hr=>exact .slice _ es b off cap size cs dX (λh=>by cases h) aI h1 hc hr
 |bool b=>exact .bool b
 |kI b=>exact .kI b
 |int k n=>exact .int k n
 |str l=>exact .str l
 |eS cs vs hl hr=>exact .eS cs vs hl hr
 |ref cs b off vs h1 hc hr=>exact .ref cs b off vs h1 hc hr
 |map ks vs b es clock hb hm hk hv hr iR=>exact .map ks vs b es clock hb hm hk hv hr iR
 |rn=>exact .rn
 |pc=>exact .pc
 |iface t v c h=>exact .iface t v c h
 |nR=>exact .nR
 |val c h=>exact .val c h
def AV.jo{v:AV}(h:v.storable=true):v.bC=true:=by cases v<;>first|rfl|cases h
end Go.AL
namespace Go.AL
open Go.RowKit
abbrev af:=Nat->AV
abbrev ah:=Nat->Option (List AV)
def aq{α:Type}(f:Nat->α)(i:Nat)(x:α):Nat->α:=λj=>if j=i then x else f j
def aJ{α:Type}(f:Nat->α)(i:Nat)(x:α):aq f i x i=x:=by simp[aq]
def aG{α:Type}(f:Nat->α){i j:Nat}(x:α)(h:j≠i):aq f i x j=f j:=by simp[aq,h]
inductive Loc where
 |slot (t:Nat)|cell (i j:Nat)
 deriving DecidableEq
def iQ(d:Nat):AV->Bool
 |.box i _=>i==d
 |.func ..|.fN _=>true
 |_=>false
def aT(d:Nat):AV->AV
 |.box i o=>if i=d then .bh else .box i o
 |.func fn first cap=>if first.any (iQ d)||cap.any (iQ d)then .bh else .func fn first cap
 |.fN _=>.bh
 |v=>v
def OP:AV->Bool
 |.func ..|.fN _=>false
 |_=>true
def flat:AV->Bool
 |.func _ first cap=>first.all OP&&cap.all OP
 |.fN _=>false
 |_=>true
structure Old where
 c:Nat->Nat->Prop
 facts:List (AV×Value)
 bx:Nat->Prop
 ds:List Deferred
 keep:Nat->Option Obj
 sp:Nat->Nat->Prop
 sw:World
 ok:∀p∈facts,flat p.1=true/\∀d,¬bx d->aT d p.1=p.1
def Old.plain(c:Nat->Nat->Prop)(w:World):Old:={ c:=c,facts:=[],bx:=λ_=>False,ds:=[],keep:=λ_=>none,sp:=λ_ _=>False,sw:=w,ok:=λ_ h=>by cases h }
structure Gh where
 base:Nat
 old:Old
 al:Nat->Option Nat
 hi:Nat->Nat
 owner:Nat->Option Loc
def Gh.Pr(g:Gh)(b k:Nat):Prop:=(b<g.base/\g.old.c b k)\/(g.base<=b/\k<g.hi b)
def dD(P:Program)(w:World)(g:Gh)(loc:Loc):AV->Value->Prop
 |.slice (.own e) es,c=>∃i xs b,P.info? e=some i/\w.ownsRow g.base e i.size c es.length xs/\c.ownBlock=some b/\g.owner b=some loc/\g.hi b=es.length*i.size
 |_,_=>True
structure Rel(P:Program)(w0:World)(n:Nat)(U:Nat->Prop)(g:Gh)(S:af)(H:ah)(a:Act)(w:World):Prop where
 size:a.tmps.size=n
 defers:a.defers=g.old.ds
 facts:∀p∈g.old.facts,RV g.Pr g.al w p.1 p.2
 slot:∀t,t<n->¬U t->RV g.Pr g.al w (S t) (a.tmps.getD t undef)
 own:∀t,t<n->¬U t->dD P w g (.slot t) (S t) (a.tmps.getD t undef)
 box:∀i b,g.al i=some b->∃cs vs ty,H i=some cs/\g.base<=b/\w.heap[b]?=some (.cells vs ty (0,0))/\g.hi b=0/\g.owner b=none/\cs.length=vs.size/\
  (∀j (h:j<cs.length)(h':j<vs.size),RD g.Pr w cs[j] vs[j])/\(∀j (h:j<cs.length)(h':j<vs.size),dD P w g (.cell i j) cs[j] vs[j])/\∀j (h:j<cs.length),(cs[j]).one=true
 iB:∀i cs,H i=some cs->¬U i->(g.al i).isSome
 ij:∀i,U i->g.al i=none
 inj:∀i j b,g.al i=some b->g.al j=some b->i=j
 base:g.base=w0.heap.size
 below:Below g.base w0 w
 fresh:∀b,w.heap.size<=b->g.hi b=0/\g.owner b=none
 still:aL g.old.sp g.Pr g.old.sw w
 grown:g.old.sw.heap.size<=w.heap.size
 kept:∀b o,g.old.keep b=some o->g.base<=b/\w.heap[b]?=some o/\g.hi b=0/\g.owner b=none/\∀i,g.al i≠some b
def dD.keep {P:Program} {w w':World} {g g':Gh} {loc:Loc} {v:AV} {c:Value} (h:dD P w g loc v c) (hb:g'.base=g.base)
  (hk:∀b,g.owner b=some loc->w'.heap[b]?=w.heap[b]?/\g'.hi b=g.hi b/\g'.owner b=some loc):dD P w' g' loc v c:=by
 unfold dD at*
 split at h
 .obtain⟨i,xs,b,h1,h2,h3,h4,h5⟩:=h;obtain⟨k1,k2,k3⟩:=hk b h4;refine⟨i,xs,b,h1,?_,h3,k3,by rw[k2];exact h5⟩;rw[hb];refine⟨h2.1,?_⟩
  rcases h2.2 with hn|⟨gg,cap,cur,rfl,ja,tC,rest⟩
  .exact .inl hn
  .have:gg=b:=by simpa[Value.ownBlock]using h3
   subst this;exact .inr ⟨gg,cap,cur,rfl,ja,by rw[k1];exact tC,rest⟩
 .trivial
def dD.aA{P:Program}{w:World}{g:Gh}{loc:Loc}{v:AV}{c:Value}:dD P w g loc v.aA c:=by
 cases v<;>try trivial
 rename_i o es
 cases o<;>trivial
def Rel.ext {P:Program} {w0:World} {n:Nat} {U:Nat→Prop} {g g':Gh} {S:af} {H:ah} {a:Act} {w w':World} (R:Rel P w0 n U g S H a w)
  (gx:g'.base=g.base) (hold:g'.old=g.old) (gE:g'.al=g.al)
  (fT:aL g.Pr g'.Pr w w')
  (YN:∀i b,g.al i=some b->w'.heap[b]?=w.heap[b]?/\g'.hi b=g.hi b/\g'.owner b=g.owner b)
  (cE:∀b loc,g.owner b=some loc->w'.heap[b]?=w.heap[b]?/\g'.hi b=g.hi b/\g'.owner b=some loc)
  (PA:Below g.base w0 w') (kY:∀b,w'.heap.size<=b->g'.hi b=0/\g'.owner b=none)
  (qp:∀b o,g.old.keep b=some o->w.heap[b]?=some o->w'.heap[b]?=some o/\g'.hi b=g.hi b/\g'.owner b=g.owner b) (SG:w.heap.size<=w'.heap.size):Rel P w0 n U g' S H a w':={
 size:=R.size
 defers:=by rw[hold];exact R.defers
 facts p hp:=(R.facts p (by rw[<-hold];exact hp)).mono fT (by rw[gE];exact λ_ _ h=>h)
 slot t ht hu:=(R.slot t ht hu).mono fT (by rw[gE];exact λ_ _ h=>h)
 own t ht hu:=(R.own t ht hu).keep gx λb hb=>cE b _ hb
 box i b hi:=by
  rw[gE]at hi;obtain⟨cs,vs,ty,h1,h2,h3,h4,h5,h6,h7,h8,h9⟩:=R.box i b hi;obtain⟨k1,k2,k3⟩:=YN i b hi;refine⟨cs,vs,ty,h1,by rw[gx];exact h2,by rw[k1];exact h3,by rw[k2];exact h4,by rw[k3];exact h5,h6,?_,?_,h9⟩
  .exact λj hj c_=>(h7 j hj c_).mono fT
  .exact λj hj c_=>(h8 j hj c_).keep gx λb hb=>cE b _ hb
 iB i cs h hu:=by rw[gE];exact R.iB i cs h hu
 ij i h:=by rw[gE];exact R.ij i h
 inj i j b h h':=by rw[gE]at h h';exact R.inj i j b h h'
 base:=by rw[gx];exact R.base
 below:=by rw[gx];exact PA
 fresh:=kY
 still:=by rw[hold];exact R.still.trans fT
 grown:=by rw[hold];exact Nat.le_trans R.grown SG
 kept b o h:=by
  rw[hold]at h;obtain⟨k1,k2,k3,k4,k5⟩:=R.kept b o h;obtain⟨e1,e2,e3⟩:=qp b o h k2
  exact⟨by rw[gx];exact k1,e1,by rw[e2];exact k3,by rw[e3];exact k4,by rw[gE];exact k5⟩ }
def Rel.grow {P:Program} {w0:World} {n:Nat} {U:Nat→Prop} {g g':Gh} {S:af} {H:ah} {a:Act} {w w':World} (R:Rel P w0 n U g S H a w)
  (hb:Below w.heap.size w w') (gx:g'.base=g.base) (hold:g'.old=g.old) (gE:g'.al=g.al)
  (hg:∀b,b<w.heap.size->g'.hi b=g.hi b/\g'.owner b=g.owner b) (kY:∀b,w'.heap.size<=b->g'.hi b=0/\g'.owner b=none):Rel P w0 n U g' S H a w':=by
 have hle:g.base<=w.heap.size:=by rw[R.base];exact R.below.size
 refine R.ext gx hold gE ?_ ?_ ?_ ?_ kY ?_ hb.size
 .refine aL.fI (λb av=>hb.block b av) λb k av hp=>?_
  unfold Gh.Pr at*
  rw[gx,hold,(hg b av).1];exact hp
 .intro i b hi;obtain⟨cs,vs,ty,h1,h2,h3,_⟩:=R.box i b hi;have av:b<w.heap.size:=(Array.getElem?_eq_some_iff.1 h3).1;exact⟨hb.block b av,hg b av⟩
 .intro b loc ho
  have av:b<w.heap.size:=by
   rcases Nat.lt_or_ge b w.heap.size with h|h
   .exact h
   .rw[(R.fresh b h).2]at ho;cases ho
  exact⟨hb.block b av,(hg b av).1,by rw[(hg b av).2];exact ho⟩
 .exact R.below.trans (hb.mono hle)
 .intro b o _ ho;have av:b<w.heap.size:=(Array.getElem?_eq_some_iff.1 ho).1;exact⟨by rw[hb.block b av];exact ho,hg b av⟩
def Rel.kP {P:Program} {w0:World} {n:Nat} {U:Nat→Prop} {g:Gh} {S:af} {H:ah} {a:Act} {w w':World} (R:Rel P w0 n U g S H a w)
  (hb:Below w.heap.size w w'):Rel P w0 n U g S H a w':=
 R.grow hb rfl rfl rfl (λ_ _=>⟨rfl,rfl⟩) (λb h=>R.fresh b (Nat.le_trans hb.size h))
def qc(a:Act)(d t:Nat)(c:Value)(hd:d<a.tmps.size):(a.put (some d) c).tmps.getD t undef=if t=d then c else a.tmps.getD t undef:=by
 simp only[Act.put]
 by_cases h:t=d
 .subst h;simp[hd]
 .simp[h,Array.getElem?_setIfInBounds_ne (Ne.symm h)]
def Rel.put {P:Program} {w0:World} {n:Nat} {U:Nat→Prop} {g:Gh} {S:af} {H:ah} {a:Act} {w:World} (R:Rel P w0 n U g S H a w)
  (d:Nat) (v:AV) (c:Value) (hd:d<n) (hv:RV g.Pr g.al w v c) (ho:dD P w g (.slot d) v c):Rel P w0 n U g (aq S d v) H (a.put (some d) c) w:={
 size:=by simp[Act.put,R.size]
 defers:=R.defers
 facts:=R.facts
 slot t ht hu:=by
  rw[qc a d t c (by rw[R.size];exact hd)]
  by_cases h:t=d
  .subst h;simp only[aJ,if_true];exact hv
  .rw[aG S v h,if_neg h];exact R.slot t ht hu
 own t ht hu:=by
  rw[qc a d t c (by rw[R.size];exact hd)]
  by_cases h:t=d
  .subst h;simp only[aJ,if_true];exact ho
  .rw[aG S v h,if_neg h];exact R.own t ht hu
 box:=R.box
 iB:=R.iB
 ij:=R.ij
 inj:=R.inj
 base:=R.base
 below:=R.below
 fresh:=R.fresh
 still:=R.still
 grown:=R.grown
 kept:=R.kept }
def aH(S:af):Option Nat->AV->af
 |some d,v=>aq S d v
 |none,_=>S
def Rel.aH {P:Program} {w0:World} {n:Nat} {U:Nat→Prop} {g:Gh} {S:af} {H:ah} {a:Act} {w:World} (R:Rel P w0 n U g S H a w)
  (d:Option Nat) (v:AV) (c:Value) (hd:∀t,d=some t->t<n) (hv:RV g.Pr g.al w v c) (ho:∀t,d=some t->dD P w g (.slot t) v c):Rel P w0 n U g (aH S d v) H (a.put d c) w:=by
 cases d with
 |none=>exact R
 |some t=>exact R.put t v c (hd t rfl) hv (ho t rfl)
def Rel.weaken {P:Program} {w0:World} {n:Nat} {U:Nat→Prop} {g:Gh} {S:af} {H:ah} {a:Act} {w:World} (R:Rel P w0 n U g S H a w)
  (S':af) (h:∀t,t<n->¬U t->∀c,RV g.Pr g.al w (S t) c->dD P w g (.slot t) (S t) c->RV g.Pr g.al w (S' t) c/\dD P w g (.slot t) (S' t) c):Rel P w0 n U g S' H a w:={
 size:=R.size
 defers:=R.defers
 facts:=R.facts
 slot t ht hu:=(h t ht hu _ (R.slot t ht hu) (R.own t ht hu)).1
 own t ht hu:=(h t ht hu _ (R.slot t ht hu) (R.own t ht hu)).2
 box:=R.box
 iB:=R.iB
 ij:=R.ij
 inj:=R.inj
 base:=R.base
 below:=R.below
 fresh:=R.fresh
 still:=R.still
 grown:=R.grown
 kept:=R.kept }
def AV.kL:AV->Prop
 |.slice (.own _) _=>False
 |_=>True
instance(v:AV):Decidable v.kL:=by unfold AV.kL;split<;>infer_instance
def AV.oN(v:AV):v.aA.kL:=by
 cases v<;>try trivial
 rename_i o es
 cases o<;>trivial
def dD.kL{P:Program}{w w':World}{g g':Gh}{loc xK:Loc}{v:AV}{c:Value}(h:dD P w g loc v c)(hn:v.kL):dD P w' g' xK v c:=by
 cases v<;>try trivial
 rename_i o es
 cases o with
 |view=>trivial
 |nil=>trivial
 |own e=>simp[AV.kL]at hn
def Rel.DT {P:Program} {w0:World} {n:Nat} {U:Nat→Prop} {g:Gh} {S:af} {H:ah} {a:Act} {w:World} (R:Rel P w0 n U g S H a w)
  (loc:Loc) (xK:Option Loc) (hS:∀t,loc=.slot t->t<n->¬U t->(S t).kL)
  (hH:∀i j cs,loc=.cell i j->H i=some cs->∀h:j<cs.length,(cs[j]).kL):
  Rel P w0 n U { g with owner:=λb=>if g.owner b=some loc then xK else g.owner b } S H a w:={
 size:=R.size
 defers:=R.defers
 facts:=R.facts
 slot:=R.slot
 own t ht hu:=by
  by_cases h:loc=.slot t
  .exact(R.own t ht hu).kL (hS t h ht hu)
  .refine(R.own t ht hu).keep rfl λb hb=>⟨rfl,rfl,?_⟩
   show(if g.owner b=some loc then xK else g.owner b)=_;rw[if_neg (by rw[hb];intro e;exact h (Option.some.inj e).symm)];exact hb
 box i b hi:=by
  obtain⟨cs,vs,ty,h1,h2,h3,h4,h5,h6,h7,h8,h9⟩:=R.box i b hi;refine⟨cs,vs,ty,h1,h2,h3,h4,?_,h6,h7,?_,h9⟩
  .show(if g.owner b=some loc then xK else g.owner b)=none;rw[h5];simp
  .intro j hj c_
   by_cases h:loc=.cell i j
   .exact(h8 j hj c_).kL (hH i j cs h h1 hj)
   .refine(h8 j hj c_).keep rfl λb hb=>⟨rfl,rfl,?_⟩
    show(if g.owner b=some loc then xK else g.owner b)=_;rw[if_neg (by rw[hb];intro e;exact h (Option.some.inj e).symm)];exact hb
 iB:=R.iB
 ij:=R.ij
 inj:=R.inj
 base:=R.base
 below:=R.below
 fresh b hb:=by
  refine⟨(R.fresh b hb).1,?_⟩;show(if g.owner b=some loc then xK else g.owner b)=none;rw[(R.fresh b hb).2];simp
 still:=R.still
 grown:=R.grown
 kept b o h:=by
  obtain⟨k1,k2,k3,k4,k5⟩:=R.kept b o h;refine⟨k1,k2,k3,?_,k5⟩;show(if g.owner b=some loc then xK else g.owner b)=none
  rw[k4];simp }
def RV.iQ {Pr:Nat→Nat→Prop} {al DU:Nat→Option Nat} {w:World} {v:AV} {c:Value} {d:Nat} (h:RV Pr al w v c) (hs:iQ d v=false)
  (ha:∀i b,i≠d->al i=some b->DU i=some b):RV Pr DU w v c:=by
 cases h with
 |data v c h=>exact .data _ _ h
 |box i off b h=>exact .box i off b (ha i b (by simpa[Go.AL.iQ]using hs) h)
 |func=>simp[Go.AL.iQ]at hs
 |fN=>simp[Go.AL.iQ]at hs
 |bh c=>exact .bh c
def RV.aT {Pr:Nat→Nat→Prop} {al DU:Nat→Option Nat} {w:World} {v:AV} {c:Value} (d:Nat) (h:RV Pr al w v c)
  (ha:∀i b,i≠d->al i=some b->DU i=some b):RV Pr DU w (aT d v) c:=by
 cases h with
 |data v c h=>
  have:Go.AL.aT d v=v:=by cases h<;>rfl
  rw[this];exact .data _ _ h
 |box i off b h=>
  simp only[Go.AL.aT];split
  .exact .bh _
  .rename_i hi;exact .box i off b (ha i b hi h)
 |func fn first cap vs us h1 h2 r1 r2=>
  simp only[Go.AL.aT];split
  .exact .bh _
  .rename_i hn;simp only[Bool.or_eq_true,not_or,Bool.not_eq_true,List.any_eq_false]at hn;exact .func fn first cap vs us h1 h2 (λi h h'=>(r1 i h h').iQ (by simpa using hn.1 _ (List.getElem_mem h)) ha) (λi h h'=>(r2 i h h').iQ (by simpa using hn.2 _ (List.getElem_mem h)) ha)
 |fN=>exact .bh _
 |bh c=>exact .bh c
def zM(P:Program)(w:World)(g:Gh)(loc:Loc)(d:Nat)(v:AV)(c:Value)(h:dD P w g loc v c):dD P w g loc (aT d v) c:=by
 cases v<;>try exact h
 .simp only[aT];split<;>trivial
 .simp only[aT];split<;>trivial
def Rel.suspend {P:Program} {w0:World} {n:Nat} {U:Nat→Prop} {g:Gh} {S:af} {H:ah} {a:Act} {w:World} (R:Rel P w0 n U g S H a w)
  (d:Nat) (bI:¬g.old.bx d) (v:AV) (cs:List AV):
  Rel P w0 n (λt=>U t\/t=d) { g with al:=aq g.al d none } (aq (λt=>aT d (S t)) d v) (aq H d (some cs)) a w:={
 size:=R.size
 defers:=R.defers
 facts p hp:=by
  have h:=(R.facts p hp).aT (DU:=aq g.al d none) d λi b hi h=>by rw[aG _ _ hi];exact h
  rw[(g.old.ok p hp).2 d bI]at h;exact h
 slot t ht hu:=by
  simp only[not_or]at hu;rw[aG _ _ hu.2]
  refine(R.slot t ht hu.1).aT d λi b hi h=>?_
  show aq g.al d none i=some b;rw[aG _ _ hi];exact h
 own t ht hu:=by
  simp only[not_or]at hu;rw[aG _ _ hu.2];exact zM _ _ _ _ _ _ _ (R.own t ht hu.1)
 box i b hi:=by
  by_cases h:i=d
  .subst h;simp[aq]at hi
  .simp only[aG _ _ h]at hi;obtain⟨cs',vs,ty,h1,rest⟩:=R.box i b hi;exact⟨cs',vs,ty,by rw[aG _ _ h];exact h1,rest⟩
 iB i cs' h hu:=by
  simp only[not_or]at hu;rw[aG _ _ hu.2]at h;simp only[aG _ _ hu.2];exact R.iB i cs' h hu.1
 ij i h:=by
  show aq g.al d none i=none
  by_cases hi:i=d
  .subst hi;simp[aq]
  .rw[aG _ _ hi];exact R.ij i (h.resolve_right hi)
 inj i j b h h':=by
  have e:∀k,(aq g.al d none) k=some b->g.al k=some b:=by
   intro k hk
   by_cases FU:k=d
   .subst FU;simp[aq]at hk
   .rwa [aG _ _ FU]at hk
  exact R.inj i j b (e i h) (e j h')
 base:=R.base
 below:=R.below
 fresh:=R.fresh
 still:=R.still
 grown:=R.grown
 kept b o h:=by
  obtain⟨k1,k2,k3,k4,k5⟩:=R.kept b o h;refine⟨k1,k2,k3,k4,λi=>?_⟩;show aq g.al d none i≠some b
  by_cases hi:i=d
  .subst hi;simp[aq]
  .rw[aG _ _ hi];exact k5 i }
def Rel.EW {P:Program} {w0:World} {n:Nat} {U:Nat→Prop} {g:Gh} {S:af} {H:ah} {a:Act} {w:World} (R:Rel P w0 n U g S H a w)
  (d:Nat) (hU:U d) (hd:d<n) (cs:List AV) (vs:Array Value) (ty:TypeId) (hS:S d=.box d 0) (hH:H d=some cs) (hl:cs.length=vs.size)
  (hr:∀j (h:j<cs.length)(h':j<vs.size),RD g.Pr w cs[j] vs[j])
  (ho:∀j (h:j<cs.length)(h':j<vs.size),(cs[j]).kL/\dD P w g (.cell d j) cs[j] vs[j]) (h1:∀j (h:j<cs.length),(cs[j]).one=true):
  Rel P w0 n (λt=>U t/\t≠d) { g with al:=aq g.al d (some w.heap.size) } S H (a.put (some d) (.pointer (some ⟨w.heap.size,0,none⟩))) (w.alloc (.cells vs ty)):=by
 have hb:Below w.heap.size w (w.alloc (.cells vs ty)):=(Below.refl _ _).alloc (Nat.le_refl _) _;have R':=R.kP hb
 have hle:g.base<=w.heap.size:=by rw[R.base];exact R.below.size
 have gE:∀i b,g.al i=some b->aq g.al d (some w.heap.size) i=some b:=by
  intro i b h;rw[aG _ _ (by rintro rfl;rw[R.ij _ hU]at h;cases h)];exact h
 have BD:∀{v:AV}{c:Value},RD g.Pr w v c->RD g.Pr (w.alloc (.cells vs ty)) v c:=λh=>h.mono (aL.fI (λb av=>hb.block b av) λ_ _ _ h=>h)
 refine{ size:=by simp[Act.put,R.size],defers:=R.defers,facts:=λp hp=>(R'.facts p hp).mono (aL.same λ_ _ _ h=>h) gE,slot:=?_,own:=?_,box:=?_,iB:=?_,ij:=?_,inj:=?_,base:=R.base,below:=R'.below,fresh:=R'.fresh,still:=R'.still,grown:=R'.grown,kept:=?_ }
 .intro t ht hu;rw[qc a d t _ (by rw[R.size];exact hd)]
  by_cases h:t=d
  .subst h;rw[if_pos rfl,hS];exact .box _ _ _ (by simp[aq])
  .rw[if_neg h];exact(R'.slot t ht (λMu=>hu ⟨Mu,h⟩)).mono (aL.same λ_ _ _ h=>h) gE
 .intro t ht hu;rw[qc a d t _ (by rw[R.size];exact hd)]
  by_cases h:t=d
  .subst h;rw[hS];simp[dD]
  .rw[if_neg h]
   exact(R'.own t ht (λMu=>hu ⟨Mu,h⟩)).keep rfl λb hb=>⟨rfl,rfl,hb⟩
 .intro i b hi
  by_cases h:i=d
  .subst h
   have ja:b=w.heap.size:=by simpa[aq]using hi.symm
   subst ja;refine⟨cs,vs,ty,hH,hle,heap_alloc_new w _,(R.fresh _ (Nat.le_refl _)).1,(R.fresh _ (Nat.le_refl _)).2,hl,λj h h'=>BD (hr j h h'),λj h h'=>(ho j h h').2.kL (ho j h h').1,h1⟩
  .simp only[aG _ _ h]at hi;obtain⟨cs',jq,sU,h1,h2,h3,h4,h5,h6,h7,h8,h9⟩:=R'.box i b hi;exact⟨cs',jq,sU,h1,h2,h3,h4,h5,h6,h7,λj hj c_=>(h8 j hj c_).keep rfl λb hb=>⟨rfl,rfl,hb⟩,h9⟩
 .intro i cs' h hu
  by_cases hi:i=d
  .subst hi;simp[aq]
  .simp only[aG _ _ hi];exact R.iB i cs' h (λMu=>hu ⟨Mu,hi⟩)
 .intro i h;show aq g.al d (some w.heap.size) i=none;rw[aG _ _ h.2];exact R.ij i h.1
 .intro i j b h h'
  have key:∀k,aq g.al d (some w.heap.size) k=some b->(k=d/\b=w.heap.size)\/(k≠d/\g.al k=some b):=by
   intro k hk
   by_cases FU:k=d
   .subst FU;exact .inl ⟨rfl,by simpa[aq]using hk.symm⟩
   .rw[aG _ _ FU]at hk;exact .inr ⟨FU,hk⟩
  have av:∀k,g.al k=some b->b<w.heap.size:=by
   intro k hk;obtain⟨_,_,_,_,_,h3,_⟩:=R.box k b hk;exact(Array.getElem?_eq_some_iff.1 h3).1
  rcases key i h with⟨rfl,e⟩|⟨hi,h1⟩<;>rcases key j h' with⟨rfl,e'⟩|⟨hj,h2⟩
  .rfl
  .have:=av j h2;omega
  .have:=av i h1;omega
  .exact R.inj i j b h1 h2
 .intro b o h;obtain⟨k1,k2,k3,k4,k5⟩:=R'.kept b o h;refine⟨k1,k2,k3,k4,λi=>?_⟩;show aq g.al d (some w.heap.size) i≠some b
  by_cases hi:i=d
  .subst hi;rw[aJ];have:=(Array.getElem?_eq_some_iff.1 (R.kept b o h).2.1).1;intro e;have:=Option.some.inj e;omega
  .rw[aG _ _ hi];exact k5 i
def Rel.tg {P:Program} {w0:World} {n:Nat} {U:Nat→Prop} {g:Gh} {S:af} {H:ah} {a:Act} {w:World} (R:Rel P w0 n U g S H a w)
  (i b:Nat) (hi:g.al i=some b) (vs jq:Array Value) (ty:TypeId) (hh:w.heap[b]?=some (.cells vs ty (0,0))) (cs':List AV) (hl:cs'.length=jq.size)
  (hr:∀j (h:j<cs'.length)(h':j<jq.size),RD g.Pr w cs'[j] jq[j])
  (ho:∀j (h:j<cs'.length)(h':j<jq.size),dD P w g (.cell i j) cs'[j] jq[j]) (QK:∀j (h:j<cs'.length),(cs'[j]).one=true):
  Rel P w0 n U g S (aq H i (some cs')) a (w.setRow b jq):=by
 obtain⟨cs,Oz,ty0,h1,h2,h3,h4,h5,h6,h7,h8,h9⟩:=R.box i b hi
 have bQ:∀b' k,g.Pr b' k->b'≠b:=by
  rintro b' k hp rfl;unfold Gh.Pr at hp;rw[h4]at hp;omega
 have fT:aL g.Pr g.Pr w (w.setRow b jq):={
  cell:=λb' k hp u hu=>⟨hp,by rw[World.cell?_of_block (w:=w) (setRow_other w b b' jq (bQ b' k hp))];exact hu⟩
  map:=λb' hp es c hm=>⟨hp,by rw[setRow_other w b b' jq (bQ b' 0 hp)];exact hm⟩ }
 have cE:∀b' loc,g.owner b'=some loc->(w.setRow b jq).heap[b']?=w.heap[b']?/\g.hi b'=g.hi b'/\g.owner b'=some loc:=by
  intro b' loc fg;refine⟨setRow_other w b b' jq ?_,rfl,fg⟩;rintro rfl;rw[h5]at fg;cases fg
 refine{ size:=R.size,defers:=R.defers,facts:=λp hp=>(R.facts p hp).mono fT λ_ _ h=>h,slot:=?_,own:=?_,box:=?_,iB:=?_,ij:=R.ij,inj:=R.inj,base:=R.base,below:=?_,fresh:=?_,still:=R.still.trans fT,grown:=by simpa using R.grown,kept:=?_ }
 .exact λt ht hu=>(R.slot t ht hu).mono fT λ_ _ h=>h
 .exact λt ht hu=>(R.own t ht hu).keep rfl λb' fg=>cE b' _ fg
 .intro k b' hk
  by_cases yp:k=i
  .subst yp
   have:b'=b:=by rw[hi]at hk;exact(Option.some.inj hk).symm
   subst this;exact⟨cs',jq,ty,aJ _ _ _,h2,setRow_heap w b' vs jq ty (0,0) hh,h4,h5,hl,λj h h'=>(hr j h h').mono fT,λj h h'=>(ho j h h').keep rfl λb' fg=>cE b' _ fg,QK⟩
  .obtain⟨c1,v1,t1,k1,k2,k3,k4,k5,k6,k7,k8,k9⟩:=R.box k b' hk
   have bQ:b'≠b:=by rintro rfl;exact yp (R.inj k i b' hk hi)
   exact⟨c1,v1,t1,by rw[aG _ _ yp];exact k1,k2,by rw[setRow_other w b b' jq bQ];exact k3,k4,k5,k6,λj h h'=>(k7 j h h').mono fT,λj h h'=>(k8 j h h').keep rfl λb' fg=>cE b' _ fg,k9⟩
 .intro k cs1 hk hu
  by_cases yp:k=i
  .subst yp;rw[hi];rfl
  .rw[aG _ _ yp]at hk;exact R.iB k cs1 hk hu
 .exact R.below.trans ⟨rfl,rfl,rfl,by simp,λk hk=>setRow_other w b k jq (by omega)⟩
 .intro b' fg;exact R.fresh b' (by simpa using fg)
 .intro b' o h;obtain⟨k1,k2,k3,k4,k5⟩:=R.kept b' o h;refine⟨k1,?_,k3,k4,k5⟩;rw[setRow_other w b b' jq (by rintro rfl;exact k5 i hi)];exact k2
inductive cm where
 |t (n:Nat)|c (v:AV)|f (n:Nat)|m (n:Nat) (SP:List (TypeId×Nat))
def kR:Value->Option AV
 |.bool b=>some (.bool b)
 |.int k n=>some (.int k n)
 |.string s=>some (.str s.data.toList)
 |.slice none 0 0=>some (.slice .nil [])
 |.pointer none=>some .pc
 |.map none=>some (.map [] [])
 |.nilIface=>some .nR
 |.nilFunc=>some (.val .nilFunc)
 |_=>none
def h_:List Value->Option (List AV)
 |[]=>some []
 |v::vs=>match kR v,h_ vs with
  |some x,some xs=>if x.storable then some (x::xs)else none
  |_,_=>none
def ev(S:af):cm->AV
 |.t n=>S n
 |.c v=>v
 |.f n=>.func (.func n) [] []
 |.m n SP=>match S n with
  |.iface t v=>match SP.lookup t with
   |some k=>.func (.func k) [v] []
   |none=>.bh
  |_=>.bh
inductive HR where
 |any|ref|box (r:Nat)
def HR.okB:HR->Nat->Bool
 |.any,_=>true
 |.ref,_=>false
 |.box r,i=>i==r
inductive dS where
 |mv (take:Bool) (x:cm)
 |pick (c a b:cm)
 |alloc (t:TypeId) (zero:List AV)
 |box (t:TypeId) (size:Nat) (x:cm)
 |build (zero:List AV) (parts:List (Nat×Nat×cm))
 |buildSlice (t e:TypeId) (size:Nat) (parts:List cm)
 |load (hr:HR) (agg:Bool) (size:Nat) (a:cm)
 |loadT (hr:HR) (a:cm)
 |store (hr:HR) (size:Nat) (a x:cm)
 |bin (op:BinOp) (x y:cm)
 |zS (neg:Bool) (x y:cm)
 |eqs (neg:Bool) (k:Nat) (x y:cm)
 |mN (ag:Bool) (len size:Nat) (x i:cm)
 |vy (x:cm)
 |mM (xs:List cm)
 |mL (len:Nat) (x i:cm)
 |lookup (k:Nat) (z:AV) (x i:cm)
 |not (x:cm)
 |conv (k:IntKind) (x:cm)
 |iface (t:TypeId) (x:cm)
 |BQ (fn:Fn) (first cap:List cm)
 |mO (x:cm) (lo hi:Option cm)
 |lZ (size:Nat) (x:cm) (lo hi:Option cm)
 |ot (len:Nat) (x:cm)
 |fieldAddr (off:Nat) (x:cm)
 |indexAddr (size:Nat) (x i:cm)
 |mK (x i:cm)
 |extract (x:cm) (i:Nat)
 |uW (x:cm)
 |pn (x:cm)
 |isNil (neg:Bool) (x:cm)
 |empty (e:TypeId)
 |append (t e:TypeId) (size bytes:Nat) (x y:cm)
 |max (x y:cm)
 |min (x y:cm)
 |assert (t:TypeId) (zero:AV) (x:cm)
 |panic (x:cm)
 |call (f:Nat) (args:List cm)
 |gR (f:cm) (args:List cm)
 |other
structure aD where
 v:AV
 dm:Option Nat:=none
 hw:Option (Nat×List AV):=none
def aD.S(e:aD)(S:af)(dst:Option Nat):af:=
 aH (match e.dm with|some t=>aq S t (S t).aA|none=>S) dst e.v
def aD.H(e:aD)(H:ah):ah:=
 match e.hw with|some (i,cs)=>aq H i (some cs)|none=>H
def bG:AV:=.eS []
def ee(op:BinOp):AV->AV->Option AV
 |.int k a,.int k' b=>
  if k≠k' then none else
  match op with
  |.add=>some (.int k (k.wrap (a+b)))
  |.sub=>some (.int k (k.wrap (a-b)))
  |.mul=>some (.int k (k.wrap (a*b)))
  |.quo=>if b=0 then none else some (.int k (k.wrap (a.tdiv b)))
  |.rem=>if b=0 then none else some (.int k (a.tmod b))
  |.eql=>some (.bool (a==b))
  |.neq=>some (.bool (a !=b))
  |.lss=>some (.bool (decide (a<b)))
  |.leq=>some (.bool (decide (a<=b)))
  |.gtr=>some (.bool (decide (a>b)))
  |.geq=>some (.bool (decide (a>=b)))
  |_=>none
 |.str a,.str b=>
  match op with
  |.eql=>some (.bool (a==b))
  |.neq=>some (.bool (a !=b))
  |.add=>if a.length+b.length<1073741824 then some (.str (a++b))else none
  |_=>none
 |_,_=>none
def kC:List AV->Option (List Int)
 |[]=>some []
 |.int .i64 n::cs=>(kC cs).map (n::·)
 |_=>none
def bytesOf:List AV->Option (List UInt8)
 |[]=>some []
 |.int .u8 n::cs=>if 0<=n/\n<256 then(bytesOf cs).map (UInt8.ofNat n.toNat::·)else none
 |_=>none
def mm(key:List Int):List AV->List AV->Option (Option AV)
 |[],_=>some none
 |.agg c::ks,v::vs=>match kC c with
  |some m=>if m.length≠key.length then none else if key==m then some (some v)else mm key ks vs
  |none=>none
 |_,_=>none
def tW:AV->Bool
 |.func ..|.val .nilFunc=>true
 |_=>false
def aR(cs:List AV)(off:Nat)(vs:List AV):List AV:=cs.take off++vs++cs.drop (off+vs.length)
def cL(cells:List AV):List (Nat×Nat×AV)->Option (List AV)
 |[]=>some cells
 |(off,size,v)::rest=>if v.cells.length=size/\off+size<=cells.length/\v.storable=true then cL (aR cells off (v.aA.cells)) rest else none
def aZ(agg:Bool)(size:Nat)(cs:List AV):Option AV:=
 if agg then(if size<=cs.length then some (.agg ((cs.take size).map AV.aA))else none)
 else(cs[0]?).map AV.aA
def bound(x:Option AV)(d:Nat):Option Int:=
 match x with
 |none=>some d
 |some (.int .i64 n)=>some n
 |_=>none
def AV.bm:AV->List AV
 |.agg cs=>cs.map AV.aA
 |v=>[v]
def a_:cm->Option Nat
 |.t n=>some n
 |_=>none
def aF(size:Nat)(es:List AV):Bool:=es.all λv=>v.storable&&v.cells.length==size
def ao(S:af)(H:ah):dS->Option aD
 |.mv take x=>if take then some { v:=ev S x,dm:=a_ x }else some { v:=(ev S x).aA }
 |.pick c a b=>match ev S c with
  |.bool t=>some { v:=(if t then ev S a else ev S b).aA }
  |_=>none
 |.build zero parts=>(cL zero (parts.map λ(o,s,x)=>(o,s,ev S x))).map λcs=>{ v:=.agg cs }
 |.buildSlice _ e size parts=>
  if aF size (parts.map (ev S))&&parts.length*size<=16777216 then some { v:=.slice (.own e) ((parts.map (ev S)).map AV.vw) }else none
 |.load hr agg size x=>match ev S x with
  |.box i off=>if hr.okB i then match H i with
   |some cs=>(aZ agg size (cs.drop off)).map λv=>{ v:=v }
   |none=>none
   else none
  |.ref cs=>(aZ agg size cs).map λv=>{ v:=v }
  |_=>none
 |.loadT hr x=>match ev S x with
  |.box i off=>if hr.okB i then match H i with
   |some cs=>match cs[off]? with
    |some v=>some { v:=v,hw:=some (i,cs.set off v.aA) }
    |none=>none
   |none=>none
   else none
  |_=>none
 |.store hr size x y=>match ev S x with
  |.box i off=>if hr.okB i then match H i with
   |some cs=>if (ev S y).cells.length=size∧off+size≤cs.length∧(ev S y).storable=true then
     some { v:=bG,dm:=a_ y,hw:=some (i,aR cs off (ev S y).bm) }else none
   |none=>none
   else none
  |_=>none
 |.bin op x y=>(ee op (ev S x) (ev S y)).map λv=>{ v:=v }
 |.zS neg x y=>match ev S x,ev S y with
  |.bool a,.bool b=>some { v:=.bool (if neg then a !=b else a==b) }
  |_,_=>none
 |.eqs neg k x y=>match ev S x,ev S y with
  |.agg xs,.agg ys=>match kC xs,kC ys with
   |some a,some b=>if a.length=k/\b.length=k then some { v:=.bool (if neg then a !=b else a==b) }else none
   |_,_=>none
  |_,_=>none
 |.mN ag len size x i=>match ev S x,ev S i with
  |.agg cs,.int .i64 k=>if 0<=k/\k<len then(aZ ag size (cs.drop (k.toNat*size))).map λv=>{ v:=v }else none
  |_,_=>none
 |.mM xs=>if(xs.map (ev S)).all tW then some { v:=.fN (xs.map (ev S)) }else none
 |.mL len x i=>match ev S x,ev S i with
  |.fN fs,.int .i64 k=>if 0≤k∧k < len then match fs[k.toNat]? with
    |some v=>if tW v then some { v:=v }else none
    |none=>none
   else none
  |_,_=>none
 |.vy x=>match ev S x with
  |.slice _ es=>(bytesOf es).map λl=>{ v:=.str l }
  |_=>none
 |.lookup k z x i=>match ev S x,ev S i with
  |.map ks vs,.agg c=>match kC c with
   |some key=>if key.length=k then match mm key ks vs with
     |some (some v)=>some { v:=.eS [v.aA,.bool true] }
     |some none=>some { v:=.eS [z,.bool false] }
     |none=>none
    else none
   |none=>none
  |_,_=>none
 |.not x=>match ev S x with
  |.bool b=>some { v:=.bool !b }
  |_=>none
 |.conv k x=>match ev S x with
  |.int _ n=>some { v:=.int k (k.wrap n) }
  |_=>none
 |.iface t x=>if(ev S x).storable then some { v:=.iface t (ev S x).vw }else none
 |.BQ fn first cap=>some { v:=.func fn (first.map λx=>(ev S x).aA) (cap.map λx=>(ev S x).aA) }
 |.mO x lo hi=>match ev S x with
  |.str l=>match bound (lo.map (ev S)) 0,bound (hi.map (ev S)) l.length with
   |some a,some b=>if 0<=a/\a<=b/\b<=l.length then some { v:=.str ((l.take b.toNat).drop a.toNat) }else none
   |_,_=>none
  |_=>none
 |.ot len x=>match ev S x with
  |.ref cs=>if cs.length=len then some { v:=.slice .view cs }else none
  |_=>none
 |.lZ size x lo hi=>match ev S x with
  |.slice _ es=>match bound (lo.map (ev S)) 0,bound (hi.map (ev S)) es.length with
   |some a,some b=>if 0<=a/\a<=b/\b<=es.length/\aF size es=true then some { v:=.slice .view ((es.take b.toNat).drop a.toNat) }else none
   |_,_=>none
  |_=>none
 |.fieldAddr off x=>match ev S x with
  |.box i o=>some { v:=.box i (o+off) }
  |.ref cs=>some { v:=.ref (cs.drop off) }
  |_=>none
 |.indexAddr size x i=>match ev S x,ev S i with
  |.slice _ es,.int .i64 k=>if 0≤k then match es[k.toNat]? with
    |some v=>if v.cells.length=size then some { v:=.ref v.cells }else none
    |none=>none
   else none
  |_,_=>none
 |.mK x i=>match ev S x,ev S i with
  |.str l,.int .i64 k=>if 0≤k then match l[k.toNat]? with
    |some b=>some { v:=.int .u8 b.toNat }
    |none=>none
   else none
  |_,_=>none
 |.extract x i=>match ev S x with
  |.eS vs=>(vs[i]?).map λv=>{ v:=v.aA }
  |_=>none
 |.uW x=>match ev S x with
  |.str l=>some { v:=.int .i64 l.length }
  |_=>none
 |.pn x=>match ev S x with
  |.slice _ es=>some { v:=.int .i64 es.length }
  |_=>none
 |.isNil neg x=>match ev S x with
  |.slice _ es=>some { v:=if es.isEmpty then .kI else .bool neg }
  |_=>none
 |.empty _=>some { v:=.slice .nil [] }
 |.append _ e size _ x y=>match ev S x,ev S y with
  |.slice .nil [],.slice _ ys=>if aF size ys&&ys.length<1048576 then some { v:=.slice (if ys.isEmpty then .nil else .own e) ys }else none
  |.slice (.own e') xs,.slice _ ys=>if e'=e/\(aF size ys&&aF size xs&&(xs.length+ys.length<1048576))=true then some { v:=.slice (.own e) (xs++ys),dm:=a_ x }else none
  |_,_=>none
 |.max x y=>match ev S x,ev S y with
  |.int .i64 a,.int .i64 b=>some { v:=.int .i64 (max a b) }
  |_,_=>none
 |.min x y=>match ev S x,ev S y with
  |.int .i64 a,.int .i64 b=>some { v:=.int .i64 (min a b) }
  |_,_=>none
 |.assert t zero x=>match ev S x with
  |.iface t' v=>some { v:=if t'=t then .eS [v,.bool true]else .eS [zero,.bool false] }
  |.nR=>some { v:=.eS [zero,.bool false] }
  |_=>none
 |_=>none
def cm.tmps:cm->List Nat
 |.t n=>[n]
 |.m n _=>[n]
 |_=>[]
def dS.rd:dS->List Nat
 |.mv _ x|.ot _ x|.box _ _ x|.load _ _ _ x|.loadT _ x|.not x|.vy x|.conv _ x|.iface _ x|.fieldAddr _ x|.extract x _|.uW x|.pn x|.isNil _ x|.assert _ _ x|.panic x=>x.tmps
 |.pick a b c=>a.tmps++b.tmps++c.tmps
 |.alloc ..|.other|.empty _=>[]
 |.build _ ps=>ps.flatMap λp=>p.2.2.tmps
 |.buildSlice _ _ _ ps=>ps.flatMap cm.tmps
 |.store _ _ a x|.bin _ a x|.zS _ a x|.eqs _ _ a x|.indexAddr _ a x|.mK a x|.mN _ _ _ a x|.lookup _ _ a x|.append _ _ _ _ a x|.max a x|.min a x=>a.tmps++x.tmps
 |.mM xs=>xs.flatMap cm.tmps
 |.mL _ a x=>a.tmps++x.tmps
 |.BQ _ f c=>f.flatMap cm.tmps++c.flatMap cm.tmps
 |.mO x l h|.lZ _ x l h=>x.tmps++(l.toList++h.toList).flatMap cm.tmps
 |.call _ yw=>yw.flatMap cm.tmps
 |.gR f yw=>f.tmps++yw.flatMap cm.tmps
def du(n:Nat):Operand->Option cm
 |.tmp t=>if t<n then some (.t t)else none
 |.const c=>(kR c).map .c
 |.func f=>some (.f f)
 |.global _=>none
def mh(n:Nat):List Operand->Option (List cm)
 |[]=>some []
 |x::xs=>match du n x,mh n xs with
  |some y,some ys=>some (y::ys)
  |_,_=>none
def k_(n:Nat):Option Operand->Option (Option cm)
 |none=>some none
 |some x=>(du n x).map some
def Gz(Pr:Nat->Nat->Prop)(al:Nat->Option Nat)(w:World){c:Value}{v:AV}(h:kR c=some v):RV Pr al w v c:=by
 unfold kR at h
 split at h<;>first|cases h|skip
 .exact .data _ _ (.bool _)
 .exact .data _ _ (.int _ _)
 .rename_i s
  have:s=⟨s.data.toList.toArray⟩:=by simp
  rw(occs:=.pos [2]) [this];exact .data _ _ (.str _)
 .exact .data _ _ (.gy _)
 .exact .data _ _ .pc
 .exact .data _ _ .rn
 .exact .data _ _ .nR
 .exact .data _ _ (.val _ rfl)
def wG{c:Value}{v:AV}(h:kR c=some v)(P:Program)(w:World)(g:Gh)(loc:Loc):dD P w g loc v c:=by
 unfold kR at h
 split at h<;>first|cases h|skip
 all_goals first|trivial|exact⟨none,rfl⟩
def xJ{c:Value}{v:AV}(h:kR c=some v):v.kL:=by
 unfold kR at h
 split at h<;>first|cases h|skip
 all_goals trivial
section
variable{P:Program}{w0:World}{n:Nat}{U:Nat->Prop}{g:Gh}{S:af}{H:ah}{a:Act}{w:World}
def Rel.ev(R:Rel P w0 n U g S H a w){x:Operand}{y:cm}(h:du n x=some y)(hu:∀t∈y.tmps,¬U t):RV g.Pr g.al w (ev S y) (a.eval x):=by
 cases x with
 |tmp t=>
  simp only[du]at h;split at h
  .rename_i ht;cases h;exact R.slot t ht (hu t (by simp[cm.tmps]))
  .cases h
 |const c=>
  simp only[du,Option.map_eq_some_iff]at h;obtain⟨v,hv,rfl⟩:=h;exact Gz _ _ _ hv
 |global k=>cases h
 |func f=>
  cases h;exact .func _ [] [] #[] #[] rfl rfl (λi h=>by simp at h) (λi h=>by simp at h)
def Rel.Ha (R:Rel P w0 n U g S H a w):∀ {xs:List Operand} {ys:List cm},mh n xs=some ys→(∀ y∈ys,∀ t∈y.tmps,¬ U t) →
  ys.length=xs.length/\∀i (h:i<ys.length)(h':i<xs.length),RV g.Pr g.al w (AL.ev S ys[i]) (a.eval xs[i])
 |[],ys,h,_=>by cases h;exact⟨rfl,λi h=>by simp at h⟩
 |x::xs,ys,h,hu=>by
  simp only[mh]at h;split at h
  .rename_i y ys' h1 h2;cases h;obtain⟨e,hh⟩:=R.Ha h2 (λy hy=>hu y (by simp[hy]));refine⟨by simp[e],λi hi ck=>?_⟩
   cases i with
   |zero=>exact R.ev h1 (hu y (by simp))
   |succ i=>exact hh i (by simpa using hi) (by simpa using ck)
  .cases h
def cy(P:Program)(w0:World)(n:Nat)(U:Nat->Prop)(g:Gh)(S:af)(H:ah)(a:Act)(w:World)(o:Oper)(e:aD):Prop:=
 ∃c w' g',((execOp a.eval o).run P w=.ok (.value c) w'\/((execOp a.eval o).run P w=.ok .skip w'/\c=undef))/\
  g'.base=g.base/\g'.old=g.old/\Rel P w0 n U g' (e.S S o.dst) (e.H H) (a.put o.dst c) w'
def cy.val (R:Rel P w0 n U g S H a w) {o:Oper} {v:AV} {c:Value} (hd:∀ t,o.dst=some t→t < n) (hr:(execOp a.eval o).run P w = .ok (.value c) w)
  (hv:RV g.Pr g.al w v c) (ho:∀loc,dD P w g loc v c):cy P w0 n U g S H a w o { v:=v }:=
 ⟨c,w,g,.inl hr,rfl,rfl,R.aH o.dst v c hd hv λ_ _=>ho _⟩
def gw(v:AV)(c:Value)(loc:Loc):dD P w g loc v.aA c:=dD.aA
def G3 (R:Rel P w0 n U g S H a w) {o:Oper} {x:Operand} {y:cm} {tk:Bool} {e:aD} (hd:∀ t,o.dst=some t→t < n∧¬ U t) (hx:du n x=some y) (hu:∀ t∈y.tmps,¬ U t)
  (hr:(execOp a.eval o).run P w=.ok (.value (a.eval x)) w) (cD:∀t,o.dst=some t->t∉y.tmps) (he:ao S H (.mv tk y)=some e):cy P w0 n U g S H a w o e:=by
 have hv:=R.ev hx hu
 cases tk with
 |false=>
  simp only[ao,Bool.false_eq_true,if_false,Option.some.injEq]at he;subst he
  exact cy.val R (λt h=>(hd t h).1) hr hv.aA λloc=>gw _ _ _
 |true=>
  simp only[ao,if_true,Option.some.injEq]at he;subst he
  cases x with
  |const c=>
   simp only[du,Option.map_eq_some_iff]at hx;obtain⟨v,hc,rfl⟩:=hx
   exact cy.val R (λt h=>(hd t h).1) hr hv λloc=>wG hc _ _ _ _
  |global k=>cases hx
  |func f=>cases hx;exact cy.val R (λt h=>(hd t h).1) hr hv λloc=>trivial
  |tmp t=>
   simp only[du]at hx;split at hx
   case isFalse=>cases hx
   rename_i ht;cases hx;have Mk:=hu t (by simp[cm.tmps]);have ho:=R.own t ht Mk
   have R1:Rel P w0 n U g (aq S t (S t).aA) H a w:=R.weaken _ λk hk huk c nL ho=>by
    by_cases h:k=t
    .subst h;rw[aJ];exact⟨nL.aA,gw _ _ _⟩
    .rw[aG _ _ h];exact⟨nL,ho⟩
   cases gJ:o.dst with
   |none=>
    refine⟨_,w,g,.inl hr,rfl,rfl,?_⟩;simpa[aD.S,aD.H,aH,a_,gJ,Act.put]using R1
   |some d=>
    have hdt:d≠t:=λh=>cD d gJ (by simp[cm.tmps,h])
    have R2:=R1.DT (.slot t) (some (.slot d)) (λk hk _ _=>by cases hk;rw[aJ];exact AV.oN _) (λi j cs h=>by cases h);have R3:=R2.put d (S t) (a.tmps.getD t undef) (hd d gJ).1 (R.slot t ht Mk) ?own
    case own=>
     show dD P w _ (.slot d) (S t) (a.tmps.getD t undef);generalize S t=v at ho;generalize a.tmps.getD t undef=c at ho
     cases v<;>try trivial
     rename_i oo es
     cases oo with
     |view=>trivial
     |nil=>exact ho
     |own e=>
      obtain⟨i,xs,b,h1,h2,h3,h4,h5⟩:=ho;refine⟨i,xs,b,h1,h2,h3,?_,h5⟩;show(if g.owner b=some (.slot t)then some (.slot d)else g.owner b)=_;rw[if_pos h4]
    rw[<-gJ]at R3;exact⟨_,w,{ g with owner:=λb=>if g.owner b=some (.slot t)then some (.slot d)else g.owner b },.inl hr,rfl,rfl,by rw[gJ]at R3⊢;exact R3⟩
def eB:TypeDesc->Bool
 |.struct _|.array _ _=>true
 |_=>false
def qm {Pr:Nat→Nat→Prop} {al:Nat→Option Nat} {ty:TypeId} {i:TypeInfo} {nz:TypeDesc} (hi:P.info? ty=some i) (hu:P.underlying ty=some nz) {b off:Nat} {cs:List AV} {vs:Nat→Value} {v:AV}
  (hc:∀k,k<cs.length->w.cell? ⟨b,off+k,none⟩=some (vs k)) (h1:∀k (h:k<cs.length),(cs[k]).one=true) (hr:∀k (h:k<cs.length),RD Pr w cs[k] (vs k))
  (he:aZ (eB nz) i.size cs=some v):
  ∃c,(loadVar ty ⟨b,off,none⟩).run P w=.ok c w/\RD Pr w v c/\v.aA=v:=by
 have jL:(isAgg ty).run P w=.ok (eB nz) w:=by
  unfold isAgg;rw[Sem.run_bind,run_underlying hu w]
  cases nz<;>simp[eB]
 generalize eB nz=q at he jL
 cases q with
 |true=>
  simp only[aZ,if_true]at he;split at he
  case isFalse=>cases he
  rename_i hl;cases he
  have AR:(loadCells ⟨b,off,none⟩ i.size).run P w=.ok ((List.range i.size).map vs).toArray w:=
   run_loadCells (P:=P) w _ _ vs λj hj=>by rw[Addr.add_lit];exact hc j (by omega)
  refine⟨.agg ((List.range i.size).map vs).toArray,by simp[loadVar,Sem.run_bind,jL,sizeOf,typeInfo,hi,AR],?_,rfl⟩
  refine .agg _ _ (by simp;omega) (λk hk=>?_) λk hk eK=>?_
  .simp only[List.length_map,List.length_take]at hk;simp only[List.getElem_map,List.getElem_take];rw[AV.mU];exact h1 k (by omega)
  .simp only[List.length_map,List.length_take]at hk;have:=(hr k (by omega)).aA;simpa using this
 |false=>
  simp only[aZ,Bool.false_eq_true,if_false,Option.map_eq_some_iff]at he;obtain⟨v0,PG,rfl⟩:=he;obtain⟨h0,rfl⟩:=List.getElem?_eq_some_iff.1 PG;have:=hc 0 h0;simp only[Nat.add_zero]at this;exact⟨vs 0,by simp[loadVar,Sem.run_bind,jL,this],(hr 0 h0).aA,AV.idem _⟩
set_option linter.unusedVariables false in
def zq (R:Rel P w0 n U g S H a w) {o:Oper} {hr:HR} {ty:TypeId} {i:TypeInfo} {nz:TypeDesc} {x:Operand} {y:cm} {e:aD} (ho:o.op = .load ty x) (hd:∀ t,o.dst=some t→t < n∧¬ U t)
  (hi:P.info? ty=some i) (eI:P.underlying ty=some nz) (hx:du n x=some y) (hu:∀t∈y.tmps,¬U t)
  (he:ao S H (.load hr (eB nz) i.size y)=some e):cy P w0 n U g S H a w o e:=by
 have hv:=R.ev hx hu
 have fin:∀{v:AV}{b off:Nat},a.eval x=.pointer (some ⟨b,off,none⟩)->(∃c,(loadVar ty ⟨b,off,none⟩).run P w=.ok c w/\RD g.Pr w v c/\v.aA=v)->cy P w0 n U g S H a w o { v:=v }:=by
  rintro v b off hx ⟨c,h1,h2,h3⟩
  refine cy.val R (λt h=>(hd t h).1) (c:=c) ?_ (.data _ _ h2) λloc=>by rw[<-h3];exact gw _ _ _
  unfold execOp;simp[ho,hx,Instr.loadAt,Instr.sureAddr,h1]
 simp only[ao]at he;generalize pZ:AL.ev S y=q at he hv;generalize lD:a.eval x=c at hv fin
 cases hv with
 |box j off b gE=>
  simp only at he;split at he
  case isFalse=>cases he
  obtain⟨cs,vs,sU,k1,k2,k3,k4,k5,k6,k7,k8,k9⟩:=R.box j b gE;simp only[k1,Option.map_eq_some_iff]at he;obtain⟨v,hv,rfl⟩:=he;refine fin rfl (qm (Pr:=g.Pr) (al:=g.al) hi eI (vs:=λk=>vs.getD (off+k) undef) (λk hk=>?_) (λk hk=>?_) (λk hk=>?_) hv)
  .simp only[List.length_drop]at hk
   have:off+k<vs.size:=by omega
   simp[World.cell?,k3,this]
  .simp only[List.length_drop]at hk;simp only[List.getElem_drop];exact k9 (off+k) (by omega)
  .simp only[List.length_drop]at hk;simp only[List.getElem_drop];have hh:=k7 (off+k) (by omega) (by omega)
   have:off+k<vs.size:=by omega
   simpa[this]using hh
 |data v c h=>
  cases h<;>simp only at he<;>try cases he
  rename_i cs b off vs h1 hc hr;simp only[Option.map_eq_some_iff]at he;obtain⟨v,hv,rfl⟩:=he;exact fin rfl (qm (Pr:=g.Pr) (al:=g.al) hi eI (vs:=vs) (λk hk=>(hc k hk).2) h1 hr hv)
 |func=>cases he
 |fN=>cases he
 |bh c=>cases he
end
section
variable{P:Program}{w0:World}{n:Nat}{U:Nat->Prop}{g:Gh}{S:af}{H:ah}{a:Act}{w:World}
def Ju (R:Rel P w0 n U g S H a w) {o:Oper} {x x1 x2:Operand} {y y1 y2:cm} {e:aD} (ho:o.op = .pick x x1 x2) (hd:∀ t,o.dst=some t→t < n∧¬ U t)
  (hx:du n x=some y) (ma:du n x1=some y1) (kE:du n x2=some y2) (hu:∀t∈y.tmps,¬U t) (mI:∀t∈y1.tmps,¬U t) (np:∀t∈y2.tmps,¬U t)
  (he:ao S H (.pick y y1 y2)=some e):cy P w0 n U g S H a w o e:=by
 have hv:=R.ev hx hu;have e_:=R.ev ma mI;have eJ:=R.ev kE np;simp only[ao]at he;generalize pZ:AL.ev S y=q at he hv;generalize lD:a.eval x=c at hv
 cases hv<;>(try cases he;done)
 rename_i h
 cases h<;>simp only at he<;>try cases he
 rename_i b
 refine cy.val R (λt h=>(hd t h).1) (c:=if b then a.eval x1 else a.eval x2) ?_ ?_ λloc=>gw _ _ _
 .simp[execOp,ho,lD,asBool]
 .cases b<;>simp only[Bool.false_eq_true,if_true,if_false]
  .exact eJ.aA
  .exact e_.aA
def LX (R:Rel P w0 n U g S H a w) {o:Oper} {t:TypeId} {x:Operand} {y:cm} {e:aD} (ho:o.op = .unOp .not t x) (hd:∀ t,o.dst=some t→t < n∧¬ U t)
  (hx:du n x=some y) (hu:∀t∈y.tmps,¬U t) (he:ao S H (.not y)=some e):cy P w0 n U g S H a w o e:=by
 have hv:=R.ev hx hu;simp only[ao]at he;generalize pZ:AL.ev S y=q at he hv;generalize lD:a.eval x=c at hv
 cases hv<;>(try cases he;done)
 rename_i h
 cases h<;>simp only at he<;>try cases he
 rename_i b
 refine cy.val R (λt h=>(hd t h).1) (c:=.bool !b) ?_ (.data _ _ (.bool _)) λloc=>trivial
 simp[execOp,ho,lD,Op.unary]
def Jq:Value->Bool
 |.nilIface|.agg _=>false
 |_=>true
def gv (op:BinOp) (t:TypeId) (x y:Operand) (c d:Value) (h:Jq c=true) :
  (eqGuard op t x y c d).run P w=.ok () w:=by
 unfold eqGuard
 cases op<;>(try rfl)<;>cases c<;>first|rfl|cases h
def B3 (R:Rel P w0 n U g S H a w) {o:Oper} {op:BinOp} {t t':TypeId} {x1 x2:Operand} {y1 y2:cm} {e:aD} (ho:o.op = .binOp op t x1 x2 t') (hd:∀ t,o.dst=some t→t < n∧¬ U t)
  (ma:du n x1=some y1) (kE:du n x2=some y2) (mI:∀t∈y1.tmps,¬U t) (np:∀t∈y2.tmps,¬U t)
  (he:ao S H (.bin op y1 y2)=some e):cy P w0 n U g S H a w o e:=by
 have e_:=R.ev ma mI;have eJ:=R.ev kE np;simp only[ao,Option.map_eq_some_iff]at he;obtain⟨v,hb,rfl⟩:=he;generalize AL.ev S y1=q1 at hb e_;generalize AL.ev S y2=q2 at hb eJ
 have fin:∀c,(eqGuard op t x1 x2 (a.eval x1) (a.eval x2)).run P w=.ok () w->(binOp op t (a.eval x1) (a.eval x2)).run P w=.ok c w->RD g.Pr w v c->(∀loc,dD P w g loc v c)->cy P w0 n U g S H a w o { v:=v }:=by
  intro c h0 h1 h2 h3;refine cy.val R (λt h=>(hd t h).1) (c:=c) ?_ (.data _ _ h2) h3;simp[execOp,ho,h0,h1]
 generalize a.eval x1=c1 at e_ fin;generalize a.eval x2=c2 at eJ fin;unfold ee at hb;split at hb
 .rename_i k p k' q;cases e_;rename_i e_;cases e_;cases eJ;rename_i eJ;cases eJ;split at hb
  .cases hb
  .rename_i hk
   have hk:k=k':=by simpa using hk
   subst hk;have hg:=gv (P:=P) (w:=w) op t x1 x2 (.int k p) (.int k q) rfl
   split at hb<;>(try cases hb;done)<;>(try (split at hb;· cases hb))<;>cases hb
   case h_4.isFalse.refl h=>exact fin _ hg (by simp[binOp,Op.intDiv,h]) (.int _ _) λ_=>trivial
   case h_5.isFalse.refl h=>exact fin _ hg (by simp[binOp,Op.intDiv,h]) (.int _ _) λ_=>trivial
   case h_1.refl=>exact fin (.int k (k.wrap (p+q))) hg (by simp[binOp,Op.intArith]) (.int _ _) λ_=>trivial
   case h_2.refl=>exact fin (.int k (k.wrap (p-q))) hg (by simp[binOp,Op.intArith]) (.int _ _) λ_=>trivial
   case h_3.refl=>exact fin (.int k (k.wrap (p*q))) hg (by simp[binOp,Op.intArith]) (.int _ _) λ_=>trivial
   case h_6.refl=>exact fin (.bool (p==q)) hg (by simp[binOp,Op.intCmp]) (.bool _) λ_=>trivial
   case h_7.refl=>exact fin (.bool (p !=q)) hg (by simp[binOp,Op.intCmp]) (.bool _) λ_=>trivial
   all_goals exact fin (.bool _) hg (by simp[binOp,Op.intCmp]) (.bool _) λ_=>trivial
 .rename_i p q;cases e_;rename_i e_;cases e_;cases eJ;rename_i eJ;cases eJ;have hg:=gv (P:=P) (w:=w) op t x1 x2 (.string ⟨p.toArray⟩) (.string ⟨q.toArray⟩) rfl
  split at hb<;>(try cases hb;done)
  .cases hb;exact fin (.bool (p==q)) hg (by simp[binOp,Op.stringOp]) (.bool _) λ_=>trivial
  .cases hb;exact fin (.bool (p !=q)) hg (by simp[binOp,Op.stringOp,bne]) (.bool _) λ_=>trivial
  .split at hb
   case isFalse=>cases hb
   rename_i hl;cases hb
   refine fin (.string ⟨(p++q).toArray⟩) hg ?_ (.str _) λ_=>trivial
   rw[binOp_string_add,run_string_add_sum w _ _ (by show p.length+q.length<=_;omega),ByteArray.mk_append_mk]
 .cases hb
def CI (R:Rel P w0 n U g S H a w) {o:Oper} {neg:Bool} {t t':TypeId} {x1 x2:Operand} {y1 y2:cm} {e:aD} (ho:o.op = .binOp (if neg then .neq else .eql) t x1 x2 t') (hd:∀ t,o.dst=some t→t < n∧¬ U t)
  (ht:P.underlying t=some .bool) (ma:du n x1=some y1) (kE:du n x2=some y2) (mI:∀t∈y1.tmps,¬U t) (np:∀t∈y2.tmps,¬U t)
  (he:ao S H (.zS neg y1 y2)=some e):cy P w0 n U g S H a w o e:=by
 have e_:=R.ev ma mI;have eJ:=R.ev kE np;simp only[ao]at he;generalize AL.ev S y1=q1 at he e_;generalize AL.ev S y2=q2 at he eJ;generalize jf:a.eval x1=c1 at e_;generalize iI:a.eval x2=c2 at eJ;split at he
 case h_2=>cases he
 rename_i p q;cases e_;rename_i e_;cases e_;cases eJ;rename_i eJ;cases eJ;cases he;have hg:=gv (P:=P) (w:=w) (if neg then .neq else .eql) t x1 x2 (.bool p) (.bool q) rfl;have hE:(Op.equal t (.bool p) (.bool q)).run P w=.ok (p==q) w:=run_equalIn_bool' w _ t p q ht
 refine cy.val R (λt h=>(hd t h).1) (c:=.bool (if neg then p !=q else p==q)) ?_ (.data _ _ (.bool _)) λ_=>trivial
 cases neg
 .simp only[Bool.false_eq_true,if_false]at ho hg⊢;simp[execOp,ho,jf,iI,hg,binOp,hE]
 .simp only[if_true]at ho hg⊢;simp[execOp,ho,jf,iI,hg,binOp,hE,bne]
def Ie (R:Rel P w0 n U g S H a w) {o:Oper} {s d:TypeId} {ds:TypeDesc} {k:IntKind} {x:Operand} {y:cm} {e:aD} (ho:o.op = .convert s d x) (hd:∀ t,o.dst=some t→t < n∧¬ U t)
  (hs:P.underlying s=some ds) (hk:P.underlying d=some (.int k)) (hx:du n x=some y) (hu:∀t∈y.tmps,¬U t) (he:ao S H (.conv k y)=some e):cy P w0 n U g S H a w o e:=by
 have hv:=R.ev hx hu;simp only[ao]at he;generalize pZ:AL.ev S y=q at he hv;generalize lD:a.eval x=c at hv
 cases hv<;>(try cases he;done)
 rename_i h
 cases h<;>simp only at he<;>try cases he
 rename_i k' m
 refine cy.val R (λt h=>(hd t h).1) (c:=.int k (k.wrap m)) ?_ (.data _ _ (.int _ _)) λloc=>trivial
 simp[execOp,ho,lD,convert,run_underlying hs,run_underlying hk,Conv.intToInt]
def HC (R:Rel P w0 n U g S H a w) {o:Oper} {t:TypeId} {dt:TypeDesc} {x:Operand} {y:cm} {e:aD} (ho:o.op = .makeInterface t x) (hd:∀ t,o.dst=some t→t < n∧¬ U t)
  (ht:P.underlying t=some dt) (DA:∀ms,dt≠.interface ms) (hx:du n x=some y) (hu:∀t∈y.tmps,¬U t) (he:ao S H (.iface t y)=some e):cy P w0 n U g S H a w o e:=by
 have hv:=R.ev hx hu;simp only[ao]at he;split at he
 case isFalse=>cases he
 rename_i eZ;cases he
 refine cy.val R (λt h=>(hd t h).1) (c:=.iface t (a.eval x)) ?_ (.data _ _ (.iface _ _ _ (hv.dA (AV.jo eZ)).vw)) λloc=>trivial
 simp only[execOp,ho,Instr.makeInterface,Sem.run_bind,run_underlying ht,Result.andThen_ok]
 cases dt<;>first|rfl|exact absurd rfl (DA _)
def yj (R:Rel P w0 n U g S H a w) {o:Oper} {s:TypeId} {fs:Array Field} {f:Field} {i:TypeInfo} {j:Nat} {x:Operand} {y:cm} {e:aD} (ho:o.op = .fieldAddr s x j) (hd:∀ t,o.dst=some t→t < n∧¬ U t)
  (hs:P.underlying s=some (.struct fs)) (hf:fs[j]?=some f) (hi:P.info? f.type=some i) (hz:i.size≠0) (hx:du n x=some y) (hu:∀t∈y.tmps,¬U t)
  (he:ao S H (.fieldAddr f.offset y)=some e):cy P w0 n U g S H a w o e:=by
 have hv:=R.ev hx hu;simp only[ao]at he;generalize pZ:AL.ev S y=q at he hv;generalize lD:a.eval x=c at hv
 have run:∀b off,c=.pointer (some ⟨b,off,none⟩)->(execOp a.eval o).run P w=.ok (.value (.pointer (some ⟨b,off+f.offset,none⟩))) w:=by
  rintro b off rfl;simp[execOp,ho,lD,Instr.fieldAt,run_underlying hs,hf,Instr.sureAddr,fieldPlace,sizeOf,typeInfo,hi,hz,Addr.add_lit]
 cases hv with
 |box k off b gE=>
  cases he
  exact cy.val R (λt h=>(hd t h).1) (run _ _ rfl) (.box _ _ _ gE) λ_=>trivial
 |data v c h=>
  cases h<;>simp only at he<;>try cases he
  rename_i cs b off vs h1 hc hr
  refine cy.val R (λt h=>(hd t h).1) (run _ _ rfl) (.data _ _ (.ref _ _ _ (λk=>vs (f.offset+k)) (λk hk=>?_) (λk hk=>?_) λk hk=>?_)) λ_=>trivial
  .simp only[List.length_drop]at hk;simp only[List.getElem_drop];exact h1 _ (by omega)
  .simp only[List.length_drop]at hk;have:=hc (f.offset+k) (by omega);rwa [show off+f.offset+k=off+(f.offset+k) by omega]
  .simp only[List.length_drop]at hk;simp only[List.getElem_drop];exact hr _ (by omega)
 |func=>cases he
 |fN=>cases he
 |bh c=>cases he
def yq (R:Rel P w0 n U g S H a w) {o:Oper} {s el:TypeId} {i:TypeInfo} {x1 x2:Operand} {y1 y2:cm} {e:aD} (ho:o.op = .indexAddr s x1 x2) (hd:∀ t,o.dst=some t→t < n∧¬ U t)
  (hs:P.underlying s=some (.slice el)) (hi:P.info? el=some i) (ma:du n x1=some y1) (kE:du n x2=some y2) (mI:∀t∈y1.tmps,¬U t) (np:∀t∈y2.tmps,¬U t)
  (he:ao S H (.indexAddr i.size y1 y2)=some e):cy P w0 n U g S H a w o e:=by
 have e_:=R.ev ma mI;have eJ:=R.ev kE np;simp only[ao]at he;generalize AL.ev S y1=q1 at he e_;generalize AL.ev S y2=q2 at he eJ;generalize jf:a.eval x1=c1 at e_;generalize iI:a.eval x2=c2 at eJ;split at he
 case h_2=>cases he
 rename_i oo es k;cases eJ;rename_i eJ;cases eJ;split at he
 case isFalse=>cases he
 rename_i hk;split at he
 case h_2=>cases he
 rename_i v hv;split at he
 case isFalse=>cases he
 rename_i aI;cases he;obtain⟨av,rfl⟩:=List.getElem?_eq_some_iff.1 hv;cases e_;rename_i e_
 cases e_ with
 |gy=>simp at av
 |iF=>simp at av
 |slice _ _ b off cap size cs dX p_ j7 h1 hc hr=>
  have Vw:size=i.size:=by rw[<-j7 _ av];exact aI
  subst Vw
  have nv:k<(es.length:Int):=by omega
  have kd:∀q,q<(es[k.toNat]).cells.length->k.toNat*i.size+q<es.length*i.size:=by
   intro q hq;rw[aI]at hq
   calc k.toNat*i.size+q<k.toNat*i.size+i.size:=by omega
    _=(k.toNat+1)*i.size:=by rw[Nat.succ_mul]
    _<=es.length*i.size:=Nat.mul_le_mul_right _ (by omega)
  refine cy.val R (λt h=>(hd t h).1) (c:=.pointer (some ⟨b,off+k.toNat*i.size,none⟩)) ?_ (.data _ _ (.ref _ _ _ (λq=>cs (k.toNat*i.size+q)) (λq hq=>h1 _ av q hq) (λq hq=>?_) λq hq=>hr _ av q hq)) λ_=>trivial
  .simp[execOp,ho,jf,iI,Instr.indexAt,asIntOf,run_underlying hs,hk,nv,sizeOf,typeInfo,hi,Addr.add_lit]
  .have:=hc (k.toNat*i.size+q) (kd q hq);rwa [<-Nat.add_assoc]at this
def EB (R:Rel P w0 n U g S H a w) {o:Oper} {s:TypeId} {x1 x2:Operand} {y1 y2:cm} {e:aD} (ho:o.op = .index s x1 x2) (hd:∀ t,o.dst=some t→t < n∧¬ U t)
  (hs:P.underlying s=some .string) (ma:du n x1=some y1) (kE:du n x2=some y2) (mI:∀t∈y1.tmps,¬U t) (np:∀t∈y2.tmps,¬U t)
  (he:ao S H (.mK y1 y2)=some e):cy P w0 n U g S H a w o e:=by
 have e_:=R.ev ma mI;have eJ:=R.ev kE np;simp only[ao]at he;generalize AL.ev S y1=q1 at he e_;generalize AL.ev S y2=q2 at he eJ;generalize jf:a.eval x1=c1 at e_;generalize iI:a.eval x2=c2 at eJ;split at he
 case h_2=>cases he
 rename_i l k;cases eJ;rename_i eJ;cases eJ;split at he
 case isFalse=>cases he
 rename_i hk;split at he
 case h_2=>cases he
 rename_i v hv;cases he;cases e_;rename_i e_;cases e_
 have hb:(⟨l.toArray⟩:ByteArray)[k.toNat]?=some v:=by
  obtain⟨av,rfl⟩:=List.getElem?_eq_some_iff.1 hv;rw[ByteArray.getElem?_lt' _ _ (by simpa[ByteArray.size]using av)]
  rfl
 refine cy.val R (λt h=>(hd t h).1) (c:=.int .u8 v.toNat) ?_ (.data _ _ (.int _ _)) λ_=>trivial
 simp[execOp,ho,jf,iI,Instr.index,asIntOf,run_underlying hs,hk,hb]
def Bl (R:Rel P w0 n U g S H a w) {o:Oper} {j:Nat} {x:Operand} {y:cm} {e:aD} (ho:o.op = .extract x j) (hd:∀ t,o.dst=some t→t < n∧¬ U t)
  (hx:du n x=some y) (hu:∀t∈y.tmps,¬U t) (he:ao S H (.extract y j)=some e):cy P w0 n U g S H a w o e:=by
 have hv:=R.ev hx hu;simp only[ao]at he;generalize pZ:AL.ev S y=q at he hv;generalize lD:a.eval x=c at hv
 cases hv<;>(try cases he;done)
 rename_i h
 cases h<;>simp only at he<;>try cases he
 rename_i cs vs hl hr;simp only[Option.map_eq_some_iff]at he;obtain⟨v,hv,rfl⟩:=he;obtain⟨av,rfl⟩:=List.getElem?_eq_some_iff.1 hv
 have km:j<vs.size:=by omega
 refine cy.val R (λt h=>(hd t h).1) (c:=vs[j]) ?_ (.data _ _ (hr j av km).aA) λloc=>gw _ _ _
 simp[execOp,ho,lD,Instr.extract,km]
def Cu (R:Rel P w0 n U g S H a w) {o:Oper} {cl:Call} {s:TypeId} {ds:TypeDesc} {x:Operand} {y:cm} {e:aD} (ho:o.op = .call cl) (jr:cl.callee = .builtin .len) (yx:cl.args = #[x]) (zL:cl.argTypes = #[s])
  (hd:∀t,o.dst=some t->t<n/\¬U t) (hs:P.underlying s=some ds) (hx:du n x=some y) (hu:∀t∈y.tmps,¬U t)
  (he:(ds=.string/\ao S H (.uW y)=some e)\/((∃el,ds=.slice el)/\ao S H (.pn y)=some e)):cy P w0 n U g S H a w o e:=by
 have hv:=R.ev hx hu;simp only[ao]at he;generalize pZ:AL.ev S y=q at he hv;generalize lD:a.eval x=c at hv
 have fin:∀(m:Nat),(Builtin.len_ #[s] o.type #[c]).run P w=.ok (.int .i64 m) w->cy P w0 n U g S H a w o { v:=.int .i64 m }:=by
  intro m hm
  refine cy.val R (λt h=>(hd t h).1) (c:=.int .i64 m) ?_ (.data _ _ (.int _ _)) λ_=>trivial
  unfold execOp;simp[ho,jr,yx,zL,resolve,invoke,builtin,lD,hm]
 rcases he with⟨rfl,he⟩|⟨⟨el,rfl⟩,he⟩
 .cases hv<;>(try cases he;done)
  rename_i h
  cases h<;>simp only at he<;>try cases he
  exact fin _ (by simp[Builtin.len_,run_underlying hs,goInt];rfl)
 .cases hv<;>(try cases he;done)
  rename_i h
  cases h<;>simp only at he<;>try cases he
  .exact fin 0 (by simp[Builtin.len_,run_underlying hs,goInt])
  .exact fin 0 (by simp[Builtin.len_,run_underlying hs,goInt])
  .exact fin _ (by simp[Builtin.len_,run_underlying hs,goInt])
def vN (R:Rel P w0 n U g S H a w) {o:Oper} {cl:Call} {x1 x2:Operand} {y1 y2:cm} {e:aD} (ho:o.op = .call cl) (yx:cl.args = #[x1,x2])
  (hd:∀t,o.dst=some t->t<n/\¬U t) (ma:du n x1=some y1) (kE:du n x2=some y2) (mI:∀t∈y1.tmps,¬U t) (np:∀t∈y2.tmps,¬U t)
  (he:(cl.callee=.builtin .max/\ao S H (.max y1 y2)=some e)\/(cl.callee=.builtin .min/\ao S H (.min y1 y2)=some e)):cy P w0 n U g S H a w o e:=by
 have e_:=R.ev ma mI;have eJ:=R.ev kE np;simp only[ao]at he;generalize AL.ev S y1=q1 at he e_;generalize AL.ev S y2=q2 at he eJ;generalize jf:a.eval x1=c1 at e_;generalize iI:a.eval x2=c2 at eJ
 rcases he with⟨jr,he⟩|⟨jr,he⟩
 all_goals
  split at he
  case h_2=>cases he
  rename_i p q;cases e_;rename_i e_;cases e_;cases eJ;rename_i eJ;cases eJ;cases he
 .refine cy.val R (λt h=>(hd t h).1) (c:=.int .i64 (max p q)) ?_ (.data _ _ (.int _ _)) λ_=>trivial
  have:(if q>p then q else p)=max p q:=by split<;>omega
  simp[execOp,ho,jr,yx,resolve,invoke,builtin,jf,iI,Builtin.max_,Builtin.max2,this]
 .refine cy.val R (λt h=>(hd t h).1) (c:=.int .i64 (min p q)) ?_ (.data _ _ (.int _ _)) λ_=>trivial
  have:(if q<p then q else p)=min p q:=by split<;>omega
  simp[execOp,ho,jr,yx,resolve,invoke,builtin,jf,iI,Builtin.min_,Builtin.min2,this]
end
def ni(Pr:Nat->Nat->Prop)(w:World)(cs:List AV)(vs:Array Value):Prop:=
 cs.length=vs.size/\(∀i (h:i<cs.length)(h':i<vs.size),RD Pr w cs[i] vs[i])/\∀i (h:i<cs.length),(cs[i]).one=true
def RD.Qj{Pr:Nat->Nat->Prop}{w:World}{v:AV}{c:Value}(h:RD Pr w v c)(hs:v.storable=true):ni Pr w v.cells c.cells:=
 ⟨h.cells.1,h.cells.2,h.cells_one hs⟩
def AV.pN{v:AV}:v.aA.storable=v.storable:=by
 cases v<;>try rfl
 rename_i o es;cases o<;>rfl
def AV.vk{v:AV}:v.aA.cells.length=v.cells.length:=by
 cases v<;>try rfl
 rename_i o es;cases o<;>rfl
def AV.EY{v:AV}:v.vw.storable=v.storable:=by cases v<;>rfl
def AV.wq{v:AV}:v.vw.cells.length=v.cells.length:=by cases v<;>simp[AV.vw,AV.bF,AV.cells]
def gQ (Pr:Nat→Nat→Prop) (w:World):∀ {vs:List Value} {cs:List AV},h_ vs=some cs→ni Pr w cs vs.toArray∧(∀ v∈cs,v.kL) ∧
  ∀(P:Program)(g:Gh)(f:Nat->Loc) i (h:i<cs.length)(h':i<vs.length),dD P w g (f i) cs[i] vs[i]
 |[],cs,h=>by cases h;exact⟨⟨rfl,λi h=>by simp at h,λi h=>by simp at h⟩,λv h=>by simp at h,λP g f i h=>by simp at h⟩
 |v::vs,cs,h=>by
  simp only[h_]at h;split at h
  .rename_i x xs hx iC;split at h
   case isFalse=>cases h
   rename_i eZ;cases h;obtain⟨⟨h1,h2,h3⟩,h4,h5⟩:=gQ Pr w iC;have hd:RD Pr w x v:=(Gz Pr (λ_=>none) w hx).dA (AV.jo eZ);refine⟨⟨by simp at h1⊢;exact h1,λi hi ck=>?_,λi hi=>?_⟩,λy hy=>?_,λP g f i hi ck=>?_⟩
   .cases i with
    |zero=>exact hd
    |succ i=>exact h2 i (by simpa using hi) (by simpa using ck)
   .cases i with
    |zero=>
     show x.one=true;unfold kR at hx
     split at hx<;>first|cases hx|skip
     all_goals rfl
    |succ i=>exact h3 i (by simpa using hi)
   .simp at hy;rcases hy with rfl|hy
    .exact xJ hx
    .exact h4 y hy
   .cases i with
    |zero=>exact wG hx _ _ _ _
    |succ i=>exact h5 P g (λi=>f (i+1)) i (by simpa using hi) (by simpa using ck)
  .cases h
def zG{cs vs:List AV}{off:Nat}(h:off+vs.length<=cs.length):(aR cs off vs).length=cs.length:=by
 simp[aR];omega
def qC {cs vs:List AV} {off:Nat} (h:off+vs.length≤cs.length) (i:Nat) :
  (aR cs off vs)[i]?=if off<=i/\i<off+vs.length then vs[i-off]? else cs[i]?:=by
 unfold aR
 by_cases h1:i<off
 .rw[if_neg (by omega),List.append_assoc,List.getElem?_append_left (by simp;omega)];simp[h1]
 .by_cases h2:i<off+vs.length
  .rw[if_pos ⟨by omega,h2⟩,List.getElem?_append_left (by simp;omega),List.getElem?_append_right (by simp;omega)]
   congr 1
   simp;omega
  .rw[if_neg (by omega),List.getElem?_append_right (by simp;omega)];simp only[List.getElem?_drop]
   congr 1
   simp;omega
def ni.get{Pr:Nat->Nat->Prop}{w:World}{cs:List AV}{vs:Array Value}(h:ni Pr w cs vs){i:Nat}{v:AV}{c:Value}(hv:cs[i]?=some v)(hc:vs[i]?=some c):RD Pr w v c:=by
 obtain⟨h1,rfl⟩:=List.getElem?_eq_some_iff.1 hv;obtain⟨h2,rfl⟩:=Array.getElem?_eq_some_iff.1 hc;exact h.2.1 i h1 h2
def ni.one{Pr:Nat->Nat->Prop}{w:World}{cs:List AV}{vs:Array Value}(h:ni Pr w cs vs){i:Nat}{v:AV}(hv:cs[i]?=some v):v.one=true:=by
 obtain⟨h1,rfl⟩:=List.getElem?_eq_some_iff.1 hv;exact h.2.2 i h1
def ni.mk'{Pr:Nat->Nat->Prop}{w:World}{cs:List AV}{vs:Array Value}(h:cs.length=vs.size)(hr:∀(i:Nat)(v:AV)(c:Value),cs[i]?=some v->vs[i]?=some c->RD Pr w v c)(h1:∀(i:Nat)(v:AV),cs[i]?=some v->v.one=true):ni Pr w cs vs:=
 ⟨h,λi hi ck=>hr i _ _ (List.getElem?_eq_getElem hi) (Array.getElem?_eq_getElem ck),λi hi=>h1 i _ (List.getElem?_eq_getElem hi)⟩
def ni.aR {Pr:Nat→Nat→Prop} {w:World} {cs vs:List AV} {xs ys:Array Value} {off:Nat} (h:ni Pr w cs xs) (hv:ni Pr w vs ys) (hl:off+vs.length≤cs.length)
  (zs:Array Value) (hz:zs.size=xs.size) (j0:∀k,zs[k]?=if off<=k/\k<off+ys.size then ys[k-off]? else xs[k]?):ni Pr w (aR cs off vs) zs:=by
 have e_:=hv.1;have h1:=h.1;refine ni.mk' (by rw[zG hl,hz];exact h.1) (λi v c e1 e2=>?_) (λi v e1=>?_)
 .rw[qC hl]at e1;rw[j0]at e2;rw[<-e_]at e2;split at e1
  .rename_i hh;rw[if_pos hh]at e2;exact hv.get e1 e2
  .rename_i hh;rw[if_neg hh]at e2;exact h.get e1 e2
 .rw[qC hl]at e1;split at e1
  .exact hv.one e1
  .exact h.one e1
def qz(n:Nat)(place:Nat->Option (Nat×Nat)):List (Nat×Operand)->Option (List (Nat×Nat×cm))
 |[]=>some []
 |(i,x)::rest=>match place i,du n x,qz n place rest with
  |some (off,size),some y,some r=>some ((off,size,y)::r)
  |_,_,_=>none
section
variable{P:Program}{w0:World}{n:Nat}{U:Nat->Prop}{g:Gh}{S:af}{H:ah}{a:Act}{w:World}
def sg (R:Rel P w0 n U g S H a w) {place:Nat→Option (Nat×Nat)}:∀ {ps:List (Nat×Operand)} {qs:List (Nat×Nat×cm)},qz n place ps=some qs →
  (∀q∈qs,∀t∈q.2.2.tmps,¬U t)->∀{cs cs':List AV}{vs:Array Value},ni g.Pr w cs vs->cL cs (qs.map λ(o,s,x)=>(o,s,ev S x))=some cs'->
  ∃jq,Instr.fill place vs (ps.map λ(i,x)=>(i,a.eval x))=some jq/\ni g.Pr w cs' jq
 |[],qs,h,_,cs,cs',vs,hr,he=>by
  cases h;simp only[List.map_nil,cL,Option.some.injEq]at he;subst he;exact⟨vs,rfl,hr⟩
 |(i,x)::ps,qs,h,hu,cs,cs',vs,hr,he=>by
  simp only[qz]at h;split at h
  case h_2=>cases h
  rename_i off size y r hp hx fJ;cases h;simp only[List.map_cons,cL]at he;split at he
  case isFalse=>cases he
  rename_i hc;obtain⟨jf,iI,Mb⟩:=hc;have hv:=(R.ev hx (hu _ List.mem_cons_self)).dA (AV.jo Mb);have hvd:=hv.aA.Qj (by rw[AV.pN];exact Mb)
  have aI:(a.eval x).cells.size=size:=by rw[<-hv.cells.1];exact jf
  have jr:cs.length=vs.size:=hr.1;obtain⟨k1,k2⟩:=Great.foldl_set off (a.eval x).cells.toList 0 vs
  have iR:=hr.aR (off:=off) hvd (by rw[AV.vk,jf];exact iI)
   (((a.eval x).cells.toList.zipIdx 0).foldl (λcs (x:Value×Nat)=>cs.setIfInBounds (off+x.2) x.1) vs) k1 (λk=>by
    rw[k2 k];simp only[Nat.add_zero,Array.length_toList,Array.getElem?_toList]
    by_cases kd:off<=k/\k<off+(a.eval x).cells.size
    .rw[if_pos kd,if_pos ⟨kd.1,kd.2,by omega⟩]
    .rw[if_neg kd,if_neg (by omega)])
  obtain⟨jq,e1,e2⟩:=sg R fJ (λq hq=>hu q (List.mem_cons_of_mem _ hq)) iR he;refine⟨jq,?_,e2⟩;simp only[List.map_cons,Instr.fill,hp];rw[if_neg (by simp;omega)];rw[<-e1]
  congr 1
  rw[<-Array.foldl_toList,Array.toList_zipIdx]
def Gf (R:Rel P w0 n U g S H a w) {o:Oper} {t:TypeId} {it:TypeInfo} {fs:Array Field} {z:Value} {places:List (Nat×Nat)} {zs:List AV} {ps:Array (Nat×Operand)} {qs:List (Nat×Nat×cm)} {e:aD}
  (ho:o.op=.build t ps) (hd:∀t,o.dst=some t->t<n/\¬U t) (hi:P.info? t=some it) (eI:P.underlying t=some (.struct fs)) (hz:it.zero=some z)
  (Vc:fs.toList.mapM (λf=>(P.info? f.type).map λi=>(f.offset,i.size))=some places) (pE:h_ z.cells.toList=some zs) (hq:qz n (places[·]?) ps.toList=some qs)
  (hu:∀q∈qs,∀t∈q.2.2.tmps,¬U t) (he:ao S H (.build (zs.map AV.aA) qs)=some e):cy P w0 n U g S H a w o e:=by
 simp only[ao,Option.map_eq_some_iff]at he;obtain⟨cs',hc,rfl⟩:=he;have EP:=(gQ g.Pr w pE).1
 have VP:ni g.Pr w (zs.map AV.aA) z.cells:=by
  refine⟨by simpa using EP.1,λi h h'=>?_,λi h=>?_⟩
  .simp only[List.length_map]at h;have:=(EP.2.1 i h (by simpa using h')).aA;simpa using this
  .simp only[List.length_map]at h;have:=EP.2.2 i h;simp only[List.getElem_map];exact(AV.mU _).trans this
 obtain⟨jq,h1,h2⟩:=sg R hq hu VP hc
 have hb:P.built t (ps.map λ(i,x)=>(i,a.eval x)).toList=some jq:=by
  unfold Program.built;simp only[hi,eI,hz,Vc,Array.toList_map];rw[<-h1]
  congr 1
  funext i
  simp
 refine cy.val R (λt h=>(hd t h).1) (c:=.agg jq) ?_ (.data _ _ (.agg _ _ h2.1 h2.2.2 h2.2.1)) λ_=>trivial
 unfold execOp;simp only[ho,Sem.run_bind,run_build w t _ jq hb,Result.andThen_ok]
 rfl
def Mh (R:Rel P w0 n U g S H a w) {o:Oper} {fn:Fn} {f1 c1:Array Operand} {f2 c2:List cm} {e:aD} (ho:o.op = .makeFunc fn f1 c1) (hd:∀ t,o.dst=some t→t < n∧¬ U t)
  (hf:mh n f1.toList=some f2) (hc:mh n c1.toList=some c2) (huf:∀y∈f2,∀t∈y.tmps,¬U t) (huc:∀y∈c2,∀t∈y.tmps,¬U t) (he:ao S H (.BQ fn f2 c2)=some e):cy P w0 n U g S H a w o e:=by
 simp only[ao,Option.some.injEq]at he;subst he;obtain⟨l1,r1⟩:=R.Ha hf huf;obtain⟨l2,r2⟩:=R.Ha hc huc
 refine cy.val R (λt h=>(hd t h).1) (c:=.func fn (f1.map a.eval) (c1.map a.eval)) ?_ ?_ λ_=>trivial
 .simp[execOp,ho,Instr.makeFunc]
 .refine .func fn _ _ _ _ (by simpa using l1) (by simpa using l2) (λi h h'=>?_) (λi h h'=>?_)
  .simp only[List.length_map,Array.size_map]at h h';have:=(r1 i h (by simpa using h')).aA;simpa using this
  .simp only[List.length_map,Array.size_map]at h h';have:=(r2 i h (by simpa using h')).aA;simpa using this
def Rel.newRow (R:Rel P w0 n U g S H a w) (d:Option Nat) (hd:∀ t,d=some t→t < n∧¬ U t) (el:TypeId) (i:TypeInfo) (hi:P.info? el=some i) (es:List AV) (cells:Array Value)
  (aI:∀j (h:j<es.length),(es[j]).cells.length=i.size) (eZ:∀j (h:j<es.length),(es[j]).storable=true) (hl:cells.size=es.length*i.size) (hlen:es.length<=maxLen)
  (hr:∀j (h:j<es.length),∃c,RD g.Pr w es[j] c/\∀k u,c.cells[k]?=some u->cells[j*i.size+k]?=some u):
  ∃g',g'.base=g.base/\g'.old=g.old/\Rel P w0 n U g' (Go.AL.aH S d (.slice (.own el) es)) H (a.put d (.slice (some ⟨w.heap.size,0,none⟩) es.length es.length)) (w.alloc (.cells cells el)):=by
 have hb:Below w.heap.size w (w.alloc (.cells cells el)):=(Below.refl _ _).alloc (Nat.le_refl _) _
 have hle:g.base<=w.heap.size:=by rw[R.base];exact R.below.size
 let g':Gh:={ g with hi:=aq g.hi w.heap.size (es.length*i.size),owner:=aq g.owner w.heap.size (d.map .slot) }
 have R':Rel P w0 n U g' S H a (w.alloc (.cells cells el)):=R.grow (g':=g') hb rfl rfl rfl
  (λb hb=>⟨aG _ _ (by omega),aG _ _ (by omega)⟩)
  (λb hb=>by
   have fg:w.heap.size+1<=b:=by simpa using hb
   exact⟨(aG _ _ (by omega)).trans (R.fresh b (by omega)).1,(aG _ _ (by omega)).trans (R.fresh b (by omega)).2⟩)
 have oJ:∀k,k<es.length*i.size->g'.Pr w.heap.size k:=λk hk=>.inr ⟨hle,by show k<aq g.hi _ _ _;rw[aJ];exact hk⟩
 have Ya:aL g.Pr g'.Pr w (w.alloc (.cells cells el)):=by
  refine aL.fI (λb av=>hb.block b av) λb k av hp=>?_
  unfold Gh.Pr at*
  show(b<g.base/\g.old.c b k)\/(g.base<=b/\k<aq g.hi _ _ b)
  rw[aG _ _ (by omega)];exact hp
 refine⟨g',rfl,rfl,R'.aH d _ _ (λt h=>(hd t h).1) (.data _ _ ?_) ?_⟩
 .refine .slice _ es w.heap.size 0 es.length i.size (λk=>cells.getD k undef) (Nat.le_refl _) (λh=>by cases h) aI (λj h k hk=>?_) (λk hk=>⟨by rw[Nat.zero_add];exact oJ k hk,?_⟩) (λj h k hk=>?_)
  .obtain⟨c,h1,h2⟩:=hr j h;exact h1.cells_one (eZ j h) k hk
  .simp[hl,hk]
  .obtain⟨c,h1,h2⟩:=hr j h
   have eK:k<c.cells.size:=by rw[<-h1.cells.1];exact hk
   have:cells.getD (j*i.size+k) undef=c.cells[k]:=by simp[h2 k _ (Array.getElem?_eq_getElem eK)]
   rw[this];exact(h1.cells.2 k hk eK).mono Ya
 .intro t ht;subst ht;refine⟨i,cells.toList,w.heap.size,hi,⟨by simp[hl],.inr ⟨w.heap.size,es.length,cells,rfl,hle,heap_alloc_new w _,Nat.le_refl _,hlen,hl,?_⟩⟩,rfl,?_,?_⟩
  .exact List.take_of_length_le (by simp[hl])
  .show aq g.owner _ _ _=_;rw[aJ];rfl
  .show aq g.hi _ _ _=_;rw[aJ]
def p6 (R:Rel P w0 n U g S H a w) {o:Oper} {t el:TypeId} {i:TypeInfo} {z:Value} {len:Nat} {ps:Array (Nat×Operand)} {xs:List Operand} {ys:List cm} {e:aD}
  (ho:o.op=.buildSlice t len ps) (hd:∀t,o.dst=some t->t<n/\¬U t) (eI:P.underlying t=some (.slice el)) (hi:P.info? el=some i) (hz:i.zero=some z) (iy:0<i.size)
  (fJ:ps.toList=(xs.zipIdx 0).map λx=>(x.2,x.1)) (hlen:xs.length=len) (hlz:0<len) (hx:mh n xs=some ys) (hu:∀y∈ys,∀t∈y.tmps,¬U t)
  (he:ao S H (.buildSlice t el i.size ys)=some e):cy P w0 n U g S H a w o e:=by
 simp only[ao]at he;split at he
 case isFalse=>cases he
 rename_i hc;cases he;simp only[Bool.and_eq_true,decide_eq_true_eq]at hc;obtain⟨jf,iI⟩:=hc;simp only[aF,List.all_eq_true,Bool.and_eq_true,beq_iff_eq]at jf;obtain⟨l1,r1⟩:=R.Ha hx hu
 have uw:ys.length=len:=by omega
 have hR:∀j (h:j<ys.length),RD g.Pr w (AL.ev S ys[j]) ((xs.map a.eval)[j]'(by simp;omega))/\(AL.ev S ys[j]).cells.length=i.size/\(AL.ev S ys[j]).storable=true:=by
  intro j h;have hm:=jf (AL.ev S ys[j]) (List.mem_map.2 ⟨_,List.getElem_mem h,rfl⟩);refine⟨?_,hm.2,hm.1⟩;have:=(r1 j h (by omega)).dA (AV.jo hm.1);simpa using this
 have lS:∀v∈xs.map a.eval,v.cells.size=i.size:=by
  intro v hv;obtain⟨j,hj,rfl⟩:=List.getElem_of_mem hv;simp only[List.length_map]at hj;obtain⟨h1,h2,h3⟩:=hR j (by omega);rw[<-h1.cells.1];exact h2
 have aag:((Array.range (len*i.size)).map (z.cells[· % z.cells.size]!)).size=len*i.size:=by simp
 have Jj:=Great.fill_whole iy (xs.map a.eval) ((Array.range (len*i.size)).map (z.cells[· % z.cells.size]!)) lS (by rw[aag];simp[hlen])
 have D0:(ps.map λ(i,x)=>(i,a.eval x)).toList=((xs.map a.eval).zipIdx 0).map λx=>(x.2,x.1):=by
  rw[Array.toList_map,fJ];simp[List.zipIdx_map]
 have dJ:=run_buildSlice (P:=P) w t el len (ps.map λ(i,x)=>(i,a.eval x)) ((xs.map a.eval).flatMap λv=>v.cells.toList).toArray i z eI hi hz (by rw[uw]at iI;omega)
  (by have:=Nat.mul_pos hlz iy;omega) (by rw[D0];exact Jj)
 have IC:=Great.flat_get iy (xs.map a.eval) lS
 obtain⟨g',e1,e2,R'⟩:=R.newRow o.dst hd el i hi ((ys.map (AL.ev S)).map AV.vw) ((xs.map a.eval).flatMap λv=>v.cells.toList).toArray
  (λj h=>by simp only[List.length_map]at h;simp only[List.getElem_map,AV.wq];exact(hR j h).2.1)
  (λj h=>by simp only[List.length_map]at h;simp only[List.getElem_map,AV.EY];exact(hR j h).2.2)
  (by
   simp only[List.size_toArray,List.length_map]
   have hh:∀(l:List Value),(∀v∈l,v.cells.size=i.size)->(l.flatMap λv=>v.cells.toList).length=l.length*i.size:=by
    intro l
    induction l with
    |nil=>simp
    |cons v l ih=>intro h;simp only[List.flatMap_cons,List.length_append,List.length_cons,Array.length_toList,h v List.mem_cons_self,ih (λu hu=>h u (List.mem_cons_of_mem _ hu)),Nat.succ_mul];omega
   rw[hh _ lS,List.length_map,l1])
  (by simp only[List.length_map];have:=Nat.le_mul_of_pos_right ys.length iy;unfold maxLen;omega)
  (λj h=>by
   simp only[List.length_map]at h;obtain⟨h1,h2,h3⟩:=hR j h
   have c_:j<(xs.map a.eval).length:=by simp;omega
   refine⟨(xs.map a.eval)[j],by simpa using h1.vw,λk u hk=>?_⟩
   have eK:k<i.size:=by
    rw[<-lS _ (List.getElem_mem c_)];exact(Array.getElem?_eq_some_iff.1 hk).1
   simp only[List.getElem?_toArray];rw[IC,show(j*i.size+k)/i.size=j by rw[Nat.mul_comm,Nat.mul_add_div iy,Nat.div_eq_of_lt eK,Nat.add_zero],show(j*i.size+k) % i.size=k by rw[Nat.mul_comm,Nat.mul_add_mod,Nat.mod_eq_of_lt eK],List.getElem?_eq_getElem c_]
   exact hk)
 refine⟨.slice (some ⟨w.heap.size,0,none⟩) len len,w.alloc (.cells ((xs.map a.eval).flatMap λv=>v.cells.toList).toArray el),g',.inl ?_,e1,e2,?_⟩
 .unfold execOp;simp only[ho,Sem.run_bind,dJ,Result.andThen_ok]
  rfl
 .have:((ys.map (AL.ev S)).map AV.vw).length=len:=by simp[uw]
  rw[this]at R';exact R'
end
section
variable{P:Program}{w0:World}{n:Nat}{U:Nat->Prop}{g:Gh}{S:af}{H:ah}{a:Act}{w:World}
def vt(S:af)(y:cm):af:=match a_ y with|some t=>aq S t (S t).aA|none=>S
def Rel.take (R:Rel P w0 n U g S H a w) {x:Operand} {y:cm} (hx:du n x=some y) (hu:∀ t∈y.tmps,¬ U t) (loc:Loc) :
  ∃g1,g1.base=g.base/\g1.old=g.old/\g1.al=g.al/\g1.hi=g.hi/\Rel P w0 n U g1 (vt S y) H a w/\dD P w g1 loc (AL.ev S y) (a.eval x):=by
 cases x with
 |const c=>
  simp only[du,Option.map_eq_some_iff]at hx;obtain⟨v,hc,rfl⟩:=hx;exact⟨g,rfl,rfl,rfl,rfl,R,wG hc _ _ _ _⟩
 |global k=>cases hx
 |func f=>cases hx;exact⟨g,rfl,rfl,rfl,rfl,R,trivial⟩
 |tmp t=>
  simp only[du]at hx;split at hx
  case isFalse=>cases hx
  rename_i ht;cases hx;have Mk:=hu t (by simp[cm.tmps]);have ho:=R.own t ht Mk
  have R1:Rel P w0 n U g (aq S t (S t).aA) H a w:=R.weaken _ λk hk huk c nL ho=>by
   by_cases h:k=t
   .subst h;rw[aJ];exact⟨nL.aA,gw _ _ _⟩
   .rw[aG _ _ h];exact⟨nL,ho⟩
  have R2:=R1.DT (.slot t) (some loc) (λk hk _ _=>by cases hk;rw[aJ];exact AV.oN _) (λi j cs h=>by cases h);refine⟨{ g with owner:=λb=>if g.owner b=some (.slot t)then some loc else g.owner b },rfl,rfl,rfl,rfl,R2,?_⟩;show dD P w _ loc (S t) (a.tmps.getD t undef);generalize S t=v at ho;generalize a.tmps.getD t undef=c at ho
  cases v<;>try trivial
  rename_i oo es
  cases oo with
  |view=>trivial
  |nil=>exact ho
  |own e=>
   obtain⟨i,xs,b,h1,h2,h3,h4,h5⟩:=ho;refine⟨i,xs,b,h1,h2,h3,?_,h5⟩;show(if g.owner b=some (.slot t)then some loc else g.owner b)=_;rw[if_pos h4]
def Rel.Ln (R:Rel P w0 n U g S H a w) {x:Operand} {y:cm} (hx:du n x=some y) (hu:∀ t∈y.tmps,¬ U t) {e:TypeId} {es:List AV} (hy:AL.ev S y = .slice (.own e) es) :
  ∃g1 i xs b,g1.base=g.base/\g1.old=g.old/\g1.al=g.al/\g1.hi=g.hi/\Rel P w0 n U g1 (vt S y) H a w/\
   P.info? e=some i/\w.ownsRow g.base e i.size (a.eval x) es.length xs/\(a.eval x).ownBlock=some b/\g1.owner b=none/\g.hi b=es.length*i.size/\(∀j,g.al j≠some b)/\(∀o,g.old.keep b≠some o):=by
 cases x with
 |const c=>
  simp only[du,Option.map_eq_some_iff]at hx;obtain⟨v,hc,rfl⟩:=hx;have:=xJ hc;rw[show v=AL.ev S (.c v)from rfl,hy]at this;cases this
 |global k=>cases hx
 |func f=>cases hx;cases hy
 |tmp t=>
  simp only[du]at hx;split at hx
  case isFalse=>cases hx
  rename_i ht;cases hx;have Mk:=hu t (by simp[cm.tmps]);have ho:=R.own t ht Mk
  change S t=_ at hy
  have R1:Rel P w0 n U g (aq S t (S t).aA) H a w:=R.weaken _ λk hk huk c nL ho=>by
   by_cases h:k=t
   .subst h;rw[aJ];exact⟨nL.aA,gw _ _ _⟩
   .rw[aG _ _ h];exact⟨nL,ho⟩
  have R2:=R1.DT (.slot t) none (λk hk _ _=>by cases hk;rw[aJ];exact AV.oN _) (λi j cs h=>by cases h);rw[hy]at ho;obtain⟨i,xs,b,h1,h2,h3,h4,h5⟩:=ho;refine⟨{ g with owner:=λb=>if g.owner b=some (.slot t)then none else g.owner b },i,xs,b,rfl,rfl,rfl,rfl,R2,h1,h2,h3,?_,h5,λj hj=>?_,λo hk=>?_⟩
  .show(if g.owner b=some (.slot t)then none else g.owner b)=none;rw[if_pos h4]
  .obtain⟨_,_,_,_,_,_,_,k5,_⟩:=R.box j b hj;rw[h4]at k5;cases k5
  .obtain⟨_,_,_,k4,_⟩:=R.kept b o hk;rw[h4]at k4;cases k4
def zP(v:AV):v.bm.length=v.cells.length:=by cases v<;>simp[AV.bm,AV.cells]
def RD.bm{Pr:Nat->Nat->Prop}{v:AV}{c:Value}(h:RD Pr w v c)(hs:v.storable=true):ni Pr w v.bm c.cells:=by
 cases v<;>try exact h.Qj hs
 rename_i cs;have hh:=h.Qj hs;refine ni.mk' (by simpa[AV.bm,AV.cells]using hh.1) (λi v c e1 e2=>?_) (λi v e1=>?_)
 .simp only[AV.bm,List.getElem?_map,Option.map_eq_some_iff]at e1;obtain⟨u,h1,rfl⟩:=e1;exact(hh.get h1 e2).aA
 .simp only[AV.bm,List.getElem?_map,Option.map_eq_some_iff]at e1;obtain⟨u,h1,rfl⟩:=e1;exact(AV.mU _).trans (hh.one h1)
def xQ (R:Rel P w0 n U g S H a w) {o:Oper} {hr:HR} {t:TypeId} {i:TypeInfo} {x1 x2:Operand} {y1 y2:cm} {e:aD} (ho:o.op = .store t x1 x2) (gJ:o.dst=none)
  (hi:P.info? t=some i) (ma:du n x1=some y1) (kE:du n x2=some y2) (mI:∀t∈y1.tmps,¬U t) (np:∀t∈y2.tmps,¬U t)
  (he:ao S H (.store hr i.size y1 y2)=some e):cy P w0 n U g S H a w o e:=by
 have e_:=R.ev ma mI;have eJ:=R.ev kE np;simp only[ao]at he;generalize aaK:AL.ev S y1=q1 at he e_;generalize jf:a.eval x1=c1 at e_
 cases e_<;>(try cases he;done)
 case data h=>cases h<;>cases he
 rename_i k off b gE;simp only at he;split at he
 case isFalse=>cases he
 obtain⟨cs,vs,ty,k1,k2,k3,k4,k5,k6,k7,k8,k9⟩:=R.box k b gE;simp only[k1]at he;split at he
 case isFalse=>cases he
 rename_i hc;obtain⟨jr,OV,eZ⟩:=hc;cases he;have pR:=eJ.dA (AV.jo eZ);obtain⟨g1,e1,e2,e3,e4,R1,Mt⟩:=R.take kE np (.cell k off)
 have oJ:g1.Pr=g.Pr:=by unfold Gh.Pr;rw[e1,e2,e4]
 obtain⟨WM,Oz,ty0,m1,m2,m3,m4,m5,m6,m7,m8,m9⟩:=R1.box k b (by rw[e3];exact gE);rw[k1]at m1;cases m1;rw[k3]at m3;cases m3
 have aI:(a.eval x2).cells.size=i.size:=by rw[<-pR.cells.1];exact jr
 have hlen:off+(a.eval x2).cells.size<=vs.size:=by omega
 have lC:∀u∈(a.eval x2).cells.toList,u.oneCell'=true:=by
  intro u hu;obtain⟨j,hj,rfl⟩:=List.getElem_of_mem hu
  have c_:j<(AL.ev S y2).cells.length:=by rw[pR.cells.1];simpa using hj
  have:=(pR.cells.2 j c_ (by simpa using hj)).one (pR.cells_one eZ j c_);simpa using this
 have dJ:=run_storeCells_at P b off ty (a.eval x2).cells.toList 0 vs w k3 (by simpa using hlen) lC;simp only[Nat.add_zero]at dJ;have T4:=zP (AL.ev S y2)
 have j0:∀j,(vs.toList.take off++(a.eval x2).cells.toList++vs.toList.drop (off+(a.eval x2).cells.toList.length)).toArray[j]?=if off<=j/\j<off+(a.eval x2).cells.size then(a.eval x2).cells[j-off]? else vs[j]?:=by
  intro j;simp only[List.getElem?_toArray,Array.length_toList]
  by_cases h1:j<off
  .rw[if_neg (by omega),List.append_assoc,List.getElem?_append_left (by simp;omega)];simp[h1]
  .by_cases h2:j<off+(a.eval x2).cells.size
   .rw[if_pos ⟨by omega,h2⟩,List.getElem?_append_left (by simp;omega),List.getElem?_append_right (by simp;omega)];rw[Array.getElem?_toList]
    congr 1
    simp;omega
   .rw[if_neg (by omega),List.getElem?_append_right (by simp;omega)];simp only[List.getElem?_drop,Array.getElem?_toList]
    congr 1
    simp;omega
 have cD:ni g1.Pr w (aR cs off (AL.ev S y2).bm) (vs.toList.take off++(a.eval x2).cells.toList++vs.toList.drop (off+(a.eval x2).cells.toList.length)).toArray:=
  ni.aR (cs:=cs) (xs:=vs) ⟨m6,m7,m9⟩ (ys:=(a.eval x2).cells) (by rw[oJ];exact pR.bm eZ) (by omega) _ (by simp;omega) j0
 have cE:∀j v c,(aR cs off (AL.ev S y2).bm)[j]?=some v->(vs.toList.take off++(a.eval x2).cells.toList++vs.toList.drop (off+(a.eval x2).cells.toList.length)).toArray[j]?=some c->dD P w g1 (.cell k j) v c:=by
  intro j v c h1 h2;rw[qC (by omega)]at h1;rw[j0]at h2;rw[T4,pR.cells.1]at h1;split at h1
  .rename_i kd;rw[if_pos kd]at h2;have BB:=pR;generalize AL.ev S y2=q at h1 Mt BB eZ;generalize a.eval x2=c2 at h2 Mt BB
   have single:q.bm=[q]->c2.cells=#[c2]->dD P w g1 (.cell k j) v c:=by
    intro h3 h4;rw[h3]at h1;rw[h4]at h2
    have h0:j-off=0:=by simpa using(List.getElem?_eq_some_iff.1 h1).1
    rw[h0]at h1 h2;simp at h1 h2;subst h1;subst h2;rw[show j=off by omega];exact Mt
   cases BB with
   |agg cs' jq hl lC hr=>
    simp only[AV.bm,List.getElem?_map,Option.map_eq_some_iff]at h1;obtain⟨u,_,rfl⟩:=h1;exact gw _ _ _
   |eS=>cases eZ
   |val _ hc=>exact single rfl (by cases c2<;>first|rfl|cases hc)
   |_=>exact single rfl rfl
  .rename_i kd;rw[if_neg kd]at h2;obtain⟨l1,rfl⟩:=List.getElem?_eq_some_iff.1 h1;obtain⟨l2,rfl⟩:=Array.getElem?_eq_some_iff.1 h2;exact m8 j l1 l2
 have R2:=R1.tg k b (by rw[e3];exact gE) vs _ ty k3 _ cD.1 cD.2.1 (λj hj c_=>cE j _ _ (List.getElem?_eq_getElem hj) (Array.getElem?_eq_getElem c_)) cD.2.2;refine⟨undef,w.setRow b (vs.toList.take off++(a.eval x2).cells.toList++vs.toList.drop (off+(a.eval x2).cells.toList.length)).toArray,g1,.inr ⟨?_,rfl⟩,e1,e2,?_⟩
 .unfold execOp;simp only[ho,jf,Instr.storeAt,Instr.sureAddr,storeVar,sizeOf,typeInfo,Sem.run_bind,Sem.run_pure,Result.andThen_ok,run_program,hi,aI,ne_eq,not_true_eq_false,if_false];rw[show storeCells ⟨b,off,none⟩ (a.eval x2).cells.toList=storeCells ⟨b,off,none⟩ (a.eval x2).cells.toList 0 from rfl,dJ]
  rfl
 .rw[gJ];exact R2
end
def tH {P:Program} {w:World} (base:Nat) (t ty e:TypeId) (i:TypeInfo) (z:Value) (ht:P.underlying t=some (.slice e)) (hi:P.info? e=some i) (hz:i.zero=some z)
  (pE:z.cells.size=i.size) (v:Value) (n:Nat) (xs:List Value) (b:Nat) (cE:w.ownsRow base e i.size v n xs) (nw:v.ownBlock=some b)
  (ad:Addr) (m c:Nat) (news:List Value) (hl:news.length=m*i.size) (qF:∀j u,news[j]?=some u->w.cell? (ad.add j)=some u) (h1:∀u∈news,u.oneCell'=true)
  (h63:n+m<=2097152) (Dg:(n+m)*i.bytes<=140737488355328) (gx:base<=w.heap.size):
  ∃v' w' b',(Builtin.append_ #[t,t] ty #[v,.slice (some ad) m c]).run P w=.ok v' w'/\w'.ownsRow base e i.size v' (n+m) (xs++news)/\v'.ownBlock=some b'/\
   ((b'=b/\w.grownBy w' (some b))\/(b'=w.heap.size/\w.grownBy w' none/\w'.heap.size=w.heap.size+1)):=by
 have YX:n+m<=maxLen:=by unfold maxLen;omega
 have hlen:(xs++news).length=(n+m)*i.size:=by rw[List.length_append,cE.1,hl,Nat.add_mul]
 rcases cE.2 with⟨rfl,rfl⟩|⟨g,cap,cur,rfl,mz,hg,BE,vA,lS,oI⟩
 .cases nw
 .have pS:g=b:=by simpa[Value.ownBlock]using nw
  subst pS
  by_cases jw:n+m<=cap
  .have Zo:n*i.size+news.length<=cur.size:=by rw[hl,lS,<-Nat.add_mul];exact Nat.mul_le_mul_right _ jw
   have hr:=run_append_room (P:=P) w t ty e i ht hi g n cap cur hg ad m c news hl qF h1 jw Zo;refine⟨_,_,g,hr,⟨hlen,.inr ⟨g,cap,_,rfl,mz,setRow_heap w g cur _ e _ hg,jw,vA,?_,?_⟩⟩,rfl,.inl ⟨rfl,⟨rfl,rfl,rfl,by simp,λk _ hk=>setRow_other w g k _ (λe=>hk (by simp[e]))⟩⟩⟩
   .simp only[List.size_toArray,List.length_append,List.length_take,List.length_drop,Array.length_toList];omega
   .rw[oI,<-hlen];exact List.take_left
  .have holds:∀j u,xs[j]?=some u->w.cell? ((⟨g,0,none⟩:Addr).add j)=some u:=cE.cells (g:=g) rfl;have hr:=run_append_grow (P:=P) w t ty e i z ht hi hz ⟨g,0,none⟩ n cap xs cE.1 holds ad m c news hl qF (by omega) (by omega) (growslice_fits (by omega) Dg);have oG:=grownCap_ge w (n+m) cap e;have OA:grownCap w (n+m) cap e<=maxLen:=grownCap_le_maxLen w (n+m) cap e YX;refine⟨_,_,w.heap.size,hr,⟨hlen,.inr ⟨w.heap.size,_,_,rfl,gx,heap_alloc_new w.drew _,oG,OA,?_,?_⟩⟩,rfl,.inr ⟨rfl,⟨rfl,rfl,rfl,by simp,λk hk _=>heap_alloc_old w.drew _ k hk⟩,by simp⟩⟩
   .simp only[Array.size_append,List.size_toArray,size_zeroCells,pE,cE.1,hl,<-Nat.add_mul]
    congr 1
    omega
   .simp only[Array.toList_append,List.append_assoc];rw[<-List.append_assoc,<-hlen];exact List.take_left
def vT {P:Program} {w:World} (base:Nat) (t ty e:TypeId) (i:TypeInfo) (z:Value) (ht:P.underlying t=some (.slice e)) (hi:P.info? e=some i) (hz:i.zero=some z)
  (pE:z.cells.size=i.size) (a0:Option Addr)
  (ad:Addr) (m c:Nat) (news:List Value) (hl:news.length=m*i.size) (qF:∀j u,news[j]?=some u->w.cell? (ad.add j)=some u)
  (hm:0<m) (h63:m<=2097152) (Dg:m*i.bytes<=140737488355328) (gx:base<=w.heap.size):
  ∃v' w',(Builtin.append_ #[t,t] ty #[.slice a0 0 0,.slice (some ad) m c]).run P w=.ok v' w'/\w'.ownsRow base e i.size v' m news/\v'.ownBlock=some w.heap.size/\w.grownBy w' none/\w'.heap.size=w.heap.size+1:=by
 have oG:=grownCap_ge w m 0 e;have OA:grownCap w m 0 e<=maxLen:=grownCap_le_maxLen w m 0 e (by unfold maxLen;omega)
 have dJ:(Builtin.append_ #[t,t] ty #[.slice a0 0 0,.slice (some ad) m c]).run P w=.ok (.slice (some ⟨w.heap.size,0,none⟩) m (grownCap w m 0 e)) (w.drew.alloc (.cells (news.toArray++Builtin.zeroCells z.cells (grownCap w m 0 e-m)) e)):=by
  cases a0 with
  |none=>exact run_append_nil (P:=P) w t ty e i z ht hi hz ad m c news hl qF hm (by omega) (by omega)
  |some b=>
   have:=run_append_grow (P:=P) w t ty e i z ht hi hz b 0 0 [] (by simp) (by simp) ad m c news hl qF (by omega) (by omega) (growslice_fits (by omega) (by simpa using Dg));simpa using this
 refine⟨_,_,dJ,⟨hl,.inr ⟨w.heap.size,_,_,rfl,gx,heap_alloc_new w.drew _,oG,OA,?_,?_⟩⟩,rfl,⟨rfl,rfl,rfl,by simp,λk hk _=>heap_alloc_old w.drew _ k hk⟩,by simp⟩
 .simp only[Array.size_append,List.size_toArray,size_zeroCells,pE,hl,<-Nat.add_mul]
  congr 1
  omega
 .rw[<-hl];simp only[Array.toList_append];exact List.take_left
def rF {P:Program} {w:World} (base:Nat) (t ty e:TypeId) (i:TypeInfo) (size:Nat) (ht:P.underlying t=some (.slice e)) (hi:P.info? e=some i)
  (v:Value) (n:Nat) (xs:List Value) (cE:w.ownsRow base e size v n xs) (ad:Option Addr):
  (Builtin.append_ #[t,t] ty #[v,.slice ad 0 0]).run P w=.ok v w:=by
 have PR:(Builtin.firstCells i.size 0 (.slice ad 0 0)).run P w=.ok #[] w:=by
  rcases ad with _|ad
  .rfl
  .simp[Builtin.firstCells,loadCells,loadCellsFrom]
 rcases cE.2 with⟨rfl,rfl⟩|⟨g,cap,cur,rfl,_,_,BE,_⟩
 .simp[Builtin.append_,run_underlying ht,sizeOf,typeInfo,hi,Builtin.lenOf,PR]
 .simp[Builtin.append_,run_underlying ht,sizeOf,typeInfo,hi,Builtin.lenOf,PR,BE,storeCells]
def RD.ku {Pr:Nat→Nat→Prop} {w:World} {o:Ow} {es:List AV} {c:Value} (h:RD Pr w (.slice o es) c) (size:Nat) (hs:aF size es=true) :
  (es=[]/\∃ad,c=.slice ad 0 0)\/∃(b off cap:Nat)(news:List Value),c=.slice (some ⟨b,off,none⟩) es.length cap/\news.length=es.length*size/\
   (∀j u,news[j]?=some u->w.cell? ⟨b,off+j,none⟩=some u)/\(∀u∈news,u.oneCell'=true)/\
   ∀j (h:j<es.length) k (hk:k<(es[j]).cells.length),∃u,news[j*size+k]?=some u/\RD Pr w ((es[j]).cells[k]) u:=by
 simp only[aF,List.all_eq_true,Bool.and_eq_true,beq_iff_eq]at hs
 cases h with
 |gy=>exact .inl ⟨rfl,_,rfl⟩
 |iF _ a=>exact .inl ⟨rfl,_,rfl⟩
 |slice _ _ b off cap sz cs dX p_ aI h1 hc hr=>
  refine .inr ⟨b,off,cap,(List.range (es.length*size)).map cs,rfl,by simp,?_,?_,?_⟩
  .intro j u hu;simp only[List.getElem?_map,Option.map_eq_some_iff]at hu;obtain⟨j',h1,rfl⟩:=hu;obtain⟨av,rfl⟩:=List.getElem?_eq_some_iff.1 h1;simp only[List.length_range]at av;simp only[List.getElem_range]
   have iy:0<es.length:=by
    rcases Nat.eq_zero_or_pos es.length with h0|h0
    .rw[h0]at av;omega
    .exact h0
   have:sz=size:=by rw[<-aI 0 iy];exact(hs _ (List.getElem_mem iy)).2
   subst this;exact(hc j av).2
  .intro u hu;simp only[List.mem_map,List.mem_range]at hu;obtain⟨j,av,rfl⟩:=hu
   have iy:0<es.length:=by
    rcases Nat.eq_zero_or_pos es.length with h0|h0
    .rw[h0]at av;omega
    .exact h0
   have:sz=size:=by rw[<-aI 0 iy];exact(hs _ (List.getElem_mem iy)).2
   subst this
   have jP:0<sz:=by
    rcases Nat.eq_zero_or_pos sz with h0|h0
    .rw[h0]at av;omega
    .exact h0
   have hj:j/sz<es.length:=(Nat.div_lt_iff_lt_mul jP).2 av
   have hk:j % sz<(es[j/sz]).cells.length:=by rw[aI _ hj];exact Nat.mod_lt _ jP
   have e:j/sz*sz+j % sz=j:=by rw[Nat.mul_comm];exact Nat.div_add_mod j sz
   have:=(hr _ hj _ hk).one (h1 _ hj _ hk);rwa [e]at this
  .intro j hj k hk
   have:sz=size:=by rw[<-aI j hj];exact(hs _ (List.getElem_mem hj)).2
   subst this;refine⟨cs (j*sz+k),?_,hr j hj k hk⟩;rw[aI j hj]at hk
   have:j*sz+k<es.length*sz:=by
    calc j*sz+k<j*sz+sz:=by omega
     _=(j+1)*sz:=by rw[Nat.succ_mul]
     _<=es.length*sz:=Nat.mul_le_mul_right _ (by omega)
   simp[this]
def RD.I'{Pr:Nat->Nat->Prop}{w:World}{o:Ow}{es:List AV}{c:Value}(h:RD Pr w (.slice o es) c):∀j (h:j<es.length) k (hk:k<(es[j]).cells.length),((es[j]).cells[k]).one=true:=by
 intro j hj k hk
 cases h with
 |gy=>simp at hj
 |iF=>simp at hj
 |slice _ _ _ _ _ _ _ _ _ _ h1 _ _=>exact h1 j hj k hk
section
variable{P:Program}{w0:World}{n:Nat}{U:Nat->Prop}{g:Gh}{S:af}{H:ah}{a:Act}{w:World}
def Rel.ownRow (R:Rel P w0 n U g S H a w) {w':World} {b':Nat} (d:Option Nat) (hd:∀ t,d=some t→t < n∧¬ U t) {el:TypeId} {i:TypeInfo} (hi:P.info? el=some i) {es:List AV} {news:List Value} {v':Value}
  (cE:w'.ownsRow g.base el i.size v' es.length news) (nw:v'.ownBlock=some b')
  (C0:∀es c,w.heap[b']?≠some (.map es c))
  (hb:(b'<w.heap.size/\w.grownBy w' (some b')/\g.owner b'=none/\(∀j,g.al j≠some b')/\g.hi b'<=es.length*i.size/\(∀k u,k<g.hi b'->w.cell? ⟨b',k,none⟩=some u->news[k]?=some u)/\∀o,g.old.keep b'≠some o)\/
   (b'=w.heap.size/\w.grownBy w' none/\w'.heap.size=w.heap.size+1))
  (eZ:aF i.size es=true)
  (hr:∀j (h:j<es.length) k (hk:k<(es[j]).cells.length),∃u,news[j*i.size+k]?=some u/\RD g.Pr w ((es[j]).cells[k]) u/\((es[j]).cells[k]).one=true):
  ∃g',g'.base=g.base/\g'.old=g.old/\Rel P w0 n U g' (Go.AL.aH S d (.slice (.own el) es)) H (a.put d v') w':=by
 have hle:g.base<=w.heap.size:=by rw[R.base];exact R.below.size
 simp only[aF,List.all_eq_true,Bool.and_eq_true,beq_iff_eq]at eZ
 let g':Gh:={ g with hi:=aq g.hi b' (es.length*i.size),owner:=aq g.owner b' (d.map .slot) }
 have jF:∀k,k<w.heap.size->k≠b'->w'.heap[k]?=w.heap[k]?:=by
  intro k hk bQ
  rcases hb with⟨_,h,_⟩|⟨_,h,_⟩
  .exact h.block k hk (by simp[bQ])
  .exact h.block k hk (by simp)
 have j7:w.heap.size<=w'.heap.size:=by rcases hb with⟨_,h,_⟩|⟨_,h,_⟩<;>exact h.size
 rcases cE.2 with⟨rfl,_⟩|⟨gg,cap,cur,rfl,mz,hg,BE,vA,lS,oI⟩
 .cases nw
 have pS:gg=b':=by simpa[Value.ownBlock]using nw
 subst pS
 have fT:∀k u,news[k]?=some u->w'.cell? ⟨gg,k,none⟩=some u:=by
  intro k u hu;have:=cE.cells (g:=gg) rfl k u hu;rwa [Addr.add_lit,Nat.zero_add]at this
 have QI:∀b k,g.Pr b k->∀u,w.cell? ⟨b,k,none⟩=some u->g'.Pr b k/\w'.cell? ⟨b,k,none⟩=some u:=by
  intro b k hp u hu;have av:b<w.heap.size:=World.block_lt_of_cell? _ _ hu
  by_cases ja:b=gg
  .subst ja
   rcases hb with⟨h1,h2,h3,h4,h5,h6,_⟩|⟨h1,_⟩
   .rcases hp with hp|hp
    .omega
    .exact⟨.inr ⟨hp.1,by show k<aq g.hi _ _ _;rw[aJ];omega⟩,fT k u (h6 k u hp.2 hu)⟩
   .omega
  .refine⟨?_,by rw[World.cell?_of_block (w:=w) (jF b av ja)];exact hu⟩;rcases hp with hp|hp
   .exact .inl hp
   .exact .inr ⟨hp.1,by show k<aq g.hi _ _ b;rw[aG _ _ ja];exact hp.2⟩
 have pA:aL g.Pr g'.Pr w w':={
  cell:=QI
  map:=λb hp es c hm=>by
   have av:b<w.heap.size:=(Array.getElem?_eq_some_iff.1 hm).1
   have ja:b≠gg:=by
    rintro rfl;exact C0 _ _ hm
   refine⟨?_,by rw[jF b av ja];exact hm⟩;rcases hp with hp|hp
   .exact .inl hp
   .exact .inr ⟨hp.1,by show 0<aq g.hi _ _ b;rw[aG _ _ ja];exact hp.2⟩ }
 have R':Rel P w0 n U g' S H a w':=by
  refine R.ext (g':=g') rfl rfl rfl pA ?_ ?_ ?_ ?_ ?_ j7
  .intro j b hj;obtain⟨_,_,_,_,_,k3,_⟩:=R.box j b hj;have av:b<w.heap.size:=(Array.getElem?_eq_some_iff.1 k3).1
   have bQ:b≠gg:=by
    rintro rfl
    rcases hb with⟨_,_,_,h4,_⟩|⟨h1,_⟩
    .exact h4 j hj
    .omega
   exact⟨jF b av bQ,aG _ _ bQ,aG _ _ bQ⟩
  .intro b loc ho
   have av:b<w.heap.size:=by
    rcases Nat.lt_or_ge b w.heap.size with h|h
    .exact h
    .rw[(R.fresh b h).2]at ho;cases ho
   have bQ:b≠gg:=by
    rintro rfl
    rcases hb with⟨_,_,h3,_⟩|⟨h1,_⟩
    .rw[h3]at ho;cases ho
    .omega
   exact⟨jF b av bQ,aG _ _ bQ,(aG _ _ bQ).trans ho⟩
  .refine R.below.trans ?_
   rcases hb with⟨_,h,_⟩|⟨_,h,_⟩
   .exact⟨h.os,h.tape,h.output,h.size,λk hk=>jF k (by omega) (by omega)⟩
   .exact⟨h.os,h.tape,h.output,h.size,λk hk=>jF k (by omega) (by omega)⟩
  .intro b ja
   have bQ:b≠gg:=by
    have:=(Array.getElem?_eq_some_iff.1 hg).1;omega
   exact⟨(aG _ _ bQ).trans (R.fresh b (by omega)).1,(aG _ _ bQ).trans (R.fresh b (by omega)).2⟩
  .intro b o hk ho;have av:b<w.heap.size:=(Array.getElem?_eq_some_iff.1 ho).1
   have bQ:b≠gg:=by
    rintro rfl
    rcases hb with⟨_,_,_,_,_,_,h7⟩|⟨h1,_⟩
    .exact h7 o hk
    .omega
   exact⟨by rw[jF b av bQ];exact ho,aG _ _ bQ,aG _ _ bQ⟩
 refine⟨g',rfl,rfl,R'.aH d _ _ (λt h=>(hd t h).1) (.data _ _ ?_) ?_⟩
 .refine .slice _ es gg 0 cap i.size (λk=>news.getD k undef) BE (λh=>by cases h) (λj h=>(eZ _ (List.getElem_mem h)).2) (λj h k hk=>(hr j h k hk).choose_spec.2.2) (λk hk=>⟨?_,?_⟩) (λj h k hk=>?_)
  .exact .inr ⟨mz,by show 0+k<aq g.hi _ _ _;rw[aJ];omega⟩
  .rw[Nat.zero_add];refine fT k _ ?_
   have:k<news.length:=by rw[cE.1];exact hk
   simp[this]
  .obtain⟨u,h1,h2,_⟩:=hr j h k hk
   have:news.getD (j*i.size+k) undef=u:=by simp[h1]
   rw[this];exact h2.mono pA
 .intro t ht;subst ht;exact⟨i,news,gg,hi,cE,rfl,by show aq g.owner _ _ _=_;rw[aJ];rfl,by show aq g.hi _ _ _=_;rw[aJ]⟩
def lV{size:Nat}{es:List AV}:aF size es=true↔∀v∈es,v.storable=true/\v.cells.length=size:=by
 simp[aF]
def C' (R:Rel P w0 n U g S H a w) {o:Oper} {cl:Call} {t el:TypeId} {i:TypeInfo} {z:Value} {x1 x2:Operand} {y1 y2:cm} {e:aD} (ho:o.op = .call cl) (jr:cl.callee = .builtin .append) (yx:cl.args = #[x1,x2]) (zL:cl.argTypes = #[t,t])
  (hd:∀t,o.dst=some t->t<n/\¬U t) (eI:P.underlying t=some (.slice el)) (hi:P.info? el=some i) (hz:i.zero=some z) (pE:z.cells.size=i.size) (Sk:i.bytes<=65536)
  (ma:du n x1=some y1) (kE:du n x2=some y2) (mI:∀t∈y1.tmps,¬U t) (np:∀t∈y2.tmps,¬U t) (cD:∀t,o.dst=some t->t∉y1.tmps)
  (he:ao S H (.append t el i.size i.bytes y1 y2)=some e):cy P w0 n U g S H a w o e:=by
 have hle:g.base<=w.heap.size:=by rw[R.base];exact R.below.size
 have e_:=R.ev ma mI;have eJ:=R.ev kE np
 have run:∀v' w',(Builtin.append_ #[t,t] o.type #[a.eval x1,a.eval x2]).run P w=.ok v' w'->(execOp a.eval o).run P w=.ok (.value v') w':=by
  intro v' w' h;unfold execOp;simp[ho,jr,yx,zL,resolve,invoke,builtin,h]
 have bytes:∀m,m<=2097152->m*i.bytes<=140737488355328:=λm hm=>Nat.le_trans (Nat.mul_le_mul hm Sk) (by decide)
 simp only[ao]at he;split at he
 .
  rename_i oo ys NC Vn;split at he
  case isFalse=>cases he
  rename_i hc;simp only[Bool.and_eq_true,decide_eq_true_eq]at hc;cases he;rw[NC]at e_;rw[Vn]at eJ
  obtain⟨Sl,jf⟩:∃ad,a.eval x1=.slice ad 0 0:=by
   have hq:=e_.dA rfl;generalize a.eval x1=c at hq
   cases hq with
   |gy=>exact⟨_,rfl⟩
   |iF=>exact⟨_,rfl⟩
   |slice _ _ b off cap size cs dX p_=>rw[p_ rfl];exact⟨_,rfl⟩
  have pR:=eJ.dA rfl
  rcases pR.ku i.size hc.1 with⟨rfl,NQ,iI⟩|⟨b,off,cap,news,iI,hl,hn,h1,hr⟩
  .refine⟨a.eval x1,w,g,.inl (run _ _ ?_),rfl,rfl,R.aH o.dst _ _ (λt h=>(hd t h).1) (.data _ _ (e_.dA rfl)) λ_ _=>trivial⟩;rw[jf,iI]
   have PR:(Builtin.firstCells i.size 0 (.slice NQ 0 0)).run P w=.ok #[] w:=by
    rcases NQ with _|NQ
    .rfl
    .simp[Builtin.firstCells,loadCells,loadCellsFrom]
   simp[Builtin.append_,run_underlying eI,sizeOf,typeInfo,hi,Builtin.lenOf,PR,storeCells]
   cases Sl<;>simp[storeCells]
  .by_cases UE:ys=[]
   .subst UE;have qF:news=[]:=List.eq_nil_of_length_eq_zero (by simpa using hl);refine⟨a.eval x1,w,g,.inl (run _ _ ?_),rfl,rfl,R.aH o.dst _ _ (λt h=>(hd t h).1) (.data _ _ (e_.dA rfl)) λ_ _=>trivial⟩;rw[jf,iI];simp[Builtin.append_,run_underlying eI,sizeOf,typeInfo,hi,Builtin.lenOf,Builtin.firstCells,loadCells,loadCellsFrom]
    cases Sl<;>simp[storeCells]
   .have iy:0<ys.length:=List.length_pos_iff.2 UE;obtain⟨v',w',r1,r2,r3,r4,r5⟩:=vT (P:=P) (w:=w) g.base t o.type el i z eI hi hz pE Sl ⟨b,off,none⟩ ys.length cap news hl (λj u hu=>by rw[Addr.add_lit];exact hn j u hu) iy (by omega) (bytes _ (by omega)) hle
    obtain⟨g',e1,e2,R'⟩:=R.ownRow o.dst hd hi (es:=ys) r2 r3 (λes c hm=>by have:=(Array.getElem?_eq_some_iff.1 hm).1;omega) (.inr ⟨rfl,r4,r5⟩) hc.1 (λj h k hk=>by
     obtain⟨u,u1,u2⟩:=hr j h k hk
     exact⟨u,u1,u2,pR.I' j h k hk⟩)
    refine⟨v',w',g',.inl (run _ _ (by rw[jf,iI];exact r1)),e1,e2,?_⟩
    have:ys.isEmpty=false:=by cases ys with|nil=>exact absurd rfl UE|cons=>rfl
    simp only[this];exact R'
 .rename_i e' xs oo ys NC Vn;split at he
  case isFalse=>cases he
  rename_i hc;simp only[Bool.and_eq_true,decide_eq_true_eq]at hc;obtain⟨rfl,⟨jf,iI⟩,Mb⟩:=hc;cases he;rw[NC]at e_;rw[Vn]at eJ;obtain⟨g1,i',xv,b,b1,b2,b3,b4,R1,ck,cE,nw,dZ,rI,G9,Pm⟩:=R.Ln ma mI NC;rw[hi]at ck;cases ck
  have oJ:g1.Pr=g.Pr:=by unfold Gh.Pr;rw[b1,b2,b4]
  have yt:=e_.dA rfl;have pR:=eJ.dA rfl;have fW:b<w.heap.size:=(cE.lt b nw).2
  have v7:aF i.size (xs++ys)=true:=by
   rw[lV];intro v hv;rcases List.mem_append.1 hv with h|h
   .exact lV.1 iI v h
   .exact lV.1 jf v h
  have hS:vt S y1=(match(a_ y1)with|some t=>aq S t (S t).aA|none=>S):=rfl
  have lC:∀(o:Ow)(es:List AV)(c:Value),RD g.Pr w (.slice o es) c->∀j (h:j<es.length) k (hk:k<(es[j]).cells.length),((es[j]).cells[k]).one=true:=by
   intro o es c h j hj k hk
   cases h with
   |gy=>simp at hj
   |iF=>simp at hj
   |slice _ _ _ _ _ _ _ _ _ _ h1 _ _=>exact h1 j hj k hk
  have SO:∀j (h:j<xs.length) k (hk:k<(xs[j]).cells.length),∃u,xv[j*i.size+k]?=some u/\RD g.Pr w ((xs[j]).cells[k]) u:=by
   intro j hj k hk
   rcases yt.ku i.size iI with⟨rfl,jA⟩|⟨b',off,cap,aaD,jA,hl,hn,h1,hr⟩
   .simp at hj
   .obtain⟨u,u1,u2⟩:=hr j hj k hk;refine⟨u,?_,u2⟩
    have av:j*i.size+k<xv.length:=by
     rw[cE.1,<-hl];exact(List.getElem?_eq_some_iff.1 u1).1
    have e1:=cE.cells nw _ _ (List.getElem?_eq_getElem av);have e2:=hn _ _ u1
    rcases cE.2 with⟨pf,_⟩|⟨gg,tQ,cur,F4,_⟩
    .rw[pf]at nw;cases nw
    .rw[F4]at jA nw
     have pS:gg=b:=by simpa[Value.ownBlock]using nw
     subst pS;cases jA;rw[Addr.add_lit,Nat.zero_add]at e1;rw[Nat.zero_add]at e2;rw[e2]at e1;rw[List.getElem?_eq_getElem av,Option.some.inj e1]
  have Vo:∀k u,k<g1.hi b->w.cell? ⟨b,k,none⟩=some u->∀news,(xv++news)[k]?=some u:=by
   intro k u hk hu news;rw[b4,rI]at hk
   have av:k<xv.length:=by rw[cE.1];exact hk
   have e1:=cE.cells nw _ _ (List.getElem?_eq_getElem av);rw[Addr.add_lit,Nat.zero_add,hu]at e1;rw[List.getElem?_append_left av,List.getElem?_eq_getElem av,<-Option.some.inj e1]
  have fin:∀ v' w' b' news,(Builtin.append_ #[t,t] o.type #[a.eval x1,a.eval x2]).run P w = .ok v' w'→w'.ownsRow g.base e' i.size v' (xs.length+ys.length) (xv++news)→v'.ownBlock=some b' →
    ((b'=b/\w.grownBy w' (some b))\/(b'=w.heap.size/\w.grownBy w' none/\w'.heap.size=w.heap.size+1))->news.length=ys.length*i.size->
    (∀j (h:j<ys.length) k (hk:k<(ys[j]).cells.length),∃u,news[j*i.size+k]?=some u/\RD g.Pr w ((ys[j]).cells[k]) u)->
    cy P w0 n U g S H a w o { v:=.slice (.own e') (xs++ys),dm:=a_ y1 }:=by
   intro v' w' b' news r1 r2 r3 r4 hl hr
   obtain⟨g',e1,e2,R'⟩:=R1.ownRow o.dst hd hi (es:=xs++ys) (by rw[b1,List.length_append];exact r2) r3 (by
    rcases r4 with⟨rfl,_⟩|⟨rfl,_⟩
    .intro es c hm
     rcases cE.2 with⟨pf,_⟩|⟨gg,tQ,cur,F4,_,KL,_⟩
     .rw[pf]at nw;cases nw
     .rw[F4]at nw
      have pS:gg=b':=by simpa[Value.ownBlock]using nw
      subst pS;rw[KL]at hm;cases hm
    .intro es c hm;have:=(Array.getElem?_eq_some_iff.1 hm).1
     omega) (by
    rcases r4 with⟨rfl,hg⟩|h
    .refine .inl ⟨fW,hg,dZ,by rw[b3];exact G9,by rw[b4,rI,List.length_append,Nat.add_mul];omega,λk u hk hu=>Vo k u hk hu news,by rw[b2];exact Pm⟩
    .exact .inr h) v7 (λj h k hk=>by
     rw[oJ]
     by_cases hj:j<xs.length
     .have ej:(xs++ys)[j]=xs[j]:=List.getElem_append_left hj
      have eK:k<(xs[j]).cells.length:=by rw[<-ej];exact hk
      obtain⟨u,u1,u2⟩:=SO j hj k eK;refine⟨u,?_,?_,?_⟩
      .rw[List.getElem?_append_left (List.getElem?_eq_some_iff.1 u1).1];exact u1
      .simp only[ej];exact u2
      .simp only[ej];exact lC _ _ _ yt j hj k eK
     .have QR:j-xs.length<ys.length:=by simp only[List.length_append]at h;omega
      have ej:(xs++ys)[j]=ys[j-xs.length]:=List.getElem_append_right (by omega)
      have eK:k<(ys[j-xs.length]).cells.length:=by rw[<-ej];exact hk
      obtain⟨u,u1,u2⟩:=hr _ QR k eK;refine⟨u,?_,?_,?_⟩
      .have e3:j * i.size+k=xv.length+((j - xs.length) * i.size+k):=by
        rw[cE.1,<-Nat.add_assoc,<-Nat.add_mul];congr 2;omega
       rw[e3,List.getElem?_append_right (by omega),Nat.add_sub_cancel_left];exact u1
      .simp only[ej];exact u2
      .simp only[ej];exact lC _ _ _ pR _ QR k eK)
   exact⟨v',w',g',.inl (run _ _ r1),e1.trans b1,e2.trans b2,R'⟩
  rcases pR.ku i.size jf with⟨rfl,NQ,jA⟩|⟨b',off,cap,news,jA,hl,hn,h1,hr⟩
  .refine fin (a.eval x1) w b [] (by rw[jA];exact rF (P:=P) (w:=w) g.base t o.type e' i i.size eI hi _ _ _ cE NQ) (by simpa using cE) nw (.inl ⟨rfl,⟨rfl,rfl,rfl,Nat.le_refl _,λ_ _ _=>rfl⟩⟩) (by simp) (λj h=>by simp at h)
  .obtain⟨v',w',b'',r1,r2,r3,r4⟩:=tH (P:=P) (w:=w) g.base t o.type e' i z eI hi hz pE (a.eval x1) xs.length xv b cE nw ⟨b',off,none⟩ ys.length cap news hl (λj u hu=>by rw[Addr.add_lit];exact hn j u hu) h1 (by omega) (bytes _ (by omega)) hle;exact fin v' w' b'' news (by rw[jA];exact r1) r2 r3 r4 hl hr
 .cases he
end
section
variable{P:Program}{w0:World}{n:Nat}{U:Nat->Prop}{g:Gh}{S:af}{H:ah}{a:Act}{w:World}
def FJ (R:Rel P w0 n U g S H a w) {o:Oper} {hr:HR} {t:TypeId} {nz:TypeDesc} {x:Operand} {y:cm} {e:aD} {d:Nat} (ho:o.op = .load t x) (gJ:o.dst=some d) (hd:d < n∧¬ U d)
  (eI:P.underlying t=some nz) (jL:eB nz=false) (hx:du n x=some y) (hu:∀t∈y.tmps,¬U t) (he:ao S H (.loadT hr y)=some e):cy P w0 n U g S H a w o e:=by
 have hv:=R.ev hx hu;simp only[ao]at he;generalize pZ:AL.ev S y=q at he hv;generalize lD:a.eval x=c at hv
 cases hv<;>(try cases he;done)
 case data h=>cases h<;>cases he
 rename_i k off b gE;simp only at he;split at he
 case isFalse=>cases he
 obtain⟨cs,vs,ty,k1,k2,k3,k4,k5,k6,k7,k8,k9⟩:=R.box k b gE;simp only[k1]at he;split at he
 case h_2=>cases he
 rename_i v hv;cases he;obtain⟨av,rfl⟩:=List.getElem?_eq_some_iff.1 hv
 have km:off<vs.size:=by omega
 have dJ:(loadVar t ⟨b,off,none⟩).run P w=.ok vs[off] w:=by
  have TA:(isAgg t).run P w=.ok false w:=by
   unfold isAgg;rw[Sem.run_bind,run_underlying eI w,<-jL]
   cases nz<;>simp[eB]
  have hc:w.cell? ⟨b,off,none⟩=some vs[off]:=by simp[World.cell?,k3,km]
  simp[loadVar,Sem.run_bind,TA,hc]
 have R1:=R.tg k b gE vs vs ty k3 (cs.set off (cs[off]).aA) (by simpa using k6) (fun j h h'=>by
   simp only[List.length_set]at h;rw[List.getElem_set];split
   .rename_i hj;subst hj;exact(k7 _ av km).aA
   .exact k7 j h h') (λj h h'=>by
   simp only[List.length_set]at h;rw[List.getElem_set];split
   .exact gw _ _ _
   .exact k8 j h h') (λj h=>by
   simp only[List.length_set]at h;rw[List.getElem_set];split
   .have:=k9 off av;exact(AV.mU _).trans this
   .exact k9 j h)
 rw[setRow_self w b vs ty (0,0) k3]at R1
 have R2:=R1.DT (.cell k off) (some (.slot d)) (λt h=>by cases h) (λi j cs' h hH hj=>by
  cases h;rw[aJ]at hH;cases hH;simp only[List.getElem_set_self]
  exact AV.oN _)
 refine⟨vs[off],w,{ g with owner:=λb=>if g.owner b=some (.cell k off)then some (.slot d)else g.owner b },.inl ?_,rfl,rfl,?_⟩
 .unfold execOp;simp[ho,lD,Instr.loadAt,Instr.sureAddr,dJ]
 .rw[gJ];refine R2.put d _ _ hd.1 (.data _ _ (k7 _ av km)) ?_;have hh:=k8 off av km;generalize cs[off]=v at hh;generalize vs[off]=c at hh
  cases v<;>try trivial
  rename_i oo es
  cases oo with
  |view=>trivial
  |nil=>exact hh
  |own e=>
   obtain⟨i,xs,b,h1,h2,h3,h4,h5⟩:=hh;refine⟨i,xs,b,h1,h2,h3,?_,h5⟩;show(if g.owner b=some (.cell k off)then some (.slot d)else g.owner b)=_;rw[if_pos h4]
def run_sliceBound{x:Value}{i:Int}{y:Nat}{code:BoundsCode}(hx:x=.int .i64 i)(h0:0<=i)(h1:i<=y):(Instr.sliceBound x y code).run P w=.ok i.toNat w:=by
 subst hx;simp[Instr.sliceBound,asIntOf,h0,h1]
def xL (R:Rel P w0 n U g S H a w) {lo hi:Option Operand} {u9 ck:Option cm} (oq:k_ n lo=some u9) (rI:k_ n hi=some ck) (MP:∀ y∈u9,∀ t∈y.tmps,¬ U t) (Nc:∀ y∈ck,∀ t∈y.tmps,¬ U t)
  {len cap:Nat} (Z1:len<=cap) {p q:Int} (hp:bound (u9.map (AL.ev S)) 0=some p) (hq:bound (ck.map (AL.ev S)) len=some q) (h0:0<=p) (h1:p<=q) (h2:q<=len) (sl:Bool):
  (Instr.sliceBounds sl len cap (lo.map a.eval) (hi.map a.eval) none).run P w=.ok (p.toNat,q.toNat,cap) w:=by
 have hh:∀code,(match hi.map a.eval with|some v=>Instr.sliceBound v cap code|none=>(pure len:Sem Nat)).run P w=.ok q.toNat w:=by
  intro code
  cases hi with
  |none=>
   cases rI;simp only[Option.map_none,bound,Option.some.injEq]at hq;subst hq;simp
  |some x=>
   simp only[k_,Option.map_eq_some_iff]at rI;obtain⟨y,hy,rfl⟩:=rI;have hv:=R.ev hy (Nc y rfl);simp only[Option.map_some,bound]at hq;generalize AL.ev S y=v at hq hv
   split at hq<;>simp only[Option.some.injEq,reduceCtorEq]at hq
   .simp_all
   .rename_i m hm;simp only[Option.some.injEq]at hm;subst hm;subst hq;simp only[Option.map_some];refine run_sliceBound ?_ (by omega) (by omega);generalize a.eval x=cx at hv;cases hv;rename_i hv;cases hv;rfl
 have hl:∀code,(match lo.map a.eval with|some v=>Instr.sliceBound v q.toNat code|none=>(pure 0:Sem Nat)).run P w=.ok p.toNat w:=by
  intro code
  cases lo with
  |none=>
   cases oq;simp only[Option.map_none,bound,Option.some.injEq]at hp;subst hp;simp
  |some x=>
   simp only[k_,Option.map_eq_some_iff]at oq;obtain⟨y,hy,rfl⟩:=oq;have hv:=R.ev hy (MP y rfl);simp only[Option.map_some,bound]at hp;generalize AL.ev S y=v at hp hv
   split at hp<;>simp only[Option.some.injEq,reduceCtorEq]at hp
   .simp_all
   .rename_i m hm;simp only[Option.some.injEq]at hm;subst hm;subst hp;simp only[Option.map_some];refine run_sliceBound ?_ (by omega) (by omega);generalize a.eval x=cx at hv;cases hv;rename_i hv;cases hv;rfl
 unfold Instr.sliceBounds
 cases hi with
 |none=>
  have h3:=hh .sliceB;simp only[Option.map_none]at h3⊢
  cases lo with
  |none=>have h4:=hl .sliceB;simp only[Option.map_none]at h4⊢;simp at h3 h4;simp[h3,h4]
  |some x=>have h4:=hl .sliceB;simp only[Option.map_some]at h4⊢;simp at h3;simp[h3,h4]
 |some y=>
  have h3:=λc=>hh c
  simp only[Option.map_some]at h3⊢
  cases lo with
  |none=>have h4:=hl .sliceB;simp only[Option.map_none]at h4⊢;simp at h4;simp[h3,h4]
  |some x=>have h4:=hl .sliceB;simp only[Option.map_some]at h4⊢;simp[h3,h4]
def DH (R:Rel P w0 n U g S H a w) {o:Oper} {t:TypeId} {x:Operand} {lo hi:Option Operand} {y:cm} {u9 ck:Option cm} {e:aD} (ho:o.op = .slice t x lo hi none) (hd:∀ t,o.dst=some t→t < n∧¬ U t)
  (eI:P.underlying t=some .string) (hx:du n x=some y) (hu:∀t∈y.tmps,¬U t) (oq:k_ n lo=some u9) (rI:k_ n hi=some ck) (MP:∀y∈u9,∀t∈y.tmps,¬U t) (Nc:∀y∈ck,∀t∈y.tmps,¬U t)
  (he:ao S H (.mO y u9 ck)=some e):cy P w0 n U g S H a w o e:=by
 have hv:=R.ev hx hu;simp only[ao]at he;generalize pZ:AL.ev S y=q at he hv;generalize lD:a.eval x=c at hv
 cases hv<;>(try cases he;done)
 rename_i h
 cases h<;>simp only at he<;>try cases he
 rename_i l;split at he
 case h_2=>cases he
 rename_i p q hp hq;split at he
 case isFalse=>cases he
 rename_i hc;cases he;have hb:=xL R oq rI MP Nc (len:=l.length) (Nat.le_refl _) hp hq hc.1 hc.2.1 hc.2.2 false
 refine cy.val R (λt h=>(hd t h).1) (c:=.string ⟨((l.take q.toNat).drop p.toNat).toArray⟩) ?_ (.data _ _ (.str _)) λ_=>trivial
 have fg:(Instr.sliceBounds false (⟨l.toArray⟩:ByteArray).size (⟨l.toArray⟩:ByteArray).size (lo.map a.eval) (hi.map a.eval) none).run P w=.ok (p.toNat,q.toNat,l.length) w:=hb;unfold execOp;simp only[ho,lD,Instr.sliceAt,Sem.run_bind,run_underlying eI,Result.andThen_ok,Option.map_none,Instr.slice,Option.isSome_none,Bool.false_eq_true,if_false,Sem.run_pure,fg];rw[ByteArray.extract_mk,List.drop_take]
def DD (R:Rel P w0 n U g S H a w) {o:Oper} {t el:TypeId} {i:TypeInfo} {x:Operand} {lo hi:Option Operand} {y:cm} {u9 ck:Option cm} {e:aD} (ho:o.op = .slice t x lo hi none) (hd:∀ t,o.dst=some t→t < n∧¬ U t)
  (eI:P.underlying t=some (.slice el)) (vW:P.info? el=some i) (hx:du n x=some y) (hu:∀t∈y.tmps,¬U t) (oq:k_ n lo=some u9) (rI:k_ n hi=some ck) (MP:∀y∈u9,∀t∈y.tmps,¬U t) (Nc:∀y∈ck,∀t∈y.tmps,¬U t)
  (he:ao S H (.lZ i.size y u9 ck)=some e):cy P w0 n U g S H a w o e:=by
 have hv:=R.ev hx hu;simp only[ao]at he;generalize pZ:AL.ev S y=q at he hv;generalize lD:a.eval x=c at hv
 cases hv<;>(try cases he;done)
 rename_i h
 have key:∀ (es:List AV) (ad:Option Addr) (cap:Nat),es.length≤cap→c = .slice ad es.length cap→∀ p q:Int,bound (u9.map (AL.ev S)) 0=some p→bound (ck.map (AL.ev S)) es.length=some q→0≤p→p≤q→q≤es.length →
   (execOp a.eval o).run P w=.ok (.value (.slice (if cap=p.toNat then ad else ad.map (·.add (p.toNat*i.size))) (q.toNat-p.toNat) (cap-p.toNat))) w:=by
  rintro es ad cap dX rfl p q hp hq h0 h1 h2;have hb:=xL R oq rI MP Nc dX hp hq h0 h1 h2 true;unfold execOp;simp[ho,lD,Instr.sliceAt,Sem.run_bind,run_underlying eI,Instr.slice,hb,sizeOf,typeInfo,vW]
 cases h with
 |gy oo=>
  simp only at he;split at he
  case h_2=>cases he
  rename_i p q hp hq;split at he
  case isFalse=>cases he
  rename_i hc;cases he;have hk:=key [] none 0 (Nat.le_refl _) rfl p q hp hq hc.1 hc.2.1 hc.2.2.1
  have P_:q.toNat=0:=by have:=hc.2.2.1;simp at this;omega
  have Pj:p.toNat=0:=by have:=hc.2.1;omega
  refine cy.val R (λt h=>(hd t h).1) hk (.data _ _ ?_) λ_=>trivial
  simp[P_,Pj];exact .gy _
 |iF oo a0=>
  simp only at he;split at he
  case h_2=>cases he
  rename_i p q hp hq;split at he
  case isFalse=>cases he
  rename_i hc;cases he;have hk:=key [] (some a0) 0 (Nat.le_refl _) rfl p q hp hq hc.1 hc.2.1 hc.2.2.1
  have P_:q.toNat=0:=by have:=hc.2.2.1;simp at this;omega
  have Pj:p.toNat=0:=by have:=hc.2.1;omega
  refine cy.val R (λt h=>(hd t h).1) hk (.data _ _ ?_) λ_=>trivial
  simp[P_,Pj];exact .iF _ _
 |slice oo es b off cap size cs dX p_ aI h1 jA hr=>
  simp only at he;split at he
  case h_2=>cases he
  rename_i p q hp hq;split at he
  case isFalse=>cases he
  rename_i hc;cases he;have hk:=key es (some ⟨b,off,none⟩) cap dX rfl p q hp hq hc.1 hc.2.1 hc.2.2.1;have bB:=lV.1 hc.2.2.2
  have hlq:q.toNat<=es.length:=by have:=hc.2.2.1;omega
  have hpq:p.toNat<=q.toNat:=by have:=hc.2.1;omega
  have hlen:((es.take q.toNat).drop p.toNat).length=q.toNat-p.toNat:=by simp;omega
  refine cy.val R (λt h=>(hd t h).1) hk (.data _ _ ?_) λ_=>trivial
  by_cases hm:cap=p.toNat
  .rw[if_pos hm];have pf:(es.take q.toNat).drop p.toNat=[]:=List.eq_nil_of_length_eq_zero (by omega);rw[pf,show q.toNat-p.toNat=([]:List AV).length by simp;omega];exact .slice _ [] b off _ 0 cs (Nat.zero_le _) (λh=>by cases h) (λi h=>by simp at h) (λi h=>by simp at h) (λk hk=>by simp at hk) (λi h=>by simp at h)
  .rw[if_neg hm];simp only[Option.map_some,Addr.add_lit];rw[<-hlen]
   have j0:∀j (h:j<((es.take q.toNat).drop p.toNat).length),((es.take q.toNat).drop p.toNat)[j]=es[p.toNat+j]'(by rw[hlen]at h;omega):=by intro j h;simp
   by_cases iM:es=[]
   .subst iM
    have pf:(([]:List AV).take q.toNat).drop p.toNat=[]:=by simp
    rw[pf];exact .slice _ [] b _ _ 0 cs (Nat.zero_le _) (λh=>by cases h) (λi h=>by simp at h) (λi h=>by simp at h) (λk hk=>by simp at hk) (λi h=>by simp at h)
   .have iy:0<es.length:=List.length_pos_iff.2 iM
    have Vw:size=i.size:=by rw[<-aI 0 iy];exact(bB _ (List.getElem_mem iy)).2
    subst Vw;refine .slice _ _ b _ _ i.size (λk=>cs (p.toNat*i.size+k)) (by omega) (λh=>by cases h) (λj h=>by rw[j0 j h];exact aI _ _) (λj h k hk=>by have:=j0 j h;simp only[this]at hk⊢;exact h1 _ _ k hk) (λk hk=>?_) (λj h k hk=>?_)
    .rw[hlen]at hk
     have:p.toNat*i.size+k<es.length*i.size:=by
      calc p.toNat*i.size+k<p.toNat*i.size+(q.toNat-p.toNat)*i.size:=by omega
       _=q.toNat*i.size:=by rw[<-Nat.add_mul];congr 1;omega
       _<=es.length*i.size:=Nat.mul_le_mul_right _ hlq
     have:=jA _ this;rwa [<-Nat.add_assoc]at this
    .have e:=j0 j h;simp only[e]at hk⊢;have:=hr (p.toNat+j) (by rw[hlen]at h;omega) k hk;rwa [Nat.add_mul,Nat.add_assoc]at this
 |_=>cases he
def xP (R:Rel P w0 n U g S H a w) {o:Oper} {neg:Bool} {t t' el:TypeId} {x:Operand} {y:cm} {e:aD} (ho:o.op = .binOp (if neg then .neq else .eql) t x (.const (.slice none 0 0)) t') (hd:∀ t,o.dst=some t→t < n∧¬ U t)
  (ht:P.underlying t=some (.slice el)) (hx:du n x=some y) (hu:∀t∈y.tmps,¬U t) (he:ao S H (.isNil neg y)=some e):cy P w0 n U g S H a w o e:=by
 have hv:=R.ev hx hu;simp only[ao]at he;generalize pZ:AL.ev S y=q at he hv;generalize lD:a.eval x=c at hv
 have run:∀ad l k,c=.slice ad l k->(execOp a.eval o).run P w=.ok (.value (.bool (if neg then !ad.isNone else ad.isNone))) w:=by
  rintro ad l k rfl;have hg:=gv (P:=P) (w:=w) (if neg then .neq else .eql) t x (.const (.slice none 0 0)) (.slice ad l k) (.slice none 0 0) rfl
  have hE:(Op.equal t (.slice ad l k) (.slice none 0 0)).run P w=.ok ad.isNone w:=by
   unfold Op.equal Op.maxDepth Op.equalIn
   cases ad<;>simp[run_underlying ht]
  have Rm:a.eval (.const (.slice none 0 0))=.slice none 0 0:=rfl;cases neg
  .simp only[Bool.false_eq_true,if_false]at ho hg⊢;simp[execOp,ho,lD,Rm,hg,binOp,hE]
  .simp only[if_true]at ho hg⊢;simp[execOp,ho,lD,Rm,hg,binOp,hE]
 cases hv<;>(try cases he;done)
 rename_i h
 cases h<;>simp only at he<;>try cases he
 .exact cy.val R (λt h=>(hd t h).1) (run _ _ _ rfl) (.data _ _ (.kI _)) λ_=>trivial
 .exact cy.val R (λt h=>(hd t h).1) (run _ _ _ rfl) (.data _ _ (.kI _)) λ_=>trivial
 .rename_i oo es b off cap sz cs dX p_ aI h1 hc hr
  refine cy.val R (λt h=>(hd t h).1) (run _ _ _ rfl) (.data _ _ ?_) λ_=>by cases es<;>trivial
  cases es
  .exact .kI _
  .simp only[List.isEmpty_cons,Bool.false_eq_true,if_false,Option.isNone_some,Bool.not_false]
   cases neg<;>exact .bool _
def FC (R:Rel P w0 n U g S H a w) {o:Oper} {t el:TypeId} {i:TypeInfo} {e:aD} (ho:o.op = .buildSlice t 0 #[]) (hd:∀ t,o.dst=some t→t < n∧¬ U t)
  (eI:P.underlying t=some (.slice el)) (hi:P.info? el=some i) (he:ao S H (.empty el)=some e):cy P w0 n U g S H a w o e:=by
 cases he;have hb:Below w.heap.size w (w.alloc (.cells #[] el)):=(Below.refl _ _).alloc (Nat.le_refl _) _;refine⟨.slice (some ⟨w.heap.size,0,none⟩) 0 0,w.alloc (.cells #[] el),g,.inl ?_,rfl,rfl,(R.kP hb).aH o.dst _ _ (λt h=>(hd t h).1) (.data _ _ ?_) λ_ _=>trivial⟩
 .unfold execOp;have hz:(Array.map (λ_:Nat=>(default:Value)) (Array.range 0))=#[]:=Array.eq_empty_of_size_eq_zero (by simp);simp[ho,Instr.buildSlice,run_underlying eI,sizeOf,typeInfo,hi,Instr.fill,newRow,hz]
 .exact .slice _ [] _ 0 0 0 (λ_=>undef) (Nat.zero_le _) (λ_=>rfl) (λi h=>by simp at h) (λi h=>by simp at h) (λk hk=>by simp at hk) (λi h=>by simp at h)
def EU (R:Rel P w0 n U g S H a w) {o:Oper} {xt t:TypeId} {dt:TypeDesc} {i:TypeInfo} {z:Value} {zs:List AV} {x:Operand} {y:cm} {e:aD} (ho:o.op = .typeAssert x xt t true) (hd:∀ t,o.dst=some t→t < n∧¬ U t)
  (ht:P.underlying t=some dt) (DA:∀ms,dt≠.interface ms) (hi:P.info? t=some i) (hz:i.zero=some (.agg z.cells)) (pE:h_ z.cells.toList=some zs) (hx:du n x=some y) (hu:∀t∈y.tmps,¬U t)
  (he:ao S H (.assert t (.agg zs) y)=some e):cy P w0 n U g S H a w o e:=by
 have hv:=R.ev hx hu;simp only[ao]at he;generalize pZ:AL.ev S y=q at he hv;generalize lD:a.eval x=c at hv;have JJ:=(gQ g.Pr w pE).1;have PX:RD g.Pr w (.agg zs) (.agg z.cells):=.agg _ _ (by simpa using JJ.1) JJ.2.2 (λi h h'=>by simpa using JJ.2.1 i h (by simpa using h'))
 have two:∀(v:AV)(c:Value)(b:Bool),RD g.Pr w v c->RD g.Pr w (.eS [v,.bool b]) (.tuple #[c,.bool b]):=by
  intro v c b h
  refine .eS _ _ rfl λi hi ck=>?_
  match i,hi with
  |0,_=>exact h
  |1,_=>exact .bool b
 cases hv<;>(try cases he;done)
 rename_i h
 cases h<;>simp only at he<;>try cases he
 .rename_i t' v c' h
  refine cy.val R (λt h=>(hd t h).1) (c:=if t'=t then .tuple #[c',.bool true]else .tuple #[.agg z.cells,.bool false]) ?_ (.data _ _ ?_) λ_=>by split<;>trivial
  .unfold execOp;simp only[ho,lD,Instr.typeAssert,Sem.run_bind,run_underlying ht,Result.andThen_ok]
   cases dt<;>first|exact absurd rfl (DA _)|skip
   all_goals (split<;>simp[zeroValue,typeInfo,hi,hz])
  .split
   .exact two _ _ _ h
   .exact two _ _ _ PX
 .refine cy.val R (λt h=>(hd t h).1) (c:=.tuple #[.agg z.cells,.bool false]) ?_ (.data _ _ (two _ _ _ PX)) λ_=>trivial
  unfold execOp;simp only[ho,lD,Instr.typeAssert,Sem.run_bind,run_underlying ht,Result.andThen_ok]
  cases dt<;>first|exact absurd rfl (DA _)|skip
  all_goals simp[zeroValue,typeInfo,hi,hz]
end
def tu(k:TypeId->Option Nat):List Field->Nat->Option Nat
 |[],acc=>some acc
 |f::fs,acc=>if f.name = "_" \/ f.offset≠acc then none else
  match k f.type with
  |some m=>tu k fs (acc+m)
  |none=>none
def iY(P:Program):Nat->TypeId->Option Nat
 |0,_=>none
 |d+1,t=>match P.underlying t,P.info? t with
  |some (.int .i64),some i=>if i.size=1 then some 1 else none
  |some (.struct fs),some i=>if P.stoodInHeld t=false/\tu (iY P d) fs.toList 0=some i.size then some i.size else none
  |_,_=>none
def dw(l:List Int):Array Value:=(l.map (Value.int .i64)).toArray
def encI(P:Program)(t:TypeId)(l:List Int):Value:=
 match P.underlying t with
 |some (.int _)=>.int .i64 (l.headD 0)
 |_=>.agg (dw l)
section
variable{P:Program}{w:World}
def wk {d:Nat} {t:TypeId} {k:Nat} (h:iY P d t=some k) (l:List Int) (off:Nat) (hl:off+k≤l.length) :
  (part t (dw l) off).run P w=.ok (encI P t ((l.drop off).take k)) w:=by
 cases d with
 |zero=>cases h
 |succ d=>
  simp only[iY]at h;split at h
  .rename_i i hu hi
   split at h<;>cases h
   rename_i hs
   have jL:(isAgg t).run P w=.ok false w:=by
    unfold isAgg;rw[Sem.run_bind,run_underlying hu w];simp
   have av:off<l.length:=by omega
   have hhd:((l.drop off).take 1).headD 0=l[off]:=by
    rw[List.drop_eq_getElem_cons av];rfl
   simp only[part,Sem.run_bind,jL,Result.andThen_ok,Bool.false_eq_true,if_false,encI,hu,hhd];simp[dw,av]
  .rename_i fs i hu hi
   split at h<;>cases h
   have jL:(isAgg t).run P w=.ok true w:=by
    unfold isAgg;rw[Sem.run_bind,run_underlying hu w];simp
   simp only[part,Sem.run_bind,jL,Result.andThen_ok,if_true,encI,hu];simp only[sizeOf,typeInfo,Sem.run_bind];simp[dw,List.map_take,List.map_drop,hi]
  .cases h
def I6(a b:List Int)(k:Nat)(h:a.length=b.length):(a==b)=((a.take k==b.take k)&&(a.drop k==b.drop k)):=by
 rw[Bool.eq_iff_iff];simp only[Bool.and_eq_true,beq_iff_eq]
 constructor
 .rintro rfl;exact⟨rfl,rfl⟩
 .rintro⟨h1,h2⟩;rw[<-List.take_append_drop k a,<-List.take_append_drop k b,h1,h2]
def vP {d:Nat} (ih:∀ t k,iY P d t=some k→∀ a b:List Int,a.length=k→b.length=k→(Op.equalIn d t (encI P t a) (encI P t b)).run P w = .ok (a==b) w) :
  ∀(fs:List Field)(acc mR:Nat),tu (iY P d) fs acc=some mR->∀l m:List Int,l.length=mR->m.length=mR->
   acc<=mR/\(Op.eqFields d (dw l) (dw m) fs).run P w=.ok (l.drop acc==m.drop acc) w
 |[],acc,mR,h,l,m,hl,hm=>by
  cases h;refine⟨Nat.le_refl _,?_⟩;have e1:l.drop acc=[]:=List.drop_eq_nil_of_le (by omega);have e2:m.drop acc=[]:=List.drop_eq_nil_of_le (by omega);rw[e1,e2];simp[Op.eqFields]
 |f::fs,acc,mR,h,l,m,hl,hm=>by
  simp only[tu]at h;split at h
  case isTrue=>cases h
  rename_i hn;simp only[not_or,ne_eq,Classical.not_not]at hn;split at h
  case h_2=>cases h
  rename_i k hk;obtain⟨hle,vV⟩:=vP ih fs (acc+k) mR h l m hl hm;refine⟨by omega,?_⟩;have e1:=wk (w:=w) hk l acc (by omega);have e2:=wk (w:=w) hk m acc (by omega);have e3:=ih f.type k hk ((l.drop acc).take k) ((m.drop acc).take k) (by simp;omega) (by simp;omega);simp only[Op.eqFields,ne_eq,hn.1,not_false_eq_true,if_true,hn.2,Sem.run_bind,e1,e2,Result.andThen_ok,e3];rw[I6 (l.drop acc) (m.drop acc) k (by simp;omega)];rw[List.drop_drop,List.drop_drop];generalize((l.drop acc).take k==(m.drop acc).take k)=q
  cases q with
  |false=>simp
  |true=>simpa using vV
def ph:∀(d:Nat)(t:TypeId)(k:Nat),iY P d t=some k->∀a b:List Int,a.length=k->b.length=k->(Op.equalIn d t (encI P t a) (encI P t b)).run P w=.ok (a==b) w
 |0,t,k,h,a,b,ha,hb=>by cases h
 |d+1,t,k,h,a,b,ha,hb=>by
  simp only[iY]at h;split at h
  .rename_i i hu hi
   split at h<;>cases h
   match a,ha,b,hb with
   |[x],_,[y],_=>
    simp only[encI,hu];rw[run_equalIn_int w d t .i64 .i64 _ _ hu];simp
  .rename_i fs i hu hi
   split at h<;>cases h
   rename_i hc
   have hf:P.fieldsOf t=fs:=by simp[Program.fieldsOf,hu]
   simp only[encI,hu];rw[run_equalIn_struct w d t _ _ (by rw[hf];exact hu) hc.1,hf];exact(vP (ph d) fs.toList 0 i.size hc.2 a b ha hb).2
  .cases h
def oS {Pr:Nat→Nat→Prop}:∀ {xs:List AV} {a:List Int},kC xs=some a→∀ {vs:List Value},xs.length=vs.length →
  (∀i (h:i<xs.length)(h':i<vs.length),RD Pr w xs[i] vs[i])->vs=a.map (Value.int .i64)/\a.length=xs.length
 |[],a,h,vs,hl,hr=>by
  cases h;have:vs=[]:=List.length_eq_zero_iff.1 hl.symm;subst this;exact⟨rfl,rfl⟩
 |x::xs,a,h,vs,hl,hr=>by
  cases vs with
  |nil=>simp at hl
  |cons v vs=>
   unfold kC at h;split at h
   .rename_i e;cases e
   .rename_i n cs e;cases e;simp only[Option.map_eq_some_iff]at h;obtain⟨a',ha,rfl⟩:=h;have h0:=hr 0 (by simp) (by simp);simp only[List.getElem_cons_zero]at h0;cases h0;obtain⟨h1,h2⟩:=oS ha (by simpa using hl) (λi h h'=>hr (i+1) (by simpa using h) (by simpa using h'));rw[h1];exact⟨rfl,by simp[h2]⟩
   .cases h
variable{w0:World}{n:Nat}{U:Nat->Prop}{g:Gh}{S:af}{H:ah}{a:Act}
def Cf (R:Rel P w0 n U g S H a w) {o:Oper} {neg:Bool} {k:Nat} {t t':TypeId} {fs:Array Field} {x1 x2:Operand} {y1 y2:cm} {e:aD} (ho:o.op = .binOp (if neg then .neq else .eql) t x1 x2 t') (hd:∀ t,o.dst=some t→t < n∧¬ U t)
  (eI:P.underlying t=some (.struct fs)) (hk:iY P 10000 t=some k) (Av:P.eqGuardType P.depth t=false) (ma:du n x1=some y1) (kE:du n x2=some y2) (mI:∀t∈y1.tmps,¬U t) (np:∀t∈y2.tmps,¬U t)
  (he:ao S H (.eqs neg k y1 y2)=some e):cy P w0 n U g S H a w o e:=by
 have e_:=R.ev ma mI;have eJ:=R.ev kE np;simp only[ao]at he;generalize AL.ev S y1=p1 at he e_;generalize AL.ev S y2=p2 at he eJ;generalize jf:a.eval x1=c1 at e_;generalize iI:a.eval x2=c2 at eJ;split at he
 case h_2=>cases he
 rename_i xs ys;split at he
 case h_2=>cases he
 rename_i yw bs ha hb
 split at he<;>cases he
 rename_i hlen;have q1:=e_.dA rfl;have q2:=eJ.dA rfl;cases q1;rename_i vs hl h1 hr;cases q2;rename_i us yH QK iR;obtain⟨e1,_⟩:=oS (vs:=vs.toList) ha (by simpa using hl) (λi h h'=>by simpa using hr i h (by simpa using h'));obtain⟨e2,_⟩:=oS (vs:=us.toList) hb (by simpa using yH) (λi h h'=>by simpa using iR i h (by simpa using h'))
 have f1:vs=dw yw:=by rw[dw,<-e1]
 have f2:us=dw bs:=by rw[dw,<-e2]
 subst f1 f2;have hE:=ph (P:=P) (w:=w) 10000 t k hk yw bs hlen.1 hlen.2;simp only[encI,eI]at hE;have hg:=run_eqGuard_agg w (if neg then .neq else .eql) t x1 x2 (dw yw) (dw bs) Av
 refine cy.val R (λt h=>(hd t h).1) (c:=.bool (if neg then yw !=bs else yw==bs)) ?_ (.data _ _ (.bool _)) λ_=>trivial
 cases neg with
 |true=>
  simp only[if_true]at ho hg⊢;simp[execOp,ho,jf,iI,hg,run_neq_struct,hE,bne,Sem.run_bind]
 |false=>
  simp only[Bool.false_eq_true,if_false]at ho hg⊢;simp[execOp,ho,jf,iI,hg,run_eql_struct,hE,Sem.run_bind]
end
section
variable{P:Program}{w0:World}{n:Nat}{U:Nat->Prop}{g:Gh}{S:af}{H:ah}{a:Act}{w:World}
def Et (R:Rel P w0 n U g S H a w) {o:Oper} {t el:TypeId} {len:Nat} {it ie:TypeInfo} {z:Value} {ps:Array (Nat×Operand)} {zs:List AV} {qs:List (Nat×Nat×cm)} {e:aD} (ho:o.op = .build t ps) (hd:∀ t,o.dst=some t→t < n∧¬ U t)
  (hi:P.info? t=some it) (eI:P.underlying t=some (.array len el)) (hz:it.zero=some z) (va:P.info? el=some ie) (pE:h_ z.cells.toList=some zs) (hq:qz n (λi=>some (i*ie.size,ie.size)) ps.toList=some qs)
  (hu:∀q∈qs,∀t∈q.2.2.tmps,¬U t) (he:ao S H (.build (zs.map AV.aA) qs)=some e):cy P w0 n U g S H a w o e:=by
 simp only[ao,Option.map_eq_some_iff]at he;obtain⟨cs',hc,rfl⟩:=he;have EP:=(gQ g.Pr w pE).1
 have VP:ni g.Pr w (zs.map AV.aA) z.cells:=by
  refine⟨by simpa using EP.1,λi h h'=>?_,λi h=>?_⟩
  .simp only[List.length_map]at h;have:=(EP.2.1 i h (by simpa using h')).aA;simpa using this
  .simp only[List.length_map]at h;have:=EP.2.2 i h;simp only[List.getElem_map];exact(AV.mU _).trans this
 obtain⟨jq,h1,h2⟩:=sg R hq hu VP hc
 have hb:P.built t (ps.map λ(i,x)=>(i,a.eval x)).toList=some jq:=by
  unfold Program.built;simp only[hi,eI,hz,va,Array.toList_map];exact h1
 refine cy.val R (λt h=>(hd t h).1) (c:=.agg jq) ?_ (.data _ _ (.agg _ _ h2.1 h2.2.2 h2.2.1)) λ_=>trivial
 unfold execOp;simp only[ho,Sem.run_bind,run_build w t _ jq hb,Result.andThen_ok]
 rfl
def Ga {Pr:Nat→Nat→Prop} {ty:TypeId} {i:TypeInfo} {nz:TypeDesc} (hi:P.info? ty=some i) (hu:P.underlying ty=some nz) {cs:List AV} {vs:Array Value} {off:Nat} {v:AV}
  (hr:RD Pr w (.agg cs) (.agg vs)) (he:aZ (eB nz) i.size (cs.drop off)=some v):∃c,(part ty vs off).run P w=.ok c w/\RD Pr w v c:=by
 cases hr;rename_i h1 hl hr
 have jL:(isAgg ty).run P w=.ok (eB nz) w:=by
  unfold isAgg;rw[Sem.run_bind,run_underlying hu w]
  cases nz<;>simp[eB]
 generalize eB nz=q at he jL
 cases q with
 |true=>
  simp only[aZ,if_true,List.length_drop]at he;split at he
  case isFalse=>cases he
  rename_i hle;cases he;refine⟨.agg (vs.extract off (off+i.size)),by simp[part,Sem.run_bind,jL,sizeOf,typeInfo,hi],?_⟩
  refine .agg _ _ (by simp;omega) (λk hk=>?_) λk hk eK=>?_
  .simp only[List.length_map,List.length_take,List.length_drop]at hk;simp only[List.getElem_map,List.getElem_take,List.getElem_drop];have:=h1 (off+k) (by omega);exact(AV.mU _).trans this
  .simp only[List.length_map,List.length_take,List.length_drop]at hk;have:=(hr (off+k) (by omega) (by omega)).aA;simpa using this
 |false=>
  simp only[aZ,Bool.false_eq_true,if_false,Option.map_eq_some_iff]at he;obtain⟨v0,PG,rfl⟩:=he;simp only[List.getElem?_drop,Nat.add_zero]at PG;obtain⟨h0,rfl⟩:=List.getElem?_eq_some_iff.1 PG
  have hv:off<vs.size:=by omega
  exact⟨vs[off],by simp[part,Sem.run_bind,jL,hv],(hr off h0 hv).aA⟩
def Dk (R:Rel P w0 n U g S H a w) {o:Oper} {t el:TypeId} {len:Nat} {ie:TypeInfo} {nz:TypeDesc} {x1 x2:Operand} {y1 y2:cm} {e:aD} (ho:o.op = .index t x1 x2) (hd:∀ t,o.dst=some t→t < n∧¬ U t)
  (eI:P.underlying t=some (.array len el)) (hi:P.info? el=some ie) (T3:P.underlying el=some nz) (ma:du n x1=some y1) (kE:du n x2=some y2) (mI:∀t∈y1.tmps,¬U t) (np:∀t∈y2.tmps,¬U t)
  (he:ao S H (.mN (eB nz) len ie.size y1 y2)=some e):cy P w0 n U g S H a w o e:=by
 have e_:=R.ev ma mI;have eJ:=R.ev kE np;simp only[ao]at he;generalize AL.ev S y1=p1 at he e_;generalize AL.ev S y2=p2 at he eJ;generalize jf:a.eval x1=c1 at e_;generalize iI:a.eval x2=c2 at eJ;split at he
 case h_2=>cases he
 rename_i cs k;split at he
 case isFalse=>cases he
 rename_i hk;simp only[Option.map_eq_some_iff]at he;obtain⟨v,hv,rfl⟩:=he;have q1:=e_.dA rfl;have q2:=eJ.dA rfl;cases q2;have q1':=q1;cases q1;obtain⟨c,h1,h2⟩:=Ga (P:=P) hi T3 q1' hv
 refine cy.val R (λt h=>(hd t h).1) (c:=c) ?_ (.data _ _ h2) λ_=>?_
 .simp only[execOp,ho,jf,iI,Instr.index,Sem.run_bind];simp[asIntOf,run_underlying eI,hk,sizeOf,typeInfo,hi,Sem.run_bind,h1]
 .simp only[aZ]at hv;split at hv
  .split at hv<;>cases hv;trivial
  .simp only[Option.map_eq_some_iff]at hv;obtain⟨u,_,rfl⟩:=hv;exact gw _ _ _
def ye{Pr:Nat->Nat->Prop}:∀{es:List AV}{l:List UInt8},bytesOf es=some l->l.length=es.length/\∀j (h:j<es.length)(h':j<l.length),es[j]=.int .u8 (l[j].toNat:Int)
 |[],l,h=>by cases h;exact⟨rfl,λj h=>by simp at h⟩
 |x::es,l,h=>by
  unfold bytesOf at h;split at h
  .rename_i e;cases e
  .rename_i m cs e;cases e;split at h
   case isFalse=>cases h
   rename_i hm;simp only[Option.map_eq_some_iff]at h;obtain⟨l',hl,rfl⟩:=h;obtain⟨h1,h2⟩:=ye (Pr:=Pr) hl;refine⟨by simp[h1],λj hj c_=>?_⟩
   cases j with
   |zero=>
    simp only[List.getElem_cons_zero]
    have:((UInt8.ofNat m.toNat).toNat:Int)=m:=by
     have h3:m.toNat<256:=by omega
     simp[UInt8.toNat_ofNat',Nat.mod_eq_of_lt h3];omega
    rw[this]
   |succ j=>simpa using h2 j (by simpa using hj) (by simpa using c_)
  .cases h
def Jm (R:Rel P w0 n U g S H a w) {o:Oper} {s d el:TypeId} {x:Operand} {y:cm} {e:aD} (ho:o.op = .convert s d x) (hd:∀ t,o.dst=some t→t < n∧¬ U t)
  (hs:P.underlying s=some (.slice el)) (sj:P.underlying el=some (.int .u8)) (Ab:P.underlying d=some .string) (hx:du n x=some y) (hu:∀t∈y.tmps,¬U t)
  (he:ao S H (.vy y)=some e):cy P w0 n U g S H a w o e:=by
 have hv:=R.ev hx hu;simp only[ao]at he;generalize AL.ev S y=p at he hv;generalize hc:a.eval x=c at hv;split at he
 case h_2=>cases he
 rename_i ow es;simp only[Option.map_eq_some_iff]at he;obtain⟨l,hl,rfl⟩:=he;obtain⟨hlen,j0⟩:=ye (Pr:=g.Pr) hl;have q:=hv.dA rfl
 cases q with
 |gy=>
  have:l=[]:=List.length_eq_zero_iff.1 (by simpa using hlen);subst this
  refine cy.val R (λt h=>(hd t h).1) (c:=.string ByteArray.empty) ?_ (.data _ _ (.str [])) λ_=>trivial
  simp[execOp,ho,hc,run_convert_bytes_nil w s el hs sj 0 0 d Ab]
 |iF _ a0=>
  have:l=[]:=List.length_eq_zero_iff.1 (by simpa using hlen);subst this
  refine cy.val R (λt h=>(hd t h).1) (c:=.string ByteArray.empty) ?_ (.data _ _ (.str [])) λ_=>trivial
  have LP:(convert s d (.slice (some a0) 0 0)).run P w=.ok (.string ByteArray.empty) w:=by
   rw[run_convert_bytes_string w s d el _ 0 0 hs sj Ab];simp[Conv.bytesToString,loadCells,loadCellsFrom]
  simp[execOp,ho,hc,LP]
 |slice _ _ b off cap size cs dX p_ aI h1 fT hr=>
  refine cy.val R (λt h=>(hd t h).1) (c:=.string ⟨l.toArray⟩) ?_ (.data _ _ (.str l)) λ_=>trivial
  have LP:=run_convert_bytes_back (P:=P) w s d el ⟨b,off,none⟩ cap l hs sj Ab (λj hj=>by
   have c_:j<es.length:=by omega
   have e1:=j0 j c_ hj;have BS:=aI j c_
   have jr:(es[j]).cells.length=1:=by rw[e1];rfl
   have MS:size=1:=by rw[<-BS,jr]
   subst MS;have h2:=fT j (by omega);have h3:=hr j c_ 0 (by rw[jr];omega)
   have h4:(es[j]).cells[0]'(by rw[jr];omega)=.int .u8 (l[j].toNat:Int):=by
    have:∀(v:AV)(hh:0<v.cells.length)(q:AV),v=q->(h':0<q.cells.length)->v.cells[0]=q.cells[0]:=by rintro v hh q rfl _;rfl
    rw[this _ _ _ e1 (by simp[AV.cells])]
    rfl
   rw[h4]at h3;simp only[Nat.mul_one,Nat.add_zero]at h3;rw[Addr.add_lit,h2.2];generalize cs j=u at h3;cases h3
   rfl)
  rw[hlen]at LP;simp[execOp,ho,hc,LP]
end
section
variable{P:Program}{w:World}
def rA{α:Type}(f:α->PUnit->Sem (ForInStep PUnit)):∀(l:List α),(∀x∈l,(f x PUnit.unit).run P w=.ok (ForInStep.yield PUnit.unit) w)->(forIn l PUnit.unit f:Sem PUnit).run P w=.ok PUnit.unit w
 |[],_=>by simp
 |x::l,h=>by
  simp only[List.forIn_cons,Sem.run_bind,h x List.mem_cons_self,Result.andThen_ok]
  exact rA f l λy hy=>h y (List.mem_cons_of_mem _ hy)
def xI{k:TypeId->Option Nat}:∀{fs:List Field}{acc mR:Nat},tu k fs acc=some mR->acc<=mR/\∀f∈fs,∃m,k f.type=some m/\f.offset+m<=mR
 |[],acc,mR,h=>by cases h;exact⟨Nat.le_refl _,λ_ h=>by cases h⟩
 |f::fs,acc,mR,h=>by
  simp only[tu]at h;split at h
  case isTrue=>cases h
  rename_i hn;simp only[not_or,ne_eq,Classical.not_not]at hn;split at h
  case h_2=>cases h
  rename_i m hm;obtain⟨h1,h2⟩:=xI h;refine⟨by omega,λf' SB=>?_⟩;rcases List.mem_cons.1 SB with rfl|SB
  .exact⟨m,hm,by omega⟩
  .exact h2 f' SB
def mQ(b:Bool):∀(d:Nat)(t:TypeId)(k:Nat),iY P d t=some k->∀a:List Int,a.length=k->(Instr.checkKey b d t (encI P t a)).run P w=.ok () w
 |0,t,k,h,a,ha=>by cases h
 |d+1,t,k,h,a,ha=>by
  simp only[iY]at h;split at h
  .rename_i i hu hi;simp[Instr.checkKey,run_underlying hu,encI,hu]
  .rename_i fs i hu hi
   split at h<;>cases h
   rename_i hc;obtain⟨_,hm⟩:=xI hc.2;simp only[Instr.checkKey,Sem.run_bind,run_underlying hu,Result.andThen_ok,encI,hu];rw[<-Array.forIn_toList];rw[rA (P:=P) (w:=w)]
   .simp
   .intro f hf;obtain⟨m,h1,h2⟩:=hm f hf;rw[Sem.run_ite];split
    .simp only[Sem.run_bind,wk (w:=w) h1 a f.offset (by omega),Result.andThen_ok,mQ b d f.type m h1 ((a.drop f.offset).take m) (by simp;omega),Sem.run_pure]
    .simp
  .cases h
def j_ {kt:TypeId} {fs:Array Field} {k:Nat} (hu:P.underlying kt=some (.struct fs)) (hk:iY P 10000 kt=some k) {Pr:Nat→Nat→Prop} (key:List Int) (hl:key.length=k) :
  ∀(ks vs:List AV)(es:List MapEntry)(i:Nat)(r:Option AV),ks.length=es.length->vs.length=es.length->(∀j (h:j<ks.length)(h':j<es.length),RD Pr w ks[j] (es[j]).key)->(∀j (h:j<vs.length)(h':j<es.length),RD Pr w vs[j] (es[j]).val)->
   mm key ks vs=some r->∃q,(Instr.findAsking kt (.agg (dw key)) es i).run P w=.ok q w/\(match r,q with
    |none,none=>True
    |some v,some (_,c)=>RD Pr w v c
    |_,_=>False)
 |[],vs,es,i,r,h1,h2,_,_,h=>by
  have:es=[]:=List.length_eq_zero_iff.1 h1.symm;subst this;cases h;exact⟨none,by simp[Instr.findAsking],trivial⟩
 |kk::ks,vs,[],i,r,h1,_,_,_,_=>by simp at h1
 |kk::ks,[],e::es,i,r,_,h2,_,_,_=>by simp at h2
 |kk::ks,v::vs,e::es,i,r,h1,h2,hr,iR,h=>by
  unfold mm at h;split at h
  .rename_i e1;cases e1
  .rename_i c ks' v' jq e1 e2;cases e1;cases e2;split at h
   case h_2=>cases h
   rename_i m hm;split at h
   case isTrue=>cases h
   rename_i O6;simp only[ne_eq,Classical.not_not]at O6;have h0:=hr 0 (by simp) (by simp);simp only[List.getElem_cons_zero]at h0;have P2:=h0;generalize hek:e.key=ek at h0;cases h0;rename_i us h3 h4 h5;obtain⟨e3,_⟩:=oS (vs:=us.toList) hm (by simpa using h3) (λi h h'=>by simpa using h5 i h (by simpa using h'))
   have f1:us=dw m:=by rw[dw,<-e3]
   have hE:=ph (P:=P) (w:=w) 10000 kt k hk key m hl (by omega);simp only[encI,hu]at hE;rw[<-f1]at hE
   have CT:(Op.equal kt (.agg (dw key)) e.key).run P w=.ok (key==m) w:=by rw[hek];exact hE
   split at h
   .rename_i hb;cases h;exact⟨some (i,e.val),by simp[Instr.findAsking,CT,hb],iR 0 (by simp) (by simp)⟩
   .rename_i hb;obtain⟨q,q1,q2⟩:=j_ hu hk key hl ks vs es (i+1) r (by simpa using h1) (by simpa using h2) (λj h h'=>hr (j+1) (by simpa using h) (by simpa using h')) (λj h h'=>iR (j+1) (by simpa using h) (by simpa using h')) h;exact⟨q,by simp[Instr.findAsking,CT,hb,q1],q2⟩
  .cases h
variable{w0:World}{n:Nat}{U:Nat->Prop}{g:Gh}{S:af}{H:ah}{a:Act}
def C_ (R:Rel P w0 n U g S H a w) {o:Oper} {t kt el:TypeId} {fs:Array Field} {k:Nat} {ie:TypeInfo} {z:Value} {zs:List AV} {x1 x2:Operand} {y1 y2:cm} {e:aD} (ho:o.op = .lookup t x1 x2 true) (hd:∀ t,o.dst=some t→t < n∧¬ U t)
  (eI:P.underlying t=some (.map kt el)) (hu:P.underlying kt=some (.struct fs)) (hk:iY P 10000 kt=some k) (hi:P.info? el=some ie) (hz:ie.zero=some (.agg z.cells)) (pE:h_ z.cells.toList=some zs)
  (ma:du n x1=some y1) (kE:du n x2=some y2) (mI:∀t∈y1.tmps,¬U t) (np:∀t∈y2.tmps,¬U t)
  (he:ao S H (.lookup k (.agg zs) y1 y2)=some e):cy P w0 n U g S H a w o e:=by
 have e_:=R.ev ma mI;have eJ:=R.ev kE np;simp only[ao]at he;generalize AL.ev S y1=p1 at he e_;generalize AL.ev S y2=p2 at he eJ;generalize jf:a.eval x1=c1 at e_;generalize iI:a.eval x2=c2 at eJ;have JJ:=(gQ g.Pr w pE).1;have PX:RD g.Pr w (.agg zs) (.agg z.cells):=.agg _ _ (by simpa using JJ.1) JJ.2.2 (λi h h'=>by simpa using JJ.2.1 i h (by simpa using h'))
 have two:∀(v:AV)(c:Value)(b:Bool),RD g.Pr w v c->RD g.Pr w (.eS [v,.bool b]) (.tuple #[c,.bool b]):=by
  intro v c b h
  refine .eS _ _ rfl λi hi ck=>?_
  match i,hi with
  |0,_=>exact h
  |1,_=>exact .bool b
 split at he
 case h_2=>cases he
 rename_i ks vs c;split at he
 case h_2=>cases he
 rename_i key Ym;split at he
 case isFalse=>cases he
 rename_i hl;have q2:=eJ.dA rfl;cases q2;rename_i us h3 h4 h5;obtain⟨e3,_⟩:=oS (vs:=us.toList) Ym (by simpa using h3) (λi h h'=>by simpa using h5 i h (by simpa using h'))
 have f1:us=dw key:=by rw[dw,<-e3]
 subst f1
 have oQ:(match P.underlying kt with|some (.array _ _)|some (.struct _)=>true|_=>false)=true:=by rw[hu]
 have q1:=e_.dA rfl
 obtain ⟨es,iM,Dt,lO,I0,hk4⟩:∃ es:Array MapEntry,(∀ K:Array MapEntry→Sem Value,((do
    let es<-match c1 with
     |.map none=>pure #[]
     |.map (some r)=>do
      let .map es _ <-getObj r | stuck "Lookup: map expected"
      pure es
     |_=>stuck "Lookup: map expected"
    K es):Sem Value).run P w=(K es).run P w)/\ks.length=es.size/\vs.length=es.size/\(∀j (h:j<ks.length)(h':j<es.size),RD g.Pr w ks[j] (es[j]).key)/\(∀j (h:j<vs.length)(h':j<es.size),RD g.Pr w vs[j] (es[j]).val):=by
  cases q1 with
  |map _ _ b es clock hb hm hk hv hr iR=>
   exact⟨es,λK=>by simp[Sem.run_bind,MapKept.run_getObj_map hm],hk,hv,hr,iR⟩
  |rn=>exact⟨#[],λK=>by simp,rfl,rfl,λj h=>by simp at h,λj h=>by simp at h⟩
 have oH:=mQ (P:=P) (w:=w) es.isEmpty 10000 kt k hk key hl;simp only[encI,hu]at oH
 have main:∀ r,mm key ks vs=some r→(execOp a.eval o).run P w = .ok (.value (match r with | some _ => .tuple #[(match (Instr.findAsking kt (.agg (dw key)) es.toList 0).run P w with | .ok (some (_,c)) _=>c | _=>undef),.bool true] | none => .tuple #[.agg z.cells,.bool false])) w ∧
   (∀v,r=some v->RD g.Pr w v (match(Instr.findAsking kt (.agg (dw key)) es.toList 0).run P w with|.ok (some (_,c)) _=>c|_=>undef)):=by
  intro r hr;obtain⟨q,q1,q2⟩:=j_ (w:=w) (Pr:=g.Pr) hu hk key hl ks vs es.toList 0 r (by simpa using Dt) (by simpa using lO) (λj h h'=>by simpa using I0 j h (by simpa using h')) (λj h h'=>by simpa using hk4 j h (by simpa using h')) hr;have oz:=(run_findKey_eq (P:=P) (w:=w) oQ (.agg (dw key)) es.toList).trans q1
  have dJ:(Instr.lookup t c1 (.agg (dw key)) true).run P w=.ok (match q with|some (_,v)=>.tuple #[v,.bool true]|none=>.tuple #[.agg z.cells,.bool false]) w:=by
   unfold Instr.lookup;simp only[Sem.run_bind,run_underlying eI,Result.andThen_ok]
   have:=iM (λes=>do
    Instr.checkKey es.isEmpty 10000 kt (.agg (dw key))
    let(v,ok)<-match<-Instr.findKey kt (.agg (dw key)) es.toList with
     |some (_,v)=>pure (v,true)
     |none=>pure (<-zeroValue el,false)
    pure (if true=true then .tuple #[v,.bool ok]else v))
   simp only[Sem.run_bind]at this;refine this.trans ?_;simp only[oH,Result.andThen_ok,oz]
   cases q with
   |none=>simp[zeroValue,typeInfo,hi,hz]
   |some p=>simp
  refine⟨?_,?_⟩
  .unfold execOp;simp only[ho,jf,iI,Sem.run_bind,dJ,Result.andThen_ok,q1]
   cases r<;>cases q<;>first|exact q2.elim|rfl
  .rintro v rfl;rw[q1]
   cases q with
   |none=>exact q2.elim
   |some p=>exact q2
 split at he
 .rename_i v hv;cases he;obtain⟨m1,m2⟩:=main _ hv
  exact cy.val R (λt h=>(hd t h).1) m1 (.data _ _ (two _ _ _ (m2 v rfl).aA)) λ_=>trivial
 .rename_i hv;cases he;obtain⟨m1,m2⟩:=main _ hv
  exact cy.val R (λt h=>(hd t h).1) m1 (.data _ _ (two _ _ _ PX)) λ_=>trivial
 .cases he
end
section
variable{P:Program}{w0:World}{n:Nat}{U:Nat->Prop}{g:Gh}{S:af}{H:ah}{a:Act}{w:World}
def KZ{Pr:Nat->Nat->Prop}{al:Nat->Option Nat}{v:AV}{c:Value}(h:RV Pr al w v c)(hf:tW v=true):c.cells=#[c]:=by
 cases h with
 |data v c h=>
  cases h with
  |val c hc=>cases c<;>first|rfl|cases hc
  |_=>cases hf
 |func=>rfl
 |box=>cases hf
 |fN=>cases hf
 |bh=>cases hf
def DW (R:Rel P w0 n U g S H a w) {o:Oper} {t el:TypeId} {len:Nat} {it ie:TypeInfo} {z:Value} {ps:Array (Nat×Operand)} {xs:List Operand} {ys:List cm} {e:aD} (ho:o.op = .build t ps) (hd:∀ t,o.dst=some t→t < n∧¬ U t)
  (hi:P.info? t=some it) (eI:P.underlying t=some (.array len el)) (hz:it.zero=some z) (va:P.info? el=some ie) (hs:ie.size=1) (pE:z.cells.size=xs.length)
  (fJ:ps.toList=(xs.zipIdx 0).map λx=>(x.2,x.1)) (hx:mh n xs=some ys) (hu:∀y∈ys,∀t∈y.tmps,¬U t) (he:ao S H (.mM ys)=some e):cy P w0 n U g S H a w o e:=by
 simp only[ao]at he;split at he
 case isFalse=>cases he
 rename_i eD;cases he;simp only[List.all_eq_true]at eD;obtain⟨l1,r1⟩:=R.Ha hx hu
 have fT:∀j (h:j<xs.length),(a.eval xs[j]).cells=#[a.eval xs[j]]:=λj h=>
  KZ (r1 j (by omega) h) (eD _ (List.mem_map.2 ⟨_,List.getElem_mem (by omega),rfl⟩))
 have Jj:=Great.fill_whole (s:=1) (by omega) (xs.map a.eval) z.cells (λv hv=>by
  obtain⟨x,hx,rfl⟩:=List.mem_map.1 hv;obtain⟨j,hj,rfl⟩:=List.getElem_of_mem hx
  rw[fT j hj];rfl) (by simp[pE])
 have D0:(ps.map λ(i,x)=>(i,a.eval x)).toList=((xs.map a.eval).zipIdx 0).map λx=>(x.2,x.1):=by
  rw[Array.toList_map,fJ];simp[List.zipIdx_map]
 have IC:((xs.map a.eval).flatMap λv=>v.cells.toList)=xs.map a.eval:=by
  have:∀l:List Operand,(∀x∈l,(a.eval x).cells=#[a.eval x])->((l.map a.eval).flatMap λv=>v.cells.toList)=l.map a.eval:=by
   intro l
   induction l with
   |nil=>intro _;rfl
   |cons x l ih=>intro h;simp only[List.map_cons,List.flatMap_cons,h x List.mem_cons_self,ih λy hy=>h y (List.mem_cons_of_mem _ hy)];rfl
  exact this xs λx hx=>by obtain⟨j,hj,rfl⟩:=List.getElem_of_mem hx;exact fT j hj
 have hb:P.built t (ps.map λ(i,x)=>(i,a.eval x)).toList=some (xs.map a.eval).toArray:=by
  unfold Program.built;simp only[hi,eI,hz,va,hs];rw[D0,Jj,IC]
 refine cy.val R (λt h=>(hd t h).1) (c:=.agg (xs.map a.eval).toArray) ?_ (.fN _ _ (by simp[l1]) (λi h h'=>?_)) λ_=>trivial
 .unfold execOp;simp only[ho,Sem.run_bind,run_build w t _ _ hb,Result.andThen_ok]
  rfl
 .simp only[List.length_map]at h;have:=r1 i h (by simpa using h');simpa using this
def D_ (R:Rel P w0 n U g S H a w) {o:Oper} {t el:TypeId} {len:Nat} {ie:TypeInfo} {nz:TypeDesc} {x1 x2:Operand} {y1 y2:cm} {e:aD} (ho:o.op = .index t x1 x2) (hd:∀ t,o.dst=some t→t < n∧¬ U t)
  (eI:P.underlying t=some (.array len el)) (hi:P.info? el=some ie) (hs:ie.size=1) (T3:P.underlying el=some nz) (hag:eB nz=false) (ma:du n x1=some y1) (kE:du n x2=some y2) (mI:∀t∈y1.tmps,¬U t) (np:∀t∈y2.tmps,¬U t)
  (he:ao S H (.mL len y1 y2)=some e):cy P w0 n U g S H a w o e:=by
 have e_:=R.ev ma mI;have eJ:=R.ev kE np;simp only[ao]at he;generalize AL.ev S y1=p1 at he e_;generalize AL.ev S y2=p2 at he eJ;generalize jf:a.eval x1=c1 at e_;generalize iI:a.eval x2=c2 at eJ;split at he
 case h_2=>cases he
 rename_i fs k;split at he
 case isFalse=>cases he
 rename_i hk;split at he
 case h_2=>cases he
 rename_i v hv;split at he
 case isFalse=>cases he
 rename_i hf;cases he;obtain⟨h0,rfl⟩:=List.getElem?_eq_some_iff.1 hv;have q2:=eJ.dA rfl;cases q2
 cases e_ with
 |data _ _ hh=>cases hh
 |fN _ vs h1 hr=>
  have av:k.toNat<vs.size:=by omega
  have jL:(isAgg el).run P w=.ok false w:=by
   unfold isAgg;rw[Sem.run_bind,run_underlying T3 w]
   cases nz<;>simp[eB]at hag⊢
  refine cy.val R (λt h=>(hd t h).1) (c:=vs[k.toNat]) ?_ (hr _ h0 av) λ_=>?_
  .simp only[execOp,ho,jf,iI,Instr.index,Sem.run_bind];simp[asIntOf,run_underlying eI,hk,sizeOf,typeInfo,hi,hs,Sem.run_bind,part,jL,av]
  .generalize fs[k.toNat]=u at hf
   cases u<;>first|trivial|cases hf
def uM{v:AV}(h:v.one=true):v.cells=[v]:=by
 cases v<;>first|rfl|cases h
def E2 (R:Rel P w0 n U g S H a w) {o:Oper} {t el:TypeId} {len:Nat} {i:TypeInfo} {x:Operand} {y:cm} {e:aD} (ho:o.op = .slice t x none none none) (hd:∀ t,o.dst=some t→t < n∧¬ U t)
  (eI:P.underlying t=some (.array len el)) (vW:P.info? el=some i) (hx:du n x=some y) (hu:∀t∈y.tmps,¬U t)
  (he:ao S H (.ot len y)=some e):cy P w0 n U g S H a w o e:=by
 have hv:=R.ev hx hu;simp only[ao]at he;generalize pZ:AL.ev S y=q at he hv;generalize lD:a.eval x=c at hv;split at he
 case h_2=>cases he
 rename_i cs;split at he
 case isFalse=>cases he
 rename_i hlen;cases he;have q2:=hv.dA rfl
 cases q2 with
 |ref _ b off vs h1 hc hr=>
  have hk:(execOp a.eval o).run P w=.ok (.value (.slice (some ⟨b,off,none⟩) len len)) w:=by
   unfold execOp;simp only[ho,lD,Option.map_none,Instr.sliceAt,Sem.run_bind,run_underlying eI]
   by_cases h0:len=0
   .subst h0;simp[Instr.sureAddr,Instr.sliceBounds,Sem.run_bind,sizeOf,typeInfo,vW]
   .simp[Instr.sureAddr,Instr.sliceBounds,Sem.run_bind,sizeOf,typeInfo,vW,Addr.add]
  refine cy.val R (λt h=>(hd t h).1) hk (.data _ _ ?_) λ_=>trivial
  rw[<-hlen];refine .slice .view cs b off cs.length 1 vs (Nat.le_refl _) (λh=>by cases h) (λi h=>by rw[uM (h1 i h)];rfl) (λi h j hj=>?_) (λk hk=>hc k (by omega)) (λi h j hj=>?_)
  .have e:=uM (h1 i h)
   have:((cs[i]).cells[j])=cs[i]:=by
    have c_:j<[cs[i]].length:=by rw[<-e];exact hj
    have:j=0:=by simp at c_;omega
    subst this;simp only[e];rfl
   rw[this];exact h1 i h
  .have e:=uM (h1 i h)
   have c_:j<[cs[i]].length:=by rw[<-e];exact hj
   have CO:j=0:=by simp at c_;omega
   subst CO
   have:((cs[i]).cells[0])=cs[i]:=by simp only[e];rfl
   rw[this,Nat.mul_one,Nat.add_zero];exact hr i h
def I8(P:Program)(name:String)(t:TypeId):Option Nat:=
 match P.info? t with
 |some i=>match P.underlying t with
  |some (.struct _)=>match i.methods.find? (·.name==name)with
   |some m=>if m.path.isEmpty=true then match m.func with
    |some (f,false)=>some f
    |_=>none
    else none
   |none=>none
  |_=>none
 |none=>none
def Gm(P:Program)(name:String):List (TypeId×Nat):=(List.range P.types.size).filterMap λt=>(I8 P name t).map λk=>(t,k)
def xq{t k:Nat}:∀{l:List (Nat×Nat)},l.lookup t=some k->(t,k)∈l
 |[],h=>by cases h
 |(a,b)::l,h=>by
  rw[List.lookup_cons]at h;split at h
  .rename_i he;cases h;simp only[beq_iff_eq]at he;subst he;exact List.mem_cons_self
  .exact List.mem_cons_of_mem _ (xq h)
def Jb{P:Program}{name:String}{t k:Nat}(h:(Gm P name).lookup t=some k):I8 P name t=some k:=by
 have h1:=xq h;simp only[Gm,List.mem_filterMap,Option.map_eq_some_iff,Prod.mk.injEq]at h1;obtain⟨a,_,b,h2,rfl,rfl⟩:=h1;exact h2
def Gn{P:Program}{name:String}{t k:Nat}{v:Value}{w:World}(h:(Gm P name).lookup t=some k):(method (P.types.size+Made.depth) t v name).run P w=.ok (k,v) w:=by
 have h:=Jb h;unfold I8 at h;split at h
 case h_2=>cases h
 rename_i i hi;split at h
 case h_2=>cases h
 rename_i fs eI;split at h
 case h_2=>cases h
 rename_i m hm;split at h
 case isFalse=>cases h
 rename_i hp;split at h
 case h_2=>cases h
 rename_i f hf;cases h;show(method (P.types.size+99+1) t v name).run P w=_
 have Gp:m.path.toList=[]:=by simpa using hp
 generalize P.types.size+99=d;simp[method,typeInfo,hi,hm,Gp,hf,follow,receiverAt,run_underlying eI,Place.get,Sem.run_bind]
end
inductive iS where
 |ret (v:AV)|panic (v:AV)
def ji(base:Nat)(old:Nat->Nat->Prop)(hi:Nat->Nat)(b k:Nat):Prop:=(b<base/\old b k)\/(base<=b/\k<hi b)
def uT(P:Program)(base:Nat)(hi:Nat->Nat)(w:World):AV->Value->Prop
 |.slice (.own e) es,c=>∃i xs b,P.info? e=some i/\w.ownsRow base e i.size c es.length xs/\c.ownBlock=some b/\hi b=es.length*i.size
 |_,_=>True
def Ends(P:Program)(old:Nat->Nat->Prop)(w:World)(out:iS)(e:Ending)(w':World):Prop:=
 Below w.heap.size w w'/\∃hi:Nat->Nat,(∀b,w'.heap.size<=b->hi b=0)/\
  match out with
  |.ret v=>∃c,e=.returned c/\RV (ji w.heap.size old hi) (λ_=>none) w' v c/\uT P w.heap.size hi w' v c
  |.panic v=>∃c,e=.panicked [{ v:=c,recovered:=false }]/\RD (ji w.heap.size old hi) w' v c
def AC(P:Program)(GI:World->Prop)(f:Nat)(args:List AV)(out:iS):Prop:=
 ∀(w:World)(old:Nat->Nat->Prop)(bp:Array Value),GI w->args.length=bp.size->
  (∀i (h:i<args.length)(h':i<bp.size),RV old (λ_=>none) w args[i] bp[i])->Calls P f bp w (Ends P old w out)
def fM(H:ah):AV->AV
 |.box i off=>match H i with|some cs=>.ref ((cs.drop off).map AV.bF)|none=>.bh
 |.func ..|.fN _=>.bh
 |v=>v.vw
def fz(H:ah):AV->AV
 |.func fn first cap=>.func fn (first.map (fM H)) (cap.map (fM H))
 |v=>fM H v
def mG:AV->Bool
 |.box ..=>true
 |_=>false
def bR:AV->Bool
 |.box ..=>true
 |.func _ first cap=>first.any mG||cap.any mG
 |_=>false
def iG:AV->Bool
 |.bool _|.kI|.int ..|.str _=>true
 |_=>false
def ru:AV->Bool
 |.eS vs=>vs.all iG
 |v=>iG v
def iS.ru:iS->Bool
 |.ret v=>Go.AL.ru v
 |.panic _=>false
def Jf{v:AV}(h:ru v=true):v.bC=true:=by cases v<;>first|rfl|cases h
def RD.iG{Pr dB:Nat->Nat->Prop}{w w':World}{v:AV}{c:Value}(h:RD Pr w v c)(hs:Go.AL.iG v=true):RD dB w' v c:=by
 cases h<;>first|(cases hs;done)|constructor
def RD.ru{Pr dB:Nat->Nat->Prop}{w w':World}{v:AV}{c:Value}(h:RD Pr w v c)(hs:Go.AL.ru v=true):RD dB w' v c:=by
 cases h with
 |eS cs vs hl hr=>exact .eS cs vs hl λi h h'=>(hr i h h').iG (by simp only[Go.AL.ru,List.all_eq_true]at hs;exact hs _ (List.getElem_mem h))
 |bool b=>exact .bool b
 |kI b=>exact .kI b
 |int k n=>exact .int k n
 |str l=>exact .str l
 |_=>cases hs
section
variable{P:Program}{w0:World}{n:Nat}{U:Nat->Prop}{g:Gh}{S:af}{H:ah}{a:Act}{w:World}
def iu(g:Gh)(bx:Bool)(b k:Nat):Prop:=g.Pr b k\/(bx=true/\∃i,g.al i=some b)
def Rel.fM(R:Rel P w0 n U g S H a w){v:AV}{c:Value}(h:RV g.Pr g.al w v c)(bx:Bool)(hb:mG v=true->bx=true):RV (iu g bx) (λ_=>none) w (Go.AL.fM H v) c:=by
 have pA:∀{v c},RD g.Pr w v c->RD (iu g bx) w v c:=λh=>h.mono (aL.same λb k _ hp=>.inl hp)
 cases h with
 |data v c h=>
  have hd:=(pA h).vw
  have:Go.AL.fM H v=v.vw:=by cases h<;>rfl
  rw[this];exact .data _ _ hd
 |box i off b gE=>
  obtain⟨cs,vs,ty,k1,k2,k3,k4,k5,k6,k7,k8,k9⟩:=R.box i b gE;simp only[Go.AL.fM,k1];have bI:bx=true:=hb rfl;refine .data _ _ (.ref _ _ _ (λk=>vs.getD (off+k) undef) (λk hk=>?_) (λk hk=>?_) λk hk=>?_)
  .simp only[List.length_map,List.length_drop]at hk;simp only[List.getElem_map,List.getElem_drop];have:=k9 (off+k) (by omega);exact(AV.Ph _).trans this
  .simp only[List.length_map,List.length_drop]at hk
   have:off+k<vs.size:=by omega
   exact⟨.inr ⟨bI,i,gE⟩,by simp[World.cell?,k3,this]⟩
  .simp only[List.length_map,List.length_drop]at hk
   have av:off+k<vs.size:=by omega
   have:=(pA (k7 (off+k) (by omega) av)).bF;simpa[av]using this
 |func=>exact .bh _
 |fN=>exact .bh _
 |bh c=>exact .bh c
def Rel.fz(R:Rel P w0 n U g S H a w){v:AV}{c:Value}(h:RV g.Pr g.al w v c)(bx:Bool)(hb:bR v=true->bx=true):RV (iu g bx) (λ_=>none) w (Go.AL.fz H v) c:=by
 have h0:=h
 cases h with
 |func fn first cap vs us h1 h2 r1 r2=>
  simp only[bR,Bool.or_eq_true,List.any_eq_true]at hb;refine .func fn _ _ _ _ (by simpa using h1) (by simpa using h2) (λi hi ck=>?_) (λi hi ck=>?_)
  .simp only[List.length_map]at hi;simp only[List.getElem_map]
   exact R.fM (r1 i hi ck) bx λhx=>hb (.inl ⟨_,List.getElem_mem hi,hx⟩)
  .simp only[List.length_map]at hi;simp only[List.getElem_map]
   exact R.fM (r2 i hi ck) bx λhx=>hb (.inr ⟨_,List.getElem_mem hi,hx⟩)
 |data v c h=>
  have:Go.AL.fz H v=Go.AL.fM H v:=by cases h<;>rfl
  rw[this];exact R.fM h0 bx λhx=>hb (by cases v<;>first|rfl|cases hx)
 |box=>exact R.fM h0 bx hb
 |fN=>exact .bh _
 |bh c=>exact .bh c
def Rel.call (R:Rel P w0 n U g S H a w) (d:Option Nat) (hd:∀ t,d=some t→t < n∧¬ U t) (bx:Bool) {v:AV} {c:Value} {w':World} {hi:Nat→Nat} (hb:Below w.heap.size w w')
  (kY:∀b,w'.heap.size<=b->hi b=0) (hr:RV (ji w.heap.size (iu g bx) hi) (λ_=>none) w' v c) (cE:uT P w.heap.size hi w' v c) (bI:bx=true->ru v=true):
  ∃g',g'.base=g.base/\g'.old=g.old/\Rel P w0 n U g' (Go.AL.aH S d v) H (a.put d c) w':=by
 have hle:g.base<=w.heap.size:=by rw[R.base];exact R.below.size
 let own:Nat->Option Loc:=λb=>match c.ownBlock,d with
  |some b',some t=>if b=b' then some (.slot t)else none
  |_,_=>none
 let g':Gh:={ g with hi:=λb=>if b<w.heap.size then g.hi b else hi b,owner:=λb=>if b<w.heap.size then g.owner b else if b<w'.heap.size then own b else none }
 have R':Rel P w0 n U g' S H a w':=R.grow (g':=g') hb rfl rfl rfl
  (λb hb=>⟨if_pos hb,if_pos hb⟩)
  (λb ja=>by
   have:=hb.size
   exact⟨(if_neg (by omega)).trans (kY b ja),(if_neg (by omega)).trans (if_neg (by omega))⟩)
 refine⟨g',rfl,rfl,R'.aH d v c (λt h=>(hd t h).1) ?_ ?_⟩
 .cases bx with
  |true=>exact .data _ _ ((hr.dA (Jf (bI rfl))).ru (bI rfl))
  |false=>
   refine hr.mono (aL.same λb k _ hp=>?_) (λi b h=>by cases h)
   rcases hp with⟨h1,h2⟩|⟨h1,h2⟩
   .rcases h2 with h2|⟨h2,_⟩
    .rcases h2 with h2|h2
     .exact .inl h2
     .exact .inr ⟨h2.1,by show k<(if b<w.heap.size then g.hi b else hi b);rw[if_pos h1];exact h2.2⟩
    .cases h2
   .exact .inr ⟨by show g.base<=b;omega,by show k<(if b<w.heap.size then g.hi b else hi b);rw[if_neg (by omega)];exact h2⟩
 .intro t ht;subst ht
  cases v<;>try trivial
  rename_i oo es
  cases oo with
  |view=>trivial
  |nil=>trivial
  |own e=>
   obtain⟨i,xs,b,h1,h2,h3,h4⟩:=cE;have av:=h2.lt b h3;refine⟨i,xs,b,h1,⟨h2.1,?_⟩,h3,?_,?_⟩
   .rcases h2.2 with hn|⟨gg,cap,cur,e1,mz,rest⟩
    .exact .inl hn
    .exact .inr ⟨gg,cap,cur,e1,Nat.le_trans hle mz,rest⟩
   .show(if b<w.heap.size then g.owner b else if b<w'.heap.size then own b else none)=_;rw[if_neg (by omega),if_pos av.2];simp[own,h3]
   .show(if b<w.heap.size then g.hi b else hi b)=_;rw[if_neg (by omega)];exact h4
end
def zeroCells(P:Program)(t:TypeId):Option (List AV):=
 match P.info? t with
 |some i=>match i.zero with
  |some z=>h_ z.cells.toList
  |none=>none
 |none=>none
def isVal:AV->Bool
 |.val _=>true
 |_=>false
def sO(P:Program)(t:TypeId):Option (List AV):=
 match zeroCells P t with
 |some zs=>if zs.any isVal then none else some zs
 |none=>none
def p'{P:Program}{t:TypeId}{zs:List AV}(h:sO P t=some zs):zeroCells P t=some zs:=by
 unfold sO at h;split at h
 .rename_i h'
  split at h<;>cases h
  exact h'
 .cases h
def comp(P:Program)(n:Nat)(tk:Bool)(hr:HR)(o:Oper):dS:=
 match o.op with
 |.move x=>match du n x with
  |some y=>.mv tk y
  |none=>.other
 |.assign x=>match du n x with
  |some y=>.mv true y
  |none=>.other
 |.pick c a b=>match du n c,du n a,du n b with
  |some c,some a,some b=>.pick c a b
  |_,_,_=>.other
 |.alloc t=>match zeroCells P t with
  |some cs=>.alloc t cs
  |none=>.other
 |.box t x=>match P.info? t,du n x with
  |some i,some y=>.box t i.size y
  |_,_=>.other
 |.build t ps=>match P.underlying t,sO P t with
  |some (.struct fs),some zs=>match fs.toList.mapM (λf=>(P.info? f.type).map λi=>(f.offset,i.size))with
   |some places=>match qz n (places[·]?) ps.toList with
    |some qs=>.build (zs.map AV.aA) qs
    |none=>.other
   |none=>.other
  |some (.array _ el),some zs=>match P.info? el with
   |some ie=>match qz n (λi=>some (i*ie.size,ie.size)) ps.toList with
    |some qs=>.build (zs.map AV.aA) qs
    |none=>.other
   |none=>.other
  |some (.array _ el),none=>match P.info? t,P.info? el,mh n (ps.toList.map (·.2))with
   |some it,some ie,some ys=>match it.zero with
    |some z=>if ie.size=1/\z.cells.size=ps.toList.length/\ps.toList.map (·.1)=List.range ps.toList.length then .mM ys else .other
    |none=>.other
   |_,_,_=>.other
  |_,_=>.other
 |.buildSlice t len ps=>match P.underlying t with
  |some (.slice el)=>match P.info? el with
   |some i=>if len=0/\ps.toList.isEmpty=true then .empty el else
    match i.zero,mh n (ps.toList.map (·.2))with
    |some _,some ys=>if 0<i.size/\0<len/\ps.toList.map (·.1)=List.range len then .buildSlice t el i.size ys else .other
    |_,_=>.other
   |none=>.other
  |_=>.other
 |.load t a=>match P.info? t,P.underlying t,du n a with
  |some i,some d,some y=>if tk=true/\eB d=false/\o.dst.isSome=true then .loadT hr y else .load hr (eB d) i.size y
  |_,_,_=>.other
 |.store t a x=>match P.info? t,du n a,du n x with
  |some i,some y,some z=>if o.dst.isNone then .store hr i.size y z else .other
  |_,_,_=>.other
 |.binOp op t x y _=>match P.underlying t,du n x,du n y with
  |some (.int _),some x,some y|some .string,some x,some y=>.bin op x y
  |some .bool,some x,some y=>match op with
   |.eql=>.zS false x y
   |.neq=>.zS true x y
   |_=>.other
  |some (.struct _),some x,some y=>if P.eqGuardType P.depth t=false then
    match op,iY P 10000 t with
    |.eql,some k=>.eqs false k x y
    |.neq,some k=>.eqs true k x y
    |_,_=>.other
   else .other
  |some (.slice _),some x',some _=>match op,y with
   |.eql,.const (.slice none 0 0)=>.isNil false x'
   |.neq,.const (.slice none 0 0)=>.isNil true x'
   |_,_=>.other
  |_,_,_=>.other
 |.unOp .not _ x=>match du n x with
  |some y=>.not y
  |none=>.other
 |.convert s d x=>match P.underlying s,P.underlying d,du n x with
  |some _,some (.int k),some y=>.conv k y
  |some (.slice el),some .string,some y=>match P.underlying el with
   |some (.int .u8)=>.vy y
   |_=>.other
  |_,_,_=>.other
 |.makeInterface t x=>match P.underlying t,du n x with
  |some (.interface _),_=>.other
  |some _,some y=>.iface t y
  |_,_=>.other
 |.makeFunc fn f c=>match mh n f.toList,mh n c.toList with
  |some f,some c=>.BQ fn f c
  |_,_=>.other
 |.slice t x lo hi none=>match P.underlying t,du n x,k_ n lo,k_ n hi with
  |some .string,some y,some lo,some hi=>.mO y lo hi
  |some (.slice el),some y,some lo,some hi=>match P.info? el with
   |some i=>.lZ i.size y lo hi
   |none=>.other
  |some (.array len el),some y,some none,some none=>match P.info? el with
   |some _=>.ot len y
   |none=>.other
  |_,_,_,_=>.other
 |.fieldAddr s x j=>match P.underlying s,du n x with
  |some (.struct fs),some y=>match fs[j]? with
   |some f=>match P.info? f.type with
    |some i=>if i.size≠0 then .fieldAddr f.offset y else .other
    |none=>.other
   |none=>.other
  |_,_=>.other
 |.indexAddr t x i=>match P.underlying t,du n x,du n i with
  |some (.slice el),some y,some z=>match P.info? el with
   |some i=>.indexAddr i.size y z
   |none=>.other
  |_,_,_=>.other
 |.index t x i=>match P.underlying t,du n x,du n i with
  |some .string,some y,some z=>.mK y z
  |some (.array len el),some y,some z=>match P.info? el,P.underlying el with
   |some i,some (.func a b c)=>if i.size=1 then .mL len y z else .other
   |some i,some d=>.mN (eB d) len i.size y z
   |_,_=>.other
  |_,_,_=>.other
 |.lookup t x i true=>match P.underlying t,du n x,du n i with
  |some (.map kt el),some y,some z=>match P.underlying kt,iY P 10000 kt,P.info? el with
   |some (.struct _),some k,some ie=>match ie.zero with
    |some (.agg v)=>match h_ v.toList with
     |some zs=>.lookup k (.agg zs) y z
     |none=>.other
    |_=>.other
   |_,_,_=>.other
  |_,_,_=>.other
 |.extract x j=>match du n x with
  |some y=>.extract y j
  |none=>.other
 |.typeAssert x _ t true=>match P.underlying t,P.info? t,du n x with
  |some (.interface _),_,_=>.other
  |some _,some i,some y=>match i.zero with
   |some (.agg z)=>match h_ z.toList with
    |some zs=>.assert t (.agg zs) y
    |none=>.other
   |_=>.other
  |_,_,_=>.other
 |.panic x=>match du n x with
  |some y=>.panic y
  |none=>.other
 |.call cl=>match cl.callee,cl.args.toList,cl.argTypes.toList with
  |.builtin .len,[x],[s]=>match P.underlying s,du n x with
   |some .string,some y=>.uW y
   |some (.slice _),some y=>.pn y
   |_,_=>.other
  |.builtin .append,[x1,x2],[t,t']=>match P.underlying t,du n x1,du n x2 with
   |some (.slice el),some y1,some y2=>match P.info? el with
    |some i=>match i.zero with
     |some z=>if t=t'/\z.cells.size=i.size/\i.bytes<=65536 then .append t el i.size i.bytes y1 y2 else .other
     |none=>.other
    |none=>.other
   |_,_,_=>.other
  |.builtin .max,[x1,x2],_=>match du n x1,du n x2 with
   |some y1,some y2=>.max y1 y2
   |_,_=>.other
  |.builtin .min,[x1,x2],_=>match du n x1,du n x2 with
   |some y1,some y2=>.min y1 y2
   |_,_=>.other
  |.value f,args,_=>match du n f,mh n args with
   |some (.f k),some ys=>.call k ys
   |some y,some ys=>.gR y ys
   |_,_=>.other
  |.invoke r name,args,_=>match du n r,mh n args with
   |some (.t t),some ys=>.gR (.m t (Gm P name)) ys
   |_,_=>.other
  |_,_,_=>.other
 |_=>.other
structure bl where
 dst:Option Nat
 guard:Option (Nat×Bool)
 op:dS
def dz(P:Program)(f:Nat):Bool:=
 match P.funcs[f]? with
 |some fn=>fn.name != "runtime.NumGoroutine" && fn.body.isSome
 |none=>false
def fC{P:Program}{w:World}{f:Nat}{args:Array Value}(h:dz P f=true):(callFunc f args).run P w=.ok (.enter f args) w:=by
 unfold dz at h
 cases hf:P.funcs[f]? with
 |none=>simp[hf]at h
 |some fn=>
  simp only[hf,Bool.and_eq_true,bne_iff_ne]at h;unfold callFunc;obtain⟨c,hc⟩:=Option.isSome_iff_exists.1 h.2;simp[hf,h.1,hc]
section
variable{P:Program}{GI:World->Prop}
def lR(out:iS)(K:AV->Prop)(Qp:AV->Prop):Prop:=
 match out with
 |.ret v=>K v
 |.panic v=>Qp v
def jB(P:Program)(GI:World->Prop)(f:Nat)(args:List AV)(bx:Bool)(K:AV->Prop)(Qp:AV->Prop):Prop:=
 ∃out,dz P f=true/\AC P GI f args out/\(bx=true->out.ru=true)/\lR out K Qp
def aM(P:Program)(GI:World->Prop)(op:dS)(dst:Option Nat)(K:af->ah->Prop)(Qp:AV->Prop)(S:af)(H:ah):Prop:=
 match op with
 |.alloc _ zero=>match dst with
  |some d=>K (aq (λt=>aT d (S t)) d (.box d 0)) (aq H d (some zero))
  |none=>False
 |.box _ size x=>match dst with
  |some d=>(ev S x).cells.length=size/\(ev S x).storable=true/\K (aq (λt=>aT d (S t)) d (.box d 0)) (aq H d (some ((ev S x).cells.map AV.aA)))
  |none=>False
 |.call f args=>jB P GI f (args.map λy=>fz H (ev S y)) (args.any λy=>bR (ev S y)) (λv=>K (aH S dst v) H) Qp
 |.gR f args=>match ev S f with
  |.func (.func k) first cap=>jB P GI k ((first++args.map (ev S)++cap).map (fz H)) ((first++args.map (ev S)++cap).any bR) (λv=>K (aH S dst v) H) Qp
  |_=>False
 |.panic x=>match ev S x with
  |.iface t v=>Qp (.iface t v)
  |_=>False
 |op=>match ao S H op with
  |some e=>K (e.S S dst) (e.H H)
  |none=>False
def dS.calm:dS->Bool
 |.alloc ..|.box ..|.call ..|.gR ..|.panic _|.other=>false
 |_=>true
def xp {op:dS} (h:op.calm=true) (dst:Option Nat) (K:af→ah→Prop) (Qp:AV→Prop) (S:af) (H:ah) :
  aM P GI op dst K Qp S H=(match ao S H op with|some e=>K (e.S S dst) (e.H H)|none=>False):=by
 cases op<;>first|rfl|cases h
variable{w0:World}{n:Nat}{U:Nat->Prop}{g:Gh}{S:af}{H:ah}{a:Act}{w:World}
def uH:∀(ps:List (Nat×Operand))(k:Nat),ps.map (·.1)=(List.range' k ps.length)->ps=((ps.map (·.2)).zipIdx k).map λx=>(x.2,x.1)
 |[],_,_=>rfl
 |(i,x)::ps,k,h=>by
  simp only[List.map_cons,List.length_cons,List.range'_succ,List.cons.injEq]at h;obtain⟨rfl,h⟩:=h;simp only[List.map_cons,List.zipIdx_cons,List.cons.injEq,true_and];exact uH ps (i+1) h
def vh{x:Option Operand}(h:k_ n x=some none):x=none:=by
 cases x with
 |none=>rfl
 |some y=>simp[k_]at h
def uy (R:Rel P w0 n U g S H a w) {o:Oper} {tk:Bool} {hr:HR} {op:dS} {e:aD} (hc:comp P n tk hr o=op) (bn:op.calm=true) (hd:∀ t,o.dst=some t→t < n∧¬ U t) (df:∀ t∈op.rd,¬ U t) (cD:∀ t,o.dst=some t→t∉op.rd)
  (he:ao S H op=some e):cy P w0 n U g S H a w o e:=by
 unfold comp at hc;cases cM:o.op
 case move x=>
  simp only[cM]at hc
  split at hc<;>subst hc
  case h_2=>cases bn
  rename_i y hx;exact G3 R hd hx df (by unfold execOp;simp only[cM];rfl) cD he
 case assign x=>
  simp only[cM]at hc
  split at hc<;>subst hc
  case h_2=>cases bn
  rename_i y hx;exact G3 R hd hx df (by unfold execOp;simp only[cM];rfl) cD he
 case pick x x1 x2=>
  simp only[cM]at hc
  split at hc<;>subst hc
  case h_2=>cases bn
  rename_i c a' b h1 h2 h3;simp only[dS.rd,List.mem_append]at df;exact Ju R cM hd h1 h2 h3 (λt h=>df t (.inl (.inl h))) (λt h=>df t (.inl (.inr h))) (λt h=>df t (.inr h)) he
 case alloc t=>simp only[cM]at hc;split at hc<;>subst hc<;>cases bn
 case box t x=>simp only[cM]at hc;split at hc<;>subst hc<;>cases bn
 case build t ps=>
  simp only[cM]at hc;split at hc
  .rename_i fs zs h1 h2;split at hc
   case h_2=>subst hc;cases bn
   rename_i places h3
   split at hc<;>subst hc
   case h_2=>cases bn
   rename_i qs h4;have h2:=p' h2;unfold zeroCells at h2;split at h2
   case h_2=>cases h2
   rename_i it hi;split at h2
   case h_2=>cases h2
   rename_i z hz;exact Gf R cM hd hi h1 hz h3 h2 h4 (λq hq t ht=>df t (List.mem_flatMap.2 ⟨q,hq,ht⟩)) he
  .rename_i len el zs h1 h2;split at hc
   case h_2=>subst hc;cases bn
   rename_i ie h3
   split at hc<;>subst hc
   case h_2=>cases bn
   rename_i qs h4;have h2:=p' h2;unfold zeroCells at h2;split at h2
   case h_2=>cases h2
   rename_i it hi;split at h2
   case h_2=>cases h2
   rename_i z hz;exact Et R cM hd hi h1 hz h3 h2 h4 (λq hq t ht=>df t (List.mem_flatMap.2 ⟨q,hq,ht⟩)) he
  .rename_i len el h1 h2;split at hc
   case h_2=>subst hc;cases bn
   rename_i it ie ys h3 h4 h5;split at hc
   case h_2=>subst hc;cases bn
   rename_i z hz
   split at hc<;>subst hc
   case isFalse=>cases bn
   rename_i jA;exact DW R cM hd h3 h1 hz h4 jA.1 (by simpa using jA.2.1) (uH _ 0 (by rw[jA.2.2,List.range_eq_range'])) h5 (λy hy t ht=>df t (List.mem_flatMap.2 ⟨y,hy,ht⟩)) he
  .subst hc;cases bn
 case buildSlice t len ps=>
  simp only[cM]at hc;split at hc
  case h_2=>subst hc;cases bn
  rename_i el h1;split at hc
  case h_2=>subst hc;cases bn
  rename_i i h2;split at hc
  case isTrue=>
   rename_i jA;subst hc
   have fJ:ps=#[]:=by
    have:=jA.2;simp only[List.isEmpty_iff]at this;exact Array.toList_eq_nil_iff.1 this
   rw[jA.1,fJ]at cM;exact FC R cM hd h1 h2 he
  case isFalse=>
   split at hc
   case h_2=>subst hc;cases bn
   rename_i z ys h3 h4
   split at hc<;>subst hc
   case isFalse=>cases bn
   rename_i iI
   have hlen:ps.toList.length=len:=by have:=congrArg List.length iI.2.2;simpa using this
   exact p6 R cM hd h1 h2 h3 iI.1 (uH _ 0 (by rw[iI.2.2,hlen,List.range_eq_range'])) (by simpa using hlen) iI.2.1 h4 (λy hy t ht=>df t (List.mem_flatMap.2 ⟨y,hy,ht⟩)) he
 case load t x=>
  simp only[cM]at hc;split at hc
  case h_2=>subst hc;cases bn
  rename_i i d y h1 h2 h3
  split at hc<;>subst hc
  case isTrue jA=>
   obtain⟨dd,Ab⟩:=Option.isSome_iff_exists.1 jA.2.2;exact FJ R cM Ab (hd dd Ab) h2 jA.2.1 h3 df he
  case isFalse jA=>exact zq R cM hd h1 h2 h3 df he
 case store t x1 x2=>
  simp only[cM]at hc;split at hc
  case h_2=>subst hc;cases bn
  rename_i i y z h1 h2 h3
  split at hc<;>subst hc
  case isFalse=>cases bn
  rename_i jA;simp only[dS.rd,List.mem_append]at df;exact xQ R cM (by simpa using jA) h1 h2 h3 (λt h=>df t (.inl h)) (λt h=>df t (.inr h)) he
 case binOp op t x1 x2 t'=>
  simp only[cM]at hc;split at hc
  .subst hc;rename_i k y1 y2 h1 h2 h3;simp only[dS.rd,List.mem_append]at df;exact B3 R cM hd h2 h3 (λt h=>df t (.inl h)) (λt h=>df t (.inr h)) he
  .subst hc;rename_i y1 y2 h1 h2 h3;simp only[dS.rd,List.mem_append]at df;exact B3 R cM hd h2 h3 (λt h=>df t (.inl h)) (λt h=>df t (.inr h)) he
  .rename_i y1 y2 h1 h2 h3
   split at hc<;>subst hc
   .simp only[dS.rd,List.mem_append]at df;exact CI (neg:=false) R cM hd h1 h2 h3 (λt h=>df t (.inl h)) (λt h=>df t (.inr h)) he
   .simp only[dS.rd,List.mem_append]at df;exact CI (neg:=true) R cM hd h1 h2 h3 (λt h=>df t (.inl h)) (λt h=>df t (.inr h)) he
   .cases bn
  .rename_i fs y1 y2 h1 h2 h3;split at hc
   case isFalse=>subst hc;cases bn
   rename_i Av
   split at hc<;>subst hc
   .simp only[dS.rd,List.mem_append]at df;exact Cf (neg:=false) R cM hd h1 (by assumption) Av h2 h3 (λt h=>df t (.inl h)) (λt h=>df t (.inr h)) he
   .simp only[dS.rd,List.mem_append]at df;exact Cf (neg:=true) R cM hd h1 (by assumption) Av h2 h3 (λt h=>df t (.inl h)) (λt h=>df t (.inr h)) he
   .cases bn
  .rename_i el y1 y2 h1 h2 h3
   split at hc<;>subst hc
   .exact xP (neg:=false) R cM hd h1 h2 df he
   .exact xP (neg:=true) R cM hd h1 h2 df he
   .cases bn
  .subst hc;cases bn
 case unOp u t x=>
  cases u<;>simp only[cM]at hc
  case not=>
   split at hc<;>subst hc
   case h_2=>cases bn
   rename_i y h1;exact LX R cM hd h1 df he
  all_goals (subst hc;cases bn)
 case convert s d x=>
  simp only[cM]at hc;split at hc
  .subst hc;rename_i ds k y h1 h2 h3;exact Ie R cM hd h1 h2 h3 df he
  .rename_i el y h1 h2 h3
   split at hc<;>subst hc
   case h_2=>cases bn
   rename_i h4;exact Jm R cM hd h1 h4 h2 h3 df he
  .subst hc;cases bn
 case makeInterface t x=>
  simp only[cM]at hc
  split at hc<;>subst hc
  case h_1=>cases bn
  case h_3=>cases bn
  rename_i d y DA h1 h2;exact HC R cM hd h1 DA h2 df he
 case makeFunc fn f c=>
  simp only[cM]at hc
  split at hc<;>subst hc
  case h_2=>cases bn
  rename_i f2 c2 h1 h2;simp only[dS.rd,List.mem_append,List.mem_flatMap]at df;exact Mh R cM hd h1 h2 (λy hy t ht=>df t (.inl ⟨y,hy,ht⟩)) (λy hy t ht=>df t (.inr ⟨y,hy,ht⟩)) he
 case slice t x lo hi mx=>
  cases mx with
  |some m=>simp only[cM]at hc;subst hc;cases bn
  |none=>
   simp only[cM]at hc;split at hc
   .subst hc;rename_i y u9 ck h1 h2 h3 h4;simp only[dS.rd,List.mem_append,List.mem_flatMap]at df;exact DH R cM hd h1 h2 (λt h=>df t (.inl h)) h3 h4 (λy hy t ht=>df t (.inr ⟨y,.inl (by simpa using hy),ht⟩)) (λy hy t ht=>df t (.inr ⟨y,.inr (by simpa using hy),ht⟩)) he
   .rename_i el y u9 ck h1 h2 h3 h4
    split at hc<;>subst hc
    case h_2=>cases bn
    rename_i i h5;simp only[dS.rd,List.mem_append,List.mem_flatMap]at df;exact DD R cM hd h1 h5 h2 (λt h=>df t (.inl h)) h3 h4 (λy hy t ht=>df t (.inr ⟨y,.inl (by simpa using hy),ht⟩)) (λy hy t ht=>df t (.inr ⟨y,.inr (by simpa using hy),ht⟩)) he
   .rename_i len el y h1 h2 h3 h4
    split at hc<;>subst hc
    case h_2=>cases bn
    rename_i i h5;have e3:=vh h3;have e4:=vh h4;subst e3;subst e4;exact E2 R cM hd h1 h5 h2 df he
   .subst hc;cases bn
 case fieldAddr s x j=>
  simp only[cM]at hc;split at hc
  case h_2=>subst hc;cases bn
  rename_i fs y h1 h2;split at hc
  case h_2=>subst hc;cases bn
  rename_i f h3;split at hc
  case h_2=>subst hc;cases bn
  rename_i i h4
  split at hc<;>subst hc
  case isFalse=>cases bn
  rename_i jA;exact yj R cM hd h1 h3 h4 jA h2 df he
 case indexAddr t x1 x2=>
  simp only[cM]at hc;split at hc
  case h_2=>subst hc;cases bn
  rename_i el y z h1 h2 h3
  split at hc<;>subst hc
  case h_2=>cases bn
  rename_i i h4;simp only[dS.rd,List.mem_append]at df;exact yq R cM hd h1 h4 h2 h3 (λt h=>df t (.inl h)) (λt h=>df t (.inr h)) he
 case index t x1 x2=>
  simp only[cM]at hc;split at hc
  .subst hc;rename_i y z h1 h2 h3;simp only[dS.rd,List.mem_append]at df;exact EB R cM hd h1 h2 h3 (λt h=>df t (.inl h)) (λt h=>df t (.inr h)) he
  .rename_i len el y z h1 h2 h3;split at hc
   .rename_i i a1 a2 a3 h4 h5
    split at hc<;>subst hc
    case isFalse=>cases bn
    rename_i hs;simp only[dS.rd,List.mem_append]at df;exact D_ R cM hd h1 h4 hs h5 rfl h2 h3 (λt h=>df t (.inl h)) (λt h=>df t (.inr h)) he
   case h_3=>subst hc;cases bn
   subst hc;rename_i i d _ h4 h5;simp only[dS.rd,List.mem_append]at df;exact Dk R cM hd h1 h4 h5 h2 h3 (λt h=>df t (.inl h)) (λt h=>df t (.inr h)) he
  .subst hc;cases bn
 case lookup t x1 x2 ok=>
  cases ok with
  |false=>simp only[cM]at hc;subst hc;cases bn
  |true=>
   simp only[cM]at hc;split at hc
   case h_2=>subst hc;cases bn
   rename_i kt el y z h1 h2 h3;split at hc
   case h_2=>subst hc;cases bn
   rename_i fs k ie h4 h5 h6;split at hc
   case h_2=>subst hc;cases bn
   rename_i v h7
   split at hc<;>subst hc
   case h_2=>cases bn
   rename_i zs h8;simp only[dS.rd,List.mem_append]at df;exact C_ (z:=.agg v) R cM hd h1 h4 h5 h6 h7 h8 h2 h3 (λt h=>df t (.inl h)) (λt h=>df t (.inr h)) he
 case extract x j=>
  simp only[cM]at hc
  split at hc<;>subst hc
  case h_2=>cases bn
  rename_i y h1;exact Bl R cM hd h1 df he
 case typeAssert x xt t ok=>
  cases ok with
  |false=>simp only[cM]at hc;subst hc;cases bn
  |true=>
   simp only[cM]at hc;split at hc
   case h_1=>subst hc;cases bn
   case h_3=>subst hc;cases bn
   rename_i d i y DA h1 h2 h3;split at hc
   case h_2=>subst hc;cases bn
   rename_i z hz
   split at hc<;>subst hc
   case h_2=>cases bn
   rename_i zs pE;exact EU (z:=.agg z) R cM hd h1 DA h2 hz pE h3 df he
 case panic x=>simp only[cM]at hc;split at hc<;>subst hc<;>cases bn
 case call cl=>
  simp only[cM]at hc;split at hc
  .rename_i x s jr ha ht
   have Fy:cl.args=#[x]:=by rw[<-Array.toArray_toList (xs:=cl.args),ha]
   have A9:cl.argTypes=#[s]:=by rw[<-Array.toArray_toList (xs:=cl.argTypes),ht]
   split at hc<;>subst hc
   .rename_i y h1 h2;exact Cu R cM jr Fy A9 hd h1 h2 df (.inl ⟨rfl,he⟩)
   .rename_i el y h1 h2;exact Cu R cM jr Fy A9 hd h1 h2 df (.inr ⟨⟨el,rfl⟩,he⟩)
   .cases bn
  .rename_i x1 x2 t t' jr ha ht
   have Fy:cl.args=#[x1,x2]:=by rw[<-Array.toArray_toList (xs:=cl.args),ha]
   have A9:cl.argTypes=#[t,t']:=by rw[<-Array.toArray_toList (xs:=cl.argTypes),ht]
   split at hc
   case h_2=>subst hc;cases bn
   rename_i el y1 y2 h1 h2 h3;split at hc
   case h_2=>subst hc;cases bn
   rename_i i h4;split at hc
   case h_2=>subst hc;cases bn
   rename_i z h5
   split at hc<;>subst hc
   case isFalse=>cases bn
   rename_i jA;obtain⟨rfl,k1,k2⟩:=jA;simp only[dS.rd,List.mem_append]at df cD;exact C' R cM jr Fy A9 hd h1 h4 h5 k1 k2 h2 h3 (λt h=>df t (.inl h)) (λt h=>df t (.inr h)) (λt ht h=>cD t ht (.inl h)) he
  .rename_i x1 x2 jr ha
   have Fy:cl.args=#[x1,x2]:=by rw[<-Array.toArray_toList (xs:=cl.args),ha]
   split at hc<;>subst hc
   case h_2=>cases bn
   rename_i y1 y2 h1 h2;simp only[dS.rd,List.mem_append]at df;exact vN R cM Fy hd h1 h2 (λt h=>df t (.inl h)) (λt h=>df t (.inr h)) (.inl ⟨jr,he⟩)
  .rename_i x1 x2 jr ha
   have Fy:cl.args=#[x1,x2]:=by rw[<-Array.toArray_toList (xs:=cl.args),ha]
   split at hc<;>subst hc
   case h_2=>cases bn
   rename_i y1 y2 h1 h2;simp only[dS.rd,List.mem_append]at df;exact vN R cM Fy hd h1 h2 (λt h=>df t (.inl h)) (λt h=>df t (.inr h)) (.inr ⟨jr,he⟩)
  .split at hc<;>subst hc<;>cases bn
  .split at hc<;>subst hc<;>cases bn
  .subst hc;cases bn
 all_goals (simp only[cM]at hc;subst hc;cases bn)
end
def bu:Nat->Prop:=λ_=>False
def aw(GI:World->Prop):Prop:=∀w w',GI w->Below w.heap.size w w'->GI w'
def bl.ok(n:Nat)(o:bl):Bool:=
 (match o.dst with|some d=>decide (d<n)&&!o.op.rd.contains d|none=>true)&&
 (match o.guard with|some (t,_)=>decide (t<n)|none=>true)
def dS.fX:dS->Bool
 |.alloc ..|.box ..=>true
 |_=>false
def bl.fX(o:bl):List Nat:=if o.op.fX then o.dst.toList else[]
def rO(ops:Array Oper)(j:Nat):Option Nat:=(ops[j]?).bind (·.dst)
def taken(ops:Array Oper)(d:Nat):Bool:=
 ops.any λo=>match o.op with
  |.call { callee:=.builtin .append,args,.. }=>match args.toList with
   |.tmp t::_=>t==d
   |_=>false
  |_=>false
def rootOf(ops:Array Oper):Nat->Operand->HR
 |k+1,.tmp t=>match ops.toList.find? (λo=>o.dst==some t)with
  |some o=>match o.op with
   |.fieldAddr _ x _=>rootOf ops k x
   |.indexAddr ..=>.ref
   |.alloc _=>.box t
   |_=>.any
  |none=>.box t
 |_,_=>.any
def KD(ops:Array Oper)(o:Oper):HR:=
 match o.op with
 |.load _ x|.store _ x _=>rootOf ops 10 x
 |_=>.any
def bb(P:Program)(n:Nat)(dr:Bool)(ops:Array Oper)(o:Oper):bl:={
 dst:=o.dst
 guard:=match o.guard with
  |some (j,b)=>match rO ops j with
   |some t=>some (t,b)
   |none=>some (n,b)
  |none=>none
 op:=comp P n (match o.dst with|some d=>taken ops d|none=>false) (if dr then KD ops o else .any) o }
def aO(P:Program)(n:Nat)(dr:Bool)(ops:Array Oper):List bl:=ops.toList.map (bb P n dr ops)
def ar(S:af):Option (Nat×Bool)->Option Bool
 |none=>some true
 |some (t,b)=>match S t with
  |.bool c=>some (c==b)
  |.eS []=>some false
  |_=>none
def bg(P:Program)(GI:World->Prop):List bl->(af->ah->Prop)->(AV->Prop)->af->ah->Prop
 |[],K,_,S,H=>K S H
 |o::rest,K,Qp,S,H=>match ar S o.guard with
  |some true=>aM P GI o.op o.dst (bg P GI rest K Qp) Qp S H
  |some false=>bg P GI rest K Qp (aH S o.dst bG) H
  |none=>False
section
variable{P:Program}{GI:World->Prop}{w0:World}{n:Nat}{U:Nat->Prop}{g:Gh}{S:af}{H:ah}{a:Act}{w:World}
def cy.wp {o:Oper} {e:aD} (h:cy P w0 n U g S H a w o e) {K:Act→World→Prop} {Q:Exit→Act→World→Prop}
  (hK:∀g' a' w',g'.base=g.base->g'.old=g.old->Rel P w0 n U g' (e.S S o.dst) (e.H H) a' w'->K a' w'):o.wp P a w K Q:=by
 obtain⟨c,w',g',hr,h1,h2,R⟩:=h;unfold Oper.wp
 rcases hr with hr|⟨hr,rfl⟩
 .rw[hr];exact hK g' _ _ h1 h2 R
 .rw[hr];exact hK g' _ _ h1 h2 R
def eu{a:Act}{cl:Call}{f:Operand}{t:TypeId}(hc:cl.callee=.value f):resolve a.eval cl t=Deferred.ofValue (a.eval f) (cl.args.map a.eval):=by
 unfold resolve;rw[hc]
def wW (R:Rel P w0 n U g S H a w) (hG:aw GI) (bP:GI w0) {f:Nat} {args:List AV} {bp:Array Value} {bx:Bool} {KA:AV→Prop} {Qp:AV→Prop}
  (hl:args.length=bp.size) (hr:∀i (h:i<args.length)(h':i<bp.size),RV (iu g bx) (λ_=>none) w args[i] bp[i])
  (h:jB P GI f args bx KA Qp) (dst:Option Nat) (hd:∀t,dst=some t->t<n/\¬U t) {Kc:Act->World->Prop} {Qc:Exit->Act->World->Prop}
  (hK:∀v g' a' w',g'.base=g.base->g'.old=g.old->Rel P w0 n U g' (aH S dst v) H a' w'->KA v->Kc a' w')
  (hP:∀v c hi w',Below w0.heap.size w0 w'->(∀b,w'.heap.size<=b->hi b=0)->RD (ji w0.heap.size g.old.c hi) w' v c->Qp v->Qc (.panic [{ v:=c,recovered:=false }]) a w'):
  dz P f=true/\Calls P f bp w (λ|.returned v,fD=>Kc (a.put dst v) fD|.panicked chain,fD=>Qc (.panic chain) a fD|.outgrown,_=>LetsOut Qc):=by
 obtain⟨out,lF,jN,bI,ml⟩:=h
 have hle:g.base<=w.heap.size:=by rw[R.base];exact R.below.size
 have jI:GI w:=by
  have hb:=R.below;rw[R.base]at hb;exact hG w0 w bP hb
 refine⟨lF,(jN w (iu g bx) bp jI hl hr).mono ?_⟩;rintro e w' ⟨hb,hi,kY,hh⟩
 cases out with
 |ret v=>
  obtain⟨c,rfl,h1,h2⟩:=hh;obtain⟨g',e1,e2,R'⟩:=R.call dst hd bx hb kY h1 h2 (λhx=>bI hx);exact hK v g' _ _ e1 e2 R' ml
 |panic v=>
  obtain⟨c,rfl,h1⟩:=hh
  have WC:bx=false:=by
   cases bx with
   |false=>rfl
   |true=>have:=bI rfl;cases this
  subst WC;have oP:=R.below;rw[R.base]at oP hle;refine hP v c (λb=>if b<w.heap.size then g.hi b else hi b) w' (oP.trans (hb.mono hle)) (λb ja=>?_) ?_ ml
  .have:=hb.size;show(if b<w.heap.size then g.hi b else hi b)=0;rw[if_neg (by omega)];exact kY b ja
  .refine h1.mono (aL.same λb k _ hp=>?_)
   rcases hp with⟨k1,k2⟩|⟨k1,k2⟩
   .rcases k2 with k2|⟨k2,_⟩
    .rcases k2 with k2|k2
     .exact .inl (by rw[<-R.base];exact k2)
     .exact .inr ⟨by rw[<-R.base];exact k2.1,by show k<(if b<w.heap.size then g.hi b else hi b);rw[if_pos k1];exact k2.2⟩
    .cases k2
   .exact .inr ⟨by omega,by show k<(if b<w.heap.size then g.hi b else hi b);rw[if_neg (by omega)];exact k2⟩
def B7(d:Nat):(λt=>(bu t\/t=d)/\t≠d)=bu:=by
 funext t
 simp only[bu,false_or,eq_iff_iff,iff_false,not_and,Classical.not_not];exact id
def zX (R:Rel P w0 n bu g S H a w) {o:Oper} {d:Nat} (gJ:o.dst=some d) (hd:d < n) (bI:¬ g.old.bx d) {ty:TypeId} {vs:Array Value} {cs:List AV}
  (dJ:(execOp a.eval o).run P w=.ok (.value (.pointer (some ⟨w.heap.size,0,none⟩))) (w.alloc (.cells vs ty))) (hr:ni g.Pr w cs vs)
  (ho:∀(g':Gh) j (h:j<cs.length)(h':j<vs.size),(cs[j]).kL/\dD P w g' (.cell d j) cs[j] vs[j])
  {Kc:Act->World->Prop} {Qc:Exit->Act->World->Prop}
  (hK:∀g' a' w',g'.base=g.base->g'.old=g.old->Rel P w0 n bu g' (aq (λt=>aT d (S t)) d (.box d 0)) (aq H d (some cs)) a' w'->Kc a' w'):o.wp P a w Kc Qc:=by
 have R1:=R.suspend d bI (.box d 0) cs;have R2:=R1.EW d (.inr rfl) hd cs vs ty (aJ _ _ _) (aJ _ _ _) hr.1 hr.2.1 (λj h h'=>ho _ j h h') hr.2.2;unfold Oper.wp;rw[dJ];show Kc _ _;rw[gJ];rw[B7]at R2;exact hK { g with al:=aq (aq g.al d none) d (some w.heap.size) } _ _ rfl rfl R2
def xm{o:Oper}{tk:Bool}{hr:HR}{t:TypeId}{cs:List AV}(h:comp P n tk hr o=.alloc t cs):o.op=.alloc t/\zeroCells P t=some cs:=by
 unfold comp at h
 repeat' split at h
 all_goals first
  |(cases h;done)
  |(cases h;exact⟨by assumption,by assumption⟩)
def LM{o:Oper}{tk:Bool}{hr:HR}{t:TypeId}{size:Nat}{x:cm}(h:comp P n tk hr o=.box t size x):∃x',o.op=.box t x'/\du n x'=some x:=by
 unfold comp at h
 repeat' split at h
 all_goals first
  |(cases h;done)
  |(cases h;exact⟨_,by assumption,by assumption⟩)
def HB{o:Oper}{tk:Bool}{hr:HR}{x:cm}(h:comp P n tk hr o=.panic x):∃x',o.op=.panic x'/\du n x'=some x:=by
 unfold comp at h
 repeat' split at h
 all_goals first
  |(cases h;done)
  |(cases h;exact⟨_,by assumption,by assumption⟩)
def VC{x:Operand}{f:Nat}(h:du n x=some (.f f)):x=.func f:=by
 cases x<;>simp only[du]at h
 .split at h<;>cases h
 .simp only[Option.map_eq_some_iff]at h;obtain⟨_,_,h⟩:=h;cases h
 .cases h
 .cases h;rfl
def I4{o:Oper}{tk:Bool}{hr:HR}{f:Nat}{args:List cm}(h:comp P n tk hr o=.call f args):∃cl,o.op=.call cl/\cl.callee=.value (.func f)/\mh n cl.args.toList=some args:=by
 unfold comp at h
 repeat' split at h
 all_goals first
  |(cases h;done)
  |skip
 cases h;rename_i h1 h2;have e:=VC h1;subst e;exact⟨_,by assumption,by assumption,h2⟩
def GK {o:Oper} {tk:Bool} {hr:HR} {f:cm} {args:List cm} (h:comp P n tk hr o = .gR f args) :
  (∃cl f',o.op=.call cl/\cl.callee=.value f'/\du n f'=some f/\mh n cl.args.toList=some args)\/
  ∃cl r name t,o.op=.call cl/\cl.callee=.invoke r name/\du n r=some (.t t)/\f=.m t (Gm P name)/\mh n cl.args.toList=some args:=by
 unfold comp at h
 repeat' split at h
 all_goals first
  |(cases h;done)
  |skip
 .cases h;exact .inl ⟨_,_,by assumption,by assumption,by assumption,by assumption⟩
 .cases h;exact .inr ⟨_,_,_,_,by assumption,by assumption,by assumption,rfl,by assumption⟩
def Jk(x:Value)(l:Array Value):(#[x]++l)[0]?=some x:=by
 rw[Array.getElem?_append_left (by simp)];rfl
def LN(x:Value)(l:Array Value):(#[x]++l).extract 1 (#[x]++l).size=l:=by
 apply Array.ext';simp
def qk (R:Rel P w0 n U g S H a w) (hG:aw GI) (bP:GI w0) {o:Oper} {tk:Bool} {hr:HR} {f:Nat} {args:List cm} (hc:comp P n tk hr o = .call f args) (hd:∀ t,o.dst=some t→t < n∧¬ U t) (hu:∀ t∈(dS.call f args).rd,¬ U t)
  {KA:AV->Prop} {Qp:AV->Prop} (h:jB P GI f (args.map λy=>fz H (AL.ev S y)) (args.any λy=>bR (AL.ev S y)) KA Qp) {Kc:Act->World->Prop} {Qc:Exit->Act->World->Prop}
  (hK:∀v g' a' w',g'.base=g.base->g'.old=g.old->Rel P w0 n U g' (aH S o.dst v) H a' w'->KA v->Kc a' w')
  (hP:∀v c hi w',Below w0.heap.size w0 w'->(∀b,w'.heap.size<=b->hi b=0)->RD (ji w0.heap.size g.old.c hi) w' v c->Qp v->Qc (.panic [{ v:=c,recovered:=false }]) a w'):o.wp P a w Kc Qc:=by
 obtain⟨cl,cM,G2,oC⟩:=I4 hc;obtain⟨l1,r1⟩:=R.Ha oC (λy hy t ht=>hu t (List.mem_flatMap.2 ⟨y,hy,ht⟩))
 obtain⟨lF,qu⟩:=wW R hG bP (bp:=cl.args.map a.eval) (by simpa using l1) (λi hi ck=>by
  simp only[List.length_map]at hi;simp only[List.getElem_map,Array.getElem_map];have:=r1 i hi (by simpa using ck)
  refine R.fz (by simpa using this) _ λhb=>?_
  exact List.any_eq_true.2 ⟨_,List.getElem_mem hi,hb⟩) h o.dst hd (Kc:=Kc) (Qc:=Qc) hK hP
 have aah:a.eval (.func f)=.func (.func f) #[] #[]:=rfl;unfold Oper.wp execOp;simp only[cM,eu G2,aah,Deferred.ofValue,Sem.run_bind,Sem.run_pure,Result.andThen_ok,invoke,Array.empty_append,Array.append_empty];rw[fC lF];exact qu
def sS (R:Rel P w0 n U g S H a w) (hG:aw GI) (bP:GI w0) {o:Oper} {tk:Bool} {hr:HR} {f:cm} {args:List cm} (hc:comp P n tk hr o = .gR f args) (hd:∀ t,o.dst=some t→t < n∧¬ U t) (hu:∀ t∈(dS.gR f args).rd,¬ U t)
  {k:Nat} {first cap:List AV} (u7:AL.ev S f=.func (.func k) first cap)
  {KA:AV->Prop} {Qp:AV->Prop} (h:jB P GI k ((first++args.map (AL.ev S)++cap).map (fz H)) ((first++args.map (AL.ev S)++cap).any bR) KA Qp) {Kc:Act->World->Prop} {Qc:Exit->Act->World->Prop}
  (hK:∀v g' a' w',g'.base=g.base->g'.old=g.old->Rel P w0 n U g' (aH S o.dst v) H a' w'->KA v->Kc a' w')
  (hP:∀v c hi w',Below w0.heap.size w0 w'->(∀b,w'.heap.size<=b->hi b=0)->RD (ji w0.heap.size g.old.c hi) w' v c->Qp v->Qc (.panic [{ v:=c,recovered:=false }]) a w'):o.wp P a w Kc Qc:=by
 simp only[dS.rd,List.mem_append,List.mem_flatMap]at hu
 rcases GK hc with⟨cl,f',cM,G2,hf,oC⟩|⟨cl,r,name,t,cM,G2,iR,rfl,oC⟩
 case inr=>
  obtain⟨l1,r1⟩:=R.Ha oC (λy hy t ht=>hu t (.inr ⟨y,hy,ht⟩));have LF:=R.ev iR (λt' ht=>hu t' (.inl (by simpa[cm.tmps]using ht)));simp only[AL.ev]at u7 LF;generalize hS:S t=sv at u7 LF;split at u7
  case h_2=>cases u7
  rename_i ty v;split at u7
  case h_2=>cases u7
  rename_i k' hk;cases u7;generalize Vg:a.eval r=cr at LF;have LF:=LF.dA rfl
  cases LF with
  |iface _ _ cv hv=>
  simp only[List.singleton_append,List.append_nil]at h
  obtain⟨lF,qu⟩:=wW R hG bP (bp:=#[cv]++cl.args.map a.eval) (by simp at l1⊢;omega) (λi hi ck=>by
   simp only[List.length_map]at hi;simp only[List.getElem_map]
   refine R.fz ?_ _ λhb=>?_
   .cases i with
    |zero=>
     have e2:(#[cv]++cl.args.map a.eval)[0]=cv:=by rw[Array.getElem_append_left (by simp)];rfl
     simp only[List.getElem_cons_zero];rw[e2];exact .data _ _ hv
    |succ i=>
     have e2:(#[cv]++cl.args.map a.eval)[i+1]=a.eval (cl.args.toList[i]'(by simp at ck l1⊢;omega)):=by
      rw[Array.getElem_append_right (by simp)];simp
     simp only[List.getElem_cons_succ,List.getElem_map];rw[e2];exact r1 i (by simpa using hi) (by simp at ck l1⊢;omega)
   .exact List.any_eq_true.2 ⟨_,List.getElem_mem hi,hb⟩) h o.dst hd (Kc:=Kc) (Qc:=Qc) hK hP
  have hm:=Gn (v:=cv) (w:=w) hk;unfold Oper.wp execOp;simp only[cM]
  have MM:(resolve a.eval cl o.type).run P w=.ok { target:=.fn (.method name) #[],args:=#[.iface ty cv]++cl.args.map a.eval } w:=by
   unfold resolve;rw[G2];simp[Vg]
  simp only[Sem.run_bind,MM,Result.andThen_ok,invoke,Jk,callMethod,LN,hm,run_program];rw[fC lF];simp only[Oper.upon];exact qu
 obtain⟨l1,r1⟩:=R.Ha oC (λy hy t ht=>hu t (.inr ⟨y,hy,ht⟩));have VG:=R.ev hf (λt ht=>hu t (.inl ht));rw[u7]at VG;generalize P6:a.eval f'=cf at VG
 cases VG with
 |data _ _ hh=>cases hh
 |func _ _ _ vs us q1 q2 q3 q4=>
  have eD:∀i (hi:i<(first++args.map (AL.ev S)++cap).length)(ck:i<(vs++cl.args.map a.eval++us).size),RV g.Pr g.al w (first++args.map (AL.ev S)++cap)[i] (vs++cl.args.map a.eval++us)[i]:=by
   intro i hi ck;simp only[List.length_append,List.length_map]at hi;simp only[Array.length_toList]at l1
   by_cases c1:i<first.length
   .have e1:(first++args.map (AL.ev S)++cap)[i]=first[i]:=by rw[List.getElem_append_left (by simp;omega),List.getElem_append_left c1]
    have e2:(vs++cl.args.map a.eval++us)[i]=vs[i]:=by rw[Array.getElem_append_left (by simp;omega),Array.getElem_append_left (by omega)]
    rw[e1,e2];exact q3 i c1 (by omega)
   .by_cases c2:i<first.length+args.length
    .have e1:(first++args.map (AL.ev S)++cap)[i]=AL.ev S (args[i-first.length]):=by rw[List.getElem_append_left (by simp;omega),List.getElem_append_right (by omega)];simp
     have e2:(vs++cl.args.map a.eval++us)[i]=a.eval (cl.args.toList[i-first.length]'(by simp;omega)):=by
      rw[Array.getElem_append_left (by simp;omega),Array.getElem_append_right (by omega)];simp[q1]
     rw[e1,e2];exact r1 _ (by omega) (by simp;omega)
    .have e1:(first++args.map (AL.ev S)++cap)[i]=cap[i-(first.length+args.length)]'(by omega):=by rw[List.getElem_append_right (by simp;omega)];simp
     have e2:(vs++cl.args.map a.eval++us)[i]=us[i-(first.length+args.length)]'(by omega):=by
      rw[Array.getElem_append_right (by simp;omega)];simp[q1,l1]
     rw[e1,e2];exact q4 _ (by omega) (by omega)
  obtain⟨lF,qu⟩:=wW R hG bP (bp:=vs++cl.args.map a.eval++us) (by simp at l1⊢;omega) (λi hi ck=>by
   simp only[List.length_map]at hi;simp only[List.getElem_map]
   refine R.fz (eD i hi ck) _ λhb=>?_
   exact List.any_eq_true.2 ⟨_,List.getElem_mem hi,hb⟩) h o.dst hd (Kc:=Kc) (Qc:=Qc) hK hP
  unfold Oper.wp execOp;simp only[cM,eu G2,P6,Deferred.ofValue,Sem.run_bind,Sem.run_pure,Result.andThen_ok,invoke];rw[fC lF];simp only[Oper.upon];exact qu
def KS (R:Rel P w0 n bu g S H a w) (hG:aw GI) (bP:GI w0) {o:Oper} {tk:Bool} {hr:HR} (hd:∀ t,o.dst=some t→t < n) (cD:∀ t,o.dst=some t→t∉(comp P n tk hr o).rd) (bI:∀ d,o.dst=some d→(comp P n tk hr o).fX=true→¬ g.old.bx d)
  {K:af->ah->Prop} {Qp:AV->Prop} (h:aM P GI (comp P n tk hr o) o.dst K Qp S H) {Kc:Act->World->Prop} {Qc:Exit->Act->World->Prop}
  (hK:∀g' S' H' a' w',g'.base=g.base->g'.old=g.old->Rel P w0 n bu g' S' H' a' w'->K S' H'->Kc a' w')
  (hP:∀v c hi w',Below w0.heap.size w0 w'->(∀b,w'.heap.size<=b->hi b=0)->RD (ji w0.heap.size g.old.c hi) w' v c->Qp v->Qc (.panic [{ v:=c,recovered:=false }]) a w'):
  o.wp P a w Kc Qc:=by
 by_cases bn:(comp P n tk hr o).calm=true
 .rw[xp bn]at h;split at h
  case h_2=>exact h.elim
  rename_i e he
  exact(uy R rfl bn (λt ht=>⟨hd t ht,id⟩) (λ_ _=>id) cD he).wp λg' a' w' h1 h2 R'=>hK g' _ _ _ _ h1 h2 R' h
 .generalize hc:comp P n tk hr o=op at h bn cD bI
  cases op<;>try (exact absurd rfl bn)
  case alloc t cs=>
   simp only[aM]at h
   cases gJ:o.dst with
   |none=>rw[gJ]at h;exact h.elim
   |some d=>
    rw[gJ]at h;obtain⟨cM,hz⟩:=xm hc;unfold zeroCells at hz;split at hz
    case h_2=>cases hz
    rename_i it hi;split at hz
    case h_2=>cases hz
    rename_i z Tt;obtain⟨h1,h2,h3⟩:=gQ g.Pr w hz
    refine zX R gJ (hd d gJ) (bI d gJ rfl) (vs:=z.cells) (ty:=t) (cs:=cs) ?_ (by simpa using h1) (λg' j hj c_=>⟨h2 _ (List.getElem_mem hj),by have:=h3 P g' (.cell d) j hj (by simpa using c_);rwa [Array.getElem_toList]at this⟩) λg' a' w' e1 e2 R'=>hK g' _ _ _ _ e1 e2 R' h
    unfold execOp;simp[cM,Instr.alloc,zeroValue,typeInfo,hi,Tt,newVar,newRow]
  case box t size x=>
   simp only[aM]at h
   cases gJ:o.dst with
   |none=>rw[gJ]at h;exact h.elim
   |some d=>
    rw[gJ]at h;obtain⟨BS,DR,hk⟩:=h;obtain⟨x',cM,hx⟩:=LM hc;have hv:=(R.ev hx (λ_ _=>id)).dA (AV.jo DR);have df:=hv.Qj DR
    have Yd:ni g.Pr w ((AL.ev S x).cells.map AV.aA) (a.eval x').cells:=by
     refine ni.mk' (by simpa using df.1) (λi v c e1 e2=>?_) (λi v e1=>?_)
     .simp only[List.getElem?_map,Option.map_eq_some_iff]at e1;obtain⟨u,h1,rfl⟩:=e1;exact(df.get h1 e2).aA
     .simp only[List.getElem?_map,Option.map_eq_some_iff]at e1;obtain⟨u,h1,rfl⟩:=e1;exact(AV.mU _).trans (df.one h1)
    refine zX R gJ (hd d gJ) (bI d gJ rfl) (vs:=(a.eval x').cells) (ty:=t) ?_ Yd (λg' j hj c_=>⟨by simp only[List.getElem_map];exact AV.oN _,by simp only[List.getElem_map];exact gw _ _ _⟩) λg' a' w' e1 e2 R'=>hK g' _ _ _ _ e1 e2 R' hk
    unfold execOp;simp[cM,Instr.box,newVar,newRow]
  case panic x=>
   simp only[aM]at h;obtain⟨x',cM,hx⟩:=HB hc;have hv:=R.ev hx (λ_ _=>id);generalize AL.ev S x=v at h hv;generalize lD:a.eval x'=c at hv
   cases v<;>try exact h.elim
   rename_i t v;cases hv;rename_i hv;have nL:=hv;cases nL;rename_i c' nL;unfold Oper.wp execOp;simp only[cM,lD,Instr.panic,Sem.run_bind,run_goPanic,Result.andThen_halt];have oP:=R.below;rw[R.base]at oP;refine hP (.iface t v) (.iface t c') g.hi w oP (λb hb=>(R.fresh b hb).1) ?_ h;rw[<-R.base];exact hv
  case call f args=>
   exact qk R hG bP hc (λt ht=>⟨hd t ht,id⟩) (λ_ _=>id) h (λv g' a' w' e1 e2 R' hk=>hK g' _ _ _ _ e1 e2 R' hk) hP
  case gR f args=>
   simp only[aM]at h;split at h
   case h_2=>exact h.elim
   rename_i k first cap u7;exact sS R hG bP hc (λt ht=>⟨hd t ht,id⟩) (λ_ _=>id) u7 h (λv g' a' w' e1 e2 R' hk=>hK g' _ _ _ _ e1 e2 R' hk) hP
  case other=>exact h.elim
end
section
variable{P:Program}{GI:World->Prop}{w0:World}{n:Nat}{U:Nat->Prop}{g:Gh}{S:af}{H:ah}{a:Act}{w:World}
inductive dQ where
 |normal|exit (id:Nat)|ret|panic (v:AV)
def QQ(P:Program)(w0:World)(n:Nat)(old:Old)(Q:dQ->af->ah->Prop):Exit->Act->World->Prop
 |.normal,a,w=>∃g S H,g.old=old/\Rel P w0 n bu g S H a w/\Q .normal S H
 |.exit id,a,w=>∃g S H,g.old=old/\Rel P w0 n bu g S H a w/\Q (.exit id) S H
 |.ret,a,w=>∃g S H,g.old=old/\Rel P w0 n bu g S H a w/\Q .ret S H
 |.panic chain,a,w=>a.defers=old.ds/\∃v c hi S H,chain=[{ v:=c,recovered:=false }]/\Below w0.heap.size w0 w/\(∀b,w.heap.size<=b->hi b=0)/\RD (ji w0.heap.size old.c hi) w v c/\Q (.panic v) S H
 |_,_,_=>False
def sI(Pr:Nat->Nat->Prop)(w:World):RD Pr w bG undef:=.eS [] #[] rfl λi h=>by simp at h
def Rel.N7(R:Rel P w0 n U g S H a w)(dst:Option Nat)(hd:∀t,dst=some t->t<n):Rel P w0 n U g (Go.AL.aH S dst bG) H (a.put dst undef) w:=
 R.aH dst _ _ hd (.data _ _ (sI _ _)) λ_ _=>trivial
def qJ (R:Rel P w0 n U g S H a w) {dr:Bool} {ops:Array Oper} {o:Oper} {b:Bool} (hu:∀ t b,(bb P n dr ops o).guard=some (t,b)→¬ U t)
  (bB:(bb P n dr ops o).ok n=true) (h:ar S (bb P n dr ops o).guard=some b):Region.wanted o (yielded ops a.tmps)=b:=by
 unfold Region.wanted;simp only[bb]at bB h hu
 cases hg:o.guard with
 |none=>
  rw[hg]at h;simp only[ar,Option.some.injEq]at h;exact h
 |some p=>
  obtain⟨j,want⟩:=p;rw[hg]at h bB hu;simp only at h bB hu⊢
  cases hj:rO ops j with
  |none=>
   rw[hj]at bB;simp only[bl.ok,Bool.and_eq_true,decide_eq_true_eq]at bB;omega
  |some t=>
   rw[hj]at h bB hu;simp only[bl.ok,Bool.and_eq_true,decide_eq_true_eq]at bB;have ht:t<n:=bB.2;have hs:=R.slot t ht (hu t want rfl)
   have hy:yielded ops a.tmps j=(match a.tmps.getD t undef with|.bool b=>some b|_=>none):=by
    unfold yielded;unfold rO at hj;rw[hj]
    have:t<a.tmps.size:=by rw[R.size];exact ht
    simp[this]
    split<;>simp_all
   rw[hy];simp only[ar]at h;generalize S t=v at h hs;generalize a.tmps.getD t undef=c at hs;split at h
   .cases h;cases hs;rename_i hs;cases hs;rename_i c'
    cases c'<;>cases want<;>rfl
   .cases h;cases hs;rename_i hs;cases hs
    simp_all
   .cases h
def lI (hG:aw GI) (bP:GI w0) {old:Old} {ops:Array Oper} {Q:dQ→af→ah→Prop} {S0:af} {H0:ah} :
  ∀(l:List Nat)(os:List Oper)(g:Gh)(S:af)(H:ah)(a:Act)(w:World),l.map (ops[·]?)=os.map some->(∀o∈os,(bb P n false ops o).ok n=true)->(∀o∈os,∀d∈(bb P n false ops o).fX,¬old.bx d)->g.old=old->Rel P w0 n bu g S H a w->
   bg P GI (os.map (bb P n false ops)) (Q .normal) (λv=>Q (.panic v) S0 H0) S H->wpOps P ops (QQ P w0 n old Q) l a w
 |[],os,g,S,H,a,w,hl,_,_,ho,R,h=>by
  have:os=[]:=by cases os with|nil=>rfl|cons=>simp at hl
  subst this;exact⟨g,S,H,ho,R,h⟩
 |i::l,os,g,S,H,a,w,hl,bB,bI,ho,R,h=>by
  cases os with
  |nil=>simp at hl
  |cons o os=>
   simp only[List.map_cons,List.cons.injEq]at hl;obtain⟨hi,hl⟩:=hl;have rB:=bB o List.mem_cons_self;simp only[List.map_cons,bg]at h;simp only[wpOps,hi]
   have oa:∀t,o.dst=some t->t<n/\t∉(bb P n false ops o).op.rd:=by
    intro t ht;simp only[bl.ok,Bool.and_eq_true]at rB;have h1:=rB.1;rw[show(bb P n false ops o).dst=o.dst from rfl,ht]at h1;simpa using h1
   cases hw:ar S (bb P n false ops o).guard with
   |none=>rw[hw]at h;exact h.elim
   |some b=>
    rw[hw]at h;rw[qJ R (λ_ _ _=>id) rB hw]
    cases b with
    |true=>
     simp only[if_true];refine .inl (KS R hG bP (λt ht=>(oa t ht).1) (λt ht=>(oa t ht).2) (λd hd hl=>by rw[ho];exact bI o List.mem_cons_self d (by have:(bb P n false ops o).op.fX=true:=hl;simp only[bl.fX,this,if_true];rw[show(bb P n false ops o).dst=o.dst from rfl,hd];simp)) h (λg' S' H' a' w' e1 e2 R' hk=>lI hG bP l os g' S' H' a' w' hl (λo ho=>bB o (List.mem_cons_of_mem _ ho)) (λo ho=>bI o (List.mem_cons_of_mem _ ho)) (e2.trans ho) R' hk) ?_);intro v c hi w' k1 k2 k3 k4;exact⟨by rw[<-ho];exact R.defers,v,c,hi,S0,H0,rfl,k1,k2,by rw[<-ho];exact k3,k4⟩
    |false=>
     simp only[Bool.false_eq_true,if_false];exact lI hG bP l os g _ H _ w hl (λo ho=>bB o (List.mem_cons_of_mem _ ho)) (λo ho=>bI o (List.mem_cons_of_mem _ ho)) ho (R.N7 o.dst λt ht=>(oa t ht).1) h
def Iq (hG:aw GI) (bP:GI w0) {old:Old} {id:Nat} {ops:Array Oper} {Q:dQ→af→ah→Prop} (bB:(aO P n false ops).all (·.ok n)=true) (bI:∀ o∈aO P n false ops,∀ d∈o.fX,¬ old.bx d) (ho:g.old=old) (R:Rel P w0 n bu g S H a w)
  (h:bg P GI (aO P n false ops) (Q .normal) (λv=>Q (.panic v) S H) S H):(Code.region id ops false).wp P (QQ P w0 n old Q) a w:=by
 refine wp_region (lI hG bP (S0:=S) (H0:=H) (List.range ops.size) ops.toList g S H a w ?_ (λo iq=>?_) (λo iq=>bI _ (List.mem_map_of_mem iq)) ho R h)
 .apply List.ext_getElem?;intro i;simp only[List.getElem?_map]
  by_cases hi:i<ops.size
  .simp[hi]
  .simp[hi]
 .simp only[aO,List.all_map,List.all_eq_true,Function.comp]at bB;exact bB o iq
end
inductive Acc where
 |no|rd (r:Option Nat)|soft (r:Option Nat)|wr (r:Option Nat)
def HR.one:HR->Option Nat
 |.box r=>some r
 |_=>none
def dS.acc:dS->Acc
 |.load .ref ..=>.no
 |.load hr ..=>.rd hr.one
 |.loadT hr _=>.soft hr.one
 |.store hr ..=>.wr hr.one
 |_=>.no
def meets:Option Nat->Option Nat->Bool
 |some a,some b=>a==b
 |_,_=>true
def Acc.conflict:Acc->Acc->Bool
 |.no,_|_,.no=>false
 |.rd _,.rd _|.rd _,.soft _|.soft _,.rd _=>false
 |.rd a,.wr b|.wr a,.rd b|.soft a,.soft b|.soft a,.wr b|.wr a,.soft b|.wr a,.wr b=>meets a b
def dS.wr:dS->List Nat
 |.mv true x=>x.tmps
 |.store _ _ _ x=>x.tmps
 |.append _ _ _ _ x _=>x.tmps
 |_=>[]
def bl.reads(o:bl):List Nat:=o.op.rd++(match o.guard with|some (t,_)=>[t]|none=>[])
def bl.writes(o:bl):List Nat:=o.dst.toList++o.op.wr
def bl.apart(x y:bl):Bool:=
 x.writes.all (λt=>!y.reads.contains t&&!y.writes.contains t)&&y.writes.all (λt=>!x.reads.contains t)&&!x.op.acc.conflict y.op.acc
section
variable{P:Program}{GI:World->Prop}
def jZ(P:Program)(GI:World->Prop)(op:dS)(dst:Option Nat)(S:af)(H:ah)(e:aD):Prop:=
 match op with
 |.alloc _ _=>match dst with
  |some d=>e={ v:=.box d 0 }
  |none=>False
 |.call f args=>(args.any λy=>bR (ev S y))=false/\jB P GI f (args.map λy=>fz H (ev S y)) (args.any λy=>bR (ev S y)) (λv=>e={ v:=v }) (λ_=>False)
 |.gR f args=>match ev S f with
  |.func (.func k) first cap=>((first++args.map (ev S)++cap).any bR)=false/\jB P GI k ((first++args.map (ev S)++cap).map (fz H)) ((first++args.map (ev S)++cap).any bR) (λv=>e={ v:=v }) (λ_=>False)
  |_=>False
 |.box ..|.panic _|.other=>False
 |op=>ao S H op=some e
def fL(P:Program)(GI:World->Prop)(op:dS)(dst:Option Nat)(K:af->ah->Prop)(S:af)(H:ah):Prop:=
 match op with
 |.alloc _ _=>match dst with
  |some d=>K (aq S d (.box d 0)) H
  |none=>False
 |.box ..|.panic _|.other=>False
 |.call f args=>(args.any λy=>bR (ev S y))=false/\aM P GI (.call f args) dst K (λ_=>False) S H
 |.gR f args=>(match ev S f with|.func _ first cap=>(first++args.map (ev S)++cap).any bR|_=>true)=false/\aM P GI (.gR f args) dst K (λ_=>False) S H
 |op=>aM P GI op dst K (λ_=>False) S H
def sr{op:dS}{dst:Option Nat}{K:af->ah->Prop}{S:af}{H:ah}(h:fL P GI op dst K S H):∃e,jZ P GI op dst S H e/\K (e.S S dst) (e.H H):=by
 cases op
 case alloc t z=>
  cases dst with
  |none=>exact h.elim
  |some d=>exact⟨_,rfl,h⟩
 case call f args=>
  obtain⟨hb,out,h1,h2,h3,h4⟩:=h
  cases out with
  |ret v=>exact⟨{ v:=v },⟨hb,.ret v,h1,h2,h3,rfl⟩,h4⟩
  |panic v=>exact h4.elim
 case gR f args=>
  simp only[fL,aM]at h;simp only[jZ];obtain⟨hb,h⟩:=h;split at h
  .rename_i k first cap hf;rw[hf]at hb;obtain⟨out,h1,h2,h3,h4⟩:=h
   cases out with
   |ret v=>exact⟨{ v:=v },by(try simp only[hf]);exact⟨hb,.ret v,h1,h2,h3,rfl⟩,h4⟩
   |panic v=>exact h4.elim
  .exact h.elim
 case box=>exact h.elim
 case panic=>exact h.elim
 case other=>exact h.elim
 all_goals
  simp only[fL,aM]at h;split at h
  case h_2=>exact h.elim
  rename_i e he;exact⟨e,he,h⟩
def dc(P:Program)(GI:World->Prop):List bl->(af->ah->Prop)->af->ah->Prop
 |[],K,S,H=>K S H
 |o::rest,K,S,H=>match ar S o.guard with
  |some true=>fL P GI o.op o.dst (dc P GI rest K) S H
  |some false=>dc P GI rest K (aH S o.dst bG) H
  |none=>False
def dU(P:Program)(GI:World->Prop)(o:bl)(S:af)(H:ah)(e:aD):Prop:=
 match ar S o.guard with
 |some true=>jZ P GI o.op o.dst S H e
 |some false=>e={ v:=bG }
 |none=>False
def rl {o:bl} {rest:List bl} {K:af→ah→Prop} {S:af} {H:ah} (h:dc P GI (o::rest) K S H) :
  ∃e,dU P GI o S H e/\dc P GI rest K (e.S S o.dst) (e.H H):=by
 simp only[dc]at h;unfold dU;split at h
 .exact sr h
 .exact⟨_,rfl,h⟩
 .exact h.elim
def bt{S S':af}{y:cm}(h:∀t∈y.tmps,S t=S' t):ev S y=ev S' y:=by
 cases y with
 |t k=>exact h k (by simp[cm.tmps])
 |c v=>rfl
 |f k=>rfl
 |m k SP=>simp only[ev,h k (by simp[cm.tmps])]
def uG{S S':af}{ys:List cm}(h:∀y∈ys,∀t∈y.tmps,S t=S' t):ys.map (ev S)=ys.map (ev S'):=
 List.map_congr_left λy hy=>bt (h y hy)
def tD:Acc->ah->ah->Prop
 |.no,_,_=>True
 |.rd none,H,H'=>∀i,(H i).map (·.map AV.aA)=(H' i).map (·.map AV.aA)
 |.rd (some r),H,H'=>(H r).map (·.map AV.aA)=(H' r).map (·.map AV.aA)
 |.soft none,H,H'|.wr none,H,H'=>H=H'
 |.soft (some r),H,H'|.wr (some r),H,H'=>H r=H' r
def IW{ag:Bool}{size off:Nat}{cs cs':List AV}(h:cs.map AV.aA=cs'.map AV.aA):aZ ag size (cs.drop off)=aZ ag size (cs'.drop off):=by
 have hl:cs.length=cs'.length:=by have:=congrArg List.length h;simpa using this
 have hd:(cs.drop off).map AV.aA=(cs'.drop off).map AV.aA:=by rw[List.map_drop,List.map_drop,h]
 generalize hx:cs.drop off=xs at hd;generalize hy:cs'.drop off=ys at hd
 have oY:xs.length=ys.length:=by have:=congrArg List.length hd;simpa using this
 unfold aZ
 have e1:(xs.take size).map AV.aA=(ys.take size).map AV.aA:=by rw[List.map_take,List.map_take,hd]
 have e2:(xs[0]?).map AV.aA=(ys[0]?).map AV.aA:=by
  have:=congrArg (·[0]?) hd;simpa using this
 rw[e1,e2,oY]
def E0{S S':af}{H H':ah}{op:dS}(hS:∀t∈op.rd,S t=S' t)(hH:tD op.acc H H'):ao S H op=ao S' H' op:=by
 cases op
 case build z ps=>
  have:(ps.map λ(o,s,x)=>(o,s,ev S x))=(ps.map λ(o,s,x)=>(o,s,ev S' x)):=
   List.map_congr_left λq hq=>by
    have:=bt (S:=S) (S':=S') (y:=q.2.2) λt ht=>hS t (List.mem_flatMap.2 ⟨q,hq,ht⟩)
    simp[this]
  simp only[ao,this]
 case buildSlice t e s ps=>
  have:=uG (S:=S) (S':=S') (ys:=ps) λy hy t ht=>hS t (List.mem_flatMap.2 ⟨y,hy,ht⟩)
  simp only[ao,this]
 case BQ fn f c=>
  simp only[dS.rd,List.mem_append,List.mem_flatMap]at hS
  have h1:(f.map λx=>(ev S x).aA)=(f.map λx=>(ev S' x).aA):=List.map_congr_left λy hy=>by rw[bt λt ht=>hS t (.inl ⟨y,hy,ht⟩)]
  have h2:(c.map λx=>(ev S x).aA)=(c.map λx=>(ev S' x).aA):=List.map_congr_left λy hy=>by rw[bt λt ht=>hS t (.inr ⟨y,hy,ht⟩)]
  simp only[ao,h1,h2]
 case mO x lo hi=>
  simp only[dS.rd,List.mem_append,List.mem_flatMap]at hS
  have h0:=bt (S:=S) (S':=S') (y:=x) λt ht=>hS t (.inl ht)
  have h1:lo.map (ev S)=lo.map (ev S'):=by cases lo with|none=>rfl|some y=>simp only[Option.map_some,Option.some.injEq];exact bt λt ht=>hS t (.inr ⟨y,.inl (by simp),ht⟩)
  have h2:hi.map (ev S)=hi.map (ev S'):=by cases hi with|none=>rfl|some y=>simp only[Option.map_some,Option.some.injEq];exact bt λt ht=>hS t (.inr ⟨y,.inr (by simp),ht⟩)
  simp only[ao,h0,h1,h2]
 case lZ s x lo hi=>
  simp only[dS.rd,List.mem_append,List.mem_flatMap]at hS
  have h0:=bt (S:=S) (S':=S') (y:=x) λt ht=>hS t (.inl ht)
  have h1:lo.map (ev S)=lo.map (ev S'):=by cases lo with|none=>rfl|some y=>simp only[Option.map_some,Option.some.injEq];exact bt λt ht=>hS t (.inr ⟨y,.inl (by simp),ht⟩)
  have h2:hi.map (ev S)=hi.map (ev S'):=by cases hi with|none=>rfl|some y=>simp only[Option.map_some,Option.some.injEq];exact bt λt ht=>hS t (.inr ⟨y,.inr (by simp),ht⟩)
  simp only[ao,h0,h1,h2]
 case load hr ag s x=>
  have e:=bt (S:=S) (S':=S') (y:=x) hS;simp only[ao,e];split
  .rename_i i off he;split
   case isFalse=>rfl
   rename_i bB
   have hd:(H i).map (·.map AV.aA)=(H' i).map (·.map AV.aA):=by
    cases hr with
    |any=>exact hH i
    |ref=>cases bB
    |box r=>
     have:i=r:=by simpa[HR.okB]using bB
     subst this;exact hH
   cases h1:H i<;>cases h2:H' i<;>rw[h1,h2]at hd<;>simp only[Option.map_none,Option.map_some,reduceCtorEq,Option.some.injEq]at hd
   .simp only[IW hd]
  .rfl
  .rfl
 case loadT hr x=>
  have e:=bt (S:=S) (S':=S') (y:=x) hS;simp only[ao,e];split
  .rename_i i off he;split
   case isFalse=>rfl
   rename_i bB
   have hd:H i=H' i:=by
    cases hr with
    |any=>cases(show H=H' from hH);rfl
    |ref=>cases bB
    |box r=>
     have:i=r:=by simpa[HR.okB]using bB
     subst this;exact hH
   rw[hd]
  .rfl
 case store hr s x y=>
  simp only[dS.rd,List.mem_append]at hS
  have e1:=bt (S:=S) (S':=S') (y:=x) λt ht=>hS t (.inl ht)
  have e2:=bt (S:=S) (S':=S') (y:=y) λt ht=>hS t (.inr ht)
  simp only[ao,e1,e2];split
  .rename_i i off he;split
   case isFalse=>rfl
   rename_i bB
   have hd:H i=H' i:=by
    cases hr with
    |any=>cases(show H=H' from hH);rfl
    |ref=>cases bB
    |box r=>
     have:i=r:=by simpa[HR.okB]using bB
     subst this;exact hH
   rw[hd]
  .rfl
 case pick x y z=>
  simp only[dS.rd,List.mem_append]at hS;simp only[ao,bt λt ht=>hS t (.inl (.inl ht)),bt λt ht=>hS t (.inl (.inr ht)),bt λt ht=>hS t (.inr ht)]
 case bin=>simp only[dS.rd,List.mem_append]at hS;simp only[ao,bt λt ht=>hS t (.inl ht),bt λt ht=>hS t (.inr ht)]
 case zS=>simp only[dS.rd,List.mem_append]at hS;simp only[ao,bt λt ht=>hS t (.inl ht),bt λt ht=>hS t (.inr ht)]
 case eqs=>simp only[dS.rd,List.mem_append]at hS;simp only[ao,bt λt ht=>hS t (.inl ht),bt λt ht=>hS t (.inr ht)]
 case mM xs=>
  have:=uG (S:=S) (S':=S') (ys:=xs) λy hy t ht=>hS t (List.mem_flatMap.2 ⟨y,hy,ht⟩)
  simp only[ao,this]
 case mL=>simp only[dS.rd,List.mem_append]at hS;simp only[ao,bt λt ht=>hS t (.inl ht),bt λt ht=>hS t (.inr ht)]
 case mN=>simp only[dS.rd,List.mem_append]at hS;simp only[ao,bt λt ht=>hS t (.inl ht),bt λt ht=>hS t (.inr ht)]
 case lookup=>simp only[dS.rd,List.mem_append]at hS;simp only[ao,bt λt ht=>hS t (.inl ht),bt λt ht=>hS t (.inr ht)]
 case indexAddr=>simp only[dS.rd,List.mem_append]at hS;simp only[ao,bt λt ht=>hS t (.inl ht),bt λt ht=>hS t (.inr ht)]
 case mK=>simp only[dS.rd,List.mem_append]at hS;simp only[ao,bt λt ht=>hS t (.inl ht),bt λt ht=>hS t (.inr ht)]
 case append=>simp only[dS.rd,List.mem_append]at hS;simp only[ao,bt λt ht=>hS t (.inl ht),bt λt ht=>hS t (.inr ht)]
 case max=>simp only[dS.rd,List.mem_append]at hS;simp only[ao,bt λt ht=>hS t (.inl ht),bt λt ht=>hS t (.inr ht)]
 case min=>simp only[dS.rd,List.mem_append]at hS;simp only[ao,bt λt ht=>hS t (.inl ht),bt λt ht=>hS t (.inr ht)]
 all_goals first
  |rfl
  |simp only[ao,bt hS]
def zB{H H':ah}{v:AV}(h:mG v=false):fM H v=fM H' v:=by cases v<;>first|rfl|cases h
def wu{H H':ah}{v:AV}(h:bR v=false):fz H v=fz H' v:=by
 cases v<;>first|rfl|skip
 case box=>cases h
 case func fn first cap=>
  simp only[bR,Bool.or_eq_false_iff,List.any_eq_false,Bool.not_eq_true]at h;simp only[fz]
  congr 1
  .exact List.map_congr_left λy hy=>zB (h.1 y hy)
  .exact List.map_congr_left λy hy=>zB (h.2 y hy)
def Fu{S S':af}{H H':ah}{op:dS}{dst:Option Nat}{e:aD}(hS:∀t∈op.rd,S t=S' t)(hH:tD op.acc H H')(h:jZ P GI op dst S H e):jZ P GI op dst S' H' e:=by
 cases op
 case alloc=>exact h
 case box=>exact h
 case panic=>exact h
 case other=>exact h
 case call f args=>
  simp only[dS.rd,List.mem_flatMap]at hS;simp only[jZ]at h⊢;obtain⟨hb,h⟩:=h
  have h2:(args.any λy=>bR (ev S y))=(args.any λy=>bR (ev S' y)):=by
   rw[Bool.eq_iff_iff];simp only[List.any_eq_true]
   constructor
   .rintro⟨y,hy,hb⟩;exact⟨y,hy,by rw[<-bt λt ht=>hS t ⟨y,hy,ht⟩];exact hb⟩
   .rintro⟨y,hy,hb⟩;exact⟨y,hy,by rw[bt λt ht=>hS t ⟨y,hy,ht⟩];exact hb⟩
  have h1:(args.map λy=>fz H (ev S y))=(args.map λy=>fz H' (ev S' y)):=List.map_congr_left λy hy=>by
   rw[<-bt λt ht=>hS t ⟨y,hy,ht⟩];simp only[List.any_eq_false,Bool.not_eq_true]at hb;exact wu (hb y hy)
  rw[<-h1,<-h2];exact⟨hb,h⟩
 case gR f args=>
  simp only[dS.rd,List.mem_append,List.mem_flatMap]at hS;simp only[jZ]at h⊢
  have h1:=uG (S:=S) (S':=S') (ys:=args) λy hy t ht=>hS t (.inr ⟨y,hy,ht⟩)
  rw[<-bt λt ht=>hS t (.inl ht)];split at h
  case h_2=>exact h.elim
  obtain⟨hb,h⟩:=h;rw[<-h1];refine⟨hb,?_⟩
  have h3:∀l:List AV,l.any bR=false->l.map (fz H)=l.map (fz H'):=λl hl=>List.map_congr_left λy hy=>by
   simp only[List.any_eq_false,Bool.not_eq_true]at hl;exact wu (hl y hy)
  rw[<-h3 _ hb];exact h
 all_goals
  simp only[jZ]at h⊢;rw[<-E0 hS hH];exact h
def aD.sT{e:aD}{S:af}{dst:Option Nat}{t:Nat}(h1:dst≠some t)(h2:e.dm≠some t):e.S S dst t=S t:=by
 unfold aD.S
 cases dst with
 |none=>
  cases hd:e.dm with
  |none=>rfl
  |some k=>simp only[aH];exact aG _ _ (λh=>h2 (by rw[hd,h]))
 |some d=>
  simp only[aH];rw[aG _ _ (λh=>h1 (by rw[h]))]
  cases hd:e.dm with
  |none=>rfl
  |some k=>exact aG _ _ (λh=>h2 (by rw[hd,h]))
def Ak(acc:Acc)(H:ah):Option (Nat×List AV)->Prop
 |none=>True
 |some (i,cs)=>match acc with
  |.soft r=>meets r (some i)=true/\∃old,H i=some old/\old.map AV.aA=cs.map AV.aA
  |.wr r=>meets r (some i)=true
  |_=>False
def zA{hr:HR}{i:Nat}(h:hr.okB i=true):meets hr.one (some i)=true:=by
 cases hr with
 |any=>rfl
 |ref=>cases h
 |box r=>simp only[HR.okB]at h;simp only[HR.one,meets];rw[beq_iff_eq]at h⊢;exact h.symm
def gI(v:AV):v.aA=v.aA.aA:=(AV.idem v).symm
def Ls{S:af}{H:ah}{op:dS}{e:aD}(h:ao S H op=some e):(∀t,e.dm=some t->t∈op.wr)/\Ak op.acc H e.hw:=by
 cases op
 case mv tk x=>
  simp only[ao]at h
  split at h<;>cases h
  .rename_i ng;subst ng;refine⟨λt ht=>?_,trivial⟩
   cases x<;>simp only[a_]at ht<;>cases ht
   simp[dS.wr,cm.tmps]
  .exact⟨λt ht=>(by cases ht),trivial⟩
 case store hr s x y=>
  simp only[ao]at h
  split at h<;>try cases h
  split at h<;>try cases h
  split at h<;>try cases h
  split at h<;>cases h
  rename_i bB _ _ _ _;refine⟨λt ht=>?_,zA (by assumption)⟩
  cases y<;>simp only[a_]at ht<;>cases ht
  simp[dS.wr,cm.tmps]
 case loadT hr x=>
  simp only[ao]at h
  split at h<;>try cases h
  split at h<;>try cases h
  split at h<;>try cases h
  split at h<;>cases h
  refine⟨λt ht=>(by cases ht),zA (by assumption),_,by assumption,?_⟩;rename_i cs lS _ v hv;rw[List.map_set];obtain⟨av,rfl⟩:=List.getElem?_eq_some_iff.1 hv;apply List.ext_getElem (by simp);intro j h1 h2;rw[List.getElem_set];split
  .rename_i hj;subst hj;simp only[List.getElem_map];exact gI _
  .rfl
 case append t e s b x y=>
  simp only[ao]at h;split at h
  .split at h<;>cases h
   exact⟨λt ht=>(by cases ht),trivial⟩
  .split at h<;>cases h
   refine⟨λt ht=>?_,trivial⟩
   cases x<;>simp only[a_]at ht<;>cases ht
   simp[dS.wr,cm.tmps]
  .cases h
 all_goals
  simp only[ao]at h
  first
   |(cases h;done)
   |(simp only[Option.map_eq_some_iff]at h;obtain⟨_,_,rfl⟩:=h;exact⟨λt ht=>(by cases ht),trivial⟩)
   |((repeat' split at h)<;>first|(cases h;done)|(cases h;exact⟨λt ht=>(by cases ht),trivial⟩)|(simp only[Option.map_eq_some_iff]at h;obtain⟨_,_,rfl⟩:=h;exact⟨λt ht=>(by cases ht),trivial⟩))
def G6{S:af}{H:ah}{op:dS}{dst:Option Nat}{e:aD}(h:jZ P GI op dst S H e):(∀t,e.dm=some t->t∈op.wr)/\Ak op.acc H e.hw:=by
 cases op
 case alloc=>
  simp only[jZ]at h;split at h
  .subst h;exact⟨λt ht=>(by cases ht),trivial⟩
  .exact h.elim
 case box=>exact h.elim
 case panic=>exact h.elim
 case other=>exact h.elim
 case call f args=>
  obtain⟨_,out,_,_,_,h4⟩:=h
  cases out with
  |ret v=>cases(show e=_ from h4);exact⟨λt ht=>(by cases ht),trivial⟩
  |panic v=>exact h4.elim
 case gR f args=>
  simp only[jZ]at h;split at h
  .obtain⟨_,out,_,_,_,h4⟩:=h
   cases out with
   |ret v=>cases(show e=_ from h4);exact⟨λt ht=>(by cases ht),trivial⟩
   |panic v=>exact h4.elim
  .exact h.elim
 all_goals exact Ls h
def eW{S:af}{H:ah}{o:bl}{e:aD}(h:dU P GI o S H e):(∀t,e.dm=some t->t∈o.op.wr)/\Ak o.op.acc H e.hw:=by
 unfold dU at h;split at h
 .exact G6 h
 .subst h;exact⟨λt ht=>(by cases ht),trivial⟩
 .exact h.elim
def sC{S S':af}{gd:Option (Nat×Bool)}(h:∀t b,gd=some (t,b)->S t=S' t):ar S gd=ar S' gd:=by
 cases gd with
 |none=>rfl
 |some p=>obtain⟨t,b⟩:=p;simp only[ar,h t b rfl]
def tM{S S':af}{H H':ah}{o:bl}{e:aD}(hS:∀t∈o.reads,S t=S' t)(hH:tD o.op.acc H H')(h:dU P GI o S H e):dU P GI o S' H' e:=by
 unfold dU at*
 have hg:ar S o.guard=ar S' o.guard:=sC λt b Av=>hS t (by simp[bl.reads,Av])
 rw[<-hg];split at h
 .exact Fu (λt ht=>hS t (by simp[bl.reads,ht])) hH h
 .exact h
 .exact h
def Ap(a b:Acc):a.conflict b=b.conflict a:=by
 cases a<;>cases b<;>simp only[Acc.conflict]<;>(rename_i x y;cases x<;>cases y<;>simp only[meets];rw[Bool.eq_iff_iff,beq_iff_eq,beq_iff_eq];exact eq_comm)
def apart_spec {x y:bl} (h:x.apart y=true) :
  (∀t∈x.writes,t∉y.reads/\t∉y.writes)/\(∀t∈y.writes,t∉x.reads)/\x.op.acc.conflict y.op.acc=false:=by
 simp only[bl.apart,Bool.and_eq_true,List.all_eq_true,Bool.not_eq_true']at h;obtain⟨⟨h1,h2⟩,h3⟩:=h;refine⟨λt ht=>?_,λt ht=>?_,h3⟩
 .have:=h1 t ht;simpa using this
 .have:=h2 t ht;simpa using this
def zt{x y:Acc}(hc:x.conflict y=false){e:aD}{H:ah}(hw:Ak y H e.hw):tD x H (e.H H):=by
 have refl:∀{H':ah},H=H'->tD x H H':=by
  rintro _ rfl
  cases x with
  |no=>trivial
  |rd r=>cases r<;>simp[tD]
  |soft r=>cases r<;>simp[tD]
  |wr r=>cases r<;>simp[tD]
 unfold aD.H
 cases hh:e.hw with
 |none=>exact refl rfl
 |some p=>
  obtain⟨i,cs⟩:=p;rw[hh]at hw;simp only
  cases x with
  |no=>trivial
  |rd r=>
   cases y with
   |no=>exact hw.elim
   |rd=>exact hw.elim
   |soft q=>
    obtain⟨_,old,h1,h2⟩:=hw
    have key:∀j,(H j).map (·.map AV.aA)=(aq H i (some cs) j).map (·.map AV.aA):=by
     intro j
     by_cases hj:j=i
     .subst hj;rw[aJ,h1];simp[h2]
     .rw[aG _ _ hj]
    cases r with
    |none=>exact key
    |some r=>exact key r
   |wr q=>
    cases r with
    |none=>cases q<;>simp[Acc.conflict,meets]at hc
    |some r=>
     cases q with
     |none=>simp[Acc.conflict,meets]at hc
     |some q=>
      simp only[Acc.conflict,meets,beq_eq_false_iff_ne]at hc
      have hq:q=i:=by simpa[Ak,meets]using hw
      subst hq;simp only[tD];rw[aG _ _ hc]
  |soft r=>
   have bQ:∀q,meets q (some i)=true->meets r q=false->∃r',r=some r'/\r'≠i:=by
    intro q h1 h2
    cases r with
    |none=>cases q<;>simp[meets]at h2
    |some r=>
     cases q with
     |none=>simp[meets]at h2
     |some q=>
      simp only[meets,beq_iff_eq,beq_eq_false_iff_ne]at h1 h2;exact⟨r,rfl,by rw[<-h1];exact h2⟩
   cases y with
   |no=>exact hw.elim
   |rd=>exact hw.elim
   |soft q=>
    obtain⟨r',rfl,hn⟩:=bQ q hw.1 hc;simp only[tD];rw[aG _ _ hn]
   |wr q=>
    obtain⟨r',rfl,hn⟩:=bQ q hw hc;simp only[tD];rw[aG _ _ hn]
  |wr r=>
   have bQ:∀q,meets q (some i)=true->meets r q=false->∃r',r=some r'/\r'≠i:=by
    intro q h1 h2
    cases r with
    |none=>cases q<;>simp[meets]at h2
    |some r=>
     cases q with
     |none=>simp[meets]at h2
     |some q=>
      simp only[meets,beq_iff_eq,beq_eq_false_iff_ne]at h1 h2;exact⟨r,rfl,by rw[<-h1];exact h2⟩
   cases y with
   |no=>exact hw.elim
   |rd=>exact hw.elim
   |soft q=>
    obtain⟨r',rfl,hn⟩:=bQ q hw.1 hc;simp only[tD];rw[aG _ _ hn]
   |wr q=>
    obtain⟨r',rfl,hn⟩:=bQ q hw hc;simp only[tD];rw[aG _ _ hn]
def tD.symm{x:Acc}{H H':ah}(h:tD x H H'):tD x H' H:=by
 cases x with
 |no=>trivial
 |rd r=>cases r with
  |none=>exact λi=>(h i).symm
  |some r=>exact Eq.symm h
 |soft r=>cases r<;>exact Eq.symm h
 |wr r=>cases r<;>exact Eq.symm h
def eT{o:bl}{t:Nat}(h:o.dst=some t\/t∈o.op.wr):t∈o.writes:=by
 rcases h with h|h<;>simp[bl.writes,h]
def qv{x y:bl}{S:af}{H:ah}{ex ey:aD}(ha:x.apart y=true)(hy:dU P GI y S H ey)(hx:dU P GI x S H ex):dU P GI x (ey.S S y.dst) (ey.H H) ex:=by
 obtain⟨h1,h2,h3⟩:=apart_spec ha;obtain⟨d1,d2⟩:=eW hy;refine tM (λt ht=>?_) (zt h3 d2) hx;rw[aD.sT (λh=>h2 t (eT (.inl h)) ht) (λh=>h2 t (eT (.inr (d1 t h))) ht)]
def qx{x y:bl}{S:af}{H:ah}{ex ey:aD}(ha:x.apart y=true)(hx:dU P GI x S H ex)(hy:dU P GI y (ex.S S x.dst) (ex.H H) ey):dU P GI y S H ey:=by
 obtain⟨h1,h2,h3⟩:=apart_spec ha;obtain⟨d1,d2⟩:=eW hx;refine tM (λt ht=>?_) (zt (by rw[Ap];exact h3) d2).symm hy;rw[aD.sT (λh=>(h1 t (eT (.inl h))).1 ht) (λh=>(h1 t (eT (.inr (d1 t h)))).1 ht)]
def aD.YM(e:aD)(S:af)(dst:Option Nat)(t:Nat):e.S S dst t=if dst=some t then e.v else if e.dm=some t then(S t).aA else S t:=by
 unfold aD.S
 cases dst with
 |none=>
  rw[if_neg (by simp)]
  cases e.dm with
  |none=>rfl
  |some k=>
   simp only[aH,Option.some.injEq]
   by_cases h:k=t
   .subst h;simp[aJ]
   .rw[if_neg h];exact aG _ _ (λhh=>h hh.symm)
 |some d=>
  simp only[aH,Option.some.injEq]
  by_cases hd:d=t
  .subst hd;simp[aJ]
  .rw[if_neg hd,aG _ _ (λhh=>hd hh.symm)]
   cases e.dm with
   |none=>rfl
   |some k=>
    simp only[Option.some.injEq]
    by_cases h:k=t
    .subst h;simp[aJ]
    .rw[if_neg h];exact aG _ _ (λhh=>h hh.symm)
def uO {x y:bl} {S:af} {ex ey:aD} (ha:x.apart y=true) (dx:∀ t,ex.dm=some t→t∈x.op.wr) (dy:∀ t,ey.dm=some t→t∈y.op.wr) :
  ey.S (ex.S S x.dst) y.dst=ex.S (ey.S S y.dst) x.dst:=by
 obtain⟨h1,h2,h3⟩:=apart_spec ha
 funext t
 simp only[aD.YM]
 by_cases hx:x.dst=some t\/ex.dm=some t
 .have Ye:t∈x.writes:=eT (hx.imp id (dx t))
  have Ax:y.dst≠some t:=λh=>(h1 t Ye).2 (eT (.inl h))
  have WA:ey.dm≠some t:=λh=>(h1 t Ye).2 (eT (.inr (dy t h)))
  simp only[if_neg Ax,if_neg WA]
 .simp only[not_or]at hx;simp only[if_neg hx.1,if_neg hx.2]
def uP {x y:bl} {H:ah} {ex ey:aD} (ha:x.apart y=true) (dx:Ak x.op.acc H ex.hw) (dy:Ak y.op.acc H ey.hw) :
  ey.H (ex.H H)=ex.H (ey.H H):=by
 obtain⟨_,_,h3⟩:=apart_spec ha;unfold aD.H
 cases hx:ex.hw with
 |none=>rfl
 |some p=>
  cases hy:ey.hw with
  |none=>rfl
  |some q=>
   obtain⟨i,cs⟩:=p;obtain⟨j,ds⟩:=q;rw[hx]at dx;rw[hy]at dy;simp only
   have bQ:i≠j:=by
    have key:∀a b:Option Nat,meets a (some i)=true->meets b (some j)=true->meets a b=false->i≠j:=by
     intro a b h1 h2 h3
     cases a with
     |none=>cases b<;>simp[meets]at h3
     |some a=>
      cases b with
      |none=>simp[meets]at h3
      |some b=>
       simp only[meets,beq_iff_eq,beq_eq_false_iff_ne]at h1 h2 h3;rw[<-h1,<-h2];exact h3
    generalize x.op.acc=ax at dx h3;generalize y.op.acc=ay at dy h3
    cases ax<;>cases ay<;>first|(exact dx.elim)|(exact dy.elim)|skip
    .exact key _ _ dx.1 dy.1 h3
    .exact key _ _ dx.1 dy h3
    .exact key _ _ dx dy.1 h3
    .exact key _ _ dx dy h3
   funext k
   by_cases h1:k=i
   .subst h1;rw[aG _ _ bQ,aJ,aJ]
   .by_cases h2:k=j
    .subst h2;rw[aJ,aG _ _ h1,aJ]
    .rw[aG _ _ h2,aG _ _ h1,aG _ _ h1,aG _ _ h2]
end
section
variable{P:Program}{GI:World->Prop}{md:Region.Mode}{ops:Array Oper}{n:Nat}
def iv(P:Program)(n:Nat)(ops:Array Oper)(i:Nat):Option bl:=(ops[i]?).map (bb P n true ops)
def Fl(P:Program)(GI:World->Prop)(n:Nat)(ops:Array Oper)(i:Nat)(K:af->ah->Prop)(S:af)(H:ah):Prop:=
 match iv P n ops i with
 |none=>False
 |some o=>∃e,dU P GI o S H e/\K (e.S S o.dst) (e.H H)
def uY(P:Program)(GI:World->Prop)(n:Nat)(md:Region.Mode)(ops:Array Oper)(QA:af->ah->Prop):Nat->Array Bool->af->ah->Prop
 |0,listed,S,H=>Region.ready md ops listed=[]/\QA S H
 |fuel+1,listed,S,H=>(Region.ready md ops listed=[]->QA S H)/\∀i∈Region.ready md ops listed,Fl P GI n ops i (uY P GI n md ops QA fuel (listed.setIfInBounds i true)) S H
def tS{listed:Array Bool}{i:Nat}(h:i∈Region.ready md ops listed):∃o,ops[i]?=some o/\iv P n ops i=some (bb P n true ops o):=by
 obtain⟨_,o,ho,_⟩:=mem_ready.1 h;exact⟨o,ho,by simp[iv,ho]⟩
def GY {QA:af→ah→Prop} {i:Nat} {oi:bl} {e:aD} (hi:iv P n ops i=some oi) :
  ∀(fuel:Nat)(listed:Array Bool)(S:af)(H:ah),
   (∀j o aj,ops[j]?=some o->iv P n ops j=some aj->j≠i->listed.getD j true=false->(∀ed∈o.after,Region.binds md ed=true->ed.on≠i)->oi.apart aj=true)->
   i∈Region.ready md ops listed->dU P GI oi S H e->
   uY P GI n md ops QA fuel (listed.setIfInBounds i true) (e.S S oi.dst) (e.H H)->uY P GI n md ops QA (fuel+1) listed S H:=by
 intro fuel
 induction fuel with
 |zero=>
  intro listed S H _ hr hy hK;refine⟨λh=>(by rw[h]at hr;cases hr),λj hj=>?_⟩
  by_cases eE:j=i
  .subst eE;unfold Fl;rw[hi];exact⟨e,hy,hK⟩
  .have:=ready_mono hj eE;rw[hK.1]at this;cases this
 |succ fuel ih=>
  intro listed S H oT hr hy hK;refine⟨λh=>(by rw[h]at hr;cases hr),λj hj=>?_⟩
  by_cases eE:j=i
  .subst eE;unfold Fl;rw[hi];exact⟨e,hy,hK⟩
  .have h1:=hK.2 j (ready_mono hj eE);obtain⟨vg,o,ho,eD⟩:=mem_ready.1 hj
   have qg:iv P n ops j=some (bb P n true ops o):=by simp[iv,ho]
   have AG:∀ed∈o.after,Region.binds md ed=true->ed.on≠i:=λed OJ hb heq=>by
    have h1:=eD ed OJ hb;have h0:=(mem_ready.1 hr).1;rw[heq]at h1;rcases Nat.lt_or_ge i listed.size with h'|h'
    .simp[h']at h0 h1;rw[h0]at h1;cases h1
    .simp[Array.getElem?_eq_none h']at h1
   have j4:=oT j o _ ho qg eE vg AG;unfold Fl at h1⊢;rw[qg]at h1⊢;obtain⟨ej,Bv,L0⟩:=h1;have rZ:=qx j4 hy Bv;refine⟨ej,rZ,?_⟩
   have tz:∀k o' ak,ops[k]?=some o'->iv P n ops k=some ak->k≠i->(listed.setIfInBounds j true).getD k true=false->(∀ed∈o'.after,Region.binds md ed=true->ed.on≠i)->oi.apart ak=true:=by
    intro k o' ak hk It yp eI dZ;refine oT k o' ak hk It yp ?_ dZ
    by_cases yz:j=k
    .subst yz;exact vg
    .rw[getD_set_ne true yz]at eI;exact eI
   refine ih (listed.setIfInBounds j true) _ _ tz (ready_mono hr (Ne.symm eE)) (qv j4 rZ hy) ?_;rw[Array.setIfInBounds_comm _ _ eE];rw[<-uO j4 (eW hy).1 (eW Bv).1,<-uP j4 (eW hy).2 (eW rZ).2];exact L0
def D6(md:Region.Mode)(ops:Array Oper)(al:List bl)(listed:Array Bool)(i:Nat):Bool:=
 match al[i]? with
 |none=>false
 |some oi=>(List.range ops.size).all fun j=>j==i || listed.getD j true || match ops[j]?,al[j]? with
   |some oj,some aj=>oj.after.any (λe=>Region.binds md e&&e.on==i)||oi.apart aj
   |_,_=>true
def Fz(md:Region.Mode)(ops:Array Oper)(al:List bl):Nat->Nat->Array Bool->Bool
 |0,_,listed=>(Region.ready md ops listed).isEmpty
 |fuel+1,k,listed=>(Region.ready md ops listed).contains k&&D6 md ops al listed k&&Fz md ops al fuel (k+1) (listed.setIfInBounds k true)
def eL(i:Nat):(aO P n true ops)[i]?=iv P n ops i:=by simp[aO,iv]
def xT {i:Nat} {oi:bl} {listed:Array Bool} (hi:iv P n ops i=some oi) (h:D6 md ops (aO P n true ops) listed i=true) (j:Nat) (o:Oper) (aj:bl)
  (hj:ops[j]?=some o) (qg:iv P n ops j=some aj) (bQ:j≠i) (eI:listed.getD j true=false) (dZ:∀e∈o.after,Region.binds md e=true->e.on≠i):oi.apart aj=true:=by
 simp only[D6,eL,hi,List.all_eq_true,List.mem_range]at h;have h1:=h j (Array.getElem?_eq_some_iff.1 hj).1;simp only[hj,qg,Bool.or_eq_true,beq_iff_eq,bQ,false_or,eI,Bool.false_eq_true]at h1;rcases h1 with h1|h1
 .obtain⟨e,he,hb⟩:=Array.any_eq_true'.1 h1;simp only[Bool.and_eq_true,beq_iff_eq]at hb;exact absurd hb.2 (dZ e he hb.1)
 .exact h1
def xh {QA:af→ah→Prop}:∀ (l:List Oper) (k:Nat) (listed:Array Bool) (S:af) (H:ah),(∀ j,l[j]? = ops[k+j]?) →
  Fz md ops (aO P n true ops) l.length k listed=true->dc P GI (l.map (bb P n true ops)) QA S H->uY P GI n md ops QA l.length listed S H
 |[],_,_,_,_,_,hB,h=>⟨by simpa[Fz]using hB,h⟩
 |o::l,k,listed,S,H,hl,hB,h=>by
  have h0:ops[k]?=some o:=by simpa using(hl 0).symm
  have ha:iv P n ops k=some (bb P n true ops o):=by simp[iv,h0]
  simp only[List.length_cons,Fz,Bool.and_eq_true]at hB;obtain⟨⟨hr,hf⟩,OU⟩:=hB;obtain⟨e,hy,hK⟩:=rl h
  exact GY ha l.length listed S H (xT ha hf) (by simpa using hr) hy
   (xh l (k+1) _ _ _ (λj=>by have:=hl (j+1);simpa[Nat.add_assoc,Nat.add_comm 1 j]using this) OU hK)
def aU(o:bl):Option (Nat×List AV):=
 match o.op,o.dst with
 |.alloc _ z,some d=>some (d,z)
 |_,_=>none
def UU(P:Program)(n:Nat)(ops:Array Oper)(listed:Array Bool)(t:Nat):Prop:=
 ∃j o z,iv P n ops j=some o/\aU o=some (t,z)/\listed.getD j true=false
def mw(md:Region.Mode)(ops:Array Oper)(al:List bl):Bool:=
 (List.range ops.size).all λj=>match ops[j]?,al[j]? with
  |some oj,some aj=>match aU aj with
   |some (d,_)=>oj.after.isEmpty && aj.guard.isNone && (List.range ops.size).all fun k=>k==j || match ops[k]?,al[k]? with
     |some ok,some ak=>!ak.writes.contains d&&(!ak.reads.contains d||ok.after.any (λe=>Region.binds md e&&e.on==j))
     |_,_=>false
   |none=>true
  |_,_=>false
def j9 (h:mw md ops (aO P n true ops)=true) {j:Nat} {oj:Oper} {aj:bl} {d:Nat} {z:List AV} (hj:ops[j]? = some oj) (qg:iv P n ops j=some aj) (hd:aU aj=some (d,z)) :
  oj.after=#[]/\aj.guard=none/\∀k ok ak,ops[k]?=some ok->iv P n ops k=some ak->k≠j->d∉ak.writes/\(d∈ak.reads->∃e∈ok.after,Region.binds md e=true/\e.on=j):=by
 simp only[mw,List.all_eq_true,List.mem_range]at h;have h1:=h j (Array.getElem?_eq_some_iff.1 hj).1;simp only[hj,eL,qg,hd,Bool.and_eq_true,List.all_eq_true,List.mem_range]at h1;obtain⟨⟨h2,h3⟩,h4⟩:=h1;refine⟨by simpa using h2,by simpa using h3,λk ok ak hk It bQ=>?_⟩;have h5:=h4 k (Array.getElem?_eq_some_iff.1 hk).1;simp only[hk,It,Bool.or_eq_true,beq_iff_eq,bQ,false_or,Bool.and_eq_true,Bool.not_eq_true']at h5;refine⟨by simpa using h5.1,λhd=>?_⟩;rcases h5.2 with h6|h6
 .simp at h6;exact absurd hd h6
 .obtain⟨e,he,hb⟩:=Array.any_eq_true'.1 h6;simp only[Bool.and_eq_true,beq_iff_eq]at hb;exact⟨e,he,hb⟩
def Fj(hA:mw md ops (aO P n true ops)=true){listed:Array Bool}(hr:Region.ready md ops listed=[]):UU P n ops listed=bu:=by
 funext t
 simp only[bu,eq_iff_iff,iff_false];rintro⟨j,o,z,h1,h2,h3⟩;unfold iv at h1
 cases hj:ops[j]? with
 |none=>simp[hj]at h1
 |some oj=>
  have qg:iv P n ops j=some o:=by unfold iv;exact h1
  obtain⟨ha,_,_⟩:=j9 hA hj qg h2;have:j∈Region.ready md ops listed:=mem_ready.2 ⟨h3,oj,hj,λe he=>by rw[ha]at he;simp at he⟩;rw[hr]at this;cases this
def Cg{listed:Array Bool}{i:Nat}{oi:bl}(hi:iv P n ops i=some oi)(dZ:aU oi=none):UU P n ops (listed.setIfInBounds i true)=UU P n ops listed:=by
 funext t
 simp only[UU,eq_iff_iff]
 constructor
 .rintro⟨j,o,z,h1,h2,h3⟩;refine⟨j,o,z,h1,h2,?_⟩
  by_cases eE:i=j
  .subst eE;rw[hi]at h1;cases h1;rw[dZ]at h2;cases h2
  .rwa [getD_set_ne true eE]at h3
 .rintro⟨j,o,z,h1,h2,h3⟩;refine⟨j,o,z,h1,h2,?_⟩
  by_cases eE:i=j
  .subst eE;rw[hi]at h1;cases h1;rw[dZ]at h2;cases h2
  .rwa [getD_set_ne true eE]
def KT (hA:mw md ops (aO P n true ops)=true) {listed:Array Bool} {i d:Nat} {o:Oper} {oi:bl} {z:List AV} (ho:ops[i]? = some o) (hi:iv P n ops i=some oi) (hd:aU oi=some (d,z)) (av:i < listed.size) :
  UU P n ops (listed.setIfInBounds i true)=λt=>UU P n ops listed t/\t≠d:=by
 obtain⟨_,_,jP⟩:=j9 hA ho hi hd
 funext t
 simp only[UU,eq_iff_iff]
 constructor
 .rintro⟨j,oj,z',h1,h2,h3⟩
  have eE:i≠j:=by rintro rfl;simp[av]at h3
  refine⟨⟨j,oj,z',h1,h2,by rwa [getD_set_ne true eE]at h3⟩,?_⟩;rintro rfl
  have hj:∃o',ops[j]?=some o':=by
   unfold iv at h1
   cases hj:ops[j]? with
   |none=>simp[hj]at h1
   |some o'=>exact⟨o',rfl⟩
  obtain⟨o',hj⟩:=hj;have:=(jP j o' oj hj h1 (Ne.symm eE)).1;apply this;unfold aU at h2;split at h2
  .rename_i gJ;simp only[Option.some.injEq,Prod.mk.injEq]at h2;rw[h2.1]at gJ;exact eT (.inl gJ)
  .cases h2
 .rintro⟨⟨j,oj,z',h1,h2,h3⟩,bQ⟩
  have eE:i≠j:=by
   rintro rfl;rw[hi]at h1;cases h1;rw[hd]at h2;simp only[Option.some.injEq,Prod.mk.injEq]at h2;exact bQ h2.1.symm
  exact⟨j,oj,z',h1,h2,by rwa [getD_set_ne true eE]⟩
end
section
variable{P:Program}{GI:World->Prop}{w0:World}{n:Nat}{U:Nat->Prop}{g:Gh}{S:af}{H:ah}{a:Act}{w:World}{ops:Array Oper}
def GB{dr:Bool}{o:bl}{x:Oper}{hr:HR}{size:Nat}{y z:cm}(hc:bb P n dr ops x=o)(h:o.op=.store hr size y z):∃x',du n x'=some y:=by
 subst hc;unfold bb at h;revert h;generalize(match x.dst with|some d=>taken ops d|none=>false)=tk;intro h;simp only at h;unfold comp at h
 repeat' split at h
 all_goals first
  |(cases h;done)
  |(cases h;exact⟨_,by assumption⟩)
def FF{dr:Bool}{o:bl}{x:Oper}{hr:HR}{y:cm}(hc:bb P n dr ops x=o)(h:o.op=.loadT hr y):∃x',du n x'=some y:=by
 subst hc;unfold bb at h;revert h;generalize(match x.dst with|some d=>taken ops d|none=>false)=tk;intro h;simp only at h;unfold comp at h
 repeat' split at h
 all_goals first
  |(cases h;done)
  |(cases h;exact⟨_,by assumption⟩)
def Sd(R:Rel P w0 n U g S H a w){o:Oper}{dst:Option Nat}{e:aD}(df:∀t∈(bb P n true ops o).op.rd,¬U t)(h:jZ P GI (bb P n true ops o).op dst S H e){i:Nat}{cs:List AV}(hw:e.hw=some (i,cs)):(g.al i).isSome=true:=by
 have Hl:=(G6 h).2;rw[hw]at Hl
 have box:∀{y:cm}{x':Operand}{off:Nat},du n x'=some y->(∀t∈y.tmps,¬U t)->AL.ev S y=.box i off->(g.al i).isSome=true:=by
  intro y x' off hx hu he;have:=R.ev hx hu;rw[he]at this;generalize a.eval x'=c at this
  cases this with
  |data _ _ h=>cases h
  |box _ _ b h=>simp[h]
 generalize hc:(bb P n true ops o).op=op at df h Hl
 cases op<;>try (exact Hl.elim)
 case load hr _ _ _=>cases hr<;>exact Hl.elim
 case loadT hr y=>
  obtain⟨x',hx⟩:=FF rfl hc;simp only[jZ,ao]at h
  cases pZ:AL.ev S y<;>rw[pZ]at h<;>simp only at h<;>try cases h
  rename_i k off;split at h
  case isFalse=>cases h
  split at h
  case h_2=>cases h
  split at h
  case h_2=>cases h
  cases h;cases hw;exact box hx df pZ
 case store hr s y z=>
  obtain⟨x',hx⟩:=GB rfl hc;simp only[dS.rd,List.mem_append]at df;simp only[jZ,ao]at h
  cases pZ:AL.ev S y<;>rw[pZ]at h<;>simp only at h<;>try cases h
  rename_i k off;split at h
  case isFalse=>cases h
  split at h
  case h_2=>cases h
  split at h
  case isFalse=>cases h
  cases h;cases hw;exact box hx (λt ht=>df t (.inl ht)) pZ
def z_{op:dS}(h:op.calm=true){dst:Option Nat}{e:aD}(hd:jZ P GI op dst S H e):ao S H op=some e:=by
 cases op<;>first|exact hd|cases h
def yV (hG:aw GI) (bP:GI w0) {old:Old} {Q:dQ→af→ah→Prop} (hA:mw .any ops (aO P n true ops)=true) (bB:∀ o∈ops,(bb P n true ops o).ok n=true) :
  ∀(fuel:Nat)(listed:Array Bool)(g:Gh)(S:af)(H:ah)(a:Act)(w:World),listed.size=ops.size->g.old=old->Rel P w0 n (UU P n ops listed) g S H a w->
   (∀j o d z,iv P n ops j=some o->aU o=some (d,z)->listed.getD j true=false->S d=.box d 0/\H d=some z)->
   uY P GI n .any ops (Q .normal) fuel listed S H->wpAny P .any ops (QQ P w0 n old Q) fuel listed a w:=by
 intro fuel
 induction fuel with
 |zero=>
  intro listed g S H a w _ ho R _ h;have hU:=Fj hA h.1;rw[hU]at R;exact⟨h.1,g,S,H,ho,R,h.2⟩
 |succ fuel ih=>
  intro listed g S H a w gZ ho R hinv h;refine⟨λhr=>?_,λi hi=>?_⟩
  .have hU:=Fj hA hr;rw[hU]at R;exact⟨g,S,H,ho,R,h.1 hr⟩
  .have hd:=h.2 i hi;obtain⟨o,i_,w_⟩:=tS (P:=P) (n:=n) hi;obtain⟨RF,o',iJ,eD⟩:=mem_ready.1 hi;rw[i_]at iJ;cases iJ
   have My:i<listed.size:=by rw[gZ];exact(Array.getElem?_eq_some_iff.1 i_).1
   unfold Fl at hd;rw[w_]at hd;obtain⟨e,hy,hK⟩:=hd;have rB:=bB o (Array.mem_of_getElem? i_)
   have C3:∀t∈(bb P n true ops o).reads,¬UU P n ops listed t:=by
    rintro t ht ⟨j,aj,z,h1,h2,h3⟩
    have hj:∃oj,ops[j]?=some oj:=by
     unfold iv at h1
     cases hj:ops[j]? with
     |none=>simp[hj]at h1
     |some oj=>exact⟨oj,rfl⟩
    obtain⟨oj,hj⟩:=hj;obtain⟨k1,k2,k3⟩:=j9 hA hj h1 h2
    by_cases eE:i=j
    .subst eE;rw[w_]at h1;cases h1;unfold aU at h2;split at h2
     .rename_i cM _;simp only[bl.reads,cM,k2,dS.rd,List.append_nil]at ht;cases ht
     .cases h2
    .obtain⟨ed,VH,DV,he3⟩:=(k3 i o _ i_ w_ eE).2 ht;have:=eD ed VH DV;rw[he3]at this;rcases Nat.lt_or_ge j listed.size with h'|h'
     .simp[h']at h3 this;rw[h3]at this;cases this
     .simp[Array.getElem?_eq_none h']at this
   have uS:∀j aj d z,iv P n ops j=some aj->aU aj=some (d,z)->j≠i->d∉(bb P n true ops o).writes:=by
    intro j aj d z h1 h2 bQ
    have hj:∃oj,ops[j]?=some oj:=by
     unfold iv at h1
     cases hj:ops[j]? with
     |none=>simp[hj]at h1
     |some oj=>exact⟨oj,rfl⟩
    obtain⟨oj,hj⟩:=hj;exact((j9 hA hj h1 h2).2.2 i o _ i_ w_ (Ne.symm bQ)).1
   have oa:∀t,o.dst=some t->t<n/\t∉(bb P n true ops o).op.rd:=by
    intro t ht;simp only[bl.ok,Bool.and_eq_true]at rB;have h1:=rB.1;rw[show(bb P n true ops o).dst=o.dst from rfl,ht]at h1;simpa using h1
   have Ua:aU (bb P n true ops o)=none->∀t,o.dst=some t->¬UU P n ops listed t:=by
    rintro dZ t ht ⟨j,aj,z,h1,h2,h3⟩
    have bQ:j≠i:=by rintro rfl;rw[w_]at h1;cases h1;rw[dZ]at h2;cases h2
    exact uS j aj t z h1 h2 bQ (eT (.inl ht))
   have M7:(∀ k cs,e.hw=some (k,cs)→(g.al k).isSome=true)→∀ j aj d z,iv P n ops j=some aj→aU aj=some (d,z)→(listed.setIfInBounds i true).getD j true=false →
     e.S S o.dst d=.box d 0/\e.H H d=some z:=by
    intro Hl j aj d z h1 h2 h3
    have bQ:j≠i:=by rintro rfl;simp[My]at h3
    have QU:listed.getD j true=false:=by rwa [getD_set_ne true (Ne.symm bQ)]at h3
    obtain⟨k1,k2⟩:=hinv j aj d z h1 h2 QU;have hw:=uS j aj d z h1 h2 bQ;refine⟨?_,?_⟩
    .show e.S S (bb P n true ops o).dst d=_;rw[aD.sT (λhh=>hw (eT (.inl hh))) (λhh=>hw (eT (.inr ((eW hy).1 d hh))))];exact k1
    .unfold aD.H
     cases hh:e.hw with
     |none=>exact k2
     |some p=>
      obtain⟨k,cs⟩:=p
      have FU:d≠k:=by
       rintro rfl;have:=Hl d cs hh;rw[R.ij d ⟨j,aj,z,h1,h2,QU⟩]at this;cases this
      simp only[aG _ _ FU];exact k2
   have aI:(listed.setIfInBounds i true).size=ops.size:=by simpa using gZ
   unfold wpOp;simp only[i_];unfold dU at hy
   cases tY:ar S (bb P n true ops o).guard with
   |none=>rw[tY]at hy;exact hy.elim
   |some b=>
    rw[qJ R (λt b hg=>C3 t (by simp[bl.reads,hg])) rB tY];rw[tY]at hy
    cases b with
    |false=>
     simp only at hy;subst hy;simp only[Bool.false_eq_true,if_false]
     have dZ:aU (bb P n true ops o)=none:=by
      cases hh:aU (bb P n true ops o)with
      |none=>rfl
      |some p=>
       obtain⟨d,z⟩:=p;have:=(j9 hA i_ w_ hh).2.1;rw[this]at tY;cases tY
     have hU:=Cg w_ dZ (listed:=listed);refine ih _ g _ _ _ _ aI ho ?_ (M7 λ_ _ hh=>by cases hh) hK;rw[hU]
     exact R.aH o.dst _ _ (λt ht=>(oa t ht).1) (.data _ _ (sI _ _)) λ_ _=>trivial
    |true=>
     simp only at hy;simp only[if_true];refine .inl ?_
     have Hl:∀k cs,e.hw=some (k,cs)->(g.al k).isSome=true:=λk cs hh=>Sd R (λt ht=>C3 t (by simp only[bl.reads,List.mem_append];exact .inl ht)) hy hh
     have Om:=M7 Hl
     have next:aU (bb P n true ops o)=none->∀(g':Gh)(a':Act)(w':World),g'.old=g.old->Rel P w0 n (UU P n ops listed) g' (e.S S o.dst) (e.H H) a' w'->wpAny P .any ops (QQ P w0 n old Q) fuel (listed.setIfInBounds i true) a' w':=by
      intro dZ g' a' w' h2 R';refine ih _ g' _ _ _ _ aI (h2.trans ho) ?_ Om hK;rw[Cg w_ dZ];exact R'
     have df:∀t∈(bb P n true ops o).op.rd,¬UU P n ops listed t:=λt ht=>C3 t (by simp only[bl.reads,List.mem_append];exact .inl ht)
     by_cases bn:(bb P n true ops o).op.calm=true
     .have dZ:aU (bb P n true ops o)=none:=by
       unfold aU;split
       .rename_i cM _;rw[cM]at bn;cases bn
       .rfl
      refine(uy R rfl bn (λt ht=>⟨(oa t ht).1,Ua dZ t ht⟩) df (λt ht=>(oa t ht).2) (z_ bn hy)).wp λg' a' w' e1 e2 R'=>next dZ g' a' w' e2 R'
     .generalize cM:(bb P n true ops o).op=op at bn hy df;have sY:comp P n (match o.dst with|some d=>taken ops d|none=>false) (KD ops o) o=op:=cM
      cases op<;>try (exact absurd rfl bn)
      case alloc t cs=>
       simp only[jZ]at hy
       cases gJ:o.dst with
       |none=>rw[show(bb P n true ops o).dst=o.dst from rfl,gJ]at hy;exact hy.elim
       |some d=>
        rw[show(bb P n true ops o).dst=o.dst from rfl,gJ]at hy;simp only at hy;subst hy
        have gE:aU (bb P n true ops o)=some (d,cs):=by
         unfold aU;rw[cM,show(bb P n true ops o).dst=o.dst from rfl,gJ]
        obtain⟨k1,k2⟩:=hinv i _ d cs w_ gE RF;obtain⟨YE,hz⟩:=xm sY;unfold zeroCells at hz;split at hz
        case h_2=>cases hz
        rename_i it my;split at hz
        case h_2=>cases hz
        rename_i z Tt;obtain⟨h1,h2,h3⟩:=gQ g.Pr w hz
        have R2:=R.EW d ⟨i,_,cs,w_,gE,RF⟩ (oa d gJ).1 cs z.cells t k1 k2 (by simpa using h1.1) (λj h h'=>by have:=h1.2.1 j h (by simpa using h');simpa using this)
         (λj hj c_=>⟨h2 _ (List.getElem_mem hj),by have:=h3 P g (.cell d) j hj (by simpa using c_);rwa [Array.getElem_toList]at this⟩) h1.2.2
        have dJ:(execOp a.eval o).run P w=.ok (.value (.pointer (some ⟨w.heap.size,0,none⟩))) (w.alloc (.cells z.cells t)):=by
         unfold execOp;simp[YE,Instr.alloc,zeroValue,typeInfo,my,Tt,newVar,newRow]
        unfold Oper.wp;rw[dJ];show wpAny P .any ops (QQ P w0 n old Q) fuel (listed.setIfInBounds i true) _ _;rw[gJ];rw[<-KT hA i_ w_ gE My]at R2
        have hS:aq S d (.box d 0)=S:=by
         funext t
         by_cases ht:t=d
         .subst ht;rw[aJ,k1]
         .rw[aG _ _ ht]
        have D7:uY P GI n .any ops (Q .normal) fuel (listed.setIfInBounds i true) S H:=by
         have:({ v:=.box d 0 }:aD).S S (bb P n true ops o).dst=S:=by
          rw[show(bb P n true ops o).dst=o.dst from rfl,gJ];exact hS
         rw[this]at hK;exact hK
        refine ih _ { g with al:=aq g.al d (some w.heap.size) } S H _ _ aI ho R2 (λj aj d' z' h1 h2 h3=>?_) D7;have:=Om j aj d' z' h1 h2 h3
        have hSS:({ v:=.box d 0 }:aD).S S o.dst=S:=by rw[gJ];exact hS
        rw[hSS]at this;exact this
      case call f args=>
       have dZ:aU (bb P n true ops o)=none:=by unfold aU;rw[cM]
       exact qk R hG bP sY (λt ht=>⟨(oa t ht).1,Ua dZ t ht⟩) df hy.2 (λv g' a' w' e1 e2 R' hk=>by subst hk;exact next dZ g' a' w' e2 R') (λ_ _ _ _ _ _ _ hf=>hf.elim)
      case gR f args=>
       have dZ:aU (bb P n true ops o)=none:=by unfold aU;rw[cM]
       simp only[jZ]at hy;split at hy
       case h_2=>exact hy.elim
       rename_i k first cap u7;exact sS R hG bP sY (λt ht=>⟨(oa t ht).1,Ua dZ t ht⟩) df u7 hy.2 (λv g' a' w' e1 e2 R' hk=>by subst hk;exact next dZ g' a' w' e2 R') (λ_ _ _ _ _ _ _ hf=>hf.elim)
      case box=>exact hy.elim
      case panic=>exact hy.elim
      case other=>exact hy.elim
def dL:List bl->af->af
 |[],S=>S
 |o::l,S=>match aU o with
  |some (d,_)=>dL l (aq (λt=>aT d (S t)) d (.box d 0))
  |none=>dL l S
def cG:List bl->ah->ah
 |[],H=>H
 |o::l,H=>match aU o with
  |some (d,z)=>cG l (aq H d (some z))
  |none=>cG l H
def cZ(l:List bl):List Nat:=l.filterMap λo=>(aU o).map (·.1)
def Rel.dL:∀ (l:List bl) {U:Nat→Prop} {g:Gh} {S:af} {H:ah},Rel P w0 n U g S H a w→(cZ l).Nodup→(∀ d∈cZ l,¬ g.old.bx d) →
  ∃g',g'.base=g.base/\g'.old=g.old/\Rel P w0 n (λt=>U t\/t∈cZ l) g' (Go.AL.dL l S) (cG l H) a w
 |[],U,g,S,H,R,_,_=>⟨g,rfl,rfl,by simpa[cZ,Go.AL.dL,cG]using R⟩
 |o::l,U,g,S,H,R,hn,bI=>by
  cases ha:aU o with
  |none=>
   have e:cZ (o::l)=cZ l:=by simp[cZ,ha]
   rw[e]at hn bI⊢;simp only[Go.AL.dL,cG,ha];exact Rel.dL l R hn bI
  |some p=>
   obtain⟨d,z⟩:=p
   have e:cZ (o::l)=d::cZ l:=by simp[cZ,ha]
   rw[e]at hn bI⊢;simp only[Go.AL.dL,cG,ha];obtain⟨g',e1,e2,R'⟩:=Rel.dL l (R.suspend d (bI d List.mem_cons_self) (.box d 0) z) (List.nodup_cons.1 hn).2 (λk hk=>bI k (List.mem_cons_of_mem _ hk));refine⟨g',e1,e2,?_⟩
   have:(λt=>U t\/t∈d::cZ l)=(λt=>(U t\/t=d)\/t∈cZ l):=by
    funext t;simp[or_assoc]
   rw[this];exact R'
def rX:∀(l:List bl)(S:af)(d:Nat),d∉cZ l->S d=.box d 0->Go.AL.dL l S d=.box d 0
 |[],S,d,_,h=>h
 |o::l,S,d,hn,h=>by
  cases ha:aU o with
  |none=>simp only[Go.AL.dL,ha];exact rX l S d (by simpa[cZ,ha]using hn) h
  |some p=>
   obtain⟨k,z⟩:=p;simp only[Go.AL.dL,ha]
   have wN:d≠k/\d∉cZ l:=by simpa[cZ,ha]using hn
   refine rX l _ d wN.2 ?_;rw[aG _ _ wN.1,h];simp[aT,wN.1]
def qQ:∀(l:List bl)(H:ah)(d:Nat)(z:List AV),d∉cZ l->H d=some z->cG l H d=some z
 |[],H,d,z,_,h=>h
 |o::l,H,d,z,hn,h=>by
  cases ha:aU o with
  |none=>simp only[cG,ha];exact qQ l H d z (by simpa[cZ,ha]using hn) h
  |some p=>
   obtain⟨k,z'⟩:=p;simp only[cG,ha]
   have wN:d≠k/\d∉cZ l:=by simpa[cZ,ha]using hn
   exact qQ l _ d z wN.2 (by rw[aG _ _ wN.1,h])
def vj:∀(l:List bl)(S:af)(H:ah),(cZ l).Nodup->∀o∈l,∀d z,aU o=some (d,z)->Go.AL.dL l S d=.box d 0/\cG l H d=some z
 |[],S,H,_,o,ho,_,_,_=>by cases ho
 |o'::l,S,H,hn,o,ho,d,z,hd=>by
  rcases List.mem_cons.1 ho with rfl|ho
  .have e:cZ (o::l)=d::cZ l:=by simp[cZ,hd]
   rw[e]at hn;simp only[Go.AL.dL,cG,hd];exact⟨rX l _ d (List.nodup_cons.1 hn).1 (aJ _ _ _),qQ l _ d z (List.nodup_cons.1 hn).1 (aJ _ _ _)⟩
  .cases ha:aU o' with
   |none=>
    have e:cZ (o'::l)=cZ l:=by simp[cZ,ha]
    rw[e]at hn;simp only[Go.AL.dL,cG,ha];exact vj l S H hn o ho d z hd
   |some p=>
    obtain⟨k,z'⟩:=p
    have e:cZ (o'::l)=k::cZ l:=by simp[cZ,ha]
    rw[e]at hn;simp only[Go.AL.dL,cG,ha];exact vj l _ _ (List.nodup_cons.1 hn).2 o ho d z hd
def E5(P:Program)(n:Nat)(ops:Array Oper):Bool:=
 (aO P n true ops).all (·.ok n)&&mw .any ops (aO P n true ops)&&decide ((cZ (aO P n true ops)).Nodup)&&Fz .any ops (aO P n true ops) ops.size 0 (Array.replicate ops.size false)
def GX (hG:aw GI) (bP:GI w0) (hm:P.follows .mixedOrders=true) {old:Old} {id:Nat} {Q:dQ→af→ah→Prop} (bB:E5 P n ops=true) (bI:∀ o∈aO P n true ops,∀ d∈o.fX,¬ old.bx d) (ho:g.old=old) (R:Rel P w0 n bu g S H a w)
  (h:dc P GI (aO P n true ops) (Q .normal) (dL (aO P n true ops) S) (cG (aO P n true ops) H)):(Code.region id ops true).wp P (QQ P w0 n old Q) a w:=by
 simp only[E5,Bool.and_eq_true,decide_eq_true_eq]at bB;obtain⟨⟨⟨h1,h2⟩,h3⟩,h4⟩:=bB;refine wp_region_any hm ?_;have R0:Rel P w0 n bu g S H a { w with drawn:=w.drawn+1 }:=R.kP ((Below.refl _ w).drew)
 obtain⟨g',e1,e2,R'⟩:=Rel.dL (aO P n true ops) R0 h3 (λd hd=>by
  simp only[cZ,List.mem_filterMap,Option.map_eq_some_iff]at hd;obtain⟨o,iq,⟨d',z⟩,k1,rfl⟩:=hd;rw[ho];refine bI o iq d' ?_;unfold aU at k1;split at k1
  .rename_i h1 h2;cases k1;simp[bl.fX,h1,h2,dS.fX]
  .cases k1)
 have hU:UU P n ops (Array.replicate ops.size false)=(λt=>bu t\/t∈cZ (aO P n true ops)):=by
  funext t
  simp only[UU,bu,false_or,eq_iff_iff,cZ,List.mem_filterMap,Option.map_eq_some_iff]
  constructor
  .rintro⟨j,o,z,k1,k2,k3⟩;rw[<-eL]at k1;exact⟨o,List.mem_of_getElem? k1,(t,z),k2,rfl⟩
  .rintro⟨o,ho,⟨d,z⟩,k1,rfl⟩;obtain⟨j,hj⟩:=List.getElem?_of_mem ho;refine⟨j,o,z,by rw[<-eL];exact hj,k1,?_⟩
   have:j<ops.size:=by
    have:=(List.getElem?_eq_some_iff.1 hj).1;simpa[aO]using this
   simp[this]
 refine yV hG bP h2 (λo iq=>?_) ops.size (Array.replicate ops.size false) g' _ _ a _ (by simp) (e2.trans ho) (by rw[hU];exact R') (λj o d z k1 k2 k3=>?_) ?_
 .simp only[aO,List.all_map,List.all_eq_true,Function.comp]at h1;exact h1 o (by simpa using iq)
 .rw[<-eL]at k1;exact vj _ S H h3 o (List.mem_of_getElem? k1) d z k2
 .have:=xh (QA:=Q .normal) ops.toList 0 (Array.replicate ops.size false) _ _ (by simp) (by simpa using h4) h;simpa using this
end
inductive ae where
 |skip
 |ops (l:List bl)
 |dc (l:List bl)
 |seq (x y:ae)
 |cond (c:cm) (x y:ae)
 |block (id:Nat) (c:ae)
 |loop (c:ae)
 |exit (id:Nat)
 |ret
 |bad
def de(P:Program)(n:Nat):Code->ae
 |.skip=>.skip
 |.region _ ops draw=>
  if draw then(if E5 P n ops then .dc (aO P n true ops)else .bad)
  else(if(aO P n false ops).all (·.ok n)then .ops (aO P n false ops)else .bad)
 |.seq x y=>.seq (de P n x) (de P n y)
 |.cond c x y=>match du n c with
  |some c=>.cond c (de P n x) (de P n y)
  |none=>.bad
 |.block id c=>.block id (de P n c)
 |.loop c=>.loop (de P n c)
 |.exit id=>.exit id
 |.ret=>.ret
 |_=>.bad
def cS(K:af->ah->Prop)(Q:dQ->af->ah->Prop):dQ->af->ah->Prop
 |.normal,S,H=>K S H
 |.exit id,S,H=>Q (.exit id) S H
 |.ret,S,H=>Q .ret S H
 |.panic v,S,H=>Q (.panic v) S H
def cg(id:Nat)(Q:dQ->af->ah->Prop):dQ->af->ah->Prop
 |.normal,S,H=>Q .normal S H
 |.exit j,S,H=>if j=id then Q .normal S H else Q (.exit j) S H
 |.ret,S,H=>Q .ret S H
 |.panic v,S,H=>Q (.panic v) S H
def ae.names:ae->List Nat
 |.ops l=>l.flatMap bl.fX
 |.dc l=>l.flatMap bl.fX
 |.seq x y=>x.names++y.names
 |.cond _ x y=>x.names++y.names
 |.block _ c=>c.names
 |.loop c=>c.names
 |_=>[]
def bD(P:Program)(GI:World->Prop):ae->(dQ->af->ah->Prop)->af->ah->Prop
 |.skip,Q,S,H=>Q .normal S H
 |.ops l,Q,S,H=>bg P GI l (Q .normal) (λv=>Q (.panic v) S H) S H
 |.dc l,Q,S,H=>dc P GI l (Q .normal) (dL l S) (cG l H)
 |.seq x y,Q,S,H=>bD P GI x (cS (bD P GI y Q) Q) S H
 |.cond c x y,Q,S,H=>match ev S c with
  |.bool true=>bD P GI x Q S H
  |.bool false=>bD P GI y Q S H
  |.kI=>bD P GI x Q S H/\bD P GI y Q S H
  |_=>False
 |.block id c,Q,S,H=>bD P GI c (cg id Q) S H
 |.loop c,Q,S,H=>∃(I:af->ah->Prop)(μ:af->ah->Nat),I S H/\∀S H,I S H->bD P GI c (cS (λS' H'=>I S' H'/\μ S' H'<μ S H) Q) S H
 |.exit id,Q,S,H=>Q (.exit id) S H
 |.ret,Q,S,H=>Q .ret S H
 |.bad,_,_,_=>False
section
variable{P:Program}{GI:World->Prop}{w0:World}{n:Nat}{g:Gh}{S:af}{H:ah}{a:Act}{w:World}
def C5 {c:Code} {Q:Exit→Act→World→Prop} (J:Nat→Act→World→Prop)
  (round:∀m a w,J m a w->c.wp P (Exit.then (λa' w'=>∃m',m'<m/\J m' a' w') Q) a w) {m:Nat} (h0:J m a w):(Code.loop c).wp P Q a w:=by
 intro b k cs
 have key:∀m a w,J m a w->∃e a' w',Q e a' w'/\Arrives P (lone (b.at a (.code c::.inLoop c::k)) cs w) b k cs e a' w':=by
  intro m
  induction m using Nat.strongRecOn with
  |_ m ih=>
   intro a w hJ;obtain⟨e,jX,mg,hq,iV⟩:=round m a w hJ b (.inLoop c::k) cs
   cases e with
   |normal=>
    obtain⟨m',av,hJ'⟩:=hq;obtain⟨Hg,FL,GH,zm,sF⟩:=ih m' av jX mg hJ';exact⟨Hg,FL,GH,zm,.of_steps (Steps.trans iV (.one step_inLoop)) sF⟩
   |exit id=>exact⟨_,jX,mg,hq,.pass (x:=.inLoop c) rfl (λ_ _=>.inl (by simp)) iV⟩
   |goto l=>exact⟨_,jX,mg,hq,.pass (x:=.inLoop c) rfl (λ_ _=>.inl (by simp)) iV⟩
   |ret=>exact⟨_,jX,mg,hq,.pass (x:=.inLoop c) rfl (λ_ _=>.inl (by simp)) iV⟩
   |panic ch=>exact⟨_,jX,mg,hq,.pass (x:=.inLoop c) rfl (λ_ _=>.inl (by simp)) iV⟩
   |outgrown=>exact⟨_,jX,mg,hq,.pass (x:=.inLoop c) rfl (λ_ _=>.inl (by simp)) iV⟩
 obtain⟨e,a',w',hq,iV⟩:=key _ _ _ h0;exact⟨e,a',w',hq,.of_steps (.one step_loop) iV⟩
def kX (hG:aw GI) (bP:GI w0) (hm:P.follows .mixedOrders=true) {old:Old} :
  ∀(c:Code)(Q:dQ->af->ah->Prop)(g:Gh)(S:af)(H:ah)(a:Act)(w:World),(∀d∈(de P n c).names,¬old.bx d)->g.old=old->Rel P w0 n bu g S H a w->bD P GI (de P n c) Q S H->c.wp P (QQ P w0 n old Q) a w
 |.skip,Q,g,S,H,a,w,bI,ho,R,h=>wp_skip ⟨g,S,H,ho,R,h⟩
 |.region id ops draw,Q,g,S,H,a,w,bI,ho,R,h=>by
  simp only[de]at h bI
  cases draw with
  |true=>
   simp only[if_true]at h bI;split at h
   case isFalse=>exact h.elim
   rename_i bB;rw[if_pos bB]at bI;exact GX hG bP hm bB (λo iq d hd=>bI d (List.mem_flatMap.2 ⟨o,iq,hd⟩)) ho R h
  |false=>
   simp only[Bool.false_eq_true,if_false]at h bI;split at h
   case isFalse=>exact h.elim
   rename_i bB;rw[if_pos bB]at bI;exact Iq hG bP bB (λo iq d hd=>bI d (List.mem_flatMap.2 ⟨o,iq,hd⟩)) ho R h
 |.seq x y,Q,g,S,H,a,w,bI,ho,R,h=>by
  refine wp_seq (wp_mono (kX hG bP hm x _ g S H a w (λd hd=>bI d (by simp[de,ae.names,hd])) ho R h) ?_);intro e a' w' he
  cases e with
  |normal=>
   obtain⟨g',S',H',h1,h2,h3⟩:=he;exact kX hG bP hm y Q g' S' H' a' w' (λd hd=>bI d (by simp[de,ae.names,hd])) h1 h2 h3
  |exit id=>exact he
  |ret=>exact he
  |panic ch=>exact he
  |goto l=>exact he.elim
  |outgrown=>exact he.elim
 |.cond c x y,Q,g,S,H,a,w,bI,ho,R,h=>by
  simp only[de]at h;split at h
  case h_2=>exact h.elim
  rename_i c' hc;simp only[de,hc,ae.names,List.mem_append]at bI;simp only[bD]at h;have hv:=R.ev hc (λ_ _=>id);split at h
  .rename_i hb;rw[hb]at hv
   have:a.eval c=.bool true:=by
    generalize a.eval c=v at hv;cases hv;rename_i hv;cases hv;rfl
   exact wp_cond this (kX hG bP hm x Q g S H a w (λd hd=>bI d (.inl hd)) ho R h)
  .rename_i hb;rw[hb]at hv
   have:a.eval c=.bool false:=by
    generalize a.eval c=v at hv;cases hv;rename_i hv;cases hv;rfl
   exact wp_cond this (kX hG bP hm y Q g S H a w (λd hd=>bI d (.inr hd)) ho R h)
  .rename_i hb;rw[hb]at hv
   have:∃b,a.eval c=.bool b:=by
    generalize a.eval c=v at hv;cases hv;rename_i hv;cases hv;exact⟨_,rfl⟩
   obtain⟨b,hb⟩:=this
   cases b with
   |true=>exact wp_cond hb (kX hG bP hm x Q g S H a w (λd hd=>bI d (.inl hd)) ho R h.1)
   |false=>exact wp_cond hb (kX hG bP hm y Q g S H a w (λd hd=>bI d (.inr hd)) ho R h.2)
  .exact h.elim
 |.block id c,Q,g,S,H,a,w,bI,ho,R,h=>by
  refine wp_block (wp_mono (kX hG bP hm c _ g S H a w (λd hd=>bI d (by simpa[de,ae.names]using hd)) ho R h) ?_);intro e a' w' he
  cases e with
  |normal=>exact he
  |exit j=>
   obtain⟨g',S',H',h1,h2,h3⟩:=he;simp only[cg]at h3;simp only[Exit.inBlock];split
   .rename_i hj;rw[if_pos hj]at h3;exact⟨g',S',H',h1,h2,h3⟩
   .rename_i hj;rw[if_neg hj]at h3;exact⟨g',S',H',h1,h2,h3⟩
  |ret=>exact he
  |panic ch=>exact he
  |goto l=>exact he.elim
  |outgrown=>exact he.elim
 |.loop c,Q,g,S,H,a,w,bI,ho,R,h=>by
  obtain⟨I,μ,h0,hr⟩:=h;refine C5 (λm a w=>∃g S H,g.old=old/\Rel P w0 n bu g S H a w/\I S H/\μ S H=m) ?_ (m:=μ S H) ⟨g,S,H,ho,R,h0,rfl⟩;rintro m a' w' ⟨g',S',H',h1,h2,h3,rfl⟩;refine wp_mono (kX hG bP hm c _ g' S' H' a' w' (λd hd=>bI d (by simpa[de,ae.names]using hd)) h1 h2 (hr S' H' h3)) ?_;intro e Tp fD he
  cases e with
  |normal=>
   obtain⟨g2,S2,H2,k1,k2,k3,k4⟩:=he;exact⟨_,k4,g2,S2,H2,k1,k2,k3,rfl⟩
  |exit id=>exact he
  |ret=>exact he
  |panic ch=>exact he
  |goto l=>exact he.elim
  |outgrown=>exact he.elim
 |.exit id,Q,g,S,H,a,w,bI,ho,R,h=>wp_exit ⟨g,S,H,ho,R,h⟩
 |.ret,Q,g,S,H,a,w,bI,ho,R,h=>wp_ret ⟨g,S,H,ho,R,h⟩
 |.rangeFunc ..,_,_,_,_,_,_,_,_,_,h=>h.elim
 |.scope _,_,_,_,_,_,_,_,_,_,h=>h.elim
 |.label _,_,_,_,_,_,_,_,_,_,h=>h.elim
 |.goto _,_,_,_,_,_,_,_,_,_,h=>h.elim
 |.refuse _,_,_,_,_,_,_,_,_,_,h=>h.elim
def AV.out:AV->AV
 |.agg cs=>.agg (cs.map bF)
 |v=>v
def cw(P:Program)(n:Nat)(S:af)(H:ah):ResultVar->Option AV
 |.tmp t=>if t<n/\(S t).bC=true then some (S t)else none
 |.cell a t=>if a < n then
   match S a with
   |.box i off=>match H i,P.info? t,P.underlying t with
    |some cs,some it,some d=>aZ (eB d) it.size (cs.drop off)
    |_,_,_=>none
   |_=>none
  else none
def ct(P:Program)(n:Nat)(S:af)(H:ah):List ResultVar->Option (List AV)
 |[]=>some []
 |r::rs=>match cw P n S H r,ct P n S H rs with
  |some v,some vs=>some (v::vs)
  |_,_=>none
def cn(P:Program)(n:Nat)(rs:List ResultVar)(S:af)(H:ah):Option AV:=
 match ct P n S H rs with
 |some [v]=>some v.out
 |some vs=>some (.eS (vs.map AV.vw))
 |none=>none
def Gi(a:Act):ResultVar->Sem Value
 |.tmp t=>pure (a.tmps.getD t undef)
 |.cell x t=>do loadVar t (<-asAddr (a.tmps.getD x undef))
def Ef (R:Rel P w0 n bu g S H a w) {r:ResultVar} {v:AV} (h:cw P n S H r=some v) :
  ∃c,(Gi a r).run P w=.ok c w/\RD g.Pr w v c/\uT P g.base g.hi w v c:=by
 cases r with
 |tmp t=>
  simp only[cw]at h
  split at h<;>cases h
  rename_i hc;refine⟨a.tmps.getD t undef,rfl,(R.slot t hc.1 id).dA hc.2,?_⟩;have ho:=R.own t hc.1 id;generalize S t=v at ho;generalize a.tmps.getD t undef=c at ho
  cases v<;>try trivial
  rename_i oo es
  cases oo with
  |view=>trivial
  |nil=>trivial
  |own e=>
   obtain⟨i,xs,b,h1,h2,h3,h4,h5⟩:=ho;exact⟨i,xs,b,h1,h2,h3,h5⟩
 |cell x t=>
  simp only[cw]at h;split at h
  case isFalse=>cases h
  rename_i hx;have hs:=R.slot x hx id;generalize S x=q at h hs;generalize lD:a.tmps.getD x undef=cx at hs
  cases hs<;>(try cases h;done)
  case data hh=>cases hh<;>cases h
  rename_i i off b gE;obtain⟨cs,vs,sU,k1,k2,k3,k4,k5,k6,k7,k8,k9⟩:=R.box i b gE;simp only[k1]at h;split at h
  case h_2=>cases h
  rename_i cs' it d lS my hd;cases lS
  obtain ⟨c,h1,h2,h3⟩:=qm (Pr:=g.Pr) (al:=g.al) (P:=P) (w:=w) (b:=b) (off:=off) my hd (vs:=fun k=>vs.getD (off+k) undef) (fun k hk=>by
    simp only[List.length_drop]at hk
    have:off+k<vs.size:=by omega
    simp[World.cell?,k3,this]) (λk hk=>by
    simp only[List.length_drop]at hk;simp only[List.getElem_drop]
    exact k9 (off+k) (by omega)) (λk hk=>by
    simp only[List.length_drop]at hk;simp only[List.getElem_drop];have hh:=k7 (off+k) (by omega) (by omega)
    have:off+k<vs.size:=by omega
    simpa[this]using hh) h
  refine⟨c,by simp only[Gi,lD,asAddr,Sem.run_bind,Sem.run_pure,Result.andThen_ok,h1],h2,?_⟩;rw[<-h3]
  cases v<;>try trivial
  rename_i oo es
  cases oo<;>trivial
def qV (R:Rel P w0 n bu g S H a w):∀ {rs:List ResultVar} {vs:List AV},ct P n S H rs=some vs →
  ∃cs:List Value,(rs.mapM (Gi a)).run P w=Result.ok cs w/\vs.length=cs.length/\
   ∀i (h:i<vs.length)(h':i<cs.length),RD g.Pr w vs[i] cs[i]/\uT P g.base g.hi w vs[i] cs[i]
 |[],vs,h=>by cases h;exact⟨[],by simp,rfl,λi h=>by simp at h⟩
 |r::rs,vs,h=>by
  simp only[ct]at h
  split at h<;>cases h
  rename_i v jq h1 h2;obtain⟨c,r1,r2,r3⟩:=Ef R h1;obtain⟨cs,q1,q2,q3⟩:=qV R h2;refine⟨c::cs,?_,by simp[q2],λi hi ck=>?_⟩
  .simp[List.mapM_cons,r1,q1]
  .cases i with
   |zero=>exact⟨r2,r3⟩
   |succ i=>exact q3 i (by simpa using hi) (by simpa using ck)
def pz (R:Rel P w0 n bu g S H a w) {fn:Func} {v:AV} (h:cn P n fn.results.toList S H=some v) :
  ∃c,(results fn a.tmps).run P w=.ok c w/\RD g.Pr w v c/\uT P g.base g.hi w v c:=by
 unfold cn at h
 have dJ:∀ cs:List Value,(fn.results.toList.mapM (Gi a)).run P w=Result.ok cs w →
   (results fn a.tmps).run P w=.ok (if h:cs.toArray.size=1 then cs.toArray[0]else .tuple cs.toArray) w:=by
  intro cs lS;unfold results;rw[Array.mapM_eq_mapM_toList]
  have e:(fn.results.toList.mapM λr=>match r with|.tmp t=>(pure (a.tmps.getD t undef):Sem Value)|.cell x t=>do loadVar t (<-asAddr (a.tmps.getD x undef)))=fn.results.toList.mapM (Gi a):=by
   congr 1
  simp only[Sem.run_bind,Sem.run_map]
  erw[e]
  rw[lS]
  rfl
 split at h
 .rename_i v' hv;cases h;obtain⟨cs,q1,q2,q3⟩:=qV R hv
  match cs,q2 with
  |[c],_=>
   have h1:=(q3 0 (by simp) (by simp)).1;have h2:=(q3 0 (by simp) (by simp)).2;simp only[List.getElem_cons_zero]at h1 h2;refine⟨c,by rw[dJ _ q1];rfl,?_,?_⟩
   .cases v'<;>first|exact h1|exact h1.vw
   .cases v'<;>first|exact h2|trivial
 .rename_i vs bQ uo;cases h;obtain⟨cs,q1,q2,q3⟩:=qV R uo;refine⟨.tuple cs.toArray,?_,.eS _ _ (by simp[q2]) (λi h h'=>?_),trivial⟩
  .rw[dJ _ q1,dif_neg];intro hl
   have:vs.length=1:=by rw[q2];simpa using hl
   match vs,this with
   |[v],_=>exact bQ v rfl
  .simp only[List.length_map]at h;simp only[List.getElem_map,List.getElem_toArray];exact(q3 i h (by simpa using h')).1.vw
 .cases h
def post(P:Program)(n:Nat)(rs:List ResultVar)(out:iS):dQ->af->ah->Prop
 |.normal,S,H|.ret,S,H=>∃v,cn P n rs S H=some v/\out=.ret v
 |.panic v,_,_=>out=.panic v
 |_,_,_=>False
def start(args:List AV):af:=λt=>(args.getD t bG).aA
def AC.NG (hG:aw GI) (hm:P.follows .mixedOrders=true) {f:Nat} {fn:Func} {c:Code} {args:List AV} {out:iS} (hf:P.funcs[f]? = some fn) (hb:fn.body=some c) (hn:fn.ntmps=n) (hl:args.length≤n) {ac:ae} (hc:de P n c=ac)
  (h:bD P GI ac (post P n fn.results.toList out) (start args) (λ_=>none)):AC P GI f args out:=by
 intro w old bp jI hlen hr;refine calls_of_wp hf hb ?_;subst hc
 let g:Gh:={ base:=w.heap.size,old:=Old.plain old w,al:=λ_=>none,hi:=λ_=>0,owner:=λ_=>none }
 have aI:(bp++Array.replicate (fn.ntmps-bp.size) undef).size=n:=by simp;omega
 have R:Rel P w n bu g (start args) (λ_=>none) { tmps:=bp++Array.replicate (fn.ntmps-bp.size) undef,defers:=[] } w:=by
  refine{ size:=aI,defers:=rfl,facts:=λ_ h=>(by cases h),slot:=?_,own:=?_,box:=?_,iB:=?_,ij:=?_,inj:=?_,base:=rfl,below:=Below.refl _ _,fresh:=λb _=>⟨rfl,rfl⟩,still:=⟨λ_ _ h=>h.elim,λ_ h=>h.elim⟩,grown:=Nat.le_refl _,kept:=λ_ _ h=>(by cases h) }
  .intro t ht _
   by_cases Ik:t<args.length
   .have h1:start args t=args[t].aA:=by simp[start,Ik]
    have h2:(bp++Array.replicate (fn.ntmps-bp.size) undef).getD t undef=bp[t]'(by omega):=by
     have:t<bp.size:=by omega
     simp[Array.getElem?_append,this]
    rw[h1,h2];refine((hr t Ik (by omega)).mono (aL.same λb k av hp=>.inl ⟨av,hp⟩) (λ_ _ h=>h)).aA
   .have h1:start args t=bG:=by simp[start,Ik,bG,AV.aA]
    have h2:(bp++Array.replicate (fn.ntmps-bp.size) undef).getD t undef=undef:=by
     have:¬t<bp.size:=by omega
     simp only[Array.getD_eq_getD_getElem?,Array.getElem?_append,this,if_false]
     by_cases hh:t-bp.size<fn.ntmps-bp.size
     .simp[hh]
     .simp[hh]
    rw[h1,h2];exact .data _ _ (sI _ _)
  .intro t ht _;exact gw _ _ _
  .intro i b h;cases h
  .intro i cs h;cases h
  .intro i h;rfl
  .intro i j b h;cases h
 refine wp_mono (kX hG jI hm c _ g _ _ _ w (λ_ _ h=>h) rfl R h) ?_;intro e a' w' he
 have fin:(∃ g' S H,g'.old=Old.plain old w∧Rel P w n bu g' S H a' w'∧∃ v,cn P n fn.results.toList S H=some v∧out = .ret v) →
   a'.defers=[]/\∃v,(results fn a'.tmps).run P w'=.ok v w'/\Ends P old w out (.returned v) w':=by
  rintro⟨g',S,H,e1,R',v,hv,rfl⟩;obtain⟨c,r1,r2,r3⟩:=pz R' hv;refine⟨by rw[R'.defers,e1];rfl,c,r1,?_,g'.hi,λb hb=>(R'.fresh b hb).1,c,rfl,?_,?_⟩
  .have:=R'.below;rwa [R'.base]at this
  .have:g'.Pr=ji w.heap.size old g'.hi:=by
    funext b k
    simp only[Gh.Pr,ji,R'.base,e1,Old.plain]
   rw[this]at r2;exact .data _ _ r2
  .rwa [R'.base]at r3
 cases e with
 |normal=>exact fin he
 |ret=>exact fin he
 |exit id=>obtain⟨_,_,_,_,_,h⟩:=he;exact h.elim
 |panic chain=>
  obtain⟨hd,v,c,hi,S,H,h1,h2,h3,h4,h5⟩:=he;subst h1;cases(show out=.panic v from h5);exact⟨hd,h2,hi,h3,c,rfl,h4⟩
 |goto l=>exact he.elim
 |outgrown=>exact he.elim
end
abbrev SL:=List AV
abbrev HL:=List (Option (List AV))
def gS(s:SL):af:=λt=>s.getD t bG
def gH(h:HL):ah:=λt=>h.getD t none
inductive Wh where
 |go (s:SL) (h:HL)|panic (v:AV)
def Wh.on(K:af->ah->Prop)(Qp:AV->Prop):Wh->Prop
 |.go s h=>K (gS s) (gH h)
 |.panic v=>Qp v
abbrev Aj:=Nat->List AV->Option iS
def OK(P:Program)(call:Aj)(f:Nat)(args:List AV)(bx:Bool):Option iS:=
 if dz P f then match call f args with
  |some out=>if bx&&!out.ru then none else some out
  |none=>none
 else none
section
variable{P:Program}{GI:World->Prop}{call:Aj}(jv:∀f args out,call f args=some out->AC P GI f args out)
include jv
end
end Go.AL
