/- A part of the proof. -/
import Derived.Still
import Derived.Laws.Concat
import Derived.Laws.Strings2
import Derived.Great.BuildSlice
import Derived.Laws.IdiomStrings
import Derived.Laws.BytesArg
import Derived.Maps.Own
import Derived.OrdersIn
import Derived.RangeFuncRecord
import Derived.Laws.RangeString
import Derived.Recover
import Derived.Laws.Pointers
import Derived.Deep.OwnRows
import Derived.Shelf.Vars
import Derived.ProofKit
import Derived.OpenShut
import Derived.LaidMore
import Derived.Lay
import Derived.SevenTiedAt
set_option maxRecDepth 100000
set_option maxHeartbeats 8000000
set_option linter.all false
namespace Go.Proofs.Tram
end Go.Proofs.Tram
namespace Go.AL
inductive Ow where
 |view|nil|own (e:Nat)
 deriving DecidableEq
inductive AV where
 |bool (b:Bool)
 |kd
 |int (k:IntKind) (n:Int)
 |str (l:List UInt8)
 |slice (o:Ow) (es:List AV)
 |agg (cs:List AV)
 |fZ (vs:List AV)
 |ref (cs:List AV)
 |nL
 |iface (t:TypeId) (v:AV)
 |ni
 |map (ks vs:List AV)
 |box (i off:Nat)
 |func (fn:Fn) (first cap:List AV)
 |fR (fs:List AV)
 |val (c:Value)
 |bj
namespace AV
def cells:AV->List AV
 |.agg cs=>cs
 |v=>[v]
def aw:AV->AV
 |.slice (.own _) es=>.slice .view es
 |v=>v
def bV:AV->AV
 |.slice _ es=>.slice .view es
 |v=>v
def vw:AV->AV
 |.agg cs=>.agg (cs.map bV)
 |v=>v.bV
def bu:AV->Bool
 |.box ..|.func ..|.fR _|.bj=>false
 |_=>true
def one:AV->Bool
 |.agg _|.fZ _=>false
 |_=>true
def storable:AV->Bool
 |.box ..|.func ..|.fR _|.bj|.fZ _=>false
 |_=>true
end AV
inductive RD(Pr:Nat->Nat->Prop)(w:World):AV->Value->Prop
 |bool (b:Bool):RD Pr w (.bool b) (.bool b)
 |kd (b:Bool):RD Pr w .kd (.bool b)
 |int (k:IntKind) (n:Int):RD Pr w (.int k n) (.int k n)
 |str (l:List UInt8):RD Pr w (.str l) (.string ⟨l.toArray⟩)
 |fH (o:Ow):RD Pr w (.slice o []) (.slice none 0 0)
 |iG (o:Ow) (a:Addr):RD Pr w (.slice o []) (.slice (some a) 0 0)
 |slice (o:Ow) (es:List AV) (b off cap size:Nat) (cs:Nat→Value) (eu:es.length≤cap) (hn:o = .nil→cap=0)
   (aL:∀i (h:i<es.length),(es[i]).cells.length=size) (h1:∀i (h:i<es.length) j (hj:j<(es[i]).cells.length),((es[i]).cells[j]).one=true)
   (hc:∀k,k<es.length*size->Pr b (off+k)/\w.cell? ⟨b,off+k,none⟩=some (cs k))
   (hr:∀i (h:i<es.length) j (hj:j<(es[i]).cells.length),RD Pr w ((es[i]).cells[j]) (cs (i*size+j))):
   RD Pr w (.slice o es) (.slice (some ⟨b,off,none⟩) es.length cap)
 |agg (cs:List AV) (vs:Array Value) (hl:cs.length=vs.size) (h1:∀ i (h:i < cs.length),(cs[i]).one=true)
   (hr:∀i (h:i<cs.length)(h':i<vs.size),RD Pr w cs[i] vs[i]):RD Pr w (.agg cs) (.agg vs)
 |fZ (cs:List AV) (vs:Array Value) (hl:cs.length=vs.size)
   (hr:∀i (h:i<cs.length)(h':i<vs.size),RD Pr w cs[i] vs[i]):RD Pr w (.fZ cs) (.tuple vs)
 |ref (cs:List AV) (b off:Nat) (vs:Nat→Value) (h1:∀ i (h:i < cs.length),(cs[i]).one=true)
   (hc:∀k,k<cs.length->Pr b (off+k)/\w.cell? ⟨b,off+k,none⟩=some (vs k))
   (hr:∀k (h:k<cs.length),RD Pr w cs[k] (vs k)):RD Pr w (.ref cs) (.pointer (some ⟨b,off,none⟩))
 |map (ks vs:List AV) (b:Nat) (es:Array MapEntry) (clock:Nat) (hb:Pr b 0) (hm:w.heap[b]? = some (.map es clock)) (hk:ks.length=es.size) (hv:vs.length=es.size)
   (hr:∀i (h:i<ks.length)(h':i<es.size),RD Pr w ks[i] (es[i]).key) (nB:∀i (h:i<vs.length)(h':i<es.size),RD Pr w vs[i] (es[i]).val):RD Pr w (.map ks vs) (.map (some b))
 |qM:RD Pr w (.map [] []) (.map none)
 |nL:RD Pr w .nL (.pointer none)
 |iface (t:TypeId) (v:AV) (c:Value) (h:RD Pr w v c):RD Pr w (.iface t v) (.iface t c)
 |ni:RD Pr w .ni .nilIface
 |val (c:Value) (h:c.oneCell'=true):RD Pr w (.val c) c
inductive RV(Pr:Nat->Nat->Prop)(al:Nat->Option Nat)(w:World):AV->Value->Prop
 |data (v:AV) (c:Value) (h:RD Pr w v c):RV Pr al w v c
 |box (i off b:Nat) (h:al i=some b):RV Pr al w (.box i off) (.pointer (some ⟨b,off,none⟩))
 |func (fn:Fn) (first cap:List AV) (vs us:Array Value) (h1:first.length=vs.size) (h2:cap.length=us.size)
   (Yz:∀i (h:i<first.length)(h':i<vs.size),RV Pr al w first[i] vs[i])
   (YU:∀i (h:i<cap.length)(h':i<us.size),RV Pr al w cap[i] us[i]):RV Pr al w (.func fn first cap) (.func fn vs us)
 |fR (fs:List AV) (vs:Array Value) (h1:fs.length=vs.size) (hr:∀i (h:i<fs.length)(h':i<vs.size),RV Pr al w fs[i] vs[i]):RV Pr al w (.fR fs) (.agg vs)
 |bj (c:Value):RV Pr al w .bj c
structure aE(Pr cS:Nat->Nat->Prop)(w w':World):Prop where
 cell:∀b k,Pr b k->∀u,w.cell? ⟨b,k,none⟩=some u->cS b k/\w'.cell? ⟨b,k,none⟩=some u
 map:∀b,Pr b 0->∀es c,w.heap[b]?=some (.map es c)->cS b 0/\w'.heap[b]?=some (.map es c)
def aE.gr{Pr cS:Nat->Nat->Prop}{w w':World}(h:∀b,b<w.heap.size->w'.heap[b]?=w.heap[b]?)(hp:∀b k,b<w.heap.size->Pr b k->cS b k):aE Pr cS w w':={
 cell b k hb u hu:=by
  have ao:=World.block_lt_of_cell? _ _ hu;exact⟨hp b k ao hb,by rw[World.cell?_of_block (w:=w) (h b ao)];exact hu⟩
 map b hb es c hm:=by
  have ao:=(Array.getElem?_eq_some_iff.1 hm).1
  exact⟨hp b 0 ao hb,by rw[h b ao];exact hm⟩ }
def aE.trans{Pr cS SU:Nat->Nat->Prop}{w w' iU:World}(h:aE Pr cS w w')(h':aE cS SU w' iU):aE Pr SU w iU:={
 cell b k hp u hu:=h'.cell b k (h.cell b k hp u hu).1 u (h.cell b k hp u hu).2
 map b hp es c hm:=h'.map b (h.map b hp es c hm).1 es c (h.map b hp es c hm).2 }
def aE.jj{Pr:Nat->Nat->Prop}{w w':World}(h:∀b k,b<w.heap.size->Pr b k->w'.heap[b]?=w.heap[b]?):aE Pr Pr w w':={
 cell b k hb u hu:=⟨hb,by rw[World.cell?_of_block (w:=w) (h b k (World.block_lt_of_cell? _ _ hu) hb)];exact hu⟩
 map b hb es c hm:=⟨hb,by rw[h b 0 (Array.getElem?_eq_some_iff.1 hm).1 hb];exact hm⟩ }
def aE.same{Pr cS:Nat->Nat->Prop}{w:World}(hp:∀b k,b<w.heap.size->Pr b k->cS b k):aE Pr cS w w:=aE.gr (λ_ _=>rfl) hp
def RD.mono {Pr cS:Nat→Nat→Prop} {w w':World} {v:AV} {c:Value} (h:RD Pr w v c)
  (hp:aE Pr cS w w'):RD cS w' v c:=by
 induction h with
 |bool b=>exact .bool b
 |kd b=>exact .kd b
 |int k n=>exact .int k n
 |str l=>exact .str l
 |fH o=>exact .fH o
 |iG o a=>exact .iG o a
 |slice o es b off cap size cs eu hn aL h1 hc _ ih=>
  exact .slice o es b off cap size cs eu hn aL h1 (λk hk=>hp.cell _ _ (hc k hk).1 _ (hc k hk).2) ih
 |agg cs vs hl h1 _ ih=>exact .agg cs vs hl h1 ih
 |fZ cs vs hl _ ih=>exact .fZ cs vs hl ih
 |ref cs b off vs h1 hc _ ih=>exact .ref cs b off vs h1 (λk hk=>hp.cell _ _ (hc k hk).1 _ (hc k hk).2) ih
 |map ks vs b es clock hb hm hk hv _ _ ih ih'=>exact .map ks vs b es clock (hp.map b hb es clock hm).1 (hp.map b hb es clock hm).2 hk hv ih ih'
 |qM=>exact .qM
 |nL=>exact .nL
 |iface t v c _ ih=>exact .iface t v c ih
 |ni=>exact .ni
 |val c h=>exact .val c h
def RV.mono {Pr cS:Nat→Nat→Prop} {al Cu:Nat→Option Nat} {w w':World} {v:AV} {c:Value} (h:RV Pr al w v c)
  (hp:aE Pr cS w w')
  (ha:∀i b,al i=some b->Cu i=some b):RV cS Cu w' v c:=by
 induction h with
 |data v c h=>exact .data v c (h.mono hp)
 |box i off b h=>exact .box i off b (ha i b h)
 |func fn first cap vs us h1 h2 _ _ ih1 ih2=>exact .func fn first cap vs us h1 h2 ih1 ih2
 |fR fs vs h1 _ ih=>exact .fR fs vs h1 ih
 |bj c=>exact .bj c
def RD.bu{Pr:Nat->Nat->Prop}{w:World}{v:AV}{c:Value}(h:RD Pr w v c):v.bu=true:=by
 cases h<;>rfl
def RV.bQ{Pr:Nat->Nat->Prop}{al:Nat->Option Nat}{w:World}{v:AV}{c:Value}(h:RV Pr al w v c)(hd:v.bu=true):RD Pr w v c:=by
 cases h with
 |data v c h=>exact h
 |box i off b h=>cases hd
 |func=>cases hd
 |fR=>cases hd
 |bj c=>cases hd
def RD.aw{Pr:Nat->Nat->Prop}{w:World}{v:AV}{c:Value}(h:RD Pr w v c):RD Pr w v.aw c:=by
 cases h with
 |fH o=>cases o<;>exact .fH _
 |iG o a=>cases o<;>exact .iG _ a
 |slice o es b off cap size cs eu hn aL h1 hc hr=>
  cases o with
  |own e=>exact .slice _ es b off cap size cs eu (λh=>by cases h) aL h1 hc hr
  |view=>exact .slice _ es b off cap size cs eu hn aL h1 hc hr
  |nil=>exact .slice _ es b off cap size cs eu hn aL h1 hc hr
 |bool b=>exact .bool b
 |kd b=>exact .kd b
 |int k n=>exact .int k n
 |str l=>exact .str l
 |agg cs vs hl h1 hr=>exact .agg cs vs hl h1 hr
 |fZ cs vs hl hr=>exact .fZ cs vs hl hr
 |ref cs b off vs h1 hc hr=>exact .ref cs b off vs h1 hc hr
 |map ks vs b es clock hb hm hk hv hr nB=>exact .map ks vs b es clock hb hm hk hv hr nB
 |qM=>exact .qM
 |nL=>exact .nL
 |iface t v c h=>exact .iface t v c h
 |ni=>exact .ni
 |val c h=>exact .val c h
def RV.aw{Pr:Nat->Nat->Prop}{al:Nat->Option Nat}{w:World}{v:AV}{c:Value}(h:RV Pr al w v c):RV Pr al w v.aw c:=by
 cases h with
 |data v c h=>exact .data _ _ h.aw
 |box i off b h=>exact .box i off b h
 |func fn first cap vs us h1 h2 r1 r2=>exact .func fn first cap vs us h1 h2 r1 r2
 |fR fs vs h1 hr=>exact .fR fs vs h1 hr
 |bj c=>exact .bj c
def RD.cells {Pr:Nat→Nat→Prop} {w:World} {v:AV} {c:Value} (h:RD Pr w v c) :
  v.cells.length=c.cells.size/\∀i (h:i<v.cells.length)(h':i<c.cells.size),RD Pr w v.cells[i] c.cells[i]:=by
 cases h with
 |agg cs vs hl h1 hr=>exact⟨hl,hr⟩
 |bool b=>exact⟨rfl,λi h _=>by simp[AV.cells]at h;subst h;exact .bool b⟩
 |kd b=>exact⟨rfl,λi h _=>by simp[AV.cells]at h;subst h;exact .kd b⟩
 |int k n=>exact⟨rfl,λi h _=>by simp[AV.cells]at h;subst h;exact .int k n⟩
 |str l=>exact⟨rfl,λi h _=>by simp[AV.cells]at h;subst h;exact .str l⟩
 |fH o=>exact⟨rfl,λi h _=>by simp[AV.cells]at h;subst h;exact .fH o⟩
 |iG o a=>exact⟨rfl,λi h _=>by simp[AV.cells]at h;subst h;exact .iG o a⟩
 |slice o es b off cap size cs eu hn aL h1 hc hr=>exact⟨rfl,λi h _=>by simp[AV.cells]at h;subst h;exact .slice o es b off cap size cs eu hn aL h1 hc hr⟩
 |fZ cs vs hl hr=>exact⟨rfl,λi h _=>by simp[AV.cells]at h;subst h;exact .fZ cs vs hl hr⟩
 |ref cs b off vs h1 hc hr=>exact⟨rfl,λi h _=>by simp[AV.cells]at h;subst h;exact .ref cs b off vs h1 hc hr⟩
 |map ks vs b es clock hb hm hk hv hr nB=>exact⟨rfl,λi h _=>by simp[AV.cells]at h;subst h;exact .map ks vs b es clock hb hm hk hv hr nB⟩
 |qM=>exact⟨rfl,λi h _=>by simp[AV.cells]at h;subst h;exact .qM⟩
 |nL=>exact⟨rfl,λi h _=>by simp[AV.cells]at h;subst h;exact .nL⟩
 |iface t v c hh=>exact⟨rfl,λi h _=>by simp[AV.cells]at h;subst h;exact .iface t v c hh⟩
 |ni=>exact⟨rfl,λi h _=>by simp[AV.cells]at h;subst h;exact .ni⟩
 |val c hc=>
  have jB:c.cells=#[c]:=by cases c<;>first|rfl|cases hc
  exact⟨by rw[jB];rfl,λi h h'=>by simp[AV.cells]at h;subst h;simp only[jB];exact .val c hc⟩
def RD.one{Pr:Nat->Nat->Prop}{w:World}{v:AV}{c:Value}(h:RD Pr w v c)(h1:v.one=true):c.oneCell'=true:=by
 cases h<;>first|rfl|(cases h1;done)|assumption
def RD.cells_one{Pr:Nat->Nat->Prop}{w:World}{v:AV}{c:Value}(h:RD Pr w v c)(h1:v.storable=true):∀i (h:i<v.cells.length),(v.cells[i]).one=true:=by
 cases h with
 |agg cs vs hl ho hr=>exact ho
 |fZ=>cases h1
 |_=>intro i hi;simp[AV.cells]at hi;subst hi;rfl
def AV.np(v:AV):v.aw.one=v.one:=by
 cases v<;>try rfl
 rename_i o es;cases o<;>rfl
def AV.OM(v:AV):v.bV.one=v.one:=by cases v<;>rfl
def AV.idem(v:AV):v.aw.aw=v.aw:=by
 cases v<;>try rfl
 rename_i o es;cases o<;>rfl
def RD.bV{Pr:Nat->Nat->Prop}{w:World}{v:AV}{c:Value}(h:RD Pr w v c):RD Pr w v.bV c:=by
 cases h with
 |fH o=>exact .fH _
 |iG o a=>exact .iG _ a
 |slice o es b off cap size cs eu hn aL h1 hc hr=>exact .slice _ es b off cap size cs eu (λh=>by cases h) aL h1 hc hr
 |bool b=>exact .bool b
 |kd b=>exact .kd b
 |int k n=>exact .int k n
 |str l=>exact .str l
 |agg cs vs hl h1 hr=>exact .agg cs vs hl h1 hr
 |fZ cs vs hl hr=>exact .fZ cs vs hl hr
 |ref cs b off vs h1 hc hr=>exact .ref cs b off vs h1 hc hr
 |map ks vs b es clock hb hm hk hv hr nB=>exact .map ks vs b es clock hb hm hk hv hr nB
 |qM=>exact .qM
 |nL=>exact .nL
 |iface t v c h=>exact .iface t v c h
 |ni=>exact .ni
 |val c h=>exact .val c h
def RD.vw{Pr:Nat->Nat->Prop}{w:World}{v:AV}{c:Value}(h:RD Pr w v c):RD Pr w v.vw c:=by
 cases h with
 |agg cs vs hl h1 hr=>
  refine .agg _ vs (by simpa using hl) (λi hi=>?_) (λi hi cy=>?_)
  .simp only[List.length_map]at hi;have:=h1 i hi;simp only[List.getElem_map];generalize cs[i]=u at this
   cases u<;>first|rfl|cases this
  .simp only[List.length_map]at hi;simp only[List.getElem_map];exact(hr i hi cy).bV
 |fH o=>exact .fH _
 |iG o a=>exact .iG _ a
 |slice o es b off cap size cs eu hn aL h1 hc hr=>exact .slice _ es b off cap size cs eu (λh=>by cases h) aL h1 hc hr
 |bool b=>exact .bool b
 |kd b=>exact .kd b
 |int k n=>exact .int k n
 |str l=>exact .str l
 |fZ cs vs hl hr=>exact .fZ cs vs hl hr
 |ref cs b off vs h1 hc hr=>exact .ref cs b off vs h1 hc hr
 |map ks vs b es clock hb hm hk hv hr nB=>exact .map ks vs b es clock hb hm hk hv hr nB
 |qM=>exact .qM
 |nL=>exact .nL
 |iface t v c h=>exact .iface t v c h
 |ni=>exact .ni
 |val c h=>exact .val c h
def AV.js{v:AV}(h:v.storable=true):v.bu=true:=by cases v<;>first|rfl|cases h
end Go.AL
namespace Go.AL
open Go.RowKit
abbrev af:=Nat->AV
abbrev ah:=Nat->Option (List AV)
def au{α:Type}(f:Nat->α)(i:Nat)(x:α):Nat->α:=λj=>if j=i then x else f j
def aN{α:Type}(f:Nat->α)(i:Nat)(x:α):au f i x i=x:=by simp[au]
def aJ{α:Type}(f:Nat->α){i j:Nat}(x:α)(h:j≠i):au f i x j=f j:=by simp[au,h]
inductive Loc where
 |slot (t:Nat)|cell (i j:Nat)
 deriving DecidableEq
def h_(d:Nat):AV->Bool
 |.box i _=>i==d
 |.func ..|.fR _=>true
 |_=>false
def aZ(d:Nat):AV->AV
 |.box i o=>if i=d then .bj else .box i o
 |.func fn first cap=>if first.any (h_ d)||cap.any (h_ d)then .bj else .func fn first cap
 |.fR _=>.bj
 |v=>v
def Nb:AV->Bool
 |.func ..|.fR _=>false
 |_=>true
def flat:AV->Bool
 |.func _ first cap=>first.all Nb&&cap.all Nb
 |.fR _=>false
 |_=>true
structure Old where
 c:Nat->Nat->Prop
 facts:List (AV×Value)
 bx:Nat->Prop
 ds:List Deferred
 keep:Nat->Option Obj
 sp:Nat->Nat->Prop
 sw:World
 ok:∀p∈facts,flat p.1=true/\∀d,¬bx d->aZ d p.1=p.1
def Old.plain(c:Nat->Nat->Prop)(w:World):Old:={ c:=c,facts:=[],bx:=λ_=>False,ds:=[],keep:=λ_=>none,sp:=λ_ _=>False,sw:=w,ok:=λ_ h=>by cases h }
structure Gh where
 base:Nat
 old:Old
 al:Nat->Option Nat
 hi:Nat->Nat
 owner:Nat->Option Loc
def Gh.Pr(g:Gh)(b k:Nat):Prop:=(b<g.base/\g.old.c b k)\/(g.base<=b/\k<g.hi b)
def dw(P:Program)(w:World)(g:Gh)(loc:Loc):AV->Value->Prop
 |.slice (.own e) es,c=>∃i xs b,P.info? e=some i/\w.ownsRow g.base e i.size c es.length xs/\c.ownBlock=some b/\g.owner b=some loc/\g.hi b=es.length*i.size
 |_,_=>True
structure Rel(P:Program)(w0:World)(n:Nat)(U:Nat->Prop)(g:Gh)(S:af)(H:ah)(a:Act)(w:World):Prop where
 size:a.tmps.size=n
 defers:a.defers=g.old.ds
 facts:∀p∈g.old.facts,RV g.Pr g.al w p.1 p.2
 slot:∀t,t<n->¬U t->RV g.Pr g.al w (S t) (a.tmps.getD t undef)
 own:∀t,t<n->¬U t->dw P w g (.slot t) (S t) (a.tmps.getD t undef)
 box:∀i b,g.al i=some b->∃cs vs ty,H i=some cs/\g.base<=b/\w.heap[b]?=some (.cells vs ty (0,0))/\g.hi b=0/\g.owner b=none/\cs.length=vs.size/\
  (∀j (h:j<cs.length)(h':j<vs.size),RD g.Pr w cs[j] vs[j])/\(∀j (h:j<cs.length)(h':j<vs.size),dw P w g (.cell i j) cs[j] vs[j])/\∀j (h:j<cs.length),(cs[j]).one=true
 jt:∀i cs,H i=some cs->¬U i->(g.al i).isSome
 jq:∀i,U i->g.al i=none
 inj:∀i j b,g.al i=some b->g.al j=some b->i=j
 base:g.base=w0.heap.size
 below:Below g.base w0 w
 fresh:∀b,w.heap.size<=b->g.hi b=0/\g.owner b=none
 still:aE g.old.sp g.Pr g.old.sw w
 grown:g.old.sw.heap.size<=w.heap.size
 kept:∀b o,g.old.keep b=some o->g.base<=b/\w.heap[b]?=some o/\g.hi b=0/\g.owner b=none/\∀i,g.al i≠some b
def dw.keep {P:Program} {w w':World} {g g':Gh} {loc:Loc} {v:AV} {c:Value} (h:dw P w g loc v c) (hb:g'.base=g.base)
  (hk:∀b,g.owner b=some loc->w'.heap[b]?=w.heap[b]?/\g'.hi b=g.hi b/\g'.owner b=some loc):dw P w' g' loc v c:=by
 unfold dw at*
 split at h
 .obtain⟨i,xs,b,h1,h2,h3,h4,h5⟩:=h;obtain⟨k1,k2,k3⟩:=hk b h4;refine⟨i,xs,b,h1,?_,h3,k3,by rw[k2];exact h5⟩;rw[hb];refine⟨h2.1,?_⟩
  rcases h2.2 with hn|⟨gg,cap,cur,rfl,gQ,sP,rest⟩
  .exact .inl hn
  .have:gg=b:=by simpa[Value.ownBlock]using h3
   subst this;exact .inr ⟨gg,cap,cur,rfl,gQ,by rw[k1];exact sP,rest⟩
 .trivial
def dw.aw{P:Program}{w:World}{g:Gh}{loc:Loc}{v:AV}{c:Value}:dw P w g loc v.aw c:=by
 cases v<;>try trivial
 rename_i o es
 cases o<;>trivial
def Rel.ext {P:Program} {w0:World} {n:Nat} {U:Nat→Prop} {g g':Gh} {S:af} {H:ah} {a:Act} {w w':World} (R:Rel P w0 n U g S H a w)
  (f_:g'.base=g.base) (hold:g'.old=g.old) (fu:g'.al=g.al)
  (gk:aE g.Pr g'.Pr w w')
  (aaR:∀i b,g.al i=some b->w'.heap[b]?=w.heap[b]?/\g'.hi b=g.hi b/\g'.owner b=g.owner b)
  (cC:∀b loc,g.owner b=some loc->w'.heap[b]?=w.heap[b]?/\g'.hi b=g.hi b/\g'.owner b=some loc)
  (Su:Below g.base w0 w') (lq:∀b,w'.heap.size<=b->g'.hi b=0/\g'.owner b=none)
  (wD:∀b o,g.old.keep b=some o->w.heap[b]?=some o->w'.heap[b]?=some o/\g'.hi b=g.hi b/\g'.owner b=g.owner b) (Xm:w.heap.size<=w'.heap.size):Rel P w0 n U g' S H a w':={
 size:=R.size
 defers:=by rw[hold];exact R.defers
 facts p hp:=(R.facts p (by rw[<-hold];exact hp)).mono gk (by rw[fu];exact λ_ _ h=>h)
 slot t ht hu:=(R.slot t ht hu).mono gk (by rw[fu];exact λ_ _ h=>h)
 own t ht hu:=(R.own t ht hu).keep f_ λb hb=>cC b _ hb
 box i b hi:=by
  rw[fu]at hi;obtain⟨cs,vs,ty,h1,h2,h3,h4,h5,h6,h7,h8,h9⟩:=R.box i b hi;obtain⟨k1,k2,k3⟩:=aaR i b hi;refine⟨cs,vs,ty,h1,by rw[f_];exact h2,by rw[k1];exact h3,by rw[k2];exact h4,by rw[k3];exact h5,h6,?_,?_,h9⟩
  .exact λj hj dJ=>(h7 j hj dJ).mono gk
  .exact λj hj dJ=>(h8 j hj dJ).keep f_ λb hb=>cC b _ hb
 jt i cs h hu:=by rw[fu];exact R.jt i cs h hu
 jq i h:=by rw[fu];exact R.jq i h
 inj i j b h h':=by rw[fu]at h h';exact R.inj i j b h h'
 base:=by rw[f_];exact R.base
 below:=by rw[f_];exact Su
 fresh:=lq
 still:=by rw[hold];exact R.still.trans gk
 grown:=by rw[hold];exact Nat.le_trans R.grown Xm
 kept b o h:=by
  rw[hold]at h;obtain⟨k1,k2,k3,k4,k5⟩:=R.kept b o h;obtain⟨e1,e2,e3⟩:=wD b o h k2
  exact⟨by rw[f_];exact k1,e1,by rw[e2];exact k3,by rw[e3];exact k4,by rw[fu];exact k5⟩ }
def Rel.grow {P:Program} {w0:World} {n:Nat} {U:Nat→Prop} {g g':Gh} {S:af} {H:ah} {a:Act} {w w':World} (R:Rel P w0 n U g S H a w)
  (hb:Below w.heap.size w w') (f_:g'.base=g.base) (hold:g'.old=g.old) (fu:g'.al=g.al)
  (hg:∀b,b<w.heap.size->g'.hi b=g.hi b/\g'.owner b=g.owner b) (lq:∀b,w'.heap.size<=b->g'.hi b=0/\g'.owner b=none):Rel P w0 n U g' S H a w':=by
 have hle:g.base<=w.heap.size:=by rw[R.base];exact R.below.size
 refine R.ext f_ hold fu ?_ ?_ ?_ ?_ lq ?_ hb.size
 .refine aE.gr (λb ao=>hb.block b ao) λb k ao hp=>?_
  unfold Gh.Pr at*
  rw[f_,hold,(hg b ao).1];exact hp
 .intro i b hi;obtain⟨cs,vs,ty,h1,h2,h3,_⟩:=R.box i b hi;have ao:b<w.heap.size:=(Array.getElem?_eq_some_iff.1 h3).1;exact⟨hb.block b ao,hg b ao⟩
 .intro b loc ho
  have ao:b<w.heap.size:=by
   rcases Nat.lt_or_ge b w.heap.size with h|h
   .exact h
   .rw[(R.fresh b h).2]at ho;cases ho
  exact⟨hb.block b ao,(hg b ao).1,by rw[(hg b ao).2];exact ho⟩
 .exact R.below.trans (hb.mono hle)
 .intro b o _ ho;have ao:b<w.heap.size:=(Array.getElem?_eq_some_iff.1 ho).1;exact⟨by rw[hb.block b ao];exact ho,hg b ao⟩
def Rel.oA {P:Program} {w0:World} {n:Nat} {U:Nat→Prop} {g:Gh} {S:af} {H:ah} {a:Act} {w w':World} (R:Rel P w0 n U g S H a w)
  (hb:Below w.heap.size w w'):Rel P w0 n U g S H a w':=
 R.grow hb rfl rfl rfl (λ_ _=>⟨rfl,rfl⟩) (λb h=>R.fresh b (Nat.le_trans hb.size h))
def jO(a:Act)(d t:Nat)(c:Value)(hd:d<a.tmps.size):(a.put (some d) c).tmps.getD t undef=if t=d then c else a.tmps.getD t undef:=by
 simp only[Act.put]
 by_cases h:t=d
 .subst h;simp[hd]
 .simp[h,Array.getElem?_setIfInBounds_ne (Ne.symm h)]
def Rel.put {P:Program} {w0:World} {n:Nat} {U:Nat→Prop} {g:Gh} {S:af} {H:ah} {a:Act} {w:World} (R:Rel P w0 n U g S H a w)
  (d:Nat) (v:AV) (c:Value) (hd:d<n) (hv:RV g.Pr g.al w v c) (ho:dw P w g (.slot d) v c):Rel P w0 n U g (au S d v) H (a.put (some d) c) w:={
 size:=by simp[Act.put,R.size]
 defers:=R.defers
 facts:=R.facts
 slot t ht hu:=by
  rw[jO a d t c (by rw[R.size];exact hd)]
  by_cases h:t=d
  .subst h;simp only[aN,if_true];exact hv
  .rw[aJ S v h,if_neg h];exact R.slot t ht hu
 own t ht hu:=by
  rw[jO a d t c (by rw[R.size];exact hd)]
  by_cases h:t=d
  .subst h;simp only[aN,if_true];exact ho
  .rw[aJ S v h,if_neg h];exact R.own t ht hu
 box:=R.box
 jt:=R.jt
 jq:=R.jq
 inj:=R.inj
 base:=R.base
 below:=R.below
 fresh:=R.fresh
 still:=R.still
 grown:=R.grown
 kept:=R.kept }
def aH(S:af):Option Nat->AV->af
 |some d,v=>au S d v
 |none,_=>S
def Rel.aH {P:Program} {w0:World} {n:Nat} {U:Nat→Prop} {g:Gh} {S:af} {H:ah} {a:Act} {w:World} (R:Rel P w0 n U g S H a w)
  (d:Option Nat) (v:AV) (c:Value) (hd:∀t,d=some t->t<n) (hv:RV g.Pr g.al w v c) (ho:∀t,d=some t->dw P w g (.slot t) v c):Rel P w0 n U g (aH S d v) H (a.put d c) w:=by
 cases d with
 |none=>exact R
 |some t=>exact R.put t v c (hd t rfl) hv (ho t rfl)
def Rel.weaken {P:Program} {w0:World} {n:Nat} {U:Nat→Prop} {g:Gh} {S:af} {H:ah} {a:Act} {w:World} (R:Rel P w0 n U g S H a w)
  (S':af) (h:∀t,t<n->¬U t->∀c,RV g.Pr g.al w (S t) c->dw P w g (.slot t) (S t) c->RV g.Pr g.al w (S' t) c/\dw P w g (.slot t) (S' t) c):Rel P w0 n U g S' H a w:={
 size:=R.size
 defers:=R.defers
 facts:=R.facts
 slot t ht hu:=(h t ht hu _ (R.slot t ht hu) (R.own t ht hu)).1
 own t ht hu:=(h t ht hu _ (R.slot t ht hu) (R.own t ht hu)).2
 box:=R.box
 jt:=R.jt
 jq:=R.jq
 inj:=R.inj
 base:=R.base
 below:=R.below
 fresh:=R.fresh
 still:=R.still
 grown:=R.grown
 kept:=R.kept }
def AV.kE:AV->Prop
 |.slice (.own _) _=>False
 |_=>True
instance(v:AV):Decidable v.kE:=by unfold AV.kE;split<;>infer_instance
def AV.oD(v:AV):v.aw.kE:=by
 cases v<;>try trivial
 rename_i o es
 cases o<;>trivial
def dw.kE{P:Program}{w w':World}{g g':Gh}{loc xu:Loc}{v:AV}{c:Value}(h:dw P w g loc v c)(hn:v.kE):dw P w' g' xu v c:=by
 cases v<;>try trivial
 rename_i o es
 cases o with
 |view=>trivial
 |nil=>trivial
 |own e=>simp[AV.kE]at hn
def Rel.DL {P:Program} {w0:World} {n:Nat} {U:Nat→Prop} {g:Gh} {S:af} {H:ah} {a:Act} {w:World} (R:Rel P w0 n U g S H a w)
  (loc:Loc) (xu:Option Loc) (hS:∀t,loc=.slot t->t<n->¬U t->(S t).kE)
  (hH:∀i j cs,loc=.cell i j->H i=some cs->∀h:j<cs.length,(cs[j]).kE):
  Rel P w0 n U { g with owner:=λb=>if g.owner b=some loc then xu else g.owner b } S H a w:={
 size:=R.size
 defers:=R.defers
 facts:=R.facts
 slot:=R.slot
 own t ht hu:=by
  by_cases h:loc=.slot t
  .exact(R.own t ht hu).kE (hS t h ht hu)
  .refine(R.own t ht hu).keep rfl λb hb=>⟨rfl,rfl,?_⟩
   show(if g.owner b=some loc then xu else g.owner b)=_;rw[if_neg (by rw[hb];intro e;exact h (Option.some.inj e).symm)];exact hb
 box i b hi:=by
  obtain⟨cs,vs,ty,h1,h2,h3,h4,h5,h6,h7,h8,h9⟩:=R.box i b hi;refine⟨cs,vs,ty,h1,h2,h3,h4,?_,h6,h7,?_,h9⟩
  .show(if g.owner b=some loc then xu else g.owner b)=none;rw[h5];simp
  .intro j hj dJ
   by_cases h:loc=.cell i j
   .exact(h8 j hj dJ).kE (hH i j cs h h1 hj)
   .refine(h8 j hj dJ).keep rfl λb hb=>⟨rfl,rfl,?_⟩
    show(if g.owner b=some loc then xu else g.owner b)=_;rw[if_neg (by rw[hb];intro e;exact h (Option.some.inj e).symm)];exact hb
 jt:=R.jt
 jq:=R.jq
 inj:=R.inj
 base:=R.base
 below:=R.below
 fresh b hb:=by
  refine⟨(R.fresh b hb).1,?_⟩;show(if g.owner b=some loc then xu else g.owner b)=none;rw[(R.fresh b hb).2];simp
 still:=R.still
 grown:=R.grown
 kept b o h:=by
  obtain⟨k1,k2,k3,k4,k5⟩:=R.kept b o h;refine⟨k1,k2,k3,?_,k5⟩;show(if g.owner b=some loc then xu else g.owner b)=none
  rw[k4];simp }
def RV.h_ {Pr:Nat→Nat→Prop} {al Cu:Nat→Option Nat} {w:World} {v:AV} {c:Value} {d:Nat} (h:RV Pr al w v c) (hs:h_ d v=false)
  (ha:∀i b,i≠d->al i=some b->Cu i=some b):RV Pr Cu w v c:=by
 cases h with
 |data v c h=>exact .data _ _ h
 |box i off b h=>exact .box i off b (ha i b (by simpa[Go.AL.h_]using hs) h)
 |func=>simp[Go.AL.h_]at hs
 |fR=>simp[Go.AL.h_]at hs
 |bj c=>exact .bj c
def RV.aZ {Pr:Nat→Nat→Prop} {al Cu:Nat→Option Nat} {w:World} {v:AV} {c:Value} (d:Nat) (h:RV Pr al w v c)
  (ha:∀i b,i≠d->al i=some b->Cu i=some b):RV Pr Cu w (aZ d v) c:=by
 cases h with
 |data v c h=>
  have:Go.AL.aZ d v=v:=by cases h<;>rfl
  rw[this];exact .data _ _ h
 |box i off b h=>
  simp only[Go.AL.aZ];split
  .exact .bj _
  .rename_i hi;exact .box i off b (ha i b hi h)
 |func fn first cap vs us h1 h2 r1 r2=>
  simp only[Go.AL.aZ];split
  .exact .bj _
  .rename_i hn;simp only[Bool.or_eq_true,not_or,Bool.not_eq_true,List.any_eq_false]at hn;exact .func fn first cap vs us h1 h2 (λi h h'=>(r1 i h h').h_ (by simpa using hn.1 _ (List.getElem_mem h)) ha) (λi h h'=>(r2 i h h').h_ (by simpa using hn.2 _ (List.getElem_mem h)) ha)
 |fR=>exact .bj _
 |bj c=>exact .bj c
def zl(P:Program)(w:World)(g:Gh)(loc:Loc)(d:Nat)(v:AV)(c:Value)(h:dw P w g loc v c):dw P w g loc (aZ d v) c:=by
 cases v<;>try exact h
 .simp only[aZ];split<;>trivial
 .simp only[aZ];split<;>trivial
def Rel.suspend {P:Program} {w0:World} {n:Nat} {U:Nat→Prop} {g:Gh} {S:af} {H:ah} {a:Act} {w:World} (R:Rel P w0 n U g S H a w)
  (d:Nat) (bC:¬g.old.bx d) (v:AV) (cs:List AV):
  Rel P w0 n (λt=>U t\/t=d) { g with al:=au g.al d none } (au (λt=>aZ d (S t)) d v) (au H d (some cs)) a w:={
 size:=R.size
 defers:=R.defers
 facts p hp:=by
  have h:=(R.facts p hp).aZ (Cu:=au g.al d none) d λi b hi h=>by rw[aJ _ _ hi];exact h
  rw[(g.old.ok p hp).2 d bC]at h;exact h
 slot t ht hu:=by
  simp only[not_or]at hu;rw[aJ _ _ hu.2]
  refine(R.slot t ht hu.1).aZ d λi b hi h=>?_
  show au g.al d none i=some b;rw[aJ _ _ hi];exact h
 own t ht hu:=by
  simp only[not_or]at hu;rw[aJ _ _ hu.2];exact zl _ _ _ _ _ _ _ (R.own t ht hu.1)
 box i b hi:=by
  by_cases h:i=d
  .subst h;simp[au]at hi
  .simp only[aJ _ _ h]at hi;obtain⟨cs',vs,ty,h1,rest⟩:=R.box i b hi;exact⟨cs',vs,ty,by rw[aJ _ _ h];exact h1,rest⟩
 jt i cs' h hu:=by
  simp only[not_or]at hu;rw[aJ _ _ hu.2]at h;simp only[aJ _ _ hu.2];exact R.jt i cs' h hu.1
 jq i h:=by
  show au g.al d none i=none
  by_cases hi:i=d
  .subst hi;simp[au]
  .rw[aJ _ _ hi];exact R.jq i (h.resolve_right hi)
 inj i j b h h':=by
  have e:∀k,(au g.al d none) k=some b->g.al k=some b:=by
   intro k hk
   by_cases FJ:k=d
   .subst FJ;simp[au]at hk
   .rwa [aJ _ _ FJ]at hk
  exact R.inj i j b (e i h) (e j h')
 base:=R.base
 below:=R.below
 fresh:=R.fresh
 still:=R.still
 grown:=R.grown
 kept b o h:=by
  obtain⟨k1,k2,k3,k4,k5⟩:=R.kept b o h;refine⟨k1,k2,k3,k4,λi=>?_⟩;show au g.al d none i≠some b
  by_cases hi:i=d
  .subst hi;simp[au]
  .rw[aJ _ _ hi];exact k5 i }
def Rel.CM {P:Program} {w0:World} {n:Nat} {U:Nat→Prop} {g:Gh} {S:af} {H:ah} {a:Act} {w:World} (R:Rel P w0 n U g S H a w)
  (d:Nat) (hU:U d) (hd:d<n) (cs:List AV) (vs:Array Value) (ty:TypeId) (hS:S d=.box d 0) (hH:H d=some cs) (hl:cs.length=vs.size)
  (hr:∀j (h:j<cs.length)(h':j<vs.size),RD g.Pr w cs[j] vs[j])
  (ho:∀j (h:j<cs.length)(h':j<vs.size),(cs[j]).kE/\dw P w g (.cell d j) cs[j] vs[j]) (h1:∀j (h:j<cs.length),(cs[j]).one=true):
  Rel P w0 n (λt=>U t/\t≠d) { g with al:=au g.al d (some w.heap.size) } S H (a.put (some d) (.pointer (some ⟨w.heap.size,0,none⟩))) (w.alloc (.cells vs ty)):=by
 have hb:Below w.heap.size w (w.alloc (.cells vs ty)):=(Below.refl _ _).alloc (Nat.le_refl _) _;have R':=R.oA hb
 have hle:g.base<=w.heap.size:=by rw[R.base];exact R.below.size
 have fu:∀i b,g.al i=some b->au g.al d (some w.heap.size) i=some b:=by
  intro i b h;rw[aJ _ _ (by rintro rfl;rw[R.jq _ hU]at h;cases h)];exact h
 have Ho:∀{v:AV}{c:Value},RD g.Pr w v c->RD g.Pr (w.alloc (.cells vs ty)) v c:=λh=>h.mono (aE.gr (λb ao=>hb.block b ao) λ_ _ _ h=>h)
 refine{ size:=by simp[Act.put,R.size],defers:=R.defers,facts:=λp hp=>(R'.facts p hp).mono (aE.same λ_ _ _ h=>h) fu,slot:=?_,own:=?_,box:=?_,jt:=?_,jq:=?_,inj:=?_,base:=R.base,below:=R'.below,fresh:=R'.fresh,still:=R'.still,grown:=R'.grown,kept:=?_ }
 .intro t ht hu;rw[jO a d t _ (by rw[R.size];exact hd)]
  by_cases h:t=d
  .subst h;rw[if_pos rfl,hS];exact .box _ _ _ (by simp[au])
  .rw[if_neg h];exact(R'.slot t ht (λMA=>hu ⟨MA,h⟩)).mono (aE.same λ_ _ _ h=>h) fu
 .intro t ht hu;rw[jO a d t _ (by rw[R.size];exact hd)]
  by_cases h:t=d
  .subst h;rw[hS];simp[dw]
  .rw[if_neg h]
   exact(R'.own t ht (λMA=>hu ⟨MA,h⟩)).keep rfl λb hb=>⟨rfl,rfl,hb⟩
 .intro i b hi
  by_cases h:i=d
  .subst h
   have gQ:b=w.heap.size:=by simpa[au]using hi.symm
   subst gQ;refine⟨cs,vs,ty,hH,hle,heap_alloc_new w _,(R.fresh _ (Nat.le_refl _)).1,(R.fresh _ (Nat.le_refl _)).2,hl,λj h h'=>Ho (hr j h h'),λj h h'=>(ho j h h').2.kE (ho j h h').1,h1⟩
  .simp only[aJ _ _ h]at hi;obtain⟨cs',ju,rv,h1,h2,h3,h4,h5,h6,h7,h8,h9⟩:=R'.box i b hi;exact⟨cs',ju,rv,h1,h2,h3,h4,h5,h6,h7,λj hj dJ=>(h8 j hj dJ).keep rfl λb hb=>⟨rfl,rfl,hb⟩,h9⟩
 .intro i cs' h hu
  by_cases hi:i=d
  .subst hi;simp[au]
  .simp only[aJ _ _ hi];exact R.jt i cs' h (λMA=>hu ⟨MA,hi⟩)
 .intro i h;show au g.al d (some w.heap.size) i=none;rw[aJ _ _ h.2];exact R.jq i h.1
 .intro i j b h h'
  have key:∀k,au g.al d (some w.heap.size) k=some b->(k=d/\b=w.heap.size)\/(k≠d/\g.al k=some b):=by
   intro k hk
   by_cases FJ:k=d
   .subst FJ;exact .inl ⟨rfl,by simpa[au]using hk.symm⟩
   .rw[aJ _ _ FJ]at hk;exact .inr ⟨FJ,hk⟩
  have ao:∀k,g.al k=some b->b<w.heap.size:=by
   intro k hk;obtain⟨_,_,_,_,_,h3,_⟩:=R.box k b hk;exact(Array.getElem?_eq_some_iff.1 h3).1
  rcases key i h with⟨rfl,e⟩|⟨hi,h1⟩<;>rcases key j h' with⟨rfl,e'⟩|⟨hj,h2⟩
  .rfl
  .have:=ao j h2;omega
  .have:=ao i h1;omega
  .exact R.inj i j b h1 h2
 .intro b o h;obtain⟨k1,k2,k3,k4,k5⟩:=R'.kept b o h;refine⟨k1,k2,k3,k4,λi=>?_⟩;show au g.al d (some w.heap.size) i≠some b
  by_cases hi:i=d
  .subst hi;rw[aN];have:=(Array.getElem?_eq_some_iff.1 (R.kept b o h).2.1).1;intro e;have:=Option.some.inj e;omega
  .rw[aJ _ _ hi];exact k5 i
def Rel.yv {P:Program} {w0:World} {n:Nat} {U:Nat→Prop} {g:Gh} {S:af} {H:ah} {a:Act} {w:World} (R:Rel P w0 n U g S H a w)
  (i b:Nat) (hi:g.al i=some b) (vs ju:Array Value) (ty:TypeId) (hh:w.heap[b]?=some (.cells vs ty (0,0))) (cs':List AV) (hl:cs'.length=ju.size)
  (hr:∀j (h:j<cs'.length)(h':j<ju.size),RD g.Pr w cs'[j] ju[j])
  (ho:∀j (h:j<cs'.length)(h':j<ju.size),dw P w g (.cell i j) cs'[j] ju[j]) (h1':∀j (h:j<cs'.length),(cs'[j]).one=true):
  Rel P w0 n U g S (au H i (some cs')) a (w.setRow b ju):=by
 obtain⟨cs,YV,ty0,h1,h2,h3,h4,h5,h6,h7,h8,h9⟩:=R.box i b hi
 have bt:∀b' k,g.Pr b' k->b'≠b:=by
  rintro b' k hp rfl;unfold Gh.Pr at hp;rw[h4]at hp;omega
 have gk:aE g.Pr g.Pr w (w.setRow b ju):={
  cell:=λb' k hp u hu=>⟨hp,by rw[World.cell?_of_block (w:=w) (setRow_other w b b' ju (bt b' k hp))];exact hu⟩
  map:=λb' hp es c hm=>⟨hp,by rw[setRow_other w b b' ju (bt b' 0 hp)];exact hm⟩ }
 have cC:∀b' loc,g.owner b'=some loc->(w.setRow b ju).heap[b']?=w.heap[b']?/\g.hi b'=g.hi b'/\g.owner b'=some loc:=by
  intro b' loc eN;refine⟨setRow_other w b b' ju ?_,rfl,eN⟩;rintro rfl;rw[h5]at eN;cases eN
 refine{ size:=R.size,defers:=R.defers,facts:=λp hp=>(R.facts p hp).mono gk λ_ _ h=>h,slot:=?_,own:=?_,box:=?_,jt:=?_,jq:=R.jq,inj:=R.inj,base:=R.base,below:=?_,fresh:=?_,still:=R.still.trans gk,grown:=by simpa using R.grown,kept:=?_ }
 .exact λt ht hu=>(R.slot t ht hu).mono gk λ_ _ h=>h
 .exact λt ht hu=>(R.own t ht hu).keep rfl λb' eN=>cC b' _ eN
 .intro k b' hk
  by_cases x_:k=i
  .subst x_
   have:b'=b:=by rw[hi]at hk;exact(Option.some.inj hk).symm
   subst this;exact⟨cs',ju,ty,aN _ _ _,h2,setRow_heap w b' vs ju ty (0,0) hh,h4,h5,hl,λj h h'=>(hr j h h').mono gk,λj h h'=>(ho j h h').keep rfl λb' eN=>cC b' _ eN,h1'⟩
  .obtain⟨c1,v1,t1,k1,k2,k3,k4,k5,k6,k7,k8,k9⟩:=R.box k b' hk
   have bt:b'≠b:=by rintro rfl;exact x_ (R.inj k i b' hk hi)
   exact⟨c1,v1,t1,by rw[aJ _ _ x_];exact k1,k2,by rw[setRow_other w b b' ju bt];exact k3,k4,k5,k6,λj h h'=>(k7 j h h').mono gk,λj h h'=>(k8 j h h').keep rfl λb' eN=>cC b' _ eN,k9⟩
 .intro k cs1 hk hu
  by_cases x_:k=i
  .subst x_;rw[hi];rfl
  .rw[aJ _ _ x_]at hk;exact R.jt k cs1 hk hu
 .exact R.below.trans ⟨rfl,rfl,rfl,by simp,λk hk=>setRow_other w b k ju (by omega)⟩
 .intro b' eN;exact R.fresh b' (by simpa using eN)
 .intro b' o h;obtain⟨k1,k2,k3,k4,k5⟩:=R.kept b' o h;refine⟨k1,?_,k3,k4,k5⟩;rw[setRow_other w b b' ju (by rintro rfl;exact k5 i hi)];exact k2
inductive bZ where
 |t (n:Nat)|c (v:AV)|f (n:Nat)|m (n:Nat) (Xe:List (TypeId×Nat))
def mb:Value->Option AV
 |.bool b=>some (.bool b)
 |.int k n=>some (.int k n)
 |.string s=>some (.str s.data.toList)
 |.slice none 0 0=>some (.slice .nil [])
 |.pointer none=>some .nL
 |.map none=>some (.map [] [])
 |.nilIface=>some .ni
 |.nilFunc=>some (.val .nilFunc)
 |_=>none
def ij:List Value->Option (List AV)
 |[]=>some []
 |v::vs=>match mb v,ij vs with
  |some x,some xs=>if x.storable then some (x::xs)else none
  |_,_=>none
def ev(S:af):bZ->AV
 |.t n=>S n
 |.c v=>v
 |.f n=>.func (.func n) [] []
 |.m n Xe=>match S n with
  |.iface t v=>match Xe.lookup t with
   |some k=>.func (.func k) [v] []
   |none=>.bj
  |_=>.bj
inductive HR where
 |any|ref|box (r:Nat)
def HR.okB:HR->Nat->Bool
 |.any,_=>true
 |.ref,_=>false
 |.box r,i=>i==r
inductive eb where
 |mv (take:Bool) (x:bZ)
 |pick (c a b:bZ)
 |alloc (t:TypeId) (zero:List AV)
 |box (t:TypeId) (size:Nat) (x:bZ)
 |build (zero:List AV) (parts:List (Nat×Nat×bZ))
 |buildSlice (t e:TypeId) (size:Nat) (parts:List bZ)
 |load (hr:HR) (agg:Bool) (size:Nat) (a:bZ)
 |loadT (hr:HR) (a:bZ)
 |store (hr:HR) (size:Nat) (a x:bZ)
 |bin (op:BinOp) (x y:bZ)
 |A_ (neg:Bool) (x y:bZ)
 |eqs (neg:Bool) (k:Nat) (x y:bZ)
 |nZ (ag:Bool) (len size:Nat) (x i:bZ)
 |xm (x:bZ)
 |nW (xs:List bZ)
 |n9 (len:Nat) (x i:bZ)
 |lookup (k:Nat) (z:AV) (x i:bZ)
 |not (x:bZ)
 |conv (k:IntKind) (x:bZ)
 |iface (t:TypeId) (x:bZ)
 |D2 (fn:Fn) (first cap:List bZ)
 |nY (x:bZ) (lo hi:Option bZ)
 |nX (size:Nat) (x:bZ) (lo hi:Option bZ)
 |pa (len:Nat) (x:bZ)
 |fieldAddr (off:Nat) (x:bZ)
 |indexAddr (size:Nat) (x i:bZ)
 |nR (x i:bZ)
 |extract (x:bZ) (i:Nat)
 |xN (x:bZ)
 |lI (x:bZ)
 |isNil (neg:Bool) (x:bZ)
 |empty (e:TypeId)
 |append (t e:TypeId) (size bytes:Nat) (x y:bZ)
 |max (x y:bZ)
 |min (x y:bZ)
 |assert (t:TypeId) (zero:AV) (x:bZ)
 |panic (x:bZ)
 |call (f:Nat) (args:List bZ)
 |gI (f:bZ) (args:List bZ)
 |other
structure aB where
 v:AV
 dm:Option Nat:=none
 hw:Option (Nat×List AV):=none
def aB.S(e:aB)(S:af)(dst:Option Nat):af:=
 aH (match e.dm with|some t=>au S t (S t).aw|none=>S) dst e.v
def aB.H(e:aB)(H:ah):ah:=
 match e.hw with|some (i,cs)=>au H i (some cs)|none=>H
def bI:AV:=.fZ []
def dO(op:BinOp):AV->AV->Option AV
 |.int k a,.int k' b=>
  if k≠k' then none else
  match op with
  |.add=>some (.int k (k.wrap (a+b)))
  |.sub=>some (.int k (k.wrap (a-b)))
  |.mul=>some (.int k (k.wrap (a*b)))
  |.quo=>if b=0 then none else some (.int k (k.wrap (a.tdiv b)))
  |.rem=>if b=0 then none else some (.int k (a.tmod b))
  |.eql=>some (.bool (a==b))
  |.neq=>some (.bool (a !=b))
  |.lss=>some (.bool (decide (a<b)))
  |.leq=>some (.bool (decide (a<=b)))
  |.gtr=>some (.bool (decide (a>b)))
  |.geq=>some (.bool (decide (a>=b)))
  |.and=>some (.int k (k.wrap (BitVec.ofInt k.bits a&&&BitVec.ofInt k.bits b).toNat))
  |.or=>some (.int k (k.wrap (BitVec.ofInt k.bits a|||BitVec.ofInt k.bits b).toNat))
  |.andNot=>some (.int k (k.wrap (BitVec.ofInt k.bits a&&&~~~ BitVec.ofInt k.bits b).toNat))
  |.shl=>if b<0\/k.bits<=b.toNat then none else some (.int k (k.wrap (a*2^b.toNat)))
  |_=>none
 |.str a,.str b=>
  match op with
  |.eql=>some (.bool (a==b))
  |.neq=>some (.bool (a !=b))
  |.add=>if a.length+b.length<1073741824 then some (.str (a++b))else none
  |_=>none
 |_,_=>none
def mU:List AV->Option (List Int)
 |[]=>some []
 |.int .i64 n::cs=>(mU cs).map (n::·)
 |_=>none
def bytesOf:List AV->Option (List UInt8)
 |[]=>some []
 |.int .u8 n::cs=>if 0<=n/\n<256 then(bytesOf cs).map (UInt8.ofNat n.toNat::·)else none
 |_=>none
def ny(key:List Int):List AV->List AV->Option (Option AV)
 |[],_=>some none
 |.agg c::ks,v::vs=>match mU c with
  |some m=>if m.length≠key.length then none else if key==m then some (some v)else ny key ks vs
  |none=>none
 |_,_=>none
def iy:AV->AV
 |.val (.func (.func k) ⟨[]⟩ ⟨[]⟩)=>.func (.func k) [] []
 |v=>v
@[simp] def XO(k:Nat):iy (.val (.func (.func k) #[] #[]))=.func (.func k) [] []:=rfl
@[simp] def Wh(k:IntKind)(n:Int):iy (.int k n)=.int k n:=rfl
@[simp] def Tl(b:Bool):iy (.bool b)=.bool b:=rfl
@[simp] def Va(l:List UInt8):iy (.str l)=.str l:=rfl
@[simp] def Sg(o:Ow)(es:List AV):iy (.slice o es)=.slice o es:=rfl
@[simp] def WK(cs:List AV):iy (.agg cs)=.agg cs:=rfl
@[simp] def Wk(cs:List AV):iy (.ref cs)=.ref cs:=rfl
@[simp] def RN(t:TypeId)(v:AV):iy (.iface t v)=.iface t v:=rfl
@[simp] def Sx(l:Nat)(a b:Array Value):iy (.val (.func (.yield l) a b))=.val (.func (.yield l) a b):=rfl
@[simp] def WL(b:Option Nat):iy (.val (.map b))=.val (.map b):=rfl
@[simp] def TD(ks vs:List AV):iy (.map ks vs)=.map ks vs:=rfl
@[simp] def V0(l:List AV):iy (.fZ l)=.fZ l:=rfl
@[simp] def SV:iy .nL=.nL:=rfl
@[simp] def TZ:iy .ni=.ni:=rfl
@[simp] def Tk:iy .kd=.kd:=rfl
@[simp] def Tz:iy .bj=.bj:=rfl
@[simp] def Ue:iy (.val .nilFunc)=.val .nilFunc:=rfl
def HR.out:HR->AV->AV
 |.box _,v=>iy v
 |_,v=>v
@[simp] def HR.aaT(v:AV):HR.any.out v=v:=rfl
@[simp] def HR.aaQ(v:AV):HR.ref.out v=v:=rfl
@[simp] def HR.Zg(r:Nat)(v:AV):(HR.box r).out v=iy v:=rfl
def wW:AV->Bool
 |.func ..|.val .nilFunc=>true
 |_=>false
def aQ(cs:List AV)(off:Nat)(vs:List AV):List AV:=cs.take off++vs++cs.drop (off+vs.length)
def dH(cells:List AV):List (Nat×Nat×AV)->Option (List AV)
 |[]=>some cells
 |(off,size,v)::rest=>if v.cells.length=size/\off+size<=cells.length/\v.storable=true then dH (aQ cells off (v.aw.cells)) rest else none
def aP(agg:Bool)(size:Nat)(cs:List AV):Option AV:=
 if agg then(if size<=cs.length then some (.agg ((cs.take size).map AV.aw))else none)
 else(cs[0]?).map AV.aw
def bound(x:Option AV)(d:Nat):Option Int:=
 match x with
 |none=>some d
 |some (.int .i64 n)=>some n
 |_=>none
def AV.bb:AV->List AV
 |.agg cs=>cs.map AV.aw
 |v=>[v]
def aY:bZ->Option Nat
 |.t n=>some n
 |_=>none
def aC(size:Nat)(es:List AV):Bool:=es.all λv=>v.storable&&v.cells.length==size
def aq(S:af)(H:ah):eb->Option aB
 |.mv take x=>if take then some { v:=ev S x,dm:=aY x }else some { v:=(ev S x).aw }
 |.pick c a b=>match ev S c with
  |.bool t=>some { v:=(if t then ev S a else ev S b).aw }
  |_=>none
 |.build zero parts=>(dH zero (parts.map λ(o,s,x)=>(o,s,ev S x))).map λcs=>{ v:=.agg cs }
 |.buildSlice _ e size parts=>
  if aC size (parts.map (ev S))&&parts.length*size<=16777216 then some { v:=.slice (.own e) ((parts.map (ev S)).map AV.vw) }else none
 |.load hr agg size x=>match ev S x with
  |.box i off=>if hr.okB i then match H i with
   |some cs=>(aP agg size (cs.drop off)).map λv=>{ v:=hr.out v }
   |none=>none
   else none
  |.ref cs=>(aP agg size cs).map λv=>{ v:=v }
  |_=>none
 |.loadT hr x=>match ev S x with
  |.box i off=>if hr.okB i then match H i with
   |some cs=>match cs[off]? with
    |some v=>some { v:=v,hw:=some (i,cs.set off v.aw) }
    |none=>none
   |none=>none
   else none
  |_=>none
 |.store hr size x y=>match ev S x with
  |.box i off=>if hr.okB i then match H i with
   |some cs=>if (ev S y).cells.length=size∧off+size≤cs.length∧(ev S y).storable=true then
     some { v:=bI,dm:=aY y,hw:=some (i,aQ cs off (ev S y).bb) }else none
   |none=>none
   else none
  |_=>none
 |.bin op x y=>(dO op (ev S x) (ev S y)).map λv=>{ v:=v }
 |.A_ neg x y=>match ev S x,ev S y with
  |.bool a,.bool b=>some { v:=.bool (if neg then a !=b else a==b) }
  |_,_=>none
 |.eqs neg k x y=>match ev S x,ev S y with
  |.agg xs,.agg ys=>match mU xs,mU ys with
   |some a,some b=>if a.length=k/\b.length=k then some { v:=.bool (if neg then a !=b else a==b) }else none
   |_,_=>none
  |_,_=>none
 |.nZ ag len size x i=>match ev S x,ev S i with
  |.agg cs,.int .i64 k=>if 0<=k/\k<len then(aP ag size (cs.drop (k.toNat*size))).map λv=>{ v:=v }else none
  |_,_=>none
 |.nW xs=>if(xs.map (ev S)).all wW then some { v:=.fR (xs.map (ev S)) }else none
 |.n9 len x i=>match ev S x,ev S i with
  |.fR fs,.int .i64 k=>if 0≤k∧k < len then match fs[k.toNat]? with
    |some v=>if wW v then some { v:=v }else none
    |none=>none
   else none
  |_,_=>none
 |.xm x=>match ev S x with
  |.slice _ es=>(bytesOf es).map λl=>{ v:=.str l }
  |_=>none
 |.lookup k z x i=>match ev S x,ev S i with
  |.map ks vs,.agg c=>match mU c with
   |some key=>if key.length=k then match ny key ks vs with
     |some (some v)=>some { v:=.fZ [v.aw,.bool true] }
     |some none=>some { v:=.fZ [z,.bool false] }
     |none=>none
    else none
   |none=>none
  |_,_=>none
 |.not x=>match ev S x with
  |.bool b=>some { v:=.bool !b }
  |_=>none
 |.conv k x=>match ev S x with
  |.int _ n=>some { v:=.int k (k.wrap n) }
  |_=>none
 |.iface t x=>if(ev S x).storable then some { v:=.iface t (ev S x).vw }else none
 |.D2 fn first cap=>some { v:=.func fn (first.map λx=>(ev S x).aw) (cap.map λx=>(ev S x).aw) }
 |.nY x lo hi=>match ev S x with
  |.str l=>match bound (lo.map (ev S)) 0,bound (hi.map (ev S)) l.length with
   |some a,some b=>if 0<=a/\a<=b/\b<=l.length then some { v:=.str ((l.take b.toNat).drop a.toNat) }else none
   |_,_=>none
  |_=>none
 |.pa len x=>match ev S x with
  |.ref cs=>if cs.length=len then some { v:=.slice .view cs }else none
  |_=>none
 |.nX size x lo hi=>match ev S x with
  |.slice _ es=>match bound (lo.map (ev S)) 0,bound (hi.map (ev S)) es.length with
   |some a,some b=>if 0<=a/\a<=b/\b<=es.length/\aC size es=true then some { v:=.slice .view ((es.take b.toNat).drop a.toNat) }else none
   |_,_=>none
  |_=>none
 |.fieldAddr off x=>match ev S x with
  |.box i o=>some { v:=.box i (o+off) }
  |.ref cs=>some { v:=.ref (cs.drop off) }
  |_=>none
 |.indexAddr size x i=>match ev S x,ev S i with
  |.slice _ es,.int .i64 k=>if 0≤k then match es[k.toNat]? with
    |some v=>if v.cells.length=size then some { v:=.ref v.cells }else none
    |none=>none
   else none
  |_,_=>none
 |.nR x i=>match ev S x,ev S i with
  |.str l,.int .i64 k=>if 0≤k then match l[k.toNat]? with
    |some b=>some { v:=.int .u8 b.toNat }
    |none=>none
   else none
  |_,_=>none
 |.extract x i=>match ev S x with
  |.fZ vs=>(vs[i]?).map λv=>{ v:=v.aw }
  |_=>none
 |.xN x=>match ev S x with
  |.str l=>some { v:=.int .i64 l.length }
  |_=>none
 |.lI x=>match ev S x with
  |.slice _ es=>some { v:=.int .i64 es.length }
  |_=>none
 |.isNil neg x=>match ev S x with
  |.slice _ es=>some { v:=if es.isEmpty then .kd else .bool neg }
  |_=>none
 |.empty _=>some { v:=.slice .nil [] }
 |.append _ e size _ x y=>match ev S x,ev S y with
  |.slice .nil [],.slice _ ys=>if aC size ys&&ys.length<1048576 then some { v:=.slice (if ys.isEmpty then .nil else .own e) ys }else none
  |.slice (.own e') xs,.slice _ ys=>if e'=e/\(aC size ys&&aC size xs&&(xs.length+ys.length<1048576))=true then some { v:=.slice (.own e) (xs++ys),dm:=aY x }else none
  |_,_=>none
 |.max x y=>match ev S x,ev S y with
  |.int .i64 a,.int .i64 b=>some { v:=.int .i64 (max a b) }
  |_,_=>none
 |.min x y=>match ev S x,ev S y with
  |.int .i64 a,.int .i64 b=>some { v:=.int .i64 (min a b) }
  |_,_=>none
 |.assert t zero x=>match ev S x with
  |.iface t' v=>some { v:=if t'=t then .fZ [v,.bool true]else .fZ [zero,.bool false] }
  |.ni=>some { v:=.fZ [zero,.bool false] }
  |_=>none
 |_=>none
def bZ.tmps:bZ->List Nat
 |.t n=>[n]
 |.m n _=>[n]
 |_=>[]
def eb.rd:eb->List Nat
 |.mv _ x|.pa _ x|.box _ _ x|.load _ _ _ x|.loadT _ x|.not x|.xm x|.conv _ x|.iface _ x|.fieldAddr _ x|.extract x _|.xN x|.lI x|.isNil _ x|.assert _ _ x|.panic x=>x.tmps
 |.pick a b c=>a.tmps++b.tmps++c.tmps
 |.alloc ..|.other|.empty _=>[]
 |.build _ ps=>ps.flatMap λp=>p.2.2.tmps
 |.buildSlice _ _ _ ps=>ps.flatMap bZ.tmps
 |.store _ _ a x|.bin _ a x|.A_ _ a x|.eqs _ _ a x|.indexAddr _ a x|.nR a x|.nZ _ _ _ a x|.lookup _ _ a x|.append _ _ _ _ a x|.max a x|.min a x=>a.tmps++x.tmps
 |.nW xs=>xs.flatMap bZ.tmps
 |.n9 _ a x=>a.tmps++x.tmps
 |.D2 _ f c=>f.flatMap bZ.tmps++c.flatMap bZ.tmps
 |.nY x l h|.nX _ x l h=>x.tmps++(l.toList++h.toList).flatMap bZ.tmps
 |.call _ xU=>xU.flatMap bZ.tmps
 |.gI f xU=>f.tmps++xU.flatMap bZ.tmps
def dg(n:Nat):Operand->Option bZ
 |.tmp t=>if t<n then some (.t t)else none
 |.const c=>(mb c).map .c
 |.func f=>some (.f f)
 |.global _=>none
def nJ(n:Nat):List Operand->Option (List bZ)
 |[]=>some []
 |x::xs=>match dg n x,nJ n xs with
  |some y,some ys=>some (y::ys)
  |_,_=>none
def lv(n:Nat):Option Operand->Option (Option bZ)
 |none=>some none
 |some x=>(dg n x).map some
def Es(Pr:Nat->Nat->Prop)(al:Nat->Option Nat)(w:World){c:Value}{v:AV}(h:mb c=some v):RV Pr al w v c:=by
 unfold mb at h
 split at h<;>first|cases h|skip
 .exact .data _ _ (.bool _)
 .exact .data _ _ (.int _ _)
 .rename_i s
  have:s=⟨s.data.toList.toArray⟩:=by simp
  rw(occs:=.pos [2]) [this];exact .data _ _ (.str _)
 .exact .data _ _ (.fH _)
 .exact .data _ _ .nL
 .exact .data _ _ .qM
 .exact .data _ _ .ni
 .exact .data _ _ (.val _ rfl)
def wP{c:Value}{v:AV}(h:mb c=some v)(P:Program)(w:World)(g:Gh)(loc:Loc):dw P w g loc v c:=by
 unfold mb at h
 split at h<;>first|cases h|skip
 all_goals first|trivial|exact⟨none,rfl⟩
def xK{c:Value}{v:AV}(h:mb c=some v):v.kE:=by
 unfold mb at h
 split at h<;>first|cases h|skip
 all_goals trivial
section
variable{P:Program}{w0:World}{n:Nat}{U:Nat->Prop}{g:Gh}{S:af}{H:ah}{a:Act}{w:World}
def Rel.ev(R:Rel P w0 n U g S H a w){x:Operand}{y:bZ}(h:dg n x=some y)(hu:∀t∈y.tmps,¬U t):RV g.Pr g.al w (ev S y) (a.eval x):=by
 cases x with
 |tmp t=>
  simp only[dg]at h;split at h
  .rename_i ht;cases h;exact R.slot t ht (hu t (by simp[bZ.tmps]))
  .cases h
 |const c=>
  simp only[dg,Option.map_eq_some_iff]at h;obtain⟨v,hv,rfl⟩:=h;exact Es _ _ _ hv
 |global k=>cases h
 |func f=>
  cases h;exact .func _ [] [] #[] #[] rfl rfl (λi h=>by simp at h) (λi h=>by simp at h)
def Rel.E7 (R:Rel P w0 n U g S H a w):∀ {xs:List Operand} {ys:List bZ},nJ n xs=some ys→(∀ y∈ys,∀ t∈y.tmps,¬ U t) →
  ys.length=xs.length/\∀i (h:i<ys.length)(h':i<xs.length),RV g.Pr g.al w (AL.ev S ys[i]) (a.eval xs[i])
 |[],ys,h,_=>by cases h;exact⟨rfl,λi h=>by simp at h⟩
 |x::xs,ys,h,hu=>by
  simp only[nJ]at h;split at h
  .rename_i y ys' h1 h2;cases h;obtain⟨e,hh⟩:=R.E7 h2 (λy hy=>hu y (by simp[hy]));refine⟨by simp[e],λi hi cy=>?_⟩
   cases i with
   |zero=>exact R.ev h1 (hu y (by simp))
   |succ i=>exact hh i (by simpa using hi) (by simpa using cy)
  .cases h
def b_(P:Program)(w0:World)(n:Nat)(U:Nat->Prop)(g:Gh)(S:af)(H:ah)(a:Act)(w:World)(o:Oper)(e:aB):Prop:=
 ∃c w' g',((execOp a.eval o).run P w=.ok (.value c) w'\/((execOp a.eval o).run P w=.ok .skip w'/\c=undef))/\
  g'.base=g.base/\g'.old=g.old/\Rel P w0 n U g' (e.S S o.dst) (e.H H) (a.put o.dst c) w'
def b_.val (R:Rel P w0 n U g S H a w) {o:Oper} {v:AV} {c:Value} (hd:∀ t,o.dst=some t→t < n) (hr:(execOp a.eval o).run P w = .ok (.value c) w)
  (hv:RV g.Pr g.al w v c) (ho:∀loc,dw P w g loc v c):b_ P w0 n U g S H a w o { v:=v }:=
 ⟨c,w,g,.inl hr,rfl,rfl,R.aH o.dst v c hd hv λ_ _=>ho _⟩
def fF(v:AV)(c:Value)(loc:Loc):dw P w g loc v.aw c:=dw.aw
def GF (R:Rel P w0 n U g S H a w) {o:Oper} {x:Operand} {y:bZ} {tk:Bool} {e:aB} (hd:∀ t,o.dst=some t→t < n∧¬ U t) (hx:dg n x=some y) (hu:∀ t∈y.tmps,¬ U t)
  (hr:(execOp a.eval o).run P w=.ok (.value (a.eval x)) w) (c_:∀t,o.dst=some t->t∉y.tmps) (he:aq S H (.mv tk y)=some e):b_ P w0 n U g S H a w o e:=by
 have hv:=R.ev hx hu
 cases tk with
 |false=>
  simp only[aq,Bool.false_eq_true,if_false,Option.some.injEq]at he;subst he
  exact b_.val R (λt h=>(hd t h).1) hr hv.aw λloc=>fF _ _ _
 |true=>
  simp only[aq,if_true,Option.some.injEq]at he;subst he
  cases x with
  |const c=>
   simp only[dg,Option.map_eq_some_iff]at hx;obtain⟨v,hc,rfl⟩:=hx
   exact b_.val R (λt h=>(hd t h).1) hr hv λloc=>wP hc _ _ _ _
  |global k=>cases hx
  |func f=>cases hx;exact b_.val R (λt h=>(hd t h).1) hr hv λloc=>trivial
  |tmp t=>
   simp only[dg]at hx;split at hx
   case isFalse=>cases hx
   rename_i ht;cases hx;have K8:=hu t (by simp[bZ.tmps]);have ho:=R.own t ht K8
   have R1:Rel P w0 n U g (au S t (S t).aw) H a w:=R.weaken _ λk hk huk c pY ho=>by
    by_cases h:k=t
    .subst h;rw[aN];exact⟨pY.aw,fF _ _ _⟩
    .rw[aJ _ _ h];exact⟨pY,ho⟩
   cases gG:o.dst with
   |none=>
    refine⟨_,w,g,.inl hr,rfl,rfl,?_⟩;simpa[aB.S,aB.H,aH,aY,gG,Act.put]using R1
   |some d=>
    have hdt:d≠t:=λh=>c_ d gG (by simp[bZ.tmps,h])
    have R2:=R1.DL (.slot t) (some (.slot d)) (λk hk _ _=>by cases hk;rw[aN];exact AV.oD _) (λi j cs h=>by cases h);have R3:=R2.put d (S t) (a.tmps.getD t undef) (hd d gG).1 (R.slot t ht K8) ?own
    case own=>
     show dw P w _ (.slot d) (S t) (a.tmps.getD t undef);generalize S t=v at ho;generalize a.tmps.getD t undef=c at ho
     cases v<;>try trivial
     rename_i oo es
     cases oo with
     |view=>trivial
     |nil=>exact ho
     |own e=>
      obtain⟨i,xs,b,h1,h2,h3,h4,h5⟩:=ho;refine⟨i,xs,b,h1,h2,h3,?_,h5⟩;show(if g.owner b=some (.slot t)then some (.slot d)else g.owner b)=_;rw[if_pos h4]
    rw[<-gG]at R3;exact⟨_,w,{ g with owner:=λb=>if g.owner b=some (.slot t)then some (.slot d)else g.owner b },.inl hr,rfl,rfl,by rw[gG]at R3⊢;exact R3⟩
def fE:TypeDesc->Bool
 |.struct _|.array _ _=>true
 |_=>false
def qt {Pr:Nat→Nat→Prop} {al:Nat→Option Nat} {ty:TypeId} {i:TypeInfo} {nq:TypeDesc} (hi:P.info? ty=some i) (hu:P.underlying ty=some nq) {b off:Nat} {cs:List AV} {vs:Nat→Value} {v:AV}
  (hc:∀k,k<cs.length->w.cell? ⟨b,off+k,none⟩=some (vs k)) (h1:∀k (h:k<cs.length),(cs[k]).one=true) (hr:∀k (h:k<cs.length),RD Pr w cs[k] (vs k))
  (he:aP (fE nq) i.size cs=some v):
  ∃c,(loadVar ty ⟨b,off,none⟩).run P w=.ok c w/\RD Pr w v c/\v.aw=v:=by
 have kY:(isAgg ty).run P w=.ok (fE nq) w:=by
  unfold isAgg;rw[Sem.run_bind,run_underlying hu w]
  cases nq<;>simp[fE]
 generalize fE nq=q at he kY
 cases q with
 |true=>
  simp only[aP,if_true]at he;split at he
  case isFalse=>cases he
  rename_i hl;cases he
  have Uj:(loadCells ⟨b,off,none⟩ i.size).run P w=.ok ((List.range i.size).map vs).toArray w:=
   run_loadCells (P:=P) w _ _ vs λj hj=>by rw[Addr.add_lit];exact hc j (by omega)
  refine⟨.agg ((List.range i.size).map vs).toArray,by simp[loadVar,Sem.run_bind,kY,sizeOf,typeInfo,hi,Uj],?_,rfl⟩
  refine .agg _ _ (by simp;omega) (λk hk=>?_) λk hk eG=>?_
  .simp only[List.length_map,List.length_take]at hk;simp only[List.getElem_map,List.getElem_take];rw[AV.np];exact h1 k (by omega)
  .simp only[List.length_map,List.length_take]at hk;have:=(hr k (by omega)).aw;simpa using this
 |false=>
  simp only[aP,Bool.false_eq_true,if_false,Option.map_eq_some_iff]at he;obtain⟨v0,Qd,rfl⟩:=he;obtain⟨h0,rfl⟩:=List.getElem?_eq_some_iff.1 Qd;have:=hc 0 h0;simp only[Nat.add_zero]at this;exact⟨vs 0,by simp[loadVar,Sem.run_bind,kY,this],(hr 0 h0).aw,AV.idem _⟩
set_option linter.unusedVariables false in
def LB{Pr:Nat->Nat->Prop}{al:Nat->Option Nat}{w:World}{v:AV}{c:Value}(h:RD Pr w v c):RV Pr al w (iy v) c:=by
 unfold iy;split
 .cases h;exact .func _ _ _ _ _ rfl rfl (λi h=>absurd h (by simp)) (λi h=>absurd h (by simp))
 .exact .data _ _ h
def HR.Rz{Pr:Nat->Nat->Prop}{al:Nat->Option Nat}{w:World}{hr:HR}{v:AV}{c:Value}(h:RD Pr w v c):RV Pr al w (hr.out v) c:=by
 cases hr<;>first|exact .data _ _ h|exact LB h
def HR.N4{P:Program}{w:World}{g:Gh}{loc:Loc}{hr:HR}{v:AV}{c:Value}(h:v.aw=v):dw P w g loc (hr.out v) c:=by
 have h1:dw P w g loc v c:=by rw[<-h];exact fF _ _ _
 cases hr<;>first|exact h1|skip
 show dw P w g loc (iy v) c;unfold iy;split
 .trivial
 .exact h1
def Ji (R:Rel P w0 n U g S H a w) {o:Oper} {hr:HR} {ty:TypeId} {i:TypeInfo} {nq:TypeDesc} {x:Operand} {y:bZ} {e:aB} (ho:o.op = .load ty x) (hd:∀ t,o.dst=some t→t < n∧¬ U t)
  (hi:P.info? ty=some i) (fN:P.underlying ty=some nq) (hx:dg n x=some y) (hu:∀t∈y.tmps,¬U t)
  (he:aq S H (.load hr (fE nq) i.size y)=some e):b_ P w0 n U g S H a w o e:=by
 have hv:=R.ev hx hu
 have fin:∀{v:AV}{b off:Nat},a.eval x=.pointer (some ⟨b,off,none⟩)->(∃c,(loadVar ty ⟨b,off,none⟩).run P w=.ok c w/\RD g.Pr w v c/\v.aw=v)->b_ P w0 n U g S H a w o { v:=v }:=by
  rintro v b off hx ⟨c,h1,h2,h3⟩
  refine b_.val R (λt h=>(hd t h).1) (c:=c) ?_ (.data _ _ h2) λloc=>by rw[<-h3];exact fF _ _ _
  unfold execOp;simp[ho,hx,Instr.loadAt,Instr.sureAddr,h1]
 have To:∀{v:AV}{b off:Nat},a.eval x=.pointer (some ⟨b,off,none⟩)->(∃c,(loadVar ty ⟨b,off,none⟩).run P w=.ok c w/\RD g.Pr w v c/\v.aw=v)->b_ P w0 n U g S H a w o { v:=hr.out v }:=by
  rintro v b off hx ⟨c,h1,h2,h3⟩
  refine b_.val R (λt h=>(hd t h).1) (c:=c) ?_ (HR.Rz h2) λloc=>HR.N4 h3
  unfold execOp;simp[ho,hx,Instr.loadAt,Instr.sureAddr,h1]
 simp only[aq]at he;generalize pN:AL.ev S y=q at he hv;generalize lR:a.eval x=c at hv fin To
 cases hv with
 |box j off b fu=>
  simp only at he;split at he
  case isFalse=>cases he
  obtain⟨cs,vs,rv,k1,k2,k3,k4,k5,k6,k7,k8,k9⟩:=R.box j b fu;simp only[k1,Option.map_eq_some_iff]at he;obtain⟨v,hv,rfl⟩:=he;refine To rfl (qt (Pr:=g.Pr) (al:=g.al) hi fN (vs:=λk=>vs.getD (off+k) undef) (λk hk=>?_) (λk hk=>?_) (λk hk=>?_) hv)
  .simp only[List.length_drop]at hk
   have:off+k<vs.size:=by omega
   simp[World.cell?,k3,this]
  .simp only[List.length_drop]at hk;simp only[List.getElem_drop];exact k9 (off+k) (by omega)
  .simp only[List.length_drop]at hk;simp only[List.getElem_drop];have hh:=k7 (off+k) (by omega) (by omega)
   have:off+k<vs.size:=by omega
   simpa[this]using hh
 |data v c h=>
  cases h<;>simp only at he<;>try cases he
  rename_i cs b off vs h1 hc hr;simp only[Option.map_eq_some_iff]at he;obtain⟨v,hv,rfl⟩:=he;exact fin rfl (qt (Pr:=g.Pr) (al:=g.al) hi fN (vs:=vs) (λk hk=>(hc k hk).2) h1 hr hv)
 |func=>cases he
 |fR=>cases he
 |bj c=>cases he
end
section
variable{P:Program}{w0:World}{n:Nat}{U:Nat->Prop}{g:Gh}{S:af}{H:ah}{a:Act}{w:World}
def IZ (R:Rel P w0 n U g S H a w) {o:Oper} {x x1 x2:Operand} {y y1 y2:bZ} {e:aB} (ho:o.op = .pick x x1 x2) (hd:∀ t,o.dst=some t→t < n∧¬ U t)
  (hx:dg n x=some y) (lP:dg n x1=some y1) (kX:dg n x2=some y2) (hu:∀t∈y.tmps,¬U t) (nQ:∀t∈y1.tmps,¬U t) (nN:∀t∈y2.tmps,¬U t)
  (he:aq S H (.pick y y1 y2)=some e):b_ P w0 n U g S H a w o e:=by
 have hv:=R.ev hx hu;have fl:=R.ev lP nQ;have fe:=R.ev kX nN;simp only[aq]at he;generalize pN:AL.ev S y=q at he hv;generalize lR:a.eval x=c at hv
 cases hv<;>(try cases he;done)
 rename_i h
 cases h<;>simp only at he<;>try cases he
 rename_i b
 refine b_.val R (λt h=>(hd t h).1) (c:=if b then a.eval x1 else a.eval x2) ?_ ?_ λloc=>fF _ _ _
 .simp[execOp,ho,lR,asBool]
 .cases b<;>simp only[Bool.false_eq_true,if_true,if_false]
  .exact fe.aw
  .exact fl.aw
def Ln (R:Rel P w0 n U g S H a w) {o:Oper} {t:TypeId} {x:Operand} {y:bZ} {e:aB} (ho:o.op = .unOp .not t x) (hd:∀ t,o.dst=some t→t < n∧¬ U t)
  (hx:dg n x=some y) (hu:∀t∈y.tmps,¬U t) (he:aq S H (.not y)=some e):b_ P w0 n U g S H a w o e:=by
 have hv:=R.ev hx hu;simp only[aq]at he;generalize pN:AL.ev S y=q at he hv;generalize lR:a.eval x=c at hv
 cases hv<;>(try cases he;done)
 rename_i h
 cases h<;>simp only at he<;>try cases he
 rename_i b
 refine b_.val R (λt h=>(hd t h).1) (c:=.bool !b) ?_ (.data _ _ (.bool _)) λloc=>trivial
 simp[execOp,ho,lR,Op.unary]
def Ir:Value->Bool
 |.nilIface|.agg _=>false
 |_=>true
def gv (op:BinOp) (t:TypeId) (x y:Operand) (c d:Value) (h:Ir c=true) :
  (eqGuard op t x y c d).run P w=.ok () w:=by
 unfold eqGuard
 cases op<;>(try rfl)<;>cases c<;>first|rfl|cases h
def Bs (R:Rel P w0 n U g S H a w) {o:Oper} {op:BinOp} {t t':TypeId} {x1 x2:Operand} {y1 y2:bZ} {e:aB} (ho:o.op = .binOp op t x1 x2 t') (hd:∀ t,o.dst=some t→t < n∧¬ U t)
  (lP:dg n x1=some y1) (kX:dg n x2=some y2) (nQ:∀t∈y1.tmps,¬U t) (nN:∀t∈y2.tmps,¬U t)
  (he:aq S H (.bin op y1 y2)=some e):b_ P w0 n U g S H a w o e:=by
 have fl:=R.ev lP nQ;have fe:=R.ev kX nN;simp only[aq,Option.map_eq_some_iff]at he;obtain⟨v,hb,rfl⟩:=he;generalize AL.ev S y1=q1 at hb fl;generalize AL.ev S y2=q2 at hb fe
 have fin:∀c,(eqGuard op t x1 x2 (a.eval x1) (a.eval x2)).run P w=.ok () w->(binOp op t (a.eval x1) (a.eval x2)).run P w=.ok c w->RD g.Pr w v c->(∀loc,dw P w g loc v c)->b_ P w0 n U g S H a w o { v:=v }:=by
  intro c h0 h1 h2 h3;refine b_.val R (λt h=>(hd t h).1) (c:=c) ?_ (.data _ _ h2) h3;simp[execOp,ho,h0,h1]
 generalize a.eval x1=c1 at fl fin;generalize a.eval x2=c2 at fe fin;unfold dO at hb;split at hb
 .rename_i k p k' q;cases fl;rename_i fl;cases fl;cases fe;rename_i fe;cases fe;split at hb
  .cases hb
  .rename_i hk
   have hk:k=k':=by simpa using hk
   subst hk;have hg:=gv (P:=P) (w:=w) op t x1 x2 (.int k p) (.int k q) rfl
   split at hb<;>(try cases hb;done)<;>(try (split at hb;· cases hb))<;>cases hb
   case h_4.isFalse.refl h=>exact fin _ hg (by simp[binOp,Op.intDiv,h]) (.int _ _) λ_=>trivial
   case h_5.isFalse.refl h=>exact fin _ hg (by simp[binOp,Op.intDiv,h]) (.int _ _) λ_=>trivial
   case h_1.refl=>exact fin (.int k (k.wrap (p+q))) hg (by simp[binOp,Op.intArith]) (.int _ _) λ_=>trivial
   case h_2.refl=>exact fin (.int k (k.wrap (p-q))) hg (by simp[binOp,Op.intArith]) (.int _ _) λ_=>trivial
   case h_3.refl=>exact fin (.int k (k.wrap (p*q))) hg (by simp[binOp,Op.intArith]) (.int _ _) λ_=>trivial
   case h_6.refl=>exact fin (.bool (p==q)) hg (by simp[binOp,Op.intCmp]) (.bool _) λ_=>trivial
   case h_7.refl=>exact fin (.bool (p !=q)) hg (by simp[binOp,Op.intCmp]) (.bool _) λ_=>trivial
   case h_12.refl=>exact fin (.int k _) hg (by simp[binOp,Op.intBits]) (.int _ _) λ_=>trivial
   case h_13.refl=>exact fin (.int k _) hg (by simp[binOp,Op.intBits]) (.int _ _) λ_=>trivial
   case h_14.refl=>exact fin (.int k _) hg (by simp[binOp,Op.intBits]) (.int _ _) λ_=>trivial
   case h_15.isFalse.refl h=>
    have hn:¬q<0:=by omega
    have hm:min q.toNat k.bits=q.toNat:=by omega
    exact fin (.int k _) hg (by simp[binOp,Op.shift,hn,hm]) (.int _ _) λ_=>trivial
   all_goals exact fin (.bool _) hg (by simp[binOp,Op.intCmp]) (.bool _) λ_=>trivial
 .rename_i p q;cases fl;rename_i fl;cases fl;cases fe;rename_i fe;cases fe;have hg:=gv (P:=P) (w:=w) op t x1 x2 (.string ⟨p.toArray⟩) (.string ⟨q.toArray⟩) rfl
  split at hb<;>(try cases hb;done)
  .cases hb;exact fin (.bool (p==q)) hg (by simp[binOp,Op.stringOp]) (.bool _) λ_=>trivial
  .cases hb;exact fin (.bool (p !=q)) hg (by simp[binOp,Op.stringOp,bne]) (.bool _) λ_=>trivial
  .split at hb
   case isFalse=>cases hb
   rename_i hl;cases hb
   refine fin (.string ⟨(p++q).toArray⟩) hg ?_ (.str _) λ_=>trivial
   rw[binOp_string_add,run_string_add_sum w _ _ (by show p.length+q.length<=_;omega),ByteArray.mk_append_mk]
 .cases hb
def Cf (R:Rel P w0 n U g S H a w) {o:Oper} {neg:Bool} {t t':TypeId} {x1 x2:Operand} {y1 y2:bZ} {e:aB} (ho:o.op = .binOp (if neg then .neq else .eql) t x1 x2 t') (hd:∀ t,o.dst=some t→t < n∧¬ U t)
  (ht:P.underlying t=some .bool) (lP:dg n x1=some y1) (kX:dg n x2=some y2) (nQ:∀t∈y1.tmps,¬U t) (nN:∀t∈y2.tmps,¬U t)
  (he:aq S H (.A_ neg y1 y2)=some e):b_ P w0 n U g S H a w o e:=by
 have fl:=R.ev lP nQ;have fe:=R.ev kX nN;simp only[aq]at he;generalize AL.ev S y1=q1 at he fl;generalize AL.ev S y2=q2 at he fe;generalize j5:a.eval x1=c1 at fl;generalize ig:a.eval x2=c2 at fe;split at he
 case h_2=>cases he
 rename_i p q;cases fl;rename_i fl;cases fl;cases fe;rename_i fe;cases fe;cases he;have hg:=gv (P:=P) (w:=w) (if neg then .neq else .eql) t x1 x2 (.bool p) (.bool q) rfl;have hE:(Op.equal t (.bool p) (.bool q)).run P w=.ok (p==q) w:=run_equalIn_bool' w _ t p q ht
 refine b_.val R (λt h=>(hd t h).1) (c:=.bool (if neg then p !=q else p==q)) ?_ (.data _ _ (.bool _)) λ_=>trivial
 cases neg
 .simp only[Bool.false_eq_true,if_false]at ho hg⊢;simp[execOp,ho,j5,ig,hg,binOp,hE]
 .simp only[if_true]at ho hg⊢;simp[execOp,ho,j5,ig,hg,binOp,hE,bne]
def IH (R:Rel P w0 n U g S H a w) {o:Oper} {s d:TypeId} {ds:TypeDesc} {k:IntKind} {x:Operand} {y:bZ} {e:aB} (ho:o.op = .convert s d x) (hd:∀ t,o.dst=some t→t < n∧¬ U t)
  (hs:P.underlying s=some ds) (hk:P.underlying d=some (.int k)) (hx:dg n x=some y) (hu:∀t∈y.tmps,¬U t) (he:aq S H (.conv k y)=some e):b_ P w0 n U g S H a w o e:=by
 have hv:=R.ev hx hu;simp only[aq]at he;generalize pN:AL.ev S y=q at he hv;generalize lR:a.eval x=c at hv
 cases hv<;>(try cases he;done)
 rename_i h
 cases h<;>simp only at he<;>try cases he
 rename_i k' m
 refine b_.val R (λt h=>(hd t h).1) (c:=.int k (k.wrap m)) ?_ (.data _ _ (.int _ _)) λloc=>trivial
 simp[execOp,ho,lR,convert,run_underlying hs,run_underlying hk,Conv.intToInt]
def FX (R:Rel P w0 n U g S H a w) {o:Oper} {t:TypeId} {dt:TypeDesc} {x:Operand} {y:bZ} {e:aB} (ho:o.op = .makeInterface t x) (hd:∀ t,o.dst=some t→t < n∧¬ U t)
  (ht:P.underlying t=some dt) (D4:∀ms,dt≠.interface ms) (hx:dg n x=some y) (hu:∀t∈y.tmps,¬U t) (he:aq S H (.iface t y)=some e):b_ P w0 n U g S H a w o e:=by
 have hv:=R.ev hx hu;simp only[aq]at he;split at he
 case isFalse=>cases he
 rename_i gx;cases he
 refine b_.val R (λt h=>(hd t h).1) (c:=.iface t (a.eval x)) ?_ (.data _ _ (.iface _ _ _ (hv.bQ (AV.js gx)).vw)) λloc=>trivial
 simp only[execOp,ho,Instr.makeInterface,Sem.run_bind,run_underlying ht,Result.andThen_ok]
 cases dt<;>first|rfl|exact absurd rfl (D4 _)
def ye (R:Rel P w0 n U g S H a w) {o:Oper} {s:TypeId} {fs:Array Field} {f:Field} {i:TypeInfo} {j:Nat} {x:Operand} {y:bZ} {e:aB} (ho:o.op = .fieldAddr s x j) (hd:∀ t,o.dst=some t→t < n∧¬ U t)
  (hs:P.underlying s=some (.struct fs)) (hf:fs[j]?=some f) (hi:P.info? f.type=some i) (hz:i.size≠0) (hx:dg n x=some y) (hu:∀t∈y.tmps,¬U t)
  (he:aq S H (.fieldAddr f.offset y)=some e):b_ P w0 n U g S H a w o e:=by
 have hv:=R.ev hx hu;simp only[aq]at he;generalize pN:AL.ev S y=q at he hv;generalize lR:a.eval x=c at hv
 have run:∀b off,c=.pointer (some ⟨b,off,none⟩)->(execOp a.eval o).run P w=.ok (.value (.pointer (some ⟨b,off+f.offset,none⟩))) w:=by
  rintro b off rfl;simp[execOp,ho,lR,Instr.fieldAt,run_underlying hs,hf,Instr.sureAddr,fieldPlace,sizeOf,typeInfo,hi,hz,Addr.add_lit]
 cases hv with
 |box k off b fu=>
  cases he
  exact b_.val R (λt h=>(hd t h).1) (run _ _ rfl) (.box _ _ _ fu) λ_=>trivial
 |data v c h=>
  cases h<;>simp only at he<;>try cases he
  rename_i cs b off vs h1 hc hr
  refine b_.val R (λt h=>(hd t h).1) (run _ _ rfl) (.data _ _ (.ref _ _ _ (λk=>vs (f.offset+k)) (λk hk=>?_) (λk hk=>?_) λk hk=>?_)) λ_=>trivial
  .simp only[List.length_drop]at hk;simp only[List.getElem_drop];exact h1 _ (by omega)
  .simp only[List.length_drop]at hk;have:=hc (f.offset+k) (by omega);rwa [show off+f.offset+k=off+(f.offset+k) by omega]
  .simp only[List.length_drop]at hk;simp only[List.getElem_drop];exact hr _ (by omega)
 |func=>cases he
 |fR=>cases he
 |bj c=>cases he
def yf (R:Rel P w0 n U g S H a w) {o:Oper} {s el:TypeId} {i:TypeInfo} {x1 x2:Operand} {y1 y2:bZ} {e:aB} (ho:o.op = .indexAddr s x1 x2) (hd:∀ t,o.dst=some t→t < n∧¬ U t)
  (hs:P.underlying s=some (.slice el)) (hi:P.info? el=some i) (lP:dg n x1=some y1) (kX:dg n x2=some y2) (nQ:∀t∈y1.tmps,¬U t) (nN:∀t∈y2.tmps,¬U t)
  (he:aq S H (.indexAddr i.size y1 y2)=some e):b_ P w0 n U g S H a w o e:=by
 have fl:=R.ev lP nQ;have fe:=R.ev kX nN;simp only[aq]at he;generalize AL.ev S y1=q1 at he fl;generalize AL.ev S y2=q2 at he fe;generalize j5:a.eval x1=c1 at fl;generalize ig:a.eval x2=c2 at fe;split at he
 case h_2=>cases he
 rename_i oo es k;cases fe;rename_i fe;cases fe;split at he
 case isFalse=>cases he
 rename_i hk;split at he
 case h_2=>cases he
 rename_i v hv;split at he
 case isFalse=>cases he
 rename_i aL;cases he;obtain⟨ao,rfl⟩:=List.getElem?_eq_some_iff.1 hv;cases fl;rename_i fl
 cases fl with
 |fH=>simp at ao
 |iG=>simp at ao
 |slice _ _ b off cap size cs eu pU j_ h1 hc hr=>
  have Vh:size=i.size:=by rw[<-j_ _ ao];exact aL
  subst Vh
  have oU:k<(es.length:Int):=by omega
  have kJ:∀q,q<(es[k.toNat]).cells.length->k.toNat*i.size+q<es.length*i.size:=by
   intro q hq;rw[aL]at hq
   calc k.toNat*i.size+q<k.toNat*i.size+i.size:=by omega
    _=(k.toNat+1)*i.size:=by rw[Nat.succ_mul]
    _<=es.length*i.size:=Nat.mul_le_mul_right _ (by omega)
  refine b_.val R (λt h=>(hd t h).1) (c:=.pointer (some ⟨b,off+k.toNat*i.size,none⟩)) ?_ (.data _ _ (.ref _ _ _ (λq=>cs (k.toNat*i.size+q)) (λq hq=>h1 _ ao q hq) (λq hq=>?_) λq hq=>hr _ ao q hq)) λ_=>trivial
  .simp[execOp,ho,j5,ig,Instr.indexAt,asIntOf,run_underlying hs,hk,oU,sizeOf,typeInfo,hi,Addr.add_lit]
  .have:=hc (k.toNat*i.size+q) (kJ q hq);rwa [<-Nat.add_assoc]at this
def Dm (R:Rel P w0 n U g S H a w) {o:Oper} {s:TypeId} {x1 x2:Operand} {y1 y2:bZ} {e:aB} (ho:o.op = .index s x1 x2) (hd:∀ t,o.dst=some t→t < n∧¬ U t)
  (hs:P.underlying s=some .string) (lP:dg n x1=some y1) (kX:dg n x2=some y2) (nQ:∀t∈y1.tmps,¬U t) (nN:∀t∈y2.tmps,¬U t)
  (he:aq S H (.nR y1 y2)=some e):b_ P w0 n U g S H a w o e:=by
 have fl:=R.ev lP nQ;have fe:=R.ev kX nN;simp only[aq]at he;generalize AL.ev S y1=q1 at he fl;generalize AL.ev S y2=q2 at he fe;generalize j5:a.eval x1=c1 at fl;generalize ig:a.eval x2=c2 at fe;split at he
 case h_2=>cases he
 rename_i l k;cases fe;rename_i fe;cases fe;split at he
 case isFalse=>cases he
 rename_i hk;split at he
 case h_2=>cases he
 rename_i v hv;cases he;cases fl;rename_i fl;cases fl
 have hb:(⟨l.toArray⟩:ByteArray)[k.toNat]?=some v:=by
  obtain⟨ao,rfl⟩:=List.getElem?_eq_some_iff.1 hv;rw[ByteArray.getElem?_lt' _ _ (by simpa[ByteArray.size]using ao)]
  rfl
 refine b_.val R (λt h=>(hd t h).1) (c:=.int .u8 v.toNat) ?_ (.data _ _ (.int _ _)) λ_=>trivial
 simp[execOp,ho,j5,ig,Instr.index,asIntOf,run_underlying hs,hk,hb]
def AQ (R:Rel P w0 n U g S H a w) {o:Oper} {j:Nat} {x:Operand} {y:bZ} {e:aB} (ho:o.op = .extract x j) (hd:∀ t,o.dst=some t→t < n∧¬ U t)
  (hx:dg n x=some y) (hu:∀t∈y.tmps,¬U t) (he:aq S H (.extract y j)=some e):b_ P w0 n U g S H a w o e:=by
 have hv:=R.ev hx hu;simp only[aq]at he;generalize pN:AL.ev S y=q at he hv;generalize lR:a.eval x=c at hv
 cases hv<;>(try cases he;done)
 rename_i h
 cases h<;>simp only at he<;>try cases he
 rename_i cs vs hl hr;simp only[Option.map_eq_some_iff]at he;obtain⟨v,hv,rfl⟩:=he;obtain⟨ao,rfl⟩:=List.getElem?_eq_some_iff.1 hv
 have jx:j<vs.size:=by omega
 refine b_.val R (λt h=>(hd t h).1) (c:=vs[j]) ?_ (.data _ _ (hr j ao jx).aw) λloc=>fF _ _ _
 simp[execOp,ho,lR,Instr.extract,jx]
def B8 (R:Rel P w0 n U g S H a w) {o:Oper} {cl:Call} {s:TypeId} {ds:TypeDesc} {x:Operand} {y:bZ} {e:aB} (ho:o.op = .call cl) (jw:cl.callee = .builtin .len) (yi:cl.args = #[x]) (zw:cl.argTypes = #[s])
  (hd:∀t,o.dst=some t->t<n/\¬U t) (hs:P.underlying s=some ds) (hx:dg n x=some y) (hu:∀t∈y.tmps,¬U t)
  (he:(ds=.string/\aq S H (.xN y)=some e)\/((∃el,ds=.slice el)/\aq S H (.lI y)=some e)):b_ P w0 n U g S H a w o e:=by
 have hv:=R.ev hx hu;simp only[aq]at he;generalize pN:AL.ev S y=q at he hv;generalize lR:a.eval x=c at hv
 have fin:∀(m:Nat),(Builtin.len_ #[s] o.type #[c]).run P w=.ok (.int .i64 m) w->b_ P w0 n U g S H a w o { v:=.int .i64 m }:=by
  intro m hm
  refine b_.val R (λt h=>(hd t h).1) (c:=.int .i64 m) ?_ (.data _ _ (.int _ _)) λ_=>trivial
  unfold execOp;simp[ho,jw,yi,zw,resolve,invoke,builtin,lR,hm]
 rcases he with⟨rfl,he⟩|⟨⟨el,rfl⟩,he⟩
 .cases hv<;>(try cases he;done)
  rename_i h
  cases h<;>simp only at he<;>try cases he
  exact fin _ (by simp[Builtin.len_,run_underlying hs,goInt];rfl)
 .cases hv<;>(try cases he;done)
  rename_i h
  cases h<;>simp only at he<;>try cases he
  .exact fin 0 (by simp[Builtin.len_,run_underlying hs,goInt])
  .exact fin 0 (by simp[Builtin.len_,run_underlying hs,goInt])
  .exact fin _ (by simp[Builtin.len_,run_underlying hs,goInt])
def vx (R:Rel P w0 n U g S H a w) {o:Oper} {cl:Call} {x1 x2:Operand} {y1 y2:bZ} {e:aB} (ho:o.op = .call cl) (yi:cl.args = #[x1,x2])
  (hd:∀t,o.dst=some t->t<n/\¬U t) (lP:dg n x1=some y1) (kX:dg n x2=some y2) (nQ:∀t∈y1.tmps,¬U t) (nN:∀t∈y2.tmps,¬U t)
  (he:(cl.callee=.builtin .max/\aq S H (.max y1 y2)=some e)\/(cl.callee=.builtin .min/\aq S H (.min y1 y2)=some e)):b_ P w0 n U g S H a w o e:=by
 have fl:=R.ev lP nQ;have fe:=R.ev kX nN;simp only[aq]at he;generalize AL.ev S y1=q1 at he fl;generalize AL.ev S y2=q2 at he fe;generalize j5:a.eval x1=c1 at fl;generalize ig:a.eval x2=c2 at fe
 rcases he with⟨jw,he⟩|⟨jw,he⟩
 all_goals
  split at he
  case h_2=>cases he
  rename_i p q;cases fl;rename_i fl;cases fl;cases fe;rename_i fe;cases fe;cases he
 .refine b_.val R (λt h=>(hd t h).1) (c:=.int .i64 (max p q)) ?_ (.data _ _ (.int _ _)) λ_=>trivial
  have:(if q>p then q else p)=max p q:=by split<;>omega
  simp[execOp,ho,jw,yi,resolve,invoke,builtin,j5,ig,Builtin.max_,Builtin.max2,this]
 .refine b_.val R (λt h=>(hd t h).1) (c:=.int .i64 (min p q)) ?_ (.data _ _ (.int _ _)) λ_=>trivial
  have:(if q<p then q else p)=min p q:=by split<;>omega
  simp[execOp,ho,jw,yi,resolve,invoke,builtin,j5,ig,Builtin.min_,Builtin.min2,this]
end
def ng(Pr:Nat->Nat->Prop)(w:World)(cs:List AV)(vs:Array Value):Prop:=
 cs.length=vs.size/\(∀i (h:i<cs.length)(h':i<vs.size),RD Pr w cs[i] vs[i])/\∀i (h:i<cs.length),(cs[i]).one=true
def RD.Rd{Pr:Nat->Nat->Prop}{w:World}{v:AV}{c:Value}(h:RD Pr w v c)(hs:v.storable=true):ng Pr w v.cells c.cells:=
 ⟨h.cells.1,h.cells.2,h.cells_one hs⟩
def AV.pE{v:AV}:v.aw.storable=v.storable:=by
 cases v<;>try rfl
 rename_i o es;cases o<;>rfl
def AV.vz{v:AV}:v.aw.cells.length=v.cells.length:=by
 cases v<;>try rfl
 rename_i o es;cases o<;>rfl
def AV.C9{v:AV}:v.vw.storable=v.storable:=by cases v<;>rfl
def AV.vS{v:AV}:v.vw.cells.length=v.cells.length:=by cases v<;>simp[AV.vw,AV.bV,AV.cells]
def gX (Pr:Nat→Nat→Prop) (w:World):∀ {vs:List Value} {cs:List AV},ij vs=some cs→ng Pr w cs vs.toArray∧(∀ v∈cs,v.kE) ∧
  ∀(P:Program)(g:Gh)(f:Nat->Loc) i (h:i<cs.length)(h':i<vs.length),dw P w g (f i) cs[i] vs[i]
 |[],cs,h=>by cases h;exact⟨⟨rfl,λi h=>by simp at h,λi h=>by simp at h⟩,λv h=>by simp at h,λP g f i h=>by simp at h⟩
 |v::vs,cs,h=>by
  simp only[ij]at h;split at h
  .rename_i x xs hx iY;split at h
   case isFalse=>cases h
   rename_i gx;cases h;obtain⟨⟨h1,h2,h3⟩,h4,h5⟩:=gX Pr w iY;have hd:RD Pr w x v:=(Es Pr (λ_=>none) w hx).bQ (AV.js gx);refine⟨⟨by simp at h1⊢;exact h1,λi hi cy=>?_,λi hi=>?_⟩,λy hy=>?_,λP g f i hi cy=>?_⟩
   .cases i with
    |zero=>exact hd
    |succ i=>exact h2 i (by simpa using hi) (by simpa using cy)
   .cases i with
    |zero=>
     show x.one=true;unfold mb at hx
     split at hx<;>first|cases hx|skip
     all_goals rfl
    |succ i=>exact h3 i (by simpa using hi)
   .simp at hy;rcases hy with rfl|hy
    .exact xK hx
    .exact h4 y hy
   .cases i with
    |zero=>exact wP hx _ _ _ _
    |succ i=>exact h5 P g (λi=>f (i+1)) i (by simpa using hi) (by simpa using cy)
  .cases h
def zh{cs vs:List AV}{off:Nat}(h:off+vs.length<=cs.length):(aQ cs off vs).length=cs.length:=by
 simp[aQ];omega
def qy {cs vs:List AV} {off:Nat} (h:off+vs.length≤cs.length) (i:Nat) :
  (aQ cs off vs)[i]?=if off<=i/\i<off+vs.length then vs[i-off]? else cs[i]?:=by
 unfold aQ
 by_cases h1:i<off
 .rw[if_neg (by omega),List.append_assoc,List.getElem?_append_left (by simp;omega)];simp[h1]
 .by_cases h2:i<off+vs.length
  .rw[if_pos ⟨by omega,h2⟩,List.getElem?_append_left (by simp;omega),List.getElem?_append_right (by simp;omega)]
   congr 1
   simp;omega
  .rw[if_neg (by omega),List.getElem?_append_right (by simp;omega)];simp only[List.getElem?_drop]
   congr 1
   simp;omega
def ng.get{Pr:Nat->Nat->Prop}{w:World}{cs:List AV}{vs:Array Value}(h:ng Pr w cs vs){i:Nat}{v:AV}{c:Value}(hv:cs[i]?=some v)(hc:vs[i]?=some c):RD Pr w v c:=by
 obtain⟨h1,rfl⟩:=List.getElem?_eq_some_iff.1 hv;obtain⟨h2,rfl⟩:=Array.getElem?_eq_some_iff.1 hc;exact h.2.1 i h1 h2
def ng.one{Pr:Nat->Nat->Prop}{w:World}{cs:List AV}{vs:Array Value}(h:ng Pr w cs vs){i:Nat}{v:AV}(hv:cs[i]?=some v):v.one=true:=by
 obtain⟨h1,rfl⟩:=List.getElem?_eq_some_iff.1 hv;exact h.2.2 i h1
def ng.mk'{Pr:Nat->Nat->Prop}{w:World}{cs:List AV}{vs:Array Value}(h:cs.length=vs.size)(hr:∀(i:Nat)(v:AV)(c:Value),cs[i]?=some v->vs[i]?=some c->RD Pr w v c)(h1:∀(i:Nat)(v:AV),cs[i]?=some v->v.one=true):ng Pr w cs vs:=
 ⟨h,λi hi cy=>hr i _ _ (List.getElem?_eq_getElem hi) (Array.getElem?_eq_getElem cy),λi hi=>h1 i _ (List.getElem?_eq_getElem hi)⟩
def ng.aQ {Pr:Nat→Nat→Prop} {w:World} {cs vs:List AV} {xs ys:Array Value} {off:Nat} (h:ng Pr w cs xs) (hv:ng Pr w vs ys) (hl:off+vs.length≤cs.length)
  (zs:Array Value) (hz:zs.size=xs.size) (j6:∀k,zs[k]?=if off<=k/\k<off+ys.size then ys[k-off]? else xs[k]?):ng Pr w (aQ cs off vs) zs:=by
 have fl:=hv.1;have h1:=h.1;refine ng.mk' (by rw[zh hl,hz];exact h.1) (λi v c e1 e2=>?_) (λi v e1=>?_)
 .rw[qy hl]at e1;rw[j6]at e2;rw[<-fl]at e2;split at e1
  .rename_i hh;rw[if_pos hh]at e2;exact hv.get e1 e2
  .rename_i hh;rw[if_neg hh]at e2;exact h.get e1 e2
 .rw[qy hl]at e1;split at e1
  .exact hv.one e1
  .exact h.one e1
def qj(n:Nat)(place:Nat->Option (Nat×Nat)):List (Nat×Operand)->Option (List (Nat×Nat×bZ))
 |[]=>some []
 |(i,x)::rest=>match place i,dg n x,qj n place rest with
  |some (off,size),some y,some r=>some ((off,size,y)::r)
  |_,_,_=>none
section
variable{P:Program}{w0:World}{n:Nat}{U:Nat->Prop}{g:Gh}{S:af}{H:ah}{a:Act}{w:World}
def rU (R:Rel P w0 n U g S H a w) {place:Nat→Option (Nat×Nat)}:∀ {ps:List (Nat×Operand)} {qs:List (Nat×Nat×bZ)},qj n place ps=some qs →
  (∀q∈qs,∀t∈q.2.2.tmps,¬U t)->∀{cs cs':List AV}{vs:Array Value},ng g.Pr w cs vs->dH cs (qs.map λ(o,s,x)=>(o,s,ev S x))=some cs'->
  ∃ju,Instr.fill place vs (ps.map λ(i,x)=>(i,a.eval x))=some ju/\ng g.Pr w cs' ju
 |[],qs,h,_,cs,cs',vs,hr,he=>by
  cases h;simp only[List.map_nil,dH,Option.some.injEq]at he;subst he;exact⟨vs,rfl,hr⟩
 |(i,x)::ps,qs,h,hu,cs,cs',vs,hr,he=>by
  simp only[qj]at h;split at h
  case h_2=>cases h
  rename_i off size y r hp hx gE;cases h;simp only[List.map_cons,dH]at he;split at he
  case isFalse=>cases he
  rename_i hc;obtain⟨j5,ig,Mh⟩:=hc;have hv:=(R.ev hx (hu _ List.mem_cons_self)).bQ (AV.js Mh);have hvd:=hv.aw.Rd (by rw[AV.pE];exact Mh)
  have aL:(a.eval x).cells.size=size:=by rw[<-hv.cells.1];exact j5
  have jw:cs.length=vs.size:=hr.1;obtain⟨k1,k2⟩:=Great.foldl_set off (a.eval x).cells.toList 0 vs
  have nB:=hr.aQ (off:=off) hvd (by rw[AV.vz,j5];exact ig)
   (((a.eval x).cells.toList.zipIdx 0).foldl (λcs (x:Value×Nat)=>cs.setIfInBounds (off+x.2) x.1) vs) k1 (λk=>by
    rw[k2 k];simp only[Nat.add_zero,Array.length_toList,Array.getElem?_toList]
    by_cases kJ:off<=k/\k<off+(a.eval x).cells.size
    .rw[if_pos kJ,if_pos ⟨kJ.1,kJ.2,by omega⟩]
    .rw[if_neg kJ,if_neg (by omega)])
  obtain⟨ju,e1,e2⟩:=rU R gE (λq hq=>hu q (List.mem_cons_of_mem _ hq)) nB he;refine⟨ju,?_,e2⟩;simp only[List.map_cons,Instr.fill,hp];rw[if_neg (by simp;omega)];rw[<-e1]
  congr 1
  rw[<-Array.foldl_toList,Array.toList_zipIdx]
def F_ (R:Rel P w0 n U g S H a w) {o:Oper} {t:TypeId} {it:TypeInfo} {fs:Array Field} {z:Value} {places:List (Nat×Nat)} {zs:List AV} {ps:Array (Nat×Operand)} {qs:List (Nat×Nat×bZ)} {e:aB}
  (ho:o.op=.build t ps) (hd:∀t,o.dst=some t->t<n/\¬U t) (hi:P.info? t=some it) (fN:P.underlying t=some (.struct fs)) (hz:it.zero=some z)
  (xP:fs.toList.mapM (λf=>(P.info? f.type).map λi=>(f.offset,i.size))=some places) (pw:ij z.cells.toList=some zs) (hq:qj n (places[·]?) ps.toList=some qs)
  (hu:∀q∈qs,∀t∈q.2.2.tmps,¬U t) (he:aq S H (.build (zs.map AV.aw) qs)=some e):b_ P w0 n U g S H a w o e:=by
 simp only[aq,Option.map_eq_some_iff]at he;obtain⟨cs',hc,rfl⟩:=he;have C3:=(gX g.Pr w pw).1
 have xV:ng g.Pr w (zs.map AV.aw) z.cells:=by
  refine⟨by simpa using C3.1,λi h h'=>?_,λi h=>?_⟩
  .simp only[List.length_map]at h;have:=(C3.2.1 i h (by simpa using h')).aw;simpa using this
  .simp only[List.length_map]at h;have:=C3.2.2 i h;simp only[List.getElem_map];exact(AV.np _).trans this
 obtain⟨ju,h1,h2⟩:=rU R hq hu xV hc
 have hb:P.built t (ps.map λ(i,x)=>(i,a.eval x)).toList=some ju:=by
  unfold Program.built;simp only[hi,fN,hz,xP,Array.toList_map];rw[<-h1]
  congr 1
  funext i
  simp
 refine b_.val R (λt h=>(hd t h).1) (c:=.agg ju) ?_ (.data _ _ (.agg _ _ h2.1 h2.2.2 h2.2.1)) λ_=>trivial
 unfold execOp;simp only[ho,Sem.run_bind,run_build w t _ ju hb,Result.andThen_ok]
 rfl
def Lf (R:Rel P w0 n U g S H a w) {o:Oper} {fn:Fn} {f1 c1:Array Operand} {f2 c2:List bZ} {e:aB} (ho:o.op = .makeFunc fn f1 c1) (hd:∀ t,o.dst=some t→t < n∧¬ U t)
  (hf:nJ n f1.toList=some f2) (hc:nJ n c1.toList=some c2) (huf:∀y∈f2,∀t∈y.tmps,¬U t) (huc:∀y∈c2,∀t∈y.tmps,¬U t) (he:aq S H (.D2 fn f2 c2)=some e):b_ P w0 n U g S H a w o e:=by
 simp only[aq,Option.some.injEq]at he;subst he;obtain⟨l1,r1⟩:=R.E7 hf huf;obtain⟨l2,r2⟩:=R.E7 hc huc
 refine b_.val R (λt h=>(hd t h).1) (c:=.func fn (f1.map a.eval) (c1.map a.eval)) ?_ ?_ λ_=>trivial
 .simp[execOp,ho,Instr.makeFunc]
 .refine .func fn _ _ _ _ (by simpa using l1) (by simpa using l2) (λi h h'=>?_) (λi h h'=>?_)
  .simp only[List.length_map,Array.size_map]at h h';have:=(r1 i h (by simpa using h')).aw;simpa using this
  .simp only[List.length_map,Array.size_map]at h h';have:=(r2 i h (by simpa using h')).aw;simpa using this
def Rel.newRow (R:Rel P w0 n U g S H a w) (d:Option Nat) (hd:∀ t,d=some t→t < n∧¬ U t) (el:TypeId) (i:TypeInfo) (hi:P.info? el=some i) (es:List AV) (cells:Array Value)
  (aL:∀j (h:j<es.length),(es[j]).cells.length=i.size) (gx:∀j (h:j<es.length),(es[j]).storable=true) (hl:cells.size=es.length*i.size) (hlen:es.length<=maxLen)
  (hr:∀j (h:j<es.length),∃c,RD g.Pr w es[j] c/\∀k u,c.cells[k]?=some u->cells[j*i.size+k]?=some u):
  ∃g',g'.base=g.base/\g'.old=g.old/\Rel P w0 n U g' (Go.AL.aH S d (.slice (.own el) es)) H (a.put d (.slice (some ⟨w.heap.size,0,none⟩) es.length es.length)) (w.alloc (.cells cells el)):=by
 have hb:Below w.heap.size w (w.alloc (.cells cells el)):=(Below.refl _ _).alloc (Nat.le_refl _) _
 have hle:g.base<=w.heap.size:=by rw[R.base];exact R.below.size
 let g':Gh:={ g with hi:=au g.hi w.heap.size (es.length*i.size),owner:=au g.owner w.heap.size (d.map .slot) }
 have R':Rel P w0 n U g' S H a (w.alloc (.cells cells el)):=R.grow (g':=g') hb rfl rfl rfl
  (λb hb=>⟨aJ _ _ (by omega),aJ _ _ (by omega)⟩)
  (λb hb=>by
   have eN:w.heap.size+1<=b:=by simpa using hb
   exact⟨(aJ _ _ (by omega)).trans (R.fresh b (by omega)).1,(aJ _ _ (by omega)).trans (R.fresh b (by omega)).2⟩)
 have lx:∀k,k<es.length*i.size->g'.Pr w.heap.size k:=λk hk=>.inr ⟨hle,by show k<au g.hi _ _ _;rw[aN];exact hk⟩
 have aaK:aE g.Pr g'.Pr w (w.alloc (.cells cells el)):=by
  refine aE.gr (λb ao=>hb.block b ao) λb k ao hp=>?_
  unfold Gh.Pr at*
  show(b<g.base/\g.old.c b k)\/(g.base<=b/\k<au g.hi _ _ b)
  rw[aJ _ _ (by omega)];exact hp
 refine⟨g',rfl,rfl,R'.aH d _ _ (λt h=>(hd t h).1) (.data _ _ ?_) ?_⟩
 .refine .slice _ es w.heap.size 0 es.length i.size (λk=>cells.getD k undef) (Nat.le_refl _) (λh=>by cases h) aL (λj h k hk=>?_) (λk hk=>⟨by rw[Nat.zero_add];exact lx k hk,?_⟩) (λj h k hk=>?_)
  .obtain⟨c,h1,h2⟩:=hr j h;exact h1.cells_one (gx j h) k hk
  .simp[hl,hk]
  .obtain⟨c,h1,h2⟩:=hr j h
   have eG:k<c.cells.size:=by rw[<-h1.cells.1];exact hk
   have:cells.getD (j*i.size+k) undef=c.cells[k]:=by simp[h2 k _ (Array.getElem?_eq_getElem eG)]
   rw[this];exact(h1.cells.2 k hk eG).mono aaK
 .intro t ht;subst ht;refine⟨i,cells.toList,w.heap.size,hi,⟨by simp[hl],.inr ⟨w.heap.size,es.length,cells,rfl,hle,heap_alloc_new w _,Nat.le_refl _,hlen,hl,?_⟩⟩,rfl,?_,?_⟩
  .exact List.take_of_length_le (by simp[hl])
  .show au g.owner _ _ _=_;rw[aN];rfl
  .show au g.hi _ _ _=_;rw[aN]
def we (R:Rel P w0 n U g S H a w) {o:Oper} {t el:TypeId} {i:TypeInfo} {z:Value} {len:Nat} {ps:Array (Nat×Operand)} {xs:List Operand} {ys:List bZ} {e:aB}
  (ho:o.op=.buildSlice t len ps) (hd:∀t,o.dst=some t->t<n/\¬U t) (fN:P.underlying t=some (.slice el)) (hi:P.info? el=some i) (hz:i.zero=some z) (iE:0<i.size)
  (gE:ps.toList=(xs.zipIdx 0).map λx=>(x.2,x.1)) (hlen:xs.length=len) (hlz:0<len) (hx:nJ n xs=some ys) (hu:∀y∈ys,∀t∈y.tmps,¬U t)
  (he:aq S H (.buildSlice t el i.size ys)=some e):b_ P w0 n U g S H a w o e:=by
 simp only[aq]at he;split at he
 case isFalse=>cases he
 rename_i hc;cases he;simp only[Bool.and_eq_true,decide_eq_true_eq]at hc;obtain⟨j5,ig⟩:=hc;simp only[aC,List.all_eq_true,Bool.and_eq_true,beq_iff_eq]at j5;obtain⟨l1,r1⟩:=R.E7 hx hu
 have tF:ys.length=len:=by omega
 have hR:∀j (h:j<ys.length),RD g.Pr w (AL.ev S ys[j]) ((xs.map a.eval)[j]'(by simp;omega))/\(AL.ev S ys[j]).cells.length=i.size/\(AL.ev S ys[j]).storable=true:=by
  intro j h;have hm:=j5 (AL.ev S ys[j]) (List.mem_map.2 ⟨_,List.getElem_mem h,rfl⟩);refine⟨?_,hm.2,hm.1⟩;have:=(r1 j h (by omega)).bQ (AV.js hm.1);simpa using this
 have lz:∀v∈xs.map a.eval,v.cells.size=i.size:=by
  intro v hv;obtain⟨j,hj,rfl⟩:=List.getElem_of_mem hv;simp only[List.length_map]at hj;obtain⟨h1,h2,h3⟩:=hR j (by omega);rw[<-h1.cells.1];exact h2
 have Tv:((Array.range (len*i.size)).map (z.cells[· % z.cells.size]!)).size=len*i.size:=by simp
 have Hx:=Great.fill_whole iE (xs.map a.eval) ((Array.range (len*i.size)).map (z.cells[· % z.cells.size]!)) lz (by rw[Tv];simp[hlen])
 have D7:(ps.map λ(i,x)=>(i,a.eval x)).toList=((xs.map a.eval).zipIdx 0).map λx=>(x.2,x.1):=by
  rw[Array.toList_map,gE];simp[List.zipIdx_map]
 have eO:=run_buildSlice (P:=P) w t el len (ps.map λ(i,x)=>(i,a.eval x)) ((xs.map a.eval).flatMap λv=>v.cells.toList).toArray i z fN hi hz (by rw[tF]at ig;omega)
  (by have:=Nat.mul_pos hlz iE;omega) (by rw[D7];exact Hx)
 have Ha:=Great.flat_get iE (xs.map a.eval) lz
 obtain⟨g',e1,e2,R'⟩:=R.newRow o.dst hd el i hi ((ys.map (AL.ev S)).map AV.vw) ((xs.map a.eval).flatMap λv=>v.cells.toList).toArray
  (λj h=>by simp only[List.length_map]at h;simp only[List.getElem_map,AV.vS];exact(hR j h).2.1)
  (λj h=>by simp only[List.length_map]at h;simp only[List.getElem_map,AV.C9];exact(hR j h).2.2)
  (by
   simp only[List.size_toArray,List.length_map]
   have hh:∀(l:List Value),(∀v∈l,v.cells.size=i.size)->(l.flatMap λv=>v.cells.toList).length=l.length*i.size:=by
    intro l
    induction l with
    |nil=>simp
    |cons v l ih=>intro h;simp only[List.flatMap_cons,List.length_append,List.length_cons,Array.length_toList,h v List.mem_cons_self,ih (λu hu=>h u (List.mem_cons_of_mem _ hu)),Nat.succ_mul];omega
   rw[hh _ lz,List.length_map,l1])
  (by simp only[List.length_map];have:=Nat.le_mul_of_pos_right ys.length iE;unfold maxLen;omega)
  (λj h=>by
   simp only[List.length_map]at h;obtain⟨h1,h2,h3⟩:=hR j h
   have dJ:j<(xs.map a.eval).length:=by simp;omega
   refine⟨(xs.map a.eval)[j],by simpa using h1.vw,λk u hk=>?_⟩
   have eG:k<i.size:=by
    rw[<-lz _ (List.getElem_mem dJ)];exact(Array.getElem?_eq_some_iff.1 hk).1
   simp only[List.getElem?_toArray];rw[Ha,show(j*i.size+k)/i.size=j by rw[Nat.mul_comm,Nat.mul_add_div iE,Nat.div_eq_of_lt eG,Nat.add_zero],show(j*i.size+k) % i.size=k by rw[Nat.mul_comm,Nat.mul_add_mod,Nat.mod_eq_of_lt eG],List.getElem?_eq_getElem dJ]
   exact hk)
 refine⟨.slice (some ⟨w.heap.size,0,none⟩) len len,w.alloc (.cells ((xs.map a.eval).flatMap λv=>v.cells.toList).toArray el),g',.inl ?_,e1,e2,?_⟩
 .unfold execOp;simp only[ho,Sem.run_bind,eO,Result.andThen_ok]
  rfl
 .have:((ys.map (AL.ev S)).map AV.vw).length=len:=by simp[tF]
  rw[this]at R';exact R'
end
section
variable{P:Program}{w0:World}{n:Nat}{U:Nat->Prop}{g:Gh}{S:af}{H:ah}{a:Act}{w:World}
def uQ(S:af)(y:bZ):af:=match aY y with|some t=>au S t (S t).aw|none=>S
def Rel.take (R:Rel P w0 n U g S H a w) {x:Operand} {y:bZ} (hx:dg n x=some y) (hu:∀ t∈y.tmps,¬ U t) (loc:Loc) :
  ∃g1,g1.base=g.base/\g1.old=g.old/\g1.al=g.al/\g1.hi=g.hi/\Rel P w0 n U g1 (uQ S y) H a w/\dw P w g1 loc (AL.ev S y) (a.eval x):=by
 cases x with
 |const c=>
  simp only[dg,Option.map_eq_some_iff]at hx;obtain⟨v,hc,rfl⟩:=hx;exact⟨g,rfl,rfl,rfl,rfl,R,wP hc _ _ _ _⟩
 |global k=>cases hx
 |func f=>cases hx;exact⟨g,rfl,rfl,rfl,rfl,R,trivial⟩
 |tmp t=>
  simp only[dg]at hx;split at hx
  case isFalse=>cases hx
  rename_i ht;cases hx;have K8:=hu t (by simp[bZ.tmps]);have ho:=R.own t ht K8
  have R1:Rel P w0 n U g (au S t (S t).aw) H a w:=R.weaken _ λk hk huk c pY ho=>by
   by_cases h:k=t
   .subst h;rw[aN];exact⟨pY.aw,fF _ _ _⟩
   .rw[aJ _ _ h];exact⟨pY,ho⟩
  have R2:=R1.DL (.slot t) (some loc) (λk hk _ _=>by cases hk;rw[aN];exact AV.oD _) (λi j cs h=>by cases h);refine⟨{ g with owner:=λb=>if g.owner b=some (.slot t)then some loc else g.owner b },rfl,rfl,rfl,rfl,R2,?_⟩;show dw P w _ loc (S t) (a.tmps.getD t undef);generalize S t=v at ho;generalize a.tmps.getD t undef=c at ho
  cases v<;>try trivial
  rename_i oo es
  cases oo with
  |view=>trivial
  |nil=>exact ho
  |own e=>
   obtain⟨i,xs,b,h1,h2,h3,h4,h5⟩:=ho;refine⟨i,xs,b,h1,h2,h3,?_,h5⟩;show(if g.owner b=some (.slot t)then some loc else g.owner b)=_;rw[if_pos h4]
def Rel.LS (R:Rel P w0 n U g S H a w) {x:Operand} {y:bZ} (hx:dg n x=some y) (hu:∀ t∈y.tmps,¬ U t) {e:TypeId} {es:List AV} (hy:AL.ev S y = .slice (.own e) es) :
  ∃g1 i xs b,g1.base=g.base/\g1.old=g.old/\g1.al=g.al/\g1.hi=g.hi/\Rel P w0 n U g1 (uQ S y) H a w/\
   P.info? e=some i/\w.ownsRow g.base e i.size (a.eval x) es.length xs/\(a.eval x).ownBlock=some b/\g1.owner b=none/\g.hi b=es.length*i.size/\(∀j,g.al j≠some b)/\(∀o,g.old.keep b≠some o):=by
 cases x with
 |const c=>
  simp only[dg,Option.map_eq_some_iff]at hx;obtain⟨v,hc,rfl⟩:=hx;have:=xK hc;rw[show v=AL.ev S (.c v)from rfl,hy]at this;cases this
 |global k=>cases hx
 |func f=>cases hx;cases hy
 |tmp t=>
  simp only[dg]at hx;split at hx
  case isFalse=>cases hx
  rename_i ht;cases hx;have K8:=hu t (by simp[bZ.tmps]);have ho:=R.own t ht K8
  change S t=_ at hy
  have R1:Rel P w0 n U g (au S t (S t).aw) H a w:=R.weaken _ λk hk huk c pY ho=>by
   by_cases h:k=t
   .subst h;rw[aN];exact⟨pY.aw,fF _ _ _⟩
   .rw[aJ _ _ h];exact⟨pY,ho⟩
  have R2:=R1.DL (.slot t) none (λk hk _ _=>by cases hk;rw[aN];exact AV.oD _) (λi j cs h=>by cases h);rw[hy]at ho;obtain⟨i,xs,b,h1,h2,h3,h4,h5⟩:=ho;refine⟨{ g with owner:=λb=>if g.owner b=some (.slot t)then none else g.owner b },i,xs,b,rfl,rfl,rfl,rfl,R2,h1,h2,h3,?_,h5,λj hj=>?_,λo hk=>?_⟩
  .show(if g.owner b=some (.slot t)then none else g.owner b)=none;rw[if_pos h4]
  .obtain⟨_,_,_,_,_,_,_,k5,_⟩:=R.box j b hj;rw[h4]at k5;cases k5
  .obtain⟨_,_,_,k4,_⟩:=R.kept b o hk;rw[h4]at k4;cases k4
def zB(v:AV):v.bb.length=v.cells.length:=by cases v<;>simp[AV.bb,AV.cells]
def RD.bb{Pr:Nat->Nat->Prop}{v:AV}{c:Value}(h:RD Pr w v c)(hs:v.storable=true):ng Pr w v.bb c.cells:=by
 cases v<;>try exact h.Rd hs
 rename_i cs;have hh:=h.Rd hs;refine ng.mk' (by simpa[AV.bb,AV.cells]using hh.1) (λi v c e1 e2=>?_) (λi v e1=>?_)
 .simp only[AV.bb,List.getElem?_map,Option.map_eq_some_iff]at e1;obtain⟨u,h1,rfl⟩:=e1;exact(hh.get h1 e2).aw
 .simp only[AV.bb,List.getElem?_map,Option.map_eq_some_iff]at e1;obtain⟨u,h1,rfl⟩:=e1;exact(AV.np _).trans (hh.one h1)
def FC (R:Rel P w0 n U g S H a w) {o:Oper} {hr:HR} {t:TypeId} {i:TypeInfo} {x1 x2:Operand} {y1 y2:bZ} {e:aB} (ho:o.op = .store t x1 x2) (gG:o.dst=none)
  (hi:P.info? t=some i) (lP:dg n x1=some y1) (kX:dg n x2=some y2) (nQ:∀t∈y1.tmps,¬U t) (nN:∀t∈y2.tmps,¬U t)
  (he:aq S H (.store hr i.size y1 y2)=some e):b_ P w0 n U g S H a w o e:=by
 have fl:=R.ev lP nQ;have fe:=R.ev kX nN;simp only[aq]at he;generalize abq:AL.ev S y1=q1 at he fl;generalize j5:a.eval x1=c1 at fl
 cases fl<;>(try cases he;done)
 case data h=>cases h<;>cases he
 rename_i k off b fu;simp only at he;split at he
 case isFalse=>cases he
 obtain⟨cs,vs,ty,k1,k2,k3,k4,k5,k6,k7,k8,k9⟩:=R.box k b fu;simp only[k1]at he;split at he
 case isFalse=>cases he
 rename_i hc;obtain⟨jw,EX,gx⟩:=hc;cases he;have p6:=fe.bQ (AV.js gx);obtain⟨g1,e1,e2,e3,e4,R1,Nk⟩:=R.take kX nN (.cell k off)
 have lx:g1.Pr=g.Pr:=by unfold Gh.Pr;rw[e1,e2,e4]
 obtain⟨ZZ,YV,ty0,m1,m2,m3,m4,m5,m6,m7,m8,m9⟩:=R1.box k b (by rw[e3];exact fu);rw[k1]at m1;cases m1;rw[k3]at m3;cases m3
 have aL:(a.eval x2).cells.size=i.size:=by rw[<-p6.cells.1];exact jw
 have hlen:off+(a.eval x2).cells.size<=vs.size:=by omega
 have jY:∀u∈(a.eval x2).cells.toList,u.oneCell'=true:=by
  intro u hu;obtain⟨j,hj,rfl⟩:=List.getElem_of_mem hu
  have dJ:j<(AL.ev S y2).cells.length:=by rw[p6.cells.1];simpa using hj
  have:=(p6.cells.2 j dJ (by simpa using hj)).one (p6.cells_one gx j dJ);simpa using this
 have eO:=run_storeCells_at P b off ty (a.eval x2).cells.toList 0 vs w k3 (by simpa using hlen) jY;simp only[Nat.add_zero]at eO;have I':=zB (AL.ev S y2)
 have j6:∀j,(vs.toList.take off++(a.eval x2).cells.toList++vs.toList.drop (off+(a.eval x2).cells.toList.length)).toArray[j]?=if off<=j/\j<off+(a.eval x2).cells.size then(a.eval x2).cells[j-off]? else vs[j]?:=by
  intro j;simp only[List.getElem?_toArray,Array.length_toList]
  by_cases h1:j<off
  .rw[if_neg (by omega),List.append_assoc,List.getElem?_append_left (by simp;omega)];simp[h1]
  .by_cases h2:j<off+(a.eval x2).cells.size
   .rw[if_pos ⟨by omega,h2⟩,List.getElem?_append_left (by simp;omega),List.getElem?_append_right (by simp;omega)];rw[Array.getElem?_toList]
    congr 1
    simp;omega
   .rw[if_neg (by omega),List.getElem?_append_right (by simp;omega)];simp only[List.getElem?_drop,Array.getElem?_toList]
    congr 1
    simp;omega
 have c_:ng g1.Pr w (aQ cs off (AL.ev S y2).bb) (vs.toList.take off++(a.eval x2).cells.toList++vs.toList.drop (off+(a.eval x2).cells.toList.length)).toArray:=
  ng.aQ (cs:=cs) (xs:=vs) ⟨m6,m7,m9⟩ (ys:=(a.eval x2).cells) (by rw[lx];exact p6.bb gx) (by omega) _ (by simp;omega) j6
 have cC:∀j v c,(aQ cs off (AL.ev S y2).bb)[j]?=some v->(vs.toList.take off++(a.eval x2).cells.toList++vs.toList.drop (off+(a.eval x2).cells.toList.length)).toArray[j]?=some c->dw P w g1 (.cell k j) v c:=by
  intro j v c h1 h2;rw[qy (by omega)]at h1;rw[j6]at h2;rw[I',p6.cells.1]at h1;split at h1
  .rename_i kJ;rw[if_pos kJ]at h2;have AY:=p6;generalize AL.ev S y2=q at h1 Nk AY gx;generalize a.eval x2=c2 at h2 Nk AY
   have single:q.bb=[q]->c2.cells=#[c2]->dw P w g1 (.cell k j) v c:=by
    intro h3 h4;rw[h3]at h1;rw[h4]at h2
    have h0:j-off=0:=by simpa using(List.getElem?_eq_some_iff.1 h1).1
    rw[h0]at h1 h2;simp at h1 h2;subst h1;subst h2;rw[show j=off by omega];exact Nk
   cases AY with
   |agg cs' ju hl jY hr=>
    simp only[AV.bb,List.getElem?_map,Option.map_eq_some_iff]at h1;obtain⟨u,_,rfl⟩:=h1;exact fF _ _ _
   |fZ=>cases gx
   |val _ hc=>exact single rfl (by cases c2<;>first|rfl|cases hc)
   |_=>exact single rfl rfl
  .rename_i kJ;rw[if_neg kJ]at h2;obtain⟨l1,rfl⟩:=List.getElem?_eq_some_iff.1 h1;obtain⟨l2,rfl⟩:=Array.getElem?_eq_some_iff.1 h2;exact m8 j l1 l2
 have R2:=R1.yv k b (by rw[e3];exact fu) vs _ ty k3 _ c_.1 c_.2.1 (λj hj dJ=>cC j _ _ (List.getElem?_eq_getElem hj) (Array.getElem?_eq_getElem dJ)) c_.2.2;refine⟨undef,w.setRow b (vs.toList.take off++(a.eval x2).cells.toList++vs.toList.drop (off+(a.eval x2).cells.toList.length)).toArray,g1,.inr ⟨?_,rfl⟩,e1,e2,?_⟩
 .unfold execOp;simp only[ho,j5,Instr.storeAt,Instr.sureAddr,storeVar,sizeOf,typeInfo,Sem.run_bind,Sem.run_pure,Result.andThen_ok,run_program,hi,aL,ne_eq,not_true_eq_false,if_false];rw[show storeCells ⟨b,off,none⟩ (a.eval x2).cells.toList=storeCells ⟨b,off,none⟩ (a.eval x2).cells.toList 0 from rfl,eO]
  rfl
 .rw[gG];exact R2
end
def sZ {P:Program} {w:World} (base:Nat) (t ty e:TypeId) (i:TypeInfo) (z:Value) (ht:P.underlying t=some (.slice e)) (hi:P.info? e=some i) (hz:i.zero=some z)
  (pw:z.cells.size=i.size) (v:Value) (n:Nat) (xs:List Value) (b:Nat) (cC:w.ownsRow base e i.size v n xs) (nt:v.ownBlock=some b)
  (ad:Addr) (m c:Nat) (news:List Value) (hl:news.length=m*i.size) (qm:∀j u,news[j]?=some u->w.cell? (ad.add j)=some u) (h1:∀u∈news,u.oneCell'=true)
  (h63:n+m<=2097152) (CH:(n+m)*i.bytes<=140737488355328) (f_:base<=w.heap.size):
  ∃v' w' b',(Builtin.append_ #[t,t] ty #[v,.slice (some ad) m c]).run P w=.ok v' w'/\w'.ownsRow base e i.size v' (n+m) (xs++news)/\v'.ownBlock=some b'/\
   ((b'=b/\w.grownBy w' (some b))\/(b'=w.heap.size/\w.grownBy w' none/\w'.heap.size=w.heap.size+1)):=by
 have Zr:n+m<=maxLen:=by unfold maxLen;omega
 have hlen:(xs++news).length=(n+m)*i.size:=by rw[List.length_append,cC.1,hl,Nat.add_mul]
 rcases cC.2 with⟨rfl,rfl⟩|⟨g,cap,cur,rfl,l5,hg,Be,Eo,lz,oq⟩
 .cases nt
 .have rE:g=b:=by simpa[Value.ownBlock]using nt
  subst rE
  by_cases hZ:n+m<=cap
  .have aaq:n*i.size+news.length<=cur.size:=by rw[hl,lz,<-Nat.add_mul];exact Nat.mul_le_mul_right _ hZ
   have hr:=run_append_room (P:=P) w t ty e i ht hi g n cap cur hg ad m c news hl qm h1 hZ aaq;refine⟨_,_,g,hr,⟨hlen,.inr ⟨g,cap,_,rfl,l5,setRow_heap w g cur _ e _ hg,hZ,Eo,?_,?_⟩⟩,rfl,.inl ⟨rfl,⟨rfl,rfl,rfl,by simp,λk _ hk=>setRow_other w g k _ (λe=>hk (by simp[e]))⟩⟩⟩
   .simp only[List.size_toArray,List.length_append,List.length_take,List.length_drop,Array.length_toList];omega
   .rw[oq,<-hlen];exact List.take_left
  .have holds:∀j u,xs[j]?=some u->w.cell? ((⟨g,0,none⟩:Addr).add j)=some u:=cC.cells (g:=g) rfl;have hr:=run_append_grow (P:=P) w t ty e i z ht hi hz ⟨g,0,none⟩ n cap xs cC.1 holds ad m c news hl qm (by omega) (by omega) (growslice_fits (by omega) CH);have m_:=grownCap_ge w (n+m) cap e;have Nd:grownCap w (n+m) cap e<=maxLen:=grownCap_le_maxLen w (n+m) cap e Zr;refine⟨_,_,w.heap.size,hr,⟨hlen,.inr ⟨w.heap.size,_,_,rfl,f_,heap_alloc_new w.drew _,m_,Nd,?_,?_⟩⟩,rfl,.inr ⟨rfl,⟨rfl,rfl,rfl,by simp,λk hk _=>heap_alloc_old w.drew _ k hk⟩,by simp⟩⟩
   .simp only[Array.size_append,List.size_toArray,size_zeroCells,pw,cC.1,hl,<-Nat.add_mul]
    congr 1
    omega
   .simp only[Array.toList_append,List.append_assoc];rw[<-List.append_assoc,<-hlen];exact List.take_left
def vo {P:Program} {w:World} (base:Nat) (t ty e:TypeId) (i:TypeInfo) (z:Value) (ht:P.underlying t=some (.slice e)) (hi:P.info? e=some i) (hz:i.zero=some z)
  (pw:z.cells.size=i.size) (a0:Option Addr)
  (ad:Addr) (m c:Nat) (news:List Value) (hl:news.length=m*i.size) (qm:∀j u,news[j]?=some u->w.cell? (ad.add j)=some u)
  (hm:0<m) (h63:m<=2097152) (CH:m*i.bytes<=140737488355328) (f_:base<=w.heap.size):
  ∃v' w',(Builtin.append_ #[t,t] ty #[.slice a0 0 0,.slice (some ad) m c]).run P w=.ok v' w'/\w'.ownsRow base e i.size v' m news/\v'.ownBlock=some w.heap.size/\w.grownBy w' none/\w'.heap.size=w.heap.size+1:=by
 have m_:=grownCap_ge w m 0 e;have Nd:grownCap w m 0 e<=maxLen:=grownCap_le_maxLen w m 0 e (by unfold maxLen;omega)
 have eO:(Builtin.append_ #[t,t] ty #[.slice a0 0 0,.slice (some ad) m c]).run P w=.ok (.slice (some ⟨w.heap.size,0,none⟩) m (grownCap w m 0 e)) (w.drew.alloc (.cells (news.toArray++Builtin.zeroCells z.cells (grownCap w m 0 e-m)) e)):=by
  cases a0 with
  |none=>exact run_append_nil (P:=P) w t ty e i z ht hi hz ad m c news hl qm hm (by omega) (by omega)
  |some b=>
   have:=run_append_grow (P:=P) w t ty e i z ht hi hz b 0 0 [] (by simp) (by simp) ad m c news hl qm (by omega) (by omega) (growslice_fits (by omega) (by simpa using CH));simpa using this
 refine⟨_,_,eO,⟨hl,.inr ⟨w.heap.size,_,_,rfl,f_,heap_alloc_new w.drew _,m_,Nd,?_,?_⟩⟩,rfl,⟨rfl,rfl,rfl,by simp,λk hk _=>heap_alloc_old w.drew _ k hk⟩,by simp⟩
 .simp only[Array.size_append,List.size_toArray,size_zeroCells,pw,hl,<-Nat.add_mul]
  congr 1
  omega
 .rw[<-hl];simp only[Array.toList_append];exact List.take_left
def qZ {P:Program} {w:World} (base:Nat) (t ty e:TypeId) (i:TypeInfo) (size:Nat) (ht:P.underlying t=some (.slice e)) (hi:P.info? e=some i)
  (v:Value) (n:Nat) (xs:List Value) (cC:w.ownsRow base e size v n xs) (ad:Option Addr):
  (Builtin.append_ #[t,t] ty #[v,.slice ad 0 0]).run P w=.ok v w:=by
 have P3:(Builtin.firstCells i.size 0 (.slice ad 0 0)).run P w=.ok #[] w:=by
  rcases ad with _|ad
  .rfl
  .simp[Builtin.firstCells,loadCells,loadCellsFrom]
 rcases cC.2 with⟨rfl,rfl⟩|⟨g,cap,cur,rfl,_,_,Be,_⟩
 .simp[Builtin.append_,run_underlying ht,sizeOf,typeInfo,hi,Builtin.lenOf,P3]
 .simp[Builtin.append_,run_underlying ht,sizeOf,typeInfo,hi,Builtin.lenOf,P3,Be,storeCells]
def RD.lG {Pr:Nat→Nat→Prop} {w:World} {o:Ow} {es:List AV} {c:Value} (h:RD Pr w (.slice o es) c) (size:Nat) (hs:aC size es=true) :
  (es=[]/\∃ad,c=.slice ad 0 0)\/∃(b off cap:Nat)(news:List Value),c=.slice (some ⟨b,off,none⟩) es.length cap/\news.length=es.length*size/\
   (∀j u,news[j]?=some u->w.cell? ⟨b,off+j,none⟩=some u)/\(∀u∈news,u.oneCell'=true)/\
   ∀j (h:j<es.length) k (hk:k<(es[j]).cells.length),∃u,news[j*size+k]?=some u/\RD Pr w ((es[j]).cells[k]) u:=by
 simp only[aC,List.all_eq_true,Bool.and_eq_true,beq_iff_eq]at hs
 cases h with
 |fH=>exact .inl ⟨rfl,_,rfl⟩
 |iG _ a=>exact .inl ⟨rfl,_,rfl⟩
 |slice _ _ b off cap sz cs eu pU aL h1 hc hr=>
  refine .inr ⟨b,off,cap,(List.range (es.length*size)).map cs,rfl,by simp,?_,?_,?_⟩
  .intro j u hu;simp only[List.getElem?_map,Option.map_eq_some_iff]at hu;obtain⟨j',h1,rfl⟩:=hu;obtain⟨ao,rfl⟩:=List.getElem?_eq_some_iff.1 h1;simp only[List.length_range]at ao;simp only[List.getElem_range]
   have iE:0<es.length:=by
    rcases Nat.eq_zero_or_pos es.length with h0|h0
    .rw[h0]at ao;omega
    .exact h0
   have:sz=size:=by rw[<-aL 0 iE];exact(hs _ (List.getElem_mem iE)).2
   subst this;exact(hc j ao).2
  .intro u hu;simp only[List.mem_map,List.mem_range]at hu;obtain⟨j,ao,rfl⟩:=hu
   have iE:0<es.length:=by
    rcases Nat.eq_zero_or_pos es.length with h0|h0
    .rw[h0]at ao;omega
    .exact h0
   have:sz=size:=by rw[<-aL 0 iE];exact(hs _ (List.getElem_mem iE)).2
   subst this
   have kR:0<sz:=by
    rcases Nat.eq_zero_or_pos sz with h0|h0
    .rw[h0]at ao;omega
    .exact h0
   have hj:j/sz<es.length:=(Nat.div_lt_iff_lt_mul kR).2 ao
   have hk:j % sz<(es[j/sz]).cells.length:=by rw[aL _ hj];exact Nat.mod_lt _ kR
   have e:j/sz*sz+j % sz=j:=by rw[Nat.mul_comm];exact Nat.div_add_mod j sz
   have:=(hr _ hj _ hk).one (h1 _ hj _ hk);rwa [e]at this
  .intro j hj k hk
   have:sz=size:=by rw[<-aL j hj];exact(hs _ (List.getElem_mem hj)).2
   subst this;refine⟨cs (j*sz+k),?_,hr j hj k hk⟩;rw[aL j hj]at hk
   have:j*sz+k<es.length*sz:=by
    calc j*sz+k<j*sz+sz:=by omega
     _=(j+1)*sz:=by rw[Nat.succ_mul]
     _<=es.length*sz:=Nat.mul_le_mul_right _ (by omega)
   simp[this]
def RD.I6{Pr:Nat->Nat->Prop}{w:World}{o:Ow}{es:List AV}{c:Value}(h:RD Pr w (.slice o es) c):∀j (h:j<es.length) k (hk:k<(es[j]).cells.length),((es[j]).cells[k]).one=true:=by
 intro j hj k hk
 cases h with
 |fH=>simp at hj
 |iG=>simp at hj
 |slice _ _ _ _ _ _ _ _ _ _ h1 _ _=>exact h1 j hj k hk
section
variable{P:Program}{w0:World}{n:Nat}{U:Nat->Prop}{g:Gh}{S:af}{H:ah}{a:Act}{w:World}
def Rel.ownRow (R:Rel P w0 n U g S H a w) {w':World} {b':Nat} (d:Option Nat) (hd:∀ t,d=some t→t < n∧¬ U t) {el:TypeId} {i:TypeInfo} (hi:P.info? el=some i) {es:List AV} {news:List Value} {v':Value}
  (cC:w'.ownsRow g.base el i.size v' es.length news) (nt:v'.ownBlock=some b')
  (T':∀es c,w.heap[b']?≠some (.map es c))
  (hb:(b'<w.heap.size/\w.grownBy w' (some b')/\g.owner b'=none/\(∀j,g.al j≠some b')/\g.hi b'<=es.length*i.size/\(∀k u,k<g.hi b'->w.cell? ⟨b',k,none⟩=some u->news[k]?=some u)/\∀o,g.old.keep b'≠some o)\/
   (b'=w.heap.size/\w.grownBy w' none/\w'.heap.size=w.heap.size+1))
  (gx:aC i.size es=true)
  (hr:∀j (h:j<es.length) k (hk:k<(es[j]).cells.length),∃u,news[j*i.size+k]?=some u/\RD g.Pr w ((es[j]).cells[k]) u/\((es[j]).cells[k]).one=true):
  ∃g',g'.base=g.base/\g'.old=g.old/\Rel P w0 n U g' (Go.AL.aH S d (.slice (.own el) es)) H (a.put d v') w':=by
 have hle:g.base<=w.heap.size:=by rw[R.base];exact R.below.size
 simp only[aC,List.all_eq_true,Bool.and_eq_true,beq_iff_eq]at gx
 let g':Gh:={ g with hi:=au g.hi b' (es.length*i.size),owner:=au g.owner b' (d.map .slot) }
 have l8:∀k,k<w.heap.size->k≠b'->w'.heap[k]?=w.heap[k]?:=by
  intro k hk bt
  rcases hb with⟨_,h,_⟩|⟨_,h,_⟩
  .exact h.block k hk (by simp[bt])
  .exact h.block k hk (by simp)
 have j_:w.heap.size<=w'.heap.size:=by rcases hb with⟨_,h,_⟩|⟨_,h,_⟩<;>exact h.size
 rcases cC.2 with⟨rfl,_⟩|⟨gg,cap,cur,rfl,l5,hg,Be,Eo,lz,oq⟩
 .cases nt
 have rE:gg=b':=by simpa[Value.ownBlock]using nt
 subst rE
 have gk:∀k u,news[k]?=some u->w'.cell? ⟨gg,k,none⟩=some u:=by
  intro k u hu;have:=cC.cells (g:=gg) rfl k u hu;rwa [Addr.add_lit,Nat.zero_add]at this
 have SA:∀b k,g.Pr b k->∀u,w.cell? ⟨b,k,none⟩=some u->g'.Pr b k/\w'.cell? ⟨b,k,none⟩=some u:=by
  intro b k hp u hu;have ao:b<w.heap.size:=World.block_lt_of_cell? _ _ hu
  by_cases gQ:b=gg
  .subst gQ
   rcases hb with⟨h1,h2,h3,h4,h5,h6,_⟩|⟨h1,_⟩
   .rcases hp with hp|hp
    .omega
    .exact⟨.inr ⟨hp.1,by show k<au g.hi _ _ _;rw[aN];omega⟩,gk k u (h6 k u hp.2 hu)⟩
   .omega
  .refine⟨?_,by rw[World.cell?_of_block (w:=w) (l8 b ao gQ)];exact hu⟩;rcases hp with hp|hp
   .exact .inl hp
   .exact .inr ⟨hp.1,by show k<au g.hi _ _ b;rw[aJ _ _ gQ];exact hp.2⟩
 have pG:aE g.Pr g'.Pr w w':={
  cell:=SA
  map:=λb hp es c hm=>by
   have ao:b<w.heap.size:=(Array.getElem?_eq_some_iff.1 hm).1
   have gQ:b≠gg:=by
    rintro rfl;exact T' _ _ hm
   refine⟨?_,by rw[l8 b ao gQ];exact hm⟩;rcases hp with hp|hp
   .exact .inl hp
   .exact .inr ⟨hp.1,by show 0<au g.hi _ _ b;rw[aJ _ _ gQ];exact hp.2⟩ }
 have R':Rel P w0 n U g' S H a w':=by
  refine R.ext (g':=g') rfl rfl rfl pG ?_ ?_ ?_ ?_ ?_ j_
  .intro j b hj;obtain⟨_,_,_,_,_,k3,_⟩:=R.box j b hj;have ao:b<w.heap.size:=(Array.getElem?_eq_some_iff.1 k3).1
   have bt:b≠gg:=by
    rintro rfl
    rcases hb with⟨_,_,_,h4,_⟩|⟨h1,_⟩
    .exact h4 j hj
    .omega
   exact⟨l8 b ao bt,aJ _ _ bt,aJ _ _ bt⟩
  .intro b loc ho
   have ao:b<w.heap.size:=by
    rcases Nat.lt_or_ge b w.heap.size with h|h
    .exact h
    .rw[(R.fresh b h).2]at ho;cases ho
   have bt:b≠gg:=by
    rintro rfl
    rcases hb with⟨_,_,h3,_⟩|⟨h1,_⟩
    .rw[h3]at ho;cases ho
    .omega
   exact⟨l8 b ao bt,aJ _ _ bt,(aJ _ _ bt).trans ho⟩
  .refine R.below.trans ?_
   rcases hb with⟨_,h,_⟩|⟨_,h,_⟩
   .exact⟨h.os,h.tape,h.output,h.size,λk hk=>l8 k (by omega) (by omega)⟩
   .exact⟨h.os,h.tape,h.output,h.size,λk hk=>l8 k (by omega) (by omega)⟩
  .intro b gQ
   have bt:b≠gg:=by
    have:=(Array.getElem?_eq_some_iff.1 hg).1;omega
   exact⟨(aJ _ _ bt).trans (R.fresh b (by omega)).1,(aJ _ _ bt).trans (R.fresh b (by omega)).2⟩
  .intro b o hk ho;have ao:b<w.heap.size:=(Array.getElem?_eq_some_iff.1 ho).1
   have bt:b≠gg:=by
    rintro rfl
    rcases hb with⟨_,_,_,_,_,_,h7⟩|⟨h1,_⟩
    .exact h7 o hk
    .omega
   exact⟨by rw[l8 b ao bt];exact ho,aJ _ _ bt,aJ _ _ bt⟩
 refine⟨g',rfl,rfl,R'.aH d _ _ (λt h=>(hd t h).1) (.data _ _ ?_) ?_⟩
 .refine .slice _ es gg 0 cap i.size (λk=>news.getD k undef) Be (λh=>by cases h) (λj h=>(gx _ (List.getElem_mem h)).2) (λj h k hk=>(hr j h k hk).choose_spec.2.2) (λk hk=>⟨?_,?_⟩) (λj h k hk=>?_)
  .exact .inr ⟨l5,by show 0+k<au g.hi _ _ _;rw[aN];omega⟩
  .rw[Nat.zero_add];refine gk k _ ?_
   have:k<news.length:=by rw[cC.1];exact hk
   simp[this]
  .obtain⟨u,h1,h2,_⟩:=hr j h k hk
   have:news.getD (j*i.size+k) undef=u:=by simp[h1]
   rw[this];exact h2.mono pG
 .intro t ht;subst ht;exact⟨i,news,gg,hi,cC,rfl,by show au g.owner _ _ _=_;rw[aN];rfl,by show au g.hi _ _ _=_;rw[aN]⟩
def mq{size:Nat}{es:List AV}:aC size es=true↔∀v∈es,v.storable=true/\v.cells.length=size:=by
 simp[aC]
def DT (R:Rel P w0 n U g S H a w) {o:Oper} {cl:Call} {t el:TypeId} {i:TypeInfo} {z:Value} {x1 x2:Operand} {y1 y2:bZ} {e:aB} (ho:o.op = .call cl) (jw:cl.callee = .builtin .append) (yi:cl.args = #[x1,x2]) (zw:cl.argTypes = #[t,t])
  (hd:∀t,o.dst=some t->t<n/\¬U t) (fN:P.underlying t=some (.slice el)) (hi:P.info? el=some i) (hz:i.zero=some z) (pw:z.cells.size=i.size) (Xz:i.bytes<=65536)
  (lP:dg n x1=some y1) (kX:dg n x2=some y2) (nQ:∀t∈y1.tmps,¬U t) (nN:∀t∈y2.tmps,¬U t) (c_:∀t,o.dst=some t->t∉y1.tmps)
  (he:aq S H (.append t el i.size i.bytes y1 y2)=some e):b_ P w0 n U g S H a w o e:=by
 have hle:g.base<=w.heap.size:=by rw[R.base];exact R.below.size
 have fl:=R.ev lP nQ;have fe:=R.ev kX nN
 have run:∀v' w',(Builtin.append_ #[t,t] o.type #[a.eval x1,a.eval x2]).run P w=.ok v' w'->(execOp a.eval o).run P w=.ok (.value v') w':=by
  intro v' w' h;unfold execOp;simp[ho,jw,yi,zw,resolve,invoke,builtin,h]
 have bytes:∀m,m<=2097152->m*i.bytes<=140737488355328:=λm hm=>Nat.le_trans (Nat.mul_le_mul hm Xz) (by decide)
 simp only[aq]at he;split at he
 .
  rename_i oo ys Q0 Vf;split at he
  case isFalse=>cases he
  rename_i hc;simp only[Bool.and_eq_true,decide_eq_true_eq]at hc;cases he;rw[Q0]at fl;rw[Vf]at fe
  obtain⟨WB,j5⟩:∃ad,a.eval x1=.slice ad 0 0:=by
   have hq:=fl.bQ rfl;generalize a.eval x1=c at hq
   cases hq with
   |fH=>exact⟨_,rfl⟩
   |iG=>exact⟨_,rfl⟩
   |slice _ _ b off cap size cs eu pU=>rw[pU rfl];exact⟨_,rfl⟩
  have p6:=fe.bQ rfl
  rcases p6.lG i.size hc.1 with⟨rfl,NU,ig⟩|⟨b,off,cap,news,ig,hl,hn,h1,hr⟩
  .refine⟨a.eval x1,w,g,.inl (run _ _ ?_),rfl,rfl,R.aH o.dst _ _ (λt h=>(hd t h).1) (.data _ _ (fl.bQ rfl)) λ_ _=>trivial⟩;rw[j5,ig]
   have P3:(Builtin.firstCells i.size 0 (.slice NU 0 0)).run P w=.ok #[] w:=by
    rcases NU with _|NU
    .rfl
    .simp[Builtin.firstCells,loadCells,loadCellsFrom]
   simp[Builtin.append_,run_underlying fN,sizeOf,typeInfo,hi,Builtin.lenOf,P3,storeCells]
   cases WB<;>simp[storeCells]
  .by_cases WN:ys=[]
   .subst WN;have qm:news=[]:=List.eq_nil_of_length_eq_zero (by simpa using hl);refine⟨a.eval x1,w,g,.inl (run _ _ ?_),rfl,rfl,R.aH o.dst _ _ (λt h=>(hd t h).1) (.data _ _ (fl.bQ rfl)) λ_ _=>trivial⟩;rw[j5,ig];simp[Builtin.append_,run_underlying fN,sizeOf,typeInfo,hi,Builtin.lenOf,Builtin.firstCells,loadCells,loadCellsFrom]
    cases WB<;>simp[storeCells]
   .have iE:0<ys.length:=List.length_pos_iff.2 WN;obtain⟨v',w',r1,r2,r3,r4,r5⟩:=vo (P:=P) (w:=w) g.base t o.type el i z fN hi hz pw WB ⟨b,off,none⟩ ys.length cap news hl (λj u hu=>by rw[Addr.add_lit];exact hn j u hu) iE (by omega) (bytes _ (by omega)) hle
    obtain⟨g',e1,e2,R'⟩:=R.ownRow o.dst hd hi (es:=ys) r2 r3 (λes c hm=>by have:=(Array.getElem?_eq_some_iff.1 hm).1;omega) (.inr ⟨rfl,r4,r5⟩) hc.1 (λj h k hk=>by
     obtain⟨u,u1,u2⟩:=hr j h k hk
     exact⟨u,u1,u2,p6.I6 j h k hk⟩)
    refine⟨v',w',g',.inl (run _ _ (by rw[j5,ig];exact r1)),e1,e2,?_⟩
    have:ys.isEmpty=false:=by cases ys with|nil=>exact absurd rfl WN|cons=>rfl
    simp only[this];exact R'
 .rename_i e' xs oo ys Q0 Vf;split at he
  case isFalse=>cases he
  rename_i hc;simp only[Bool.and_eq_true,decide_eq_true_eq]at hc;obtain⟨rfl,⟨j5,ig⟩,Mh⟩:=hc;cases he;rw[Q0]at fl;rw[Vf]at fe;obtain⟨g1,i',xv,b,b1,b2,b3,b4,R1,cy,cC,nt,dp,tS,yh,hnk⟩:=R.LS lP nQ Q0;rw[hi]at cy;cases cy
  have lx:g1.Pr=g.Pr:=by unfold Gh.Pr;rw[b1,b2,b4]
  have Bl:=fl.bQ rfl;have p6:=fe.bQ rfl;have fV:b<w.heap.size:=(cC.lt b nt).2
  have wG:aC i.size (xs++ys)=true:=by
   rw[mq];intro v hv;rcases List.mem_append.1 hv with h|h
   .exact mq.1 ig v h
   .exact mq.1 j5 v h
  have hS:uQ S y1=(match(aY y1)with|some t=>au S t (S t).aw|none=>S):=rfl
  have jY:∀(o:Ow)(es:List AV)(c:Value),RD g.Pr w (.slice o es) c->∀j (h:j<es.length) k (hk:k<(es[j]).cells.length),((es[j]).cells[k]).one=true:=by
   intro o es c h j hj k hk
   cases h with
   |fH=>simp at hj
   |iG=>simp at hj
   |slice _ _ _ _ _ _ _ _ _ _ h1 _ _=>exact h1 j hj k hk
  have VW:∀j (h:j<xs.length) k (hk:k<(xs[j]).cells.length),∃u,xv[j*i.size+k]?=some u/\RD g.Pr w ((xs[j]).cells[k]) u:=by
   intro j hj k hk
   rcases Bl.lG i.size ig with⟨rfl,jB⟩|⟨b',off,cap,abD,jB,hl,hn,h1,hr⟩
   .simp at hj
   .obtain⟨u,u1,u2⟩:=hr j hj k hk;refine⟨u,?_,u2⟩
    have ao:j*i.size+k<xv.length:=by
     rw[cC.1,<-hl];exact(List.getElem?_eq_some_iff.1 u1).1
    have e1:=cC.cells nt _ _ (List.getElem?_eq_getElem ao);have e2:=hn _ _ u1
    rcases cC.2 with⟨nk,_⟩|⟨gg,s_,cur,vD,_⟩
    .rw[nk]at nt;cases nt
    .rw[vD]at jB nt
     have rE:gg=b:=by simpa[Value.ownBlock]using nt
     subst rE;cases jB;rw[Addr.add_lit,Nat.zero_add]at e1;rw[Nat.zero_add]at e2;rw[e2]at e1;rw[List.getElem?_eq_getElem ao,Option.some.inj e1]
  have WI:∀k u,k<g1.hi b->w.cell? ⟨b,k,none⟩=some u->∀news,(xv++news)[k]?=some u:=by
   intro k u hk hu news;rw[b4,tS]at hk
   have ao:k<xv.length:=by rw[cC.1];exact hk
   have e1:=cC.cells nt _ _ (List.getElem?_eq_getElem ao);rw[Addr.add_lit,Nat.zero_add,hu]at e1;rw[List.getElem?_append_left ao,List.getElem?_eq_getElem ao,<-Option.some.inj e1]
  have fin:∀ v' w' b' news,(Builtin.append_ #[t,t] o.type #[a.eval x1,a.eval x2]).run P w = .ok v' w'→w'.ownsRow g.base e' i.size v' (xs.length+ys.length) (xv++news)→v'.ownBlock=some b' →
    ((b'=b/\w.grownBy w' (some b))\/(b'=w.heap.size/\w.grownBy w' none/\w'.heap.size=w.heap.size+1))->news.length=ys.length*i.size->
    (∀j (h:j<ys.length) k (hk:k<(ys[j]).cells.length),∃u,news[j*i.size+k]?=some u/\RD g.Pr w ((ys[j]).cells[k]) u)->
    b_ P w0 n U g S H a w o { v:=.slice (.own e') (xs++ys),dm:=aY y1 }:=by
   intro v' w' b' news r1 r2 r3 r4 hl hr
   obtain⟨g',e1,e2,R'⟩:=R1.ownRow o.dst hd hi (es:=xs++ys) (by rw[b1,List.length_append];exact r2) r3 (by
    rcases r4 with⟨rfl,_⟩|⟨rfl,_⟩
    .intro es c hm
     rcases cC.2 with⟨nk,_⟩|⟨gg,s_,cur,vD,_,xr,_⟩
     .rw[nk]at nt;cases nt
     .rw[vD]at nt
      have rE:gg=b':=by simpa[Value.ownBlock]using nt
      subst rE;rw[xr]at hm;cases hm
    .intro es c hm;have:=(Array.getElem?_eq_some_iff.1 hm).1
     omega) (by
    rcases r4 with⟨rfl,hg⟩|h
    .refine .inl ⟨fV,hg,dp,by rw[b3];exact yh,by rw[b4,tS,List.length_append,Nat.add_mul];omega,λk u hk hu=>WI k u hk hu news,by rw[b2];exact hnk⟩
    .exact .inr h) wG (λj h k hk=>by
     rw[lx]
     by_cases hj:j<xs.length
     .have ej:(xs++ys)[j]=xs[j]:=List.getElem_append_left hj
      have eG:k<(xs[j]).cells.length:=by rw[<-ej];exact hk
      obtain⟨u,u1,u2⟩:=VW j hj k eG;refine⟨u,?_,?_,?_⟩
      .rw[List.getElem?_append_left (List.getElem?_eq_some_iff.1 u1).1];exact u1
      .simp only[ej];exact u2
      .simp only[ej];exact jY _ _ _ Bl j hj k eG
     .have PY:j-xs.length<ys.length:=by simp only[List.length_append]at h;omega
      have ej:(xs++ys)[j]=ys[j-xs.length]:=List.getElem_append_right (by omega)
      have eG:k<(ys[j-xs.length]).cells.length:=by rw[<-ej];exact hk
      obtain⟨u,u1,u2⟩:=hr _ PY k eG;refine⟨u,?_,?_,?_⟩
      .have e3:j * i.size+k=xv.length+((j - xs.length) * i.size+k):=by
        rw[cC.1,<-Nat.add_assoc,<-Nat.add_mul];congr 2;omega
       rw[e3,List.getElem?_append_right (by omega),Nat.add_sub_cancel_left];exact u1
      .simp only[ej];exact u2
      .simp only[ej];exact jY _ _ _ p6 _ PY k eG)
   exact⟨v',w',g',.inl (run _ _ r1),e1.trans b1,e2.trans b2,R'⟩
  rcases p6.lG i.size j5 with⟨rfl,NU,jB⟩|⟨b',off,cap,news,jB,hl,hn,h1,hr⟩
  .refine fin (a.eval x1) w b [] (by rw[jB];exact qZ (P:=P) (w:=w) g.base t o.type e' i i.size fN hi _ _ _ cC NU) (by simpa using cC) nt (.inl ⟨rfl,⟨rfl,rfl,rfl,Nat.le_refl _,λ_ _ _=>rfl⟩⟩) (by simp) (λj h=>by simp at h)
  .obtain⟨v',w',b'',r1,r2,r3,r4⟩:=sZ (P:=P) (w:=w) g.base t o.type e' i z fN hi hz pw (a.eval x1) xs.length xv b cC nt ⟨b',off,none⟩ ys.length cap news hl (λj u hu=>by rw[Addr.add_lit];exact hn j u hu) h1 (by omega) (bytes _ (by omega)) hle;exact fin v' w' b'' news (by rw[jB];exact r1) r2 r3 r4 hl hr
 .cases he
end
section
variable{P:Program}{w0:World}{n:Nat}{U:Nat->Prop}{g:Gh}{S:af}{H:ah}{a:Act}{w:World}
def Fv (R:Rel P w0 n U g S H a w) {o:Oper} {hr:HR} {t:TypeId} {nq:TypeDesc} {x:Operand} {y:bZ} {e:aB} {d:Nat} (ho:o.op = .load t x) (gG:o.dst=some d) (hd:d < n∧¬ U d)
  (fN:P.underlying t=some nq) (kY:fE nq=false) (hx:dg n x=some y) (hu:∀t∈y.tmps,¬U t) (he:aq S H (.loadT hr y)=some e):b_ P w0 n U g S H a w o e:=by
 have hv:=R.ev hx hu;simp only[aq]at he;generalize pN:AL.ev S y=q at he hv;generalize lR:a.eval x=c at hv
 cases hv<;>(try cases he;done)
 case data h=>cases h<;>cases he
 rename_i k off b fu;simp only at he;split at he
 case isFalse=>cases he
 obtain⟨cs,vs,ty,k1,k2,k3,k4,k5,k6,k7,k8,k9⟩:=R.box k b fu;simp only[k1]at he;split at he
 case h_2=>cases he
 rename_i v hv;cases he;obtain⟨ao,rfl⟩:=List.getElem?_eq_some_iff.1 hv
 have jx:off<vs.size:=by omega
 have eO:(loadVar t ⟨b,off,none⟩).run P w=.ok vs[off] w:=by
  have Xy:(isAgg t).run P w=.ok false w:=by
   unfold isAgg;rw[Sem.run_bind,run_underlying fN w,<-kY]
   cases nq<;>simp[fE]
  have hc:w.cell? ⟨b,off,none⟩=some vs[off]:=by simp[World.cell?,k3,jx]
  simp[loadVar,Sem.run_bind,Xy,hc]
 have R1:=R.yv k b fu vs vs ty k3 (cs.set off (cs[off]).aw) (by simpa using k6) (fun j h h'=>by
   simp only[List.length_set]at h;rw[List.getElem_set];split
   .rename_i hj;subst hj;exact(k7 _ ao jx).aw
   .exact k7 j h h') (λj h h'=>by
   simp only[List.length_set]at h;rw[List.getElem_set];split
   .exact fF _ _ _
   .exact k8 j h h') (λj h=>by
   simp only[List.length_set]at h;rw[List.getElem_set];split
   .have:=k9 off ao;exact(AV.np _).trans this
   .exact k9 j h)
 rw[setRow_self w b vs ty (0,0) k3]at R1
 have R2:=R1.DL (.cell k off) (some (.slot d)) (λt h=>by cases h) (λi j cs' h hH hj=>by
  cases h;rw[aN]at hH;cases hH;simp only[List.getElem_set_self]
  exact AV.oD _)
 refine⟨vs[off],w,{ g with owner:=λb=>if g.owner b=some (.cell k off)then some (.slot d)else g.owner b },.inl ?_,rfl,rfl,?_⟩
 .unfold execOp;simp[ho,lR,Instr.loadAt,Instr.sureAddr,eO]
 .rw[gG];refine R2.put d _ _ hd.1 (.data _ _ (k7 _ ao jx)) ?_;have hh:=k8 off ao jx;generalize cs[off]=v at hh;generalize vs[off]=c at hh
  cases v<;>try trivial
  rename_i oo es
  cases oo with
  |view=>trivial
  |nil=>exact hh
  |own e=>
   obtain⟨i,xs,b,h1,h2,h3,h4,h5⟩:=hh;refine⟨i,xs,b,h1,h2,h3,?_,h5⟩;show(if g.owner b=some (.cell k off)then some (.slot d)else g.owner b)=_;rw[if_pos h4]
def run_sliceBound{x:Value}{i:Int}{y:Nat}{code:BoundsCode}(hx:x=.int .i64 i)(h0:0<=i)(h1:i<=y):(Instr.sliceBound x y code).run P w=.ok i.toNat w:=by
 subst hx;simp[Instr.sliceBound,asIntOf,h0,h1]
def xJ (R:Rel P w0 n U g S H a w) {lo hi:Option Operand} {vh cy:Option bZ} (qn:lv n lo=some vh) (tS:lv n hi=some cy) (Pd:∀ y∈vh,∀ t∈y.tmps,¬ U t) (Nt:∀ y∈cy,∀ t∈y.tmps,¬ U t)
  {len cap:Nat} (hlc:len<=cap) {p q:Int} (hp:bound (vh.map (AL.ev S)) 0=some p) (hq:bound (cy.map (AL.ev S)) len=some q) (h0:0<=p) (h1:p<=q) (h2:q<=len) (sl:Bool):
  (Instr.sliceBounds sl len cap (lo.map a.eval) (hi.map a.eval) none).run P w=.ok (p.toNat,q.toNat,cap) w:=by
 have hh:∀code,(match hi.map a.eval with|some v=>Instr.sliceBound v cap code|none=>(pure len:Sem Nat)).run P w=.ok q.toNat w:=by
  intro code
  cases hi with
  |none=>
   cases tS;simp only[Option.map_none,bound,Option.some.injEq]at hq;subst hq;simp
  |some x=>
   simp only[lv,Option.map_eq_some_iff]at tS;obtain⟨y,hy,rfl⟩:=tS;have hv:=R.ev hy (Nt y rfl);simp only[Option.map_some,bound]at hq;generalize AL.ev S y=v at hq hv
   split at hq<;>simp only[Option.some.injEq,reduceCtorEq]at hq
   .simp_all
   .rename_i m hm;simp only[Option.some.injEq]at hm;subst hm;subst hq;simp only[Option.map_some];refine run_sliceBound ?_ (by omega) (by omega);generalize a.eval x=cx at hv;cases hv;rename_i hv;cases hv;rfl
 have hl:∀code,(match lo.map a.eval with|some v=>Instr.sliceBound v q.toNat code|none=>(pure 0:Sem Nat)).run P w=.ok p.toNat w:=by
  intro code
  cases lo with
  |none=>
   cases qn;simp only[Option.map_none,bound,Option.some.injEq]at hp;subst hp;simp
  |some x=>
   simp only[lv,Option.map_eq_some_iff]at qn;obtain⟨y,hy,rfl⟩:=qn;have hv:=R.ev hy (Pd y rfl);simp only[Option.map_some,bound]at hp;generalize AL.ev S y=v at hp hv
   split at hp<;>simp only[Option.some.injEq,reduceCtorEq]at hp
   .simp_all
   .rename_i m hm;simp only[Option.some.injEq]at hm;subst hm;subst hp;simp only[Option.map_some];refine run_sliceBound ?_ (by omega) (by omega);generalize a.eval x=cx at hv;cases hv;rename_i hv;cases hv;rfl
 unfold Instr.sliceBounds
 cases hi with
 |none=>
  have h3:=hh .sliceB;simp only[Option.map_none]at h3⊢
  cases lo with
  |none=>have h4:=hl .sliceB;simp only[Option.map_none]at h4⊢;simp at h3 h4;simp[h3,h4]
  |some x=>have h4:=hl .sliceB;simp only[Option.map_some]at h4⊢;simp at h3;simp[h3,h4]
 |some y=>
  have h3:=λc=>hh c
  simp only[Option.map_some]at h3⊢
  cases lo with
  |none=>have h4:=hl .sliceB;simp only[Option.map_none]at h4⊢;simp at h4;simp[h3,h4]
  |some x=>have h4:=hl .sliceB;simp only[Option.map_some]at h4⊢;simp[h3,h4]
def Eb (R:Rel P w0 n U g S H a w) {o:Oper} {t:TypeId} {x:Operand} {lo hi:Option Operand} {y:bZ} {vh cy:Option bZ} {e:aB} (ho:o.op = .slice t x lo hi none) (hd:∀ t,o.dst=some t→t < n∧¬ U t)
  (fN:P.underlying t=some .string) (hx:dg n x=some y) (hu:∀t∈y.tmps,¬U t) (qn:lv n lo=some vh) (tS:lv n hi=some cy) (Pd:∀y∈vh,∀t∈y.tmps,¬U t) (Nt:∀y∈cy,∀t∈y.tmps,¬U t)
  (he:aq S H (.nY y vh cy)=some e):b_ P w0 n U g S H a w o e:=by
 have hv:=R.ev hx hu;simp only[aq]at he;generalize pN:AL.ev S y=q at he hv;generalize lR:a.eval x=c at hv
 cases hv<;>(try cases he;done)
 rename_i h
 cases h<;>simp only at he<;>try cases he
 rename_i l;split at he
 case h_2=>cases he
 rename_i p q hp hq;split at he
 case isFalse=>cases he
 rename_i hc;cases he;have hb:=xJ R qn tS Pd Nt (len:=l.length) (Nat.le_refl _) hp hq hc.1 hc.2.1 hc.2.2 false
 refine b_.val R (λt h=>(hd t h).1) (c:=.string ⟨((l.take q.toNat).drop p.toNat).toArray⟩) ?_ (.data _ _ (.str _)) λ_=>trivial
 have eN:(Instr.sliceBounds false (⟨l.toArray⟩:ByteArray).size (⟨l.toArray⟩:ByteArray).size (lo.map a.eval) (hi.map a.eval) none).run P w=.ok (p.toNat,q.toNat,l.length) w:=hb;unfold execOp;simp only[ho,lR,Instr.sliceAt,Sem.run_bind,run_underlying fN,Result.andThen_ok,Option.map_none,Instr.slice,Option.isSome_none,Bool.false_eq_true,if_false,Sem.run_pure,eN];rw[ByteArray.extract_mk,List.drop_take]
def D' (R:Rel P w0 n U g S H a w) {o:Oper} {t el:TypeId} {i:TypeInfo} {x:Operand} {lo hi:Option Operand} {y:bZ} {vh cy:Option bZ} {e:aB} (ho:o.op = .slice t x lo hi none) (hd:∀ t,o.dst=some t→t < n∧¬ U t)
  (fN:P.underlying t=some (.slice el)) (wc:P.info? el=some i) (hx:dg n x=some y) (hu:∀t∈y.tmps,¬U t) (qn:lv n lo=some vh) (tS:lv n hi=some cy) (Pd:∀y∈vh,∀t∈y.tmps,¬U t) (Nt:∀y∈cy,∀t∈y.tmps,¬U t)
  (he:aq S H (.nX i.size y vh cy)=some e):b_ P w0 n U g S H a w o e:=by
 have hv:=R.ev hx hu;simp only[aq]at he;generalize pN:AL.ev S y=q at he hv;generalize lR:a.eval x=c at hv
 cases hv<;>(try cases he;done)
 rename_i h
 have key:∀ (es:List AV) (ad:Option Addr) (cap:Nat),es.length≤cap→c = .slice ad es.length cap→∀ p q:Int,bound (vh.map (AL.ev S)) 0=some p→bound (cy.map (AL.ev S)) es.length=some q→0≤p→p≤q→q≤es.length →
   (execOp a.eval o).run P w=.ok (.value (.slice (if cap=p.toNat then ad else ad.map (·.add (p.toNat*i.size))) (q.toNat-p.toNat) (cap-p.toNat))) w:=by
  rintro es ad cap eu rfl p q hp hq h0 h1 h2;have hb:=xJ R qn tS Pd Nt eu hp hq h0 h1 h2 true;unfold execOp;simp[ho,lR,Instr.sliceAt,Sem.run_bind,run_underlying fN,Instr.slice,hb,sizeOf,typeInfo,wc]
 cases h with
 |fH oo=>
  simp only at he;split at he
  case h_2=>cases he
  rename_i p q hp hq;split at he
  case isFalse=>cases he
  rename_i hc;cases he;have hk:=key [] none 0 (Nat.le_refl _) rfl p q hp hq hc.1 hc.2.1 hc.2.2.1
  have U3:q.toNat=0:=by have:=hc.2.2.1;simp at this;omega
  have Oc:p.toNat=0:=by have:=hc.2.1;omega
  refine b_.val R (λt h=>(hd t h).1) hk (.data _ _ ?_) λ_=>trivial
  simp[U3,Oc];exact .fH _
 |iG oo a0=>
  simp only at he;split at he
  case h_2=>cases he
  rename_i p q hp hq;split at he
  case isFalse=>cases he
  rename_i hc;cases he;have hk:=key [] (some a0) 0 (Nat.le_refl _) rfl p q hp hq hc.1 hc.2.1 hc.2.2.1
  have U3:q.toNat=0:=by have:=hc.2.2.1;simp at this;omega
  have Oc:p.toNat=0:=by have:=hc.2.1;omega
  refine b_.val R (λt h=>(hd t h).1) hk (.data _ _ ?_) λ_=>trivial
  simp[U3,Oc];exact .iG _ _
 |slice oo es b off cap size cs eu pU aL h1 jB hr=>
  simp only at he;split at he
  case h_2=>cases he
  rename_i p q hp hq;split at he
  case isFalse=>cases he
  rename_i hc;cases he;have hk:=key es (some ⟨b,off,none⟩) cap eu rfl p q hp hq hc.1 hc.2.1 hc.2.2.1;have bo:=mq.1 hc.2.2.2
  have hlq:q.toNat<=es.length:=by have:=hc.2.2.1;omega
  have hpq:p.toNat<=q.toNat:=by have:=hc.2.1;omega
  have hlen:((es.take q.toNat).drop p.toNat).length=q.toNat-p.toNat:=by simp;omega
  refine b_.val R (λt h=>(hd t h).1) hk (.data _ _ ?_) λ_=>trivial
  by_cases hm:cap=p.toNat
  .rw[if_pos hm];have nk:(es.take q.toNat).drop p.toNat=[]:=List.eq_nil_of_length_eq_zero (by omega);rw[nk,show q.toNat-p.toNat=([]:List AV).length by simp;omega];exact .slice _ [] b off _ 0 cs (Nat.zero_le _) (λh=>by cases h) (λi h=>by simp at h) (λi h=>by simp at h) (λk hk=>by simp at hk) (λi h=>by simp at h)
  .rw[if_neg hm];simp only[Option.map_some,Addr.add_lit];rw[<-hlen]
   have j6:∀j (h:j<((es.take q.toNat).drop p.toNat).length),((es.take q.toNat).drop p.toNat)[j]=es[p.toNat+j]'(by rw[hlen]at h;omega):=by intro j h;simp
   by_cases kz:es=[]
   .subst kz
    have nk:(([]:List AV).take q.toNat).drop p.toNat=[]:=by simp
    rw[nk];exact .slice _ [] b _ _ 0 cs (Nat.zero_le _) (λh=>by cases h) (λi h=>by simp at h) (λi h=>by simp at h) (λk hk=>by simp at hk) (λi h=>by simp at h)
   .have iE:0<es.length:=List.length_pos_iff.2 kz
    have Vh:size=i.size:=by rw[<-aL 0 iE];exact(bo _ (List.getElem_mem iE)).2
    subst Vh;refine .slice _ _ b _ _ i.size (λk=>cs (p.toNat*i.size+k)) (by omega) (λh=>by cases h) (λj h=>by rw[j6 j h];exact aL _ _) (λj h k hk=>by have:=j6 j h;simp only[this]at hk⊢;exact h1 _ _ k hk) (λk hk=>?_) (λj h k hk=>?_)
    .rw[hlen]at hk
     have:p.toNat*i.size+k<es.length*i.size:=by
      calc p.toNat*i.size+k<p.toNat*i.size+(q.toNat-p.toNat)*i.size:=by omega
       _=q.toNat*i.size:=by rw[<-Nat.add_mul];congr 1;omega
       _<=es.length*i.size:=Nat.mul_le_mul_right _ hlq
     have:=jB _ this;rwa [<-Nat.add_assoc]at this
    .have e:=j6 j h;simp only[e]at hk⊢;have:=hr (p.toNat+j) (by rw[hlen]at h;omega) k hk;rwa [Nat.add_mul,Nat.add_assoc]at this
 |_=>cases he
def xA (R:Rel P w0 n U g S H a w) {o:Oper} {neg:Bool} {t t' el:TypeId} {x:Operand} {y:bZ} {e:aB} (ho:o.op = .binOp (if neg then .neq else .eql) t x (.const (.slice none 0 0)) t') (hd:∀ t,o.dst=some t→t < n∧¬ U t)
  (ht:P.underlying t=some (.slice el)) (hx:dg n x=some y) (hu:∀t∈y.tmps,¬U t) (he:aq S H (.isNil neg y)=some e):b_ P w0 n U g S H a w o e:=by
 have hv:=R.ev hx hu;simp only[aq]at he;generalize pN:AL.ev S y=q at he hv;generalize lR:a.eval x=c at hv
 have run:∀ad l k,c=.slice ad l k->(execOp a.eval o).run P w=.ok (.value (.bool (if neg then !ad.isNone else ad.isNone))) w:=by
  rintro ad l k rfl;have hg:=gv (P:=P) (w:=w) (if neg then .neq else .eql) t x (.const (.slice none 0 0)) (.slice ad l k) (.slice none 0 0) rfl
  have hE:(Op.equal t (.slice ad l k) (.slice none 0 0)).run P w=.ok ad.isNone w:=by
   unfold Op.equal Op.maxDepth Op.equalIn
   cases ad<;>simp[run_underlying ht]
  have TX:a.eval (.const (.slice none 0 0))=.slice none 0 0:=rfl;cases neg
  .simp only[Bool.false_eq_true,if_false]at ho hg⊢;simp[execOp,ho,lR,TX,hg,binOp,hE]
  .simp only[if_true]at ho hg⊢;simp[execOp,ho,lR,TX,hg,binOp,hE]
 cases hv<;>(try cases he;done)
 rename_i h
 cases h<;>simp only at he<;>try cases he
 .exact b_.val R (λt h=>(hd t h).1) (run _ _ _ rfl) (.data _ _ (.kd _)) λ_=>trivial
 .exact b_.val R (λt h=>(hd t h).1) (run _ _ _ rfl) (.data _ _ (.kd _)) λ_=>trivial
 .rename_i oo es b off cap sz cs eu pU aL h1 hc hr
  refine b_.val R (λt h=>(hd t h).1) (run _ _ _ rfl) (.data _ _ ?_) λ_=>by cases es<;>trivial
  cases es
  .exact .kd _
  .simp only[List.isEmpty_cons,Bool.false_eq_true,if_false,Option.isNone_some,Bool.not_false]
   cases neg<;>exact .bool _
def Fc (R:Rel P w0 n U g S H a w) {o:Oper} {t el:TypeId} {i:TypeInfo} {e:aB} (ho:o.op = .buildSlice t 0 #[]) (hd:∀ t,o.dst=some t→t < n∧¬ U t)
  (fN:P.underlying t=some (.slice el)) (hi:P.info? el=some i) (he:aq S H (.empty el)=some e):b_ P w0 n U g S H a w o e:=by
 cases he;have hb:Below w.heap.size w (w.alloc (.cells #[] el)):=(Below.refl _ _).alloc (Nat.le_refl _) _;refine⟨.slice (some ⟨w.heap.size,0,none⟩) 0 0,w.alloc (.cells #[] el),g,.inl ?_,rfl,rfl,(R.oA hb).aH o.dst _ _ (λt h=>(hd t h).1) (.data _ _ ?_) λ_ _=>trivial⟩
 .unfold execOp;have hz:(Array.map (λ_:Nat=>(default:Value)) (Array.range 0))=#[]:=Array.eq_empty_of_size_eq_zero (by simp);simp[ho,Instr.buildSlice,run_underlying fN,sizeOf,typeInfo,hi,Instr.fill,newRow,hz]
 .exact .slice _ [] _ 0 0 0 (λ_=>undef) (Nat.zero_le _) (λ_=>rfl) (λi h=>by simp at h) (λi h=>by simp at h) (λk hk=>by simp at hk) (λi h=>by simp at h)
def D0 (R:Rel P w0 n U g S H a w) {o:Oper} {xt t:TypeId} {dt:TypeDesc} {i:TypeInfo} {z:Value} {zs:List AV} {x:Operand} {y:bZ} {e:aB} (ho:o.op = .typeAssert x xt t true) (hd:∀ t,o.dst=some t→t < n∧¬ U t)
  (ht:P.underlying t=some dt) (D4:∀ms,dt≠.interface ms) (hi:P.info? t=some i) (hz:i.zero=some (.agg z.cells)) (pw:ij z.cells.toList=some zs) (hx:dg n x=some y) (hu:∀t∈y.tmps,¬U t)
  (he:aq S H (.assert t (.agg zs) y)=some e):b_ P w0 n U g S H a w o e:=by
 have hv:=R.ev hx hu;simp only[aq]at he;generalize pN:AL.ev S y=q at he hv;generalize lR:a.eval x=c at hv;have Hi:=(gX g.Pr w pw).1;have Sc:RD g.Pr w (.agg zs) (.agg z.cells):=.agg _ _ (by simpa using Hi.1) Hi.2.2 (λi h h'=>by simpa using Hi.2.1 i h (by simpa using h'))
 have two:∀(v:AV)(c:Value)(b:Bool),RD g.Pr w v c->RD g.Pr w (.fZ [v,.bool b]) (.tuple #[c,.bool b]):=by
  intro v c b h
  refine .fZ _ _ rfl λi hi cy=>?_
  match i,hi with
  |0,_=>exact h
  |1,_=>exact .bool b
 cases hv<;>(try cases he;done)
 rename_i h
 cases h<;>simp only at he<;>try cases he
 .rename_i t' v c' h
  refine b_.val R (λt h=>(hd t h).1) (c:=if t'=t then .tuple #[c',.bool true]else .tuple #[.agg z.cells,.bool false]) ?_ (.data _ _ ?_) λ_=>by split<;>trivial
  .unfold execOp;simp only[ho,lR,Instr.typeAssert,Sem.run_bind,run_underlying ht,Result.andThen_ok]
   cases dt<;>first|exact absurd rfl (D4 _)|skip
   all_goals (split<;>simp[zeroValue,typeInfo,hi,hz])
  .split
   .exact two _ _ _ h
   .exact two _ _ _ Sc
 .refine b_.val R (λt h=>(hd t h).1) (c:=.tuple #[.agg z.cells,.bool false]) ?_ (.data _ _ (two _ _ _ Sc)) λ_=>trivial
  unfold execOp;simp only[ho,lR,Instr.typeAssert,Sem.run_bind,run_underlying ht,Result.andThen_ok]
  cases dt<;>first|exact absurd rfl (D4 _)|skip
  all_goals simp[zeroValue,typeInfo,hi,hz]
end
def sO(k:TypeId->Option Nat):List Field->Nat->Option Nat
 |[],acc=>some acc
 |f::fs,acc=>if f.name = "_" \/ f.offset≠acc then none else
  match k f.type with
  |some m=>sO k fs (acc+m)
  |none=>none
def iX(P:Program):Nat->TypeId->Option Nat
 |0,_=>none
 |d+1,t=>match P.underlying t,P.info? t with
  |some (.int .i64),some i=>if i.size=1 then some 1 else none
  |some (.struct fs),some i=>if P.stoodInHeld t=false/\sO (iX P d) fs.toList 0=some i.size then some i.size else none
  |_,_=>none
def dC(l:List Int):Array Value:=(l.map (Value.int .i64)).toArray
def encI(P:Program)(t:TypeId)(l:List Int):Value:=
 match P.underlying t with
 |some (.int _)=>.int .i64 (l.headD 0)
 |_=>.agg (dC l)
section
variable{P:Program}{w:World}
def vX {d:Nat} {t:TypeId} {k:Nat} (h:iX P d t=some k) (l:List Int) (off:Nat) (hl:off+k≤l.length) :
  (part t (dC l) off).run P w=.ok (encI P t ((l.drop off).take k)) w:=by
 cases d with
 |zero=>cases h
 |succ d=>
  simp only[iX]at h;split at h
  .rename_i i hu hi
   split at h<;>cases h
   rename_i hs
   have kY:(isAgg t).run P w=.ok false w:=by
    unfold isAgg;rw[Sem.run_bind,run_underlying hu w];simp
   have ao:off<l.length:=by omega
   have hhd:((l.drop off).take 1).headD 0=l[off]:=by
    rw[List.drop_eq_getElem_cons ao];rfl
   simp only[part,Sem.run_bind,kY,Result.andThen_ok,Bool.false_eq_true,if_false,encI,hu,hhd];simp[dC,ao]
  .rename_i fs i hu hi
   split at h<;>cases h
   have kY:(isAgg t).run P w=.ok true w:=by
    unfold isAgg;rw[Sem.run_bind,run_underlying hu w];simp
   simp only[part,Sem.run_bind,kY,Result.andThen_ok,if_true,encI,hu];simp only[sizeOf,typeInfo,Sem.run_bind];simp[dC,List.map_take,List.map_drop,hi]
  .cases h
def HJ(a b:List Int)(k:Nat)(h:a.length=b.length):(a==b)=((a.take k==b.take k)&&(a.drop k==b.drop k)):=by
 rw[Bool.eq_iff_iff];simp only[Bool.and_eq_true,beq_iff_eq]
 constructor
 .rintro rfl;exact⟨rfl,rfl⟩
 .rintro⟨h1,h2⟩;rw[<-List.take_append_drop k a,<-List.take_append_drop k b,h1,h2]
def u_ {d:Nat} (ih:∀ t k,iX P d t=some k→∀ a b:List Int,a.length=k→b.length=k→(Op.equalIn d t (encI P t a) (encI P t b)).run P w = .ok (a==b) w) :
  ∀(fs:List Field)(acc wQ:Nat),sO (iX P d) fs acc=some wQ->∀l m:List Int,l.length=wQ->m.length=wQ->
   acc<=wQ/\(Op.eqFields d (dC l) (dC m) fs).run P w=.ok (l.drop acc==m.drop acc) w
 |[],acc,wQ,h,l,m,hl,hm=>by
  cases h;refine⟨Nat.le_refl _,?_⟩;have e1:l.drop acc=[]:=List.drop_eq_nil_of_le (by omega);have e2:m.drop acc=[]:=List.drop_eq_nil_of_le (by omega);rw[e1,e2];simp[Op.eqFields]
 |f::fs,acc,wQ,h,l,m,hl,hm=>by
  simp only[sO]at h;split at h
  case isTrue=>cases h
  rename_i hn;simp only[not_or,ne_eq,Classical.not_not]at hn;split at h
  case h_2=>cases h
  rename_i k hk;obtain⟨hle,uF⟩:=u_ ih fs (acc+k) wQ h l m hl hm;refine⟨by omega,?_⟩;have e1:=vX (w:=w) hk l acc (by omega);have e2:=vX (w:=w) hk m acc (by omega);have e3:=ih f.type k hk ((l.drop acc).take k) ((m.drop acc).take k) (by simp;omega) (by simp;omega);simp only[Op.eqFields,ne_eq,hn.1,not_false_eq_true,if_true,hn.2,Sem.run_bind,e1,e2,Result.andThen_ok,e3];rw[HJ (l.drop acc) (m.drop acc) k (by simp;omega)];rw[List.drop_drop,List.drop_drop];generalize((l.drop acc).take k==(m.drop acc).take k)=q
  cases q with
  |false=>simp
  |true=>simpa using uF
def o9:∀(d:Nat)(t:TypeId)(k:Nat),iX P d t=some k->∀a b:List Int,a.length=k->b.length=k->(Op.equalIn d t (encI P t a) (encI P t b)).run P w=.ok (a==b) w
 |0,t,k,h,a,b,ha,hb=>by cases h
 |d+1,t,k,h,a,b,ha,hb=>by
  simp only[iX]at h;split at h
  .rename_i i hu hi
   split at h<;>cases h
   match a,ha,b,hb with
   |[x],_,[y],_=>
    simp only[encI,hu];rw[run_equalIn_int w d t .i64 .i64 _ _ hu];simp
  .rename_i fs i hu hi
   split at h<;>cases h
   rename_i hc
   have hf:P.fieldsOf t=fs:=by simp[Program.fieldsOf,hu]
   simp only[encI,hu];rw[run_equalIn_struct w d t _ _ (by rw[hf];exact hu) hc.1,hf];exact(u_ (o9 d) fs.toList 0 i.size hc.2 a b ha hb).2
  .cases h
def oK {Pr:Nat→Nat→Prop}:∀ {xs:List AV} {a:List Int},mU xs=some a→∀ {vs:List Value},xs.length=vs.length →
  (∀i (h:i<xs.length)(h':i<vs.length),RD Pr w xs[i] vs[i])->vs=a.map (Value.int .i64)/\a.length=xs.length
 |[],a,h,vs,hl,hr=>by
  cases h;have:vs=[]:=List.length_eq_zero_iff.1 hl.symm;subst this;exact⟨rfl,rfl⟩
 |x::xs,a,h,vs,hl,hr=>by
  cases vs with
  |nil=>simp at hl
  |cons v vs=>
   unfold mU at h;split at h
   .rename_i e;cases e
   .rename_i n cs e;cases e;simp only[Option.map_eq_some_iff]at h;obtain⟨a',ha,rfl⟩:=h;have h0:=hr 0 (by simp) (by simp);simp only[List.getElem_cons_zero]at h0;cases h0;obtain⟨h1,h2⟩:=oK ha (by simpa using hl) (λi h h'=>hr (i+1) (by simpa using h) (by simpa using h'));rw[h1];exact⟨rfl,by simp[h2]⟩
   .cases h
variable{w0:World}{n:Nat}{U:Nat->Prop}{g:Gh}{S:af}{H:ah}{a:Act}
def B0 (R:Rel P w0 n U g S H a w) {o:Oper} {neg:Bool} {k:Nat} {t t':TypeId} {fs:Array Field} {x1 x2:Operand} {y1 y2:bZ} {e:aB} (ho:o.op = .binOp (if neg then .neq else .eql) t x1 x2 t') (hd:∀ t,o.dst=some t→t < n∧¬ U t)
  (fN:P.underlying t=some (.struct fs)) (hk:iX P 10000 t=some k) (yc:P.eqGuardType P.depth t=false) (lP:dg n x1=some y1) (kX:dg n x2=some y2) (nQ:∀t∈y1.tmps,¬U t) (nN:∀t∈y2.tmps,¬U t)
  (he:aq S H (.eqs neg k y1 y2)=some e):b_ P w0 n U g S H a w o e:=by
 have fl:=R.ev lP nQ;have fe:=R.ev kX nN;simp only[aq]at he;generalize AL.ev S y1=p1 at he fl;generalize AL.ev S y2=p2 at he fe;generalize j5:a.eval x1=c1 at fl;generalize ig:a.eval x2=c2 at fe;split at he
 case h_2=>cases he
 rename_i xs ys;split at he
 case h_2=>cases he
 rename_i xU bs ha hb
 split at he<;>cases he
 rename_i hlen;have q1:=fl.bQ rfl;have q2:=fe.bQ rfl;cases q1;rename_i vs hl h1 hr;cases q2;rename_i us uc h1' nB;obtain⟨e1,_⟩:=oK (vs:=vs.toList) ha (by simpa using hl) (λi h h'=>by simpa using hr i h (by simpa using h'));obtain⟨e2,_⟩:=oK (vs:=us.toList) hb (by simpa using uc) (λi h h'=>by simpa using nB i h (by simpa using h'))
 have f1:vs=dC xU:=by rw[dC,<-e1]
 have f2:us=dC bs:=by rw[dC,<-e2]
 subst f1 f2;have hE:=o9 (P:=P) (w:=w) 10000 t k hk xU bs hlen.1 hlen.2;simp only[encI,fN]at hE;have hg:=run_eqGuard_agg w (if neg then .neq else .eql) t x1 x2 (dC xU) (dC bs) yc
 refine b_.val R (λt h=>(hd t h).1) (c:=.bool (if neg then xU !=bs else xU==bs)) ?_ (.data _ _ (.bool _)) λ_=>trivial
 cases neg with
 |true=>
  simp only[if_true]at ho hg⊢;simp[execOp,ho,j5,ig,hg,run_neq_struct,hE,bne,Sem.run_bind]
 |false=>
  simp only[Bool.false_eq_true,if_false]at ho hg⊢;simp[execOp,ho,j5,ig,hg,run_eql_struct,hE,Sem.run_bind]
end
section
variable{P:Program}{w0:World}{n:Nat}{U:Nat->Prop}{g:Gh}{S:af}{H:ah}{a:Act}{w:World}
def D8 (R:Rel P w0 n U g S H a w) {o:Oper} {t el:TypeId} {len:Nat} {it ie:TypeInfo} {z:Value} {ps:Array (Nat×Operand)} {zs:List AV} {qs:List (Nat×Nat×bZ)} {e:aB} (ho:o.op = .build t ps) (hd:∀ t,o.dst=some t→t < n∧¬ U t)
  (hi:P.info? t=some it) (fN:P.underlying t=some (.array len el)) (hz:it.zero=some z) (uC:P.info? el=some ie) (pw:ij z.cells.toList=some zs) (hq:qj n (λi=>some (i*ie.size,ie.size)) ps.toList=some qs)
  (hu:∀q∈qs,∀t∈q.2.2.tmps,¬U t) (he:aq S H (.build (zs.map AV.aw) qs)=some e):b_ P w0 n U g S H a w o e:=by
 simp only[aq,Option.map_eq_some_iff]at he;obtain⟨cs',hc,rfl⟩:=he;have C3:=(gX g.Pr w pw).1
 have xV:ng g.Pr w (zs.map AV.aw) z.cells:=by
  refine⟨by simpa using C3.1,λi h h'=>?_,λi h=>?_⟩
  .simp only[List.length_map]at h;have:=(C3.2.1 i h (by simpa using h')).aw;simpa using this
  .simp only[List.length_map]at h;have:=C3.2.2 i h;simp only[List.getElem_map];exact(AV.np _).trans this
 obtain⟨ju,h1,h2⟩:=rU R hq hu xV hc
 have hb:P.built t (ps.map λ(i,x)=>(i,a.eval x)).toList=some ju:=by
  unfold Program.built;simp only[hi,fN,hz,uC,Array.toList_map];exact h1
 refine b_.val R (λt h=>(hd t h).1) (c:=.agg ju) ?_ (.data _ _ (.agg _ _ h2.1 h2.2.2 h2.2.1)) λ_=>trivial
 unfold execOp;simp only[ho,Sem.run_bind,run_build w t _ ju hb,Result.andThen_ok]
 rfl
def F2 {Pr:Nat→Nat→Prop} {ty:TypeId} {i:TypeInfo} {nq:TypeDesc} (hi:P.info? ty=some i) (hu:P.underlying ty=some nq) {cs:List AV} {vs:Array Value} {off:Nat} {v:AV}
  (hr:RD Pr w (.agg cs) (.agg vs)) (he:aP (fE nq) i.size (cs.drop off)=some v):∃c,(part ty vs off).run P w=.ok c w/\RD Pr w v c:=by
 cases hr;rename_i h1 hl hr
 have kY:(isAgg ty).run P w=.ok (fE nq) w:=by
  unfold isAgg;rw[Sem.run_bind,run_underlying hu w]
  cases nq<;>simp[fE]
 generalize fE nq=q at he kY
 cases q with
 |true=>
  simp only[aP,if_true,List.length_drop]at he;split at he
  case isFalse=>cases he
  rename_i hle;cases he;refine⟨.agg (vs.extract off (off+i.size)),by simp[part,Sem.run_bind,kY,sizeOf,typeInfo,hi],?_⟩
  refine .agg _ _ (by simp;omega) (λk hk=>?_) λk hk eG=>?_
  .simp only[List.length_map,List.length_take,List.length_drop]at hk;simp only[List.getElem_map,List.getElem_take,List.getElem_drop];have:=h1 (off+k) (by omega);exact(AV.np _).trans this
  .simp only[List.length_map,List.length_take,List.length_drop]at hk;have:=(hr (off+k) (by omega) (by omega)).aw;simpa using this
 |false=>
  simp only[aP,Bool.false_eq_true,if_false,Option.map_eq_some_iff]at he;obtain⟨v0,Qd,rfl⟩:=he;simp only[List.getElem?_drop,Nat.add_zero]at Qd;obtain⟨h0,rfl⟩:=List.getElem?_eq_some_iff.1 Qd
  have hv:off<vs.size:=by omega
  exact⟨vs[off],by simp[part,Sem.run_bind,kY,hv],(hr off h0 hv).aw⟩
def CP (R:Rel P w0 n U g S H a w) {o:Oper} {t el:TypeId} {len:Nat} {ie:TypeInfo} {nq:TypeDesc} {x1 x2:Operand} {y1 y2:bZ} {e:aB} (ho:o.op = .index t x1 x2) (hd:∀ t,o.dst=some t→t < n∧¬ U t)
  (fN:P.underlying t=some (.array len el)) (hi:P.info? el=some ie) (Ui:P.underlying el=some nq) (lP:dg n x1=some y1) (kX:dg n x2=some y2) (nQ:∀t∈y1.tmps,¬U t) (nN:∀t∈y2.tmps,¬U t)
  (he:aq S H (.nZ (fE nq) len ie.size y1 y2)=some e):b_ P w0 n U g S H a w o e:=by
 have fl:=R.ev lP nQ;have fe:=R.ev kX nN;simp only[aq]at he;generalize AL.ev S y1=p1 at he fl;generalize AL.ev S y2=p2 at he fe;generalize j5:a.eval x1=c1 at fl;generalize ig:a.eval x2=c2 at fe;split at he
 case h_2=>cases he
 rename_i cs k;split at he
 case isFalse=>cases he
 rename_i hk;simp only[Option.map_eq_some_iff]at he;obtain⟨v,hv,rfl⟩:=he;have q1:=fl.bQ rfl;have q2:=fe.bQ rfl;cases q2;have q1':=q1;cases q1;obtain⟨c,h1,h2⟩:=F2 (P:=P) hi Ui q1' hv
 refine b_.val R (λt h=>(hd t h).1) (c:=c) ?_ (.data _ _ h2) λ_=>?_
 .simp only[execOp,ho,j5,ig,Instr.index,Sem.run_bind];simp[asIntOf,run_underlying fN,hk,sizeOf,typeInfo,hi,Sem.run_bind,h1]
 .simp only[aP]at hv;split at hv
  .split at hv<;>cases hv;trivial
  .simp only[Option.map_eq_some_iff]at hv;obtain⟨u,_,rfl⟩:=hv;exact fF _ _ _
def xj{Pr:Nat->Nat->Prop}:∀{es:List AV}{l:List UInt8},bytesOf es=some l->l.length=es.length/\∀j (h:j<es.length)(h':j<l.length),es[j]=.int .u8 (l[j].toNat:Int)
 |[],l,h=>by cases h;exact⟨rfl,λj h=>by simp at h⟩
 |x::es,l,h=>by
  unfold bytesOf at h;split at h
  .rename_i e;cases e
  .rename_i m cs e;cases e;split at h
   case isFalse=>cases h
   rename_i hm;simp only[Option.map_eq_some_iff]at h;obtain⟨l',hl,rfl⟩:=h;obtain⟨h1,h2⟩:=xj (Pr:=Pr) hl;refine⟨by simp[h1],λj hj dJ=>?_⟩
   cases j with
   |zero=>
    simp only[List.getElem_cons_zero]
    have:((UInt8.ofNat m.toNat).toNat:Int)=m:=by
     have h3:m.toNat<256:=by omega
     simp[UInt8.toNat_ofNat',Nat.mod_eq_of_lt h3];omega
    rw[this]
   |succ j=>simpa using h2 j (by simpa using hj) (by simpa using dJ)
  .cases h
def IM (R:Rel P w0 n U g S H a w) {o:Oper} {s d el:TypeId} {x:Operand} {y:bZ} {e:aB} (ho:o.op = .convert s d x) (hd:∀ t,o.dst=some t→t < n∧¬ U t)
  (hs:P.underlying s=some (.slice el)) (Ag:P.underlying el=some (.int .u8)) (DK:P.underlying d=some .string) (hx:dg n x=some y) (hu:∀t∈y.tmps,¬U t)
  (he:aq S H (.xm y)=some e):b_ P w0 n U g S H a w o e:=by
 have hv:=R.ev hx hu;simp only[aq]at he;generalize AL.ev S y=p at he hv;generalize hc:a.eval x=c at hv;split at he
 case h_2=>cases he
 rename_i ow es;simp only[Option.map_eq_some_iff]at he;obtain⟨l,hl,rfl⟩:=he;obtain⟨hlen,j6⟩:=xj (Pr:=g.Pr) hl;have q:=hv.bQ rfl
 cases q with
 |fH=>
  have:l=[]:=List.length_eq_zero_iff.1 (by simpa using hlen);subst this
  refine b_.val R (λt h=>(hd t h).1) (c:=.string ByteArray.empty) ?_ (.data _ _ (.str [])) λ_=>trivial
  simp[execOp,ho,hc,run_convert_bytes_nil w s el hs Ag 0 0 d DK]
 |iG _ a0=>
  have:l=[]:=List.length_eq_zero_iff.1 (by simpa using hlen);subst this
  refine b_.val R (λt h=>(hd t h).1) (c:=.string ByteArray.empty) ?_ (.data _ _ (.str [])) λ_=>trivial
  have Qs:(convert s d (.slice (some a0) 0 0)).run P w=.ok (.string ByteArray.empty) w:=by
   rw[run_convert_bytes_string w s d el _ 0 0 hs Ag DK];simp[Conv.bytesToString,loadCells,loadCellsFrom]
  simp[execOp,ho,hc,Qs]
 |slice _ _ b off cap size cs eu pU aL h1 gk hr=>
  refine b_.val R (λt h=>(hd t h).1) (c:=.string ⟨l.toArray⟩) ?_ (.data _ _ (.str l)) λ_=>trivial
  have Qs:=run_convert_bytes_back (P:=P) w s d el ⟨b,off,none⟩ cap l hs Ag DK (λj hj=>by
   have dJ:j<es.length:=by omega
   have e1:=j6 j dJ hj;have tW:=aL j dJ
   have jw:(es[j]).cells.length=1:=by rw[e1];rfl
   have abh:size=1:=by rw[<-tW,jw]
   subst abh;have h2:=gk j (by omega);have h3:=hr j dJ 0 (by rw[jw];omega)
   have h4:(es[j]).cells[0]'(by rw[jw];omega)=.int .u8 (l[j].toNat:Int):=by
    have:∀(v:AV)(hh:0<v.cells.length)(q:AV),v=q->(h':0<q.cells.length)->v.cells[0]=q.cells[0]:=by rintro v hh q rfl _;rfl
    rw[this _ _ _ e1 (by simp[AV.cells])]
    rfl
   rw[h4]at h3;simp only[Nat.mul_one,Nat.add_zero]at h3;rw[Addr.add_lit,h2.2];generalize cs j=u at h3;cases h3
   rfl)
  rw[hlen]at Qs;simp[execOp,ho,hc,Qs]
end
section
variable{P:Program}{w:World}
def qT{α:Type}(f:α->PUnit->Sem (ForInStep PUnit)):∀(l:List α),(∀x∈l,(f x PUnit.unit).run P w=.ok (ForInStep.yield PUnit.unit) w)->(forIn l PUnit.unit f:Sem PUnit).run P w=.ok PUnit.unit w
 |[],_=>by simp
 |x::l,h=>by
  simp only[List.forIn_cons,Sem.run_bind,h x List.mem_cons_self,Result.andThen_ok]
  exact qT f l λy hy=>h y (List.mem_cons_of_mem _ hy)
def wX{k:TypeId->Option Nat}:∀{fs:List Field}{acc wQ:Nat},sO k fs acc=some wQ->acc<=wQ/\∀f∈fs,∃m,k f.type=some m/\f.offset+m<=wQ
 |[],acc,wQ,h=>by cases h;exact⟨Nat.le_refl _,λ_ h=>by cases h⟩
 |f::fs,acc,wQ,h=>by
  simp only[sO]at h;split at h
  case isTrue=>cases h
  rename_i hn;simp only[not_or,ne_eq,Classical.not_not]at hn;split at h
  case h_2=>cases h
  rename_i m hm;obtain⟨h1,h2⟩:=wX h;refine⟨by omega,λf' Wd=>?_⟩;rcases List.mem_cons.1 Wd with rfl|Wd
  .exact⟨m,hm,by omega⟩
  .exact h2 f' Wd
def mX(b:Bool):∀(d:Nat)(t:TypeId)(k:Nat),iX P d t=some k->∀a:List Int,a.length=k->(Instr.checkKey b d t (encI P t a)).run P w=.ok () w
 |0,t,k,h,a,ha=>by cases h
 |d+1,t,k,h,a,ha=>by
  simp only[iX]at h;split at h
  .rename_i i hu hi;simp[Instr.checkKey,run_underlying hu,encI,hu]
  .rename_i fs i hu hi
   split at h<;>cases h
   rename_i hc;obtain⟨_,hm⟩:=wX hc.2;simp only[Instr.checkKey,Sem.run_bind,run_underlying hu,Result.andThen_ok,encI,hu];rw[<-Array.forIn_toList];rw[qT (P:=P) (w:=w)]
   .simp
   .intro f hf;obtain⟨m,h1,h2⟩:=hm f hf;rw[Sem.run_ite];split
    .simp only[Sem.run_bind,vX (w:=w) h1 a f.offset (by omega),Result.andThen_ok,mX b d f.type m h1 ((a.drop f.offset).take m) (by simp;omega),Sem.run_pure]
    .simp
  .cases h
def kg {kt:TypeId} {fs:Array Field} {k:Nat} (hu:P.underlying kt=some (.struct fs)) (hk:iX P 10000 kt=some k) {Pr:Nat→Nat→Prop} (key:List Int) (hl:key.length=k) :
  ∀(ks vs:List AV)(es:List MapEntry)(i:Nat)(r:Option AV),ks.length=es.length->vs.length=es.length->(∀j (h:j<ks.length)(h':j<es.length),RD Pr w ks[j] (es[j]).key)->(∀j (h:j<vs.length)(h':j<es.length),RD Pr w vs[j] (es[j]).val)->
   ny key ks vs=some r->∃q,(Instr.findAsking kt (.agg (dC key)) es i).run P w=.ok q w/\(match r,q with
    |none,none=>True
    |some v,some (_,c)=>RD Pr w v c
    |_,_=>False)
 |[],vs,es,i,r,h1,h2,_,_,h=>by
  have:es=[]:=List.length_eq_zero_iff.1 h1.symm;subst this;cases h;exact⟨none,by simp[Instr.findAsking],trivial⟩
 |kk::ks,vs,[],i,r,h1,_,_,_,_=>by simp at h1
 |kk::ks,[],e::es,i,r,_,h2,_,_,_=>by simp at h2
 |kk::ks,v::vs,e::es,i,r,h1,h2,hr,nB,h=>by
  unfold ny at h;split at h
  .rename_i e1;cases e1
  .rename_i c ks' v' ju e1 e2;cases e1;cases e2;split at h
   case h_2=>cases h
   rename_i m hm;split at h
   case isTrue=>cases h
   rename_i RH;simp only[ne_eq,Classical.not_not]at RH;have h0:=hr 0 (by simp) (by simp);simp only[List.getElem_cons_zero]at h0;have vu:=h0;generalize hek:e.key=ek at h0;cases h0;rename_i us h3 h4 h5;obtain⟨e3,_⟩:=oK (vs:=us.toList) hm (by simpa using h3) (λi h h'=>by simpa using h5 i h (by simpa using h'))
   have f1:us=dC m:=by rw[dC,<-e3]
   have hE:=o9 (P:=P) (w:=w) 10000 kt k hk key m hl (by omega);simp only[encI,hu]at hE;rw[<-f1]at hE
   have D1:(Op.equal kt (.agg (dC key)) e.key).run P w=.ok (key==m) w:=by rw[hek];exact hE
   split at h
   .rename_i hb;cases h;exact⟨some (i,e.val),by simp[Instr.findAsking,D1,hb],nB 0 (by simp) (by simp)⟩
   .rename_i hb;obtain⟨q,q1,q2⟩:=kg hu hk key hl ks vs es (i+1) r (by simpa using h1) (by simpa using h2) (λj h h'=>hr (j+1) (by simpa using h) (by simpa using h')) (λj h h'=>nB (j+1) (by simpa using h) (by simpa using h')) h;exact⟨q,by simp[Instr.findAsking,D1,hb,q1],q2⟩
  .cases h
variable{w0:World}{n:Nat}{U:Nat->Prop}{g:Gh}{S:af}{H:ah}{a:Act}
def DV (R:Rel P w0 n U g S H a w) {o:Oper} {t kt el:TypeId} {fs:Array Field} {k:Nat} {ie:TypeInfo} {z:Value} {zs:List AV} {x1 x2:Operand} {y1 y2:bZ} {e:aB} (ho:o.op = .lookup t x1 x2 true) (hd:∀ t,o.dst=some t→t < n∧¬ U t)
  (fN:P.underlying t=some (.map kt el)) (hu:P.underlying kt=some (.struct fs)) (hk:iX P 10000 kt=some k) (hi:P.info? el=some ie) (hz:ie.zero=some (.agg z.cells)) (pw:ij z.cells.toList=some zs)
  (lP:dg n x1=some y1) (kX:dg n x2=some y2) (nQ:∀t∈y1.tmps,¬U t) (nN:∀t∈y2.tmps,¬U t)
  (he:aq S H (.lookup k (.agg zs) y1 y2)=some e):b_ P w0 n U g S H a w o e:=by
 have fl:=R.ev lP nQ;have fe:=R.ev kX nN;simp only[aq]at he;generalize AL.ev S y1=p1 at he fl;generalize AL.ev S y2=p2 at he fe;generalize j5:a.eval x1=c1 at fl;generalize ig:a.eval x2=c2 at fe;have Hi:=(gX g.Pr w pw).1;have Sc:RD g.Pr w (.agg zs) (.agg z.cells):=.agg _ _ (by simpa using Hi.1) Hi.2.2 (λi h h'=>by simpa using Hi.2.1 i h (by simpa using h'))
 have two:∀(v:AV)(c:Value)(b:Bool),RD g.Pr w v c->RD g.Pr w (.fZ [v,.bool b]) (.tuple #[c,.bool b]):=by
  intro v c b h
  refine .fZ _ _ rfl λi hi cy=>?_
  match i,hi with
  |0,_=>exact h
  |1,_=>exact .bool b
 split at he
 case h_2=>cases he
 rename_i ks vs c;split at he
 case h_2=>cases he
 rename_i key aae;split at he
 case isFalse=>cases he
 rename_i hl;have q2:=fe.bQ rfl;cases q2;rename_i us h3 h4 h5;obtain⟨e3,_⟩:=oK (vs:=us.toList) aae (by simpa using h3) (λi h h'=>by simpa using h5 i h (by simpa using h'))
 have f1:us=dC key:=by rw[dC,<-e3]
 subst f1
 have oN:(match P.underlying kt with|some (.array _ _)|some (.struct _)=>true|_=>false)=true:=by rw[hu]
 have q1:=fl.bQ rfl
 obtain ⟨es,kz,z8,pT,Na,hk4⟩:∃ es:Array MapEntry,(∀ K:Array MapEntry→Sem Value,((do
    let es<-match c1 with
     |.map none=>pure #[]
     |.map (some r)=>do
      let .map es _ <-getObj r | stuck "Lookup: map expected"
      pure es
     |_=>stuck "Lookup: map expected"
    K es):Sem Value).run P w=(K es).run P w)/\ks.length=es.size/\vs.length=es.size/\(∀j (h:j<ks.length)(h':j<es.size),RD g.Pr w ks[j] (es[j]).key)/\(∀j (h:j<vs.length)(h':j<es.size),RD g.Pr w vs[j] (es[j]).val):=by
  cases q1 with
  |map _ _ b es clock hb hm hk hv hr nB=>
   exact⟨es,λK=>by simp[Sem.run_bind,MapKept.run_getObj_map hm],hk,hv,hr,nB⟩
  |qM=>exact⟨#[],λK=>by simp,rfl,rfl,λj h=>by simp at h,λj h=>by simp at h⟩
 have rM:=mX (P:=P) (w:=w) es.isEmpty 10000 kt k hk key hl;simp only[encI,hu]at rM
 have main:∀ r,ny key ks vs=some r→(execOp a.eval o).run P w = .ok (.value (match r with | some _ => .tuple #[(match (Instr.findAsking kt (.agg (dC key)) es.toList 0).run P w with | .ok (some (_,c)) _=>c | _=>undef),.bool true] | none => .tuple #[.agg z.cells,.bool false])) w ∧
   (∀v,r=some v->RD g.Pr w v (match(Instr.findAsking kt (.agg (dC key)) es.toList 0).run P w with|.ok (some (_,c)) _=>c|_=>undef)):=by
  intro r hr;obtain⟨q,q1,q2⟩:=kg (w:=w) (Pr:=g.Pr) hu hk key hl ks vs es.toList 0 r (by simpa using z8) (by simpa using pT) (λj h h'=>by simpa using Na j h (by simpa using h')) (λj h h'=>by simpa using hk4 j h (by simpa using h')) hr;have tV:=(run_findKey_eq (P:=P) (w:=w) oN (.agg (dC key)) es.toList).trans q1
  have eO:(Instr.lookup t c1 (.agg (dC key)) true).run P w=.ok (match q with|some (_,v)=>.tuple #[v,.bool true]|none=>.tuple #[.agg z.cells,.bool false]) w:=by
   unfold Instr.lookup;simp only[Sem.run_bind,run_underlying fN,Result.andThen_ok]
   have:=kz (λes=>do
    Instr.checkKey es.isEmpty 10000 kt (.agg (dC key))
    let(v,ok)<-match<-Instr.findKey kt (.agg (dC key)) es.toList with
     |some (_,v)=>pure (v,true)
     |none=>pure (<-zeroValue el,false)
    pure (if true=true then .tuple #[v,.bool ok]else v))
   simp only[Sem.run_bind]at this;refine this.trans ?_;simp only[rM,Result.andThen_ok,tV]
   cases q with
   |none=>simp[zeroValue,typeInfo,hi,hz]
   |some p=>simp
  refine⟨?_,?_⟩
  .unfold execOp;simp only[ho,j5,ig,Sem.run_bind,eO,Result.andThen_ok,q1]
   cases r<;>cases q<;>first|exact q2.elim|rfl
  .rintro v rfl;rw[q1]
   cases q with
   |none=>exact q2.elim
   |some p=>exact q2
 split at he
 .rename_i v hv;cases he;obtain⟨m1,m2⟩:=main _ hv
  exact b_.val R (λt h=>(hd t h).1) m1 (.data _ _ (two _ _ _ (m2 v rfl).aw)) λ_=>trivial
 .rename_i hv;cases he;obtain⟨m1,m2⟩:=main _ hv
  exact b_.val R (λt h=>(hd t h).1) m1 (.data _ _ (two _ _ _ Sc)) λ_=>trivial
 .cases he
end
section
variable{P:Program}{w0:World}{n:Nat}{U:Nat->Prop}{g:Gh}{S:af}{H:ah}{a:Act}{w:World}
def Ll{Pr:Nat->Nat->Prop}{al:Nat->Option Nat}{v:AV}{c:Value}(h:RV Pr al w v c)(hf:wW v=true):c.cells=#[c]:=by
 cases h with
 |data v c h=>
  cases h with
  |val c hc=>cases c<;>first|rfl|cases hc
  |_=>cases hf
 |func=>rfl
 |box=>cases hf
 |fR=>cases hf
 |bj=>cases hf
def DU (R:Rel P w0 n U g S H a w) {o:Oper} {t el:TypeId} {len:Nat} {it ie:TypeInfo} {z:Value} {ps:Array (Nat×Operand)} {xs:List Operand} {ys:List bZ} {e:aB} (ho:o.op = .build t ps) (hd:∀ t,o.dst=some t→t < n∧¬ U t)
  (hi:P.info? t=some it) (fN:P.underlying t=some (.array len el)) (hz:it.zero=some z) (uC:P.info? el=some ie) (hs:ie.size=1) (pw:z.cells.size=xs.length)
  (gE:ps.toList=(xs.zipIdx 0).map λx=>(x.2,x.1)) (hx:nJ n xs=some ys) (hu:∀y∈ys,∀t∈y.tmps,¬U t) (he:aq S H (.nW ys)=some e):b_ P w0 n U g S H a w o e:=by
 simp only[aq]at he;split at he
 case isFalse=>cases he
 rename_i eP;cases he;simp only[List.all_eq_true]at eP;obtain⟨l1,r1⟩:=R.E7 hx hu
 have gk:∀j (h:j<xs.length),(a.eval xs[j]).cells=#[a.eval xs[j]]:=λj h=>
  Ll (r1 j (by omega) h) (eP _ (List.mem_map.2 ⟨_,List.getElem_mem (by omega),rfl⟩))
 have Hx:=Great.fill_whole (s:=1) (by omega) (xs.map a.eval) z.cells (λv hv=>by
  obtain⟨x,hx,rfl⟩:=List.mem_map.1 hv;obtain⟨j,hj,rfl⟩:=List.getElem_of_mem hx
  rw[gk j hj];rfl) (by simp[pw])
 have D7:(ps.map λ(i,x)=>(i,a.eval x)).toList=((xs.map a.eval).zipIdx 0).map λx=>(x.2,x.1):=by
  rw[Array.toList_map,gE];simp[List.zipIdx_map]
 have Ha:((xs.map a.eval).flatMap λv=>v.cells.toList)=xs.map a.eval:=by
  have:∀l:List Operand,(∀x∈l,(a.eval x).cells=#[a.eval x])->((l.map a.eval).flatMap λv=>v.cells.toList)=l.map a.eval:=by
   intro l
   induction l with
   |nil=>intro _;rfl
   |cons x l ih=>intro h;simp only[List.map_cons,List.flatMap_cons,h x List.mem_cons_self,ih λy hy=>h y (List.mem_cons_of_mem _ hy)];rfl
  exact this xs λx hx=>by obtain⟨j,hj,rfl⟩:=List.getElem_of_mem hx;exact gk j hj
 have hb:P.built t (ps.map λ(i,x)=>(i,a.eval x)).toList=some (xs.map a.eval).toArray:=by
  unfold Program.built;simp only[hi,fN,hz,uC,hs];rw[D7,Hx,Ha]
 refine b_.val R (λt h=>(hd t h).1) (c:=.agg (xs.map a.eval).toArray) ?_ (.fR _ _ (by simp[l1]) (λi h h'=>?_)) λ_=>trivial
 .unfold execOp;simp only[ho,Sem.run_bind,run_build w t _ _ hb,Result.andThen_ok]
  rfl
 .simp only[List.length_map]at h;have:=r1 i h (by simpa using h');simpa using this
def DJ (R:Rel P w0 n U g S H a w) {o:Oper} {t el:TypeId} {len:Nat} {ie:TypeInfo} {nq:TypeDesc} {x1 x2:Operand} {y1 y2:bZ} {e:aB} (ho:o.op = .index t x1 x2) (hd:∀ t,o.dst=some t→t < n∧¬ U t)
  (fN:P.underlying t=some (.array len el)) (hi:P.info? el=some ie) (hs:ie.size=1) (Ui:P.underlying el=some nq) (hag:fE nq=false) (lP:dg n x1=some y1) (kX:dg n x2=some y2) (nQ:∀t∈y1.tmps,¬U t) (nN:∀t∈y2.tmps,¬U t)
  (he:aq S H (.n9 len y1 y2)=some e):b_ P w0 n U g S H a w o e:=by
 have fl:=R.ev lP nQ;have fe:=R.ev kX nN;simp only[aq]at he;generalize AL.ev S y1=p1 at he fl;generalize AL.ev S y2=p2 at he fe;generalize j5:a.eval x1=c1 at fl;generalize ig:a.eval x2=c2 at fe;split at he
 case h_2=>cases he
 rename_i fs k;split at he
 case isFalse=>cases he
 rename_i hk;split at he
 case h_2=>cases he
 rename_i v hv;split at he
 case isFalse=>cases he
 rename_i hf;cases he;obtain⟨h0,rfl⟩:=List.getElem?_eq_some_iff.1 hv;have q2:=fe.bQ rfl;cases q2
 cases fl with
 |data _ _ hh=>cases hh
 |fR _ vs h1 hr=>
  have ao:k.toNat<vs.size:=by omega
  have kY:(isAgg el).run P w=.ok false w:=by
   unfold isAgg;rw[Sem.run_bind,run_underlying Ui w]
   cases nq<;>simp[fE]at hag⊢
  refine b_.val R (λt h=>(hd t h).1) (c:=vs[k.toNat]) ?_ (hr _ h0 ao) λ_=>?_
  .simp only[execOp,ho,j5,ig,Instr.index,Sem.run_bind];simp[asIntOf,run_underlying fN,hk,sizeOf,typeInfo,hi,hs,Sem.run_bind,part,kY,ao]
  .generalize fs[k.toNat]=u at hf
   cases u<;>first|trivial|cases hf
def uz{v:AV}(h:v.one=true):v.cells=[v]:=by
 cases v<;>first|rfl|cases h
def DR (R:Rel P w0 n U g S H a w) {o:Oper} {t el:TypeId} {len:Nat} {i:TypeInfo} {x:Operand} {y:bZ} {e:aB} (ho:o.op = .slice t x none none none) (hd:∀ t,o.dst=some t→t < n∧¬ U t)
  (fN:P.underlying t=some (.array len el)) (wc:P.info? el=some i) (hx:dg n x=some y) (hu:∀t∈y.tmps,¬U t)
  (he:aq S H (.pa len y)=some e):b_ P w0 n U g S H a w o e:=by
 have hv:=R.ev hx hu;simp only[aq]at he;generalize pN:AL.ev S y=q at he hv;generalize lR:a.eval x=c at hv;split at he
 case h_2=>cases he
 rename_i cs;split at he
 case isFalse=>cases he
 rename_i hlen;cases he;have q2:=hv.bQ rfl
 cases q2 with
 |ref _ b off vs h1 hc hr=>
  have hk:(execOp a.eval o).run P w=.ok (.value (.slice (some ⟨b,off,none⟩) len len)) w:=by
   unfold execOp;simp only[ho,lR,Option.map_none,Instr.sliceAt,Sem.run_bind,run_underlying fN]
   by_cases h0:len=0
   .subst h0;simp[Instr.sureAddr,Instr.sliceBounds,Sem.run_bind,sizeOf,typeInfo,wc]
   .simp[Instr.sureAddr,Instr.sliceBounds,Sem.run_bind,sizeOf,typeInfo,wc,Addr.add]
  refine b_.val R (λt h=>(hd t h).1) hk (.data _ _ ?_) λ_=>trivial
  rw[<-hlen];refine .slice .view cs b off cs.length 1 vs (Nat.le_refl _) (λh=>by cases h) (λi h=>by rw[uz (h1 i h)];rfl) (λi h j hj=>?_) (λk hk=>hc k (by omega)) (λi h j hj=>?_)
  .have e:=uz (h1 i h)
   have:((cs[i]).cells[j])=cs[i]:=by
    have dJ:j<[cs[i]].length:=by rw[<-e];exact hj
    have:j=0:=by simp at dJ;omega
    subst this;simp only[e];rfl
   rw[this];exact h1 i h
  .have e:=uz (h1 i h)
   have dJ:j<[cs[i]].length:=by rw[<-e];exact hj
   have Dy:j=0:=by simp at dJ;omega
   subst Dy
   have:((cs[i]).cells[0])=cs[i]:=by simp only[e];rfl
   rw[this,Nat.mul_one,Nat.add_zero];exact hr i h
def Hu(P:Program)(name:String)(t:TypeId):Option Nat:=
 match P.info? t with
 |some i=>match P.underlying t with
  |some (.struct _)=>match i.methods.find? (·.name==name)with
   |some m=>if m.path.isEmpty=true then match m.func with
    |some (f,false)=>some f
    |_=>none
    else none
   |none=>none
  |_=>none
 |none=>none
def FT(P:Program)(name:String):List (TypeId×Nat):=(List.range P.types.size).filterMap λt=>(Hu P name t).map λk=>(t,k)
def xk{t k:Nat}:∀{l:List (Nat×Nat)},l.lookup t=some k->(t,k)∈l
 |[],h=>by cases h
 |(a,b)::l,h=>by
  rw[List.lookup_cons]at h;split at h
  .rename_i he;cases h;simp only[beq_iff_eq]at he;subst he;exact List.mem_cons_self
  .exact List.mem_cons_of_mem _ (xk h)
def Hw{P:Program}{name:String}{t k:Nat}(h:(FT P name).lookup t=some k):Hu P name t=some k:=by
 have h1:=xk h;simp only[FT,List.mem_filterMap,Option.map_eq_some_iff,Prod.mk.injEq]at h1;obtain⟨a,_,b,h2,rfl,rfl⟩:=h1;exact h2
def Fp{P:Program}{name:String}{t k:Nat}{v:Value}{w:World}(h:(FT P name).lookup t=some k):(method (P.types.size+Made.depth) t v name).run P w=.ok (k,v) w:=by
 have h:=Hw h;unfold Hu at h;split at h
 case h_2=>cases h
 rename_i i hi;split at h
 case h_2=>cases h
 rename_i fs fN;split at h
 case h_2=>cases h
 rename_i m hm;split at h
 case isFalse=>cases h
 rename_i hp;split at h
 case h_2=>cases h
 rename_i f hf;cases h;show(method (P.types.size+99+1) t v name).run P w=_
 have uw:m.path.toList=[]:=by simpa using hp
 generalize P.types.size+99=d;simp[method,typeInfo,hi,hm,uw,hf,follow,receiverAt,run_underlying fN,Place.get,Sem.run_bind]
end
inductive jn where
 |ret (v:AV)|panic (v:AV)
def lL(base:Nat)(old:Nat->Nat->Prop)(hi:Nat->Nat)(b k:Nat):Prop:=(b<base/\old b k)\/(base<=b/\k<hi b)
def uL(P:Program)(base:Nat)(hi:Nat->Nat)(w:World):AV->Value->Prop
 |.slice (.own e) es,c=>∃i xs b,P.info? e=some i/\w.ownsRow base e i.size c es.length xs/\c.ownBlock=some b/\hi b=es.length*i.size
 |_,_=>True
def Ends(P:Program)(old:Nat->Nat->Prop)(w:World)(out:jn)(e:Ending)(w':World):Prop:=
 Below w.heap.size w w'/\∃hi:Nat->Nat,(∀b,w'.heap.size<=b->hi b=0)/\
  match out with
  |.ret v=>∃c,e=.returned c/\RV (lL w.heap.size old hi) (λ_=>none) w' v c/\uL P w.heap.size hi w' v c
  |.panic v=>∃c,e=.panicked [{ v:=c,recovered:=false }]/\RD (lL w.heap.size old hi) w' v c
def AC(P:Program)(GI:World->Prop)(f:Nat)(args:List AV)(out:jn):Prop:=
 ∀(w:World)(old:Nat->Nat->Prop)(a_:Array Value),GI w->args.length=a_.size->
  (∀i (h:i<args.length)(h':i<a_.size),RV old (λ_=>none) w args[i] a_[i])->Calls P f a_ w (Ends P old w out)
def fG(H:ah):AV->AV
 |.box i off=>match H i with|some cs=>.ref ((cs.drop off).map AV.bV)|none=>.bj
 |.func ..|.fR _=>.bj
 |v=>v.vw
def fz(H:ah):AV->AV
 |.func fn first cap=>.func fn (first.map (fG H)) (cap.map (fG H))
 |v=>fG H v
def qh:AV->Bool
 |.box ..=>true
 |_=>false
def bR:AV->Bool
 |.box ..=>true
 |.func _ first cap=>first.any qh||cap.any qh
 |_=>false
def gf:AV->Bool
 |.bool _|.kd|.int ..|.str _=>true
 |_=>false
def rW:AV->Bool
 |.fZ vs=>vs.all gf
 |v=>gf v
def jn.rW:jn->Bool
 |.ret v=>Go.AL.rW v
 |.panic _=>false
def I5{v:AV}(h:rW v=true):v.bu=true:=by cases v<;>first|rfl|cases h
def RD.gf{Pr cS:Nat->Nat->Prop}{w w':World}{v:AV}{c:Value}(h:RD Pr w v c)(hs:Go.AL.gf v=true):RD cS w' v c:=by
 cases h<;>first|(cases hs;done)|constructor
def RD.rW{Pr cS:Nat->Nat->Prop}{w w':World}{v:AV}{c:Value}(h:RD Pr w v c)(hs:Go.AL.rW v=true):RD cS w' v c:=by
 cases h with
 |fZ cs vs hl hr=>exact .fZ cs vs hl λi h h'=>(hr i h h').gf (by simp only[Go.AL.rW,List.all_eq_true]at hs;exact hs _ (List.getElem_mem h))
 |bool b=>exact .bool b
 |kd b=>exact .kd b
 |int k n=>exact .int k n
 |str l=>exact .str l
 |_=>cases hs
section
variable{P:Program}{w0:World}{n:Nat}{U:Nat->Prop}{g:Gh}{S:af}{H:ah}{a:Act}{w:World}
def kh(g:Gh)(bx:Bool)(b k:Nat):Prop:=g.Pr b k\/(bx=true/\∃i,g.al i=some b)
def Rel.fG(R:Rel P w0 n U g S H a w){v:AV}{c:Value}(h:RV g.Pr g.al w v c)(bx:Bool)(hb:qh v=true->bx=true):RV (kh g bx) (λ_=>none) w (Go.AL.fG H v) c:=by
 have pG:∀{v c},RD g.Pr w v c->RD (kh g bx) w v c:=λh=>h.mono (aE.same λb k _ hp=>.inl hp)
 cases h with
 |data v c h=>
  have hd:=(pG h).vw
  have:Go.AL.fG H v=v.vw:=by cases h<;>rfl
  rw[this];exact .data _ _ hd
 |box i off b fu=>
  obtain⟨cs,vs,ty,k1,k2,k3,k4,k5,k6,k7,k8,k9⟩:=R.box i b fu;simp only[Go.AL.fG,k1];have bC:bx=true:=hb rfl;refine .data _ _ (.ref _ _ _ (λk=>vs.getD (off+k) undef) (λk hk=>?_) (λk hk=>?_) λk hk=>?_)
  .simp only[List.length_map,List.length_drop]at hk;simp only[List.getElem_map,List.getElem_drop];have:=k9 (off+k) (by omega);exact(AV.OM _).trans this
  .simp only[List.length_map,List.length_drop]at hk
   have:off+k<vs.size:=by omega
   exact⟨.inr ⟨bC,i,fu⟩,by simp[World.cell?,k3,this]⟩
  .simp only[List.length_map,List.length_drop]at hk
   have ao:off+k<vs.size:=by omega
   have:=(pG (k7 (off+k) (by omega) ao)).bV;simpa[ao]using this
 |func=>exact .bj _
 |fR=>exact .bj _
 |bj c=>exact .bj c
def Rel.fz(R:Rel P w0 n U g S H a w){v:AV}{c:Value}(h:RV g.Pr g.al w v c)(bx:Bool)(hb:bR v=true->bx=true):RV (kh g bx) (λ_=>none) w (Go.AL.fz H v) c:=by
 have h0:=h
 cases h with
 |func fn first cap vs us h1 h2 r1 r2=>
  simp only[bR,Bool.or_eq_true,List.any_eq_true]at hb;refine .func fn _ _ _ _ (by simpa using h1) (by simpa using h2) (λi hi cy=>?_) (λi hi cy=>?_)
  .simp only[List.length_map]at hi;simp only[List.getElem_map]
   exact R.fG (r1 i hi cy) bx λhx=>hb (.inl ⟨_,List.getElem_mem hi,hx⟩)
  .simp only[List.length_map]at hi;simp only[List.getElem_map]
   exact R.fG (r2 i hi cy) bx λhx=>hb (.inr ⟨_,List.getElem_mem hi,hx⟩)
 |data v c h=>
  have:Go.AL.fz H v=Go.AL.fG H v:=by cases h<;>rfl
  rw[this];exact R.fG h0 bx λhx=>hb (by cases v<;>first|rfl|cases hx)
 |box=>exact R.fG h0 bx hb
 |fR=>exact .bj _
 |bj c=>exact .bj c
def Rel.call (R:Rel P w0 n U g S H a w) (d:Option Nat) (hd:∀ t,d=some t→t < n∧¬ U t) (bx:Bool) {v:AV} {c:Value} {w':World} {hi:Nat→Nat} (hb:Below w.heap.size w w')
  (lq:∀b,w'.heap.size<=b->hi b=0) (hr:RV (lL w.heap.size (kh g bx) hi) (λ_=>none) w' v c) (cC:uL P w.heap.size hi w' v c) (bC:bx=true->rW v=true):
  ∃g',g'.base=g.base/\g'.old=g.old/\Rel P w0 n U g' (Go.AL.aH S d v) H (a.put d c) w':=by
 have hle:g.base<=w.heap.size:=by rw[R.base];exact R.below.size
 let own:Nat->Option Loc:=λb=>match c.ownBlock,d with
  |some b',some t=>if b=b' then some (.slot t)else none
  |_,_=>none
 let g':Gh:={ g with hi:=λb=>if b<w.heap.size then g.hi b else hi b,owner:=λb=>if b<w.heap.size then g.owner b else if b<w'.heap.size then own b else none }
 have R':Rel P w0 n U g' S H a w':=R.grow (g':=g') hb rfl rfl rfl
  (λb hb=>⟨if_pos hb,if_pos hb⟩)
  (λb gQ=>by
   have:=hb.size
   exact⟨(if_neg (by omega)).trans (lq b gQ),(if_neg (by omega)).trans (if_neg (by omega))⟩)
 refine⟨g',rfl,rfl,R'.aH d v c (λt h=>(hd t h).1) ?_ ?_⟩
 .cases bx with
  |true=>exact .data _ _ ((hr.bQ (I5 (bC rfl))).rW (bC rfl))
  |false=>
   refine hr.mono (aE.same λb k _ hp=>?_) (λi b h=>by cases h)
   rcases hp with⟨h1,h2⟩|⟨h1,h2⟩
   .rcases h2 with h2|⟨h2,_⟩
    .rcases h2 with h2|h2
     .exact .inl h2
     .exact .inr ⟨h2.1,by show k<(if b<w.heap.size then g.hi b else hi b);rw[if_pos h1];exact h2.2⟩
    .cases h2
   .exact .inr ⟨by show g.base<=b;omega,by show k<(if b<w.heap.size then g.hi b else hi b);rw[if_neg (by omega)];exact h2⟩
 .intro t ht;subst ht
  cases v<;>try trivial
  rename_i oo es
  cases oo with
  |view=>trivial
  |nil=>trivial
  |own e=>
   obtain⟨i,xs,b,h1,h2,h3,h4⟩:=cC;have ao:=h2.lt b h3;refine⟨i,xs,b,h1,⟨h2.1,?_⟩,h3,?_,?_⟩
   .rcases h2.2 with hn|⟨gg,cap,cur,e1,l5,rest⟩
    .exact .inl hn
    .exact .inr ⟨gg,cap,cur,e1,Nat.le_trans hle l5,rest⟩
   .show(if b<w.heap.size then g.owner b else if b<w'.heap.size then own b else none)=_;rw[if_neg (by omega),if_pos ao.2];simp[own,h3]
   .show(if b<w.heap.size then g.hi b else hi b)=_;rw[if_neg (by omega)];exact h4
end
def zeroCells(P:Program)(t:TypeId):Option (List AV):=
 match P.info? t with
 |some i=>match i.zero with
  |some z=>ij z.cells.toList
  |none=>none
 |none=>none
def isVal:AV->Bool
 |.val _=>true
 |_=>false
def rf(P:Program)(t:TypeId):Option (List AV):=
 match zeroCells P t with
 |some zs=>if zs.any isVal then none else some zs
 |none=>none
def pQ{P:Program}{t:TypeId}{zs:List AV}(h:rf P t=some zs):zeroCells P t=some zs:=by
 unfold rf at h;split at h
 .rename_i h'
  split at h<;>cases h
  exact h'
 .cases h
def comp(P:Program)(n:Nat)(tk:Bool)(hr:HR)(o:Oper):eb:=
 match o.op with
 |.move x=>match dg n x with
  |some y=>.mv tk y
  |none=>.other
 |.assign x=>match dg n x with
  |some y=>.mv true y
  |none=>.other
 |.pick c a b=>match dg n c,dg n a,dg n b with
  |some c,some a,some b=>.pick c a b
  |_,_,_=>.other
 |.alloc t=>match zeroCells P t with
  |some cs=>.alloc t cs
  |none=>.other
 |.box t x=>match P.info? t,dg n x with
  |some i,some y=>.box t i.size y
  |_,_=>.other
 |.build t ps=>match P.underlying t,rf P t with
  |some (.struct fs),some zs=>match fs.toList.mapM (λf=>(P.info? f.type).map λi=>(f.offset,i.size))with
   |some places=>match qj n (places[·]?) ps.toList with
    |some qs=>.build (zs.map AV.aw) qs
    |none=>.other
   |none=>.other
  |some (.array _ el),some zs=>match P.info? el with
   |some ie=>match qj n (λi=>some (i*ie.size,ie.size)) ps.toList with
    |some qs=>.build (zs.map AV.aw) qs
    |none=>.other
   |none=>.other
  |some (.array _ el),none=>match P.info? t,P.info? el,nJ n (ps.toList.map (·.2))with
   |some it,some ie,some ys=>match it.zero with
    |some z=>if ie.size=1/\z.cells.size=ps.toList.length/\ps.toList.map (·.1)=List.range ps.toList.length then .nW ys else .other
    |none=>.other
   |_,_,_=>.other
  |_,_=>.other
 |.buildSlice t len ps=>match P.underlying t with
  |some (.slice el)=>match P.info? el with
   |some i=>if len=0/\ps.toList.isEmpty=true then .empty el else
    match i.zero,nJ n (ps.toList.map (·.2))with
    |some _,some ys=>if 0<i.size/\0<len/\ps.toList.map (·.1)=List.range len then .buildSlice t el i.size ys else .other
    |_,_=>.other
   |none=>.other
  |_=>.other
 |.load t a=>match P.info? t,P.underlying t,dg n a with
  |some i,some d,some y=>if tk=true/\fE d=false/\o.dst.isSome=true then .loadT hr y else .load hr (fE d) i.size y
  |_,_,_=>.other
 |.store t a x=>match P.info? t,dg n a,dg n x with
  |some i,some y,some z=>if o.dst.isNone then .store hr i.size y z else .other
  |_,_,_=>.other
 |.binOp op t x y _=>match P.underlying t,dg n x,dg n y with
  |some (.int _),some x,some y|some .string,some x,some y=>.bin op x y
  |some .bool,some x,some y=>match op with
   |.eql=>.A_ false x y
   |.neq=>.A_ true x y
   |_=>.other
  |some (.struct _),some x,some y=>if P.eqGuardType P.depth t=false then
    match op,iX P 10000 t with
    |.eql,some k=>.eqs false k x y
    |.neq,some k=>.eqs true k x y
    |_,_=>.other
   else .other
  |some (.slice _),some x',some _=>match op,y with
   |.eql,.const (.slice none 0 0)=>.isNil false x'
   |.neq,.const (.slice none 0 0)=>.isNil true x'
   |_,_=>.other
  |_,_,_=>.other
 |.unOp .not _ x=>match dg n x with
  |some y=>.not y
  |none=>.other
 |.convert s d x=>match P.underlying s,P.underlying d,dg n x with
  |some _,some (.int k),some y=>.conv k y
  |some (.slice el),some .string,some y=>match P.underlying el with
   |some (.int .u8)=>.xm y
   |_=>.other
  |_,_,_=>.other
 |.makeInterface t x=>match P.underlying t,dg n x with
  |some (.interface _),_=>.other
  |some _,some y=>.iface t y
  |_,_=>.other
 |.makeFunc fn f c=>match nJ n f.toList,nJ n c.toList with
  |some f,some c=>.D2 fn f c
  |_,_=>.other
 |.slice t x lo hi none=>match P.underlying t,dg n x,lv n lo,lv n hi with
  |some .string,some y,some lo,some hi=>.nY y lo hi
  |some (.slice el),some y,some lo,some hi=>match P.info? el with
   |some i=>.nX i.size y lo hi
   |none=>.other
  |some (.array len el),some y,some none,some none=>match P.info? el with
   |some _=>.pa len y
   |none=>.other
  |_,_,_,_=>.other
 |.fieldAddr s x j=>match P.underlying s,dg n x with
  |some (.struct fs),some y=>match fs[j]? with
   |some f=>match P.info? f.type with
    |some i=>if i.size≠0 then .fieldAddr f.offset y else .other
    |none=>.other
   |none=>.other
  |_,_=>.other
 |.indexAddr t x i=>match P.underlying t,dg n x,dg n i with
  |some (.slice el),some y,some z=>match P.info? el with
   |some i=>.indexAddr i.size y z
   |none=>.other
  |_,_,_=>.other
 |.index t x i=>match P.underlying t,dg n x,dg n i with
  |some .string,some y,some z=>.nR y z
  |some (.array len el),some y,some z=>match P.info? el,P.underlying el with
   |some i,some (.func a b c)=>if i.size=1 then .n9 len y z else .other
   |some i,some d=>.nZ (fE d) len i.size y z
   |_,_=>.other
  |_,_,_=>.other
 |.lookup t x i true=>match P.underlying t,dg n x,dg n i with
  |some (.map kt el),some y,some z=>match P.underlying kt,iX P 10000 kt,P.info? el with
   |some (.struct _),some k,some ie=>match ie.zero with
    |some (.agg v)=>match ij v.toList with
     |some zs=>.lookup k (.agg zs) y z
     |none=>.other
    |_=>.other
   |_,_,_=>.other
  |_,_,_=>.other
 |.extract x j=>match dg n x with
  |some y=>.extract y j
  |none=>.other
 |.typeAssert x _ t true=>match P.underlying t,P.info? t,dg n x with
  |some (.interface _),_,_=>.other
  |some _,some i,some y=>match i.zero with
   |some (.agg z)=>match ij z.toList with
    |some zs=>.assert t (.agg zs) y
    |none=>.other
   |_=>.other
  |_,_,_=>.other
 |.panic x=>match dg n x with
  |some y=>.panic y
  |none=>.other
 |.call cl=>match cl.callee,cl.args.toList,cl.argTypes.toList with
  |.builtin .len,[x],[s]=>match P.underlying s,dg n x with
   |some .string,some y=>.xN y
   |some (.slice _),some y=>.lI y
   |_,_=>.other
  |.builtin .append,[x1,x2],[t,t']=>match P.underlying t,dg n x1,dg n x2 with
   |some (.slice el),some y1,some y2=>match P.info? el with
    |some i=>match i.zero with
     |some z=>if t=t'/\z.cells.size=i.size/\i.bytes<=65536 then .append t el i.size i.bytes y1 y2 else .other
     |none=>.other
    |none=>.other
   |_,_,_=>.other
  |.builtin .max,[x1,x2],_=>match dg n x1,dg n x2 with
   |some y1,some y2=>.max y1 y2
   |_,_=>.other
  |.builtin .min,[x1,x2],_=>match dg n x1,dg n x2 with
   |some y1,some y2=>.min y1 y2
   |_,_=>.other
  |.value f,args,_=>match dg n f,nJ n args with
   |some (.f k),some ys=>.call k ys
   |some y,some ys=>.gI y ys
   |_,_=>.other
  |.invoke r name,args,_=>match dg n r,nJ n args with
   |some (.t t),some ys=>.gI (.m t (FT P name)) ys
   |_,_=>.other
  |_,_,_=>.other
 |_=>.other
structure bc where
 dst:Option Nat
 guard:Option (Nat×Bool)
 op:eb
def dW(P:Program)(f:Nat):Bool:=
 match P.funcs[f]? with
 |some fn=>fn.name != "runtime.NumGoroutine" && fn.body.isSome
 |none=>false
def eV{P:Program}{w:World}{f:Nat}{args:Array Value}(h:dW P f=true):(callFunc f args).run P w=.ok (.enter f args) w:=by
 unfold dW at h
 cases hf:P.funcs[f]? with
 |none=>simp[hf]at h
 |some fn=>
  simp only[hf,Bool.and_eq_true,bne_iff_ne]at h;unfold callFunc;obtain⟨c,hc⟩:=Option.isSome_iff_exists.1 h.2;simp[hf,h.1,hc]
section
variable{P:Program}{GI:World->Prop}
def g_(out:jn)(K:AV->Prop)(Qp:AV->Prop):Prop:=
 match out with
 |.ret v=>K v
 |.panic v=>Qp v
def jk(P:Program)(GI:World->Prop)(f:Nat)(args:List AV)(bx:Bool)(K:AV->Prop)(Qp:AV->Prop):Prop:=
 ∃out,dW P f=true/\AC P GI f args out/\(bx=true->out.rW=true)/\g_ out K Qp
def aI(P:Program)(GI:World->Prop)(op:eb)(dst:Option Nat)(K:af->ah->Prop)(Qp:AV->Prop)(S:af)(H:ah):Prop:=
 match op with
 |.alloc _ zero=>match dst with
  |some d=>K (au (λt=>aZ d (S t)) d (.box d 0)) (au H d (some zero))
  |none=>False
 |.box _ size x=>match dst with
  |some d=>(ev S x).cells.length=size/\(ev S x).storable=true/\K (au (λt=>aZ d (S t)) d (.box d 0)) (au H d (some ((ev S x).cells.map AV.aw)))
  |none=>False
 |.call f args=>jk P GI f (args.map λy=>fz H (ev S y)) (args.any λy=>bR (ev S y)) (λv=>K (aH S dst v) H) Qp
 |.gI f args=>match ev S f with
  |.func (.func k) first cap=>jk P GI k ((first++args.map (ev S)++cap).map (fz H)) ((first++args.map (ev S)++cap).any bR) (λv=>K (aH S dst v) H) Qp
  |_=>False
 |.panic x=>match ev S x with
  |.iface t v=>Qp (.iface t v)
  |_=>False
 |op=>match aq S H op with
  |some e=>K (e.S S dst) (e.H H)
  |none=>False
def eb.calm:eb->Bool
 |.alloc ..|.box ..|.call ..|.gI ..|.panic _|.other=>false
 |_=>true
def xy {op:eb} (h:op.calm=true) (dst:Option Nat) (K:af→ah→Prop) (Qp:AV→Prop) (S:af) (H:ah) :
  aI P GI op dst K Qp S H=(match aq S H op with|some e=>K (e.S S dst) (e.H H)|none=>False):=by
 cases op<;>first|rfl|cases h
variable{w0:World}{n:Nat}{U:Nat->Prop}{g:Gh}{S:af}{H:ah}{a:Act}{w:World}
def tD:∀(ps:List (Nat×Operand))(k:Nat),ps.map (·.1)=(List.range' k ps.length)->ps=((ps.map (·.2)).zipIdx k).map λx=>(x.2,x.1)
 |[],_,_=>rfl
 |(i,x)::ps,k,h=>by
  simp only[List.map_cons,List.length_cons,List.range'_succ,List.cons.injEq]at h;obtain⟨rfl,h⟩:=h;simp only[List.map_cons,List.zipIdx_cons,List.cons.injEq,true_and];exact tD ps (i+1) h
def uB{x:Option Operand}(h:lv n x=some none):x=none:=by
 cases x with
 |none=>rfl
 |some y=>simp[lv]at h
def tG (R:Rel P w0 n U g S H a w) {o:Oper} {tk:Bool} {hr:HR} {op:eb} {e:aB} (hc:comp P n tk hr o=op) (bf:op.calm=true) (hd:∀ t,o.dst=some t→t < n∧¬ U t) (dc:∀ t∈op.rd,¬ U t) (c_:∀ t,o.dst=some t→t∉op.rd)
  (he:aq S H op=some e):b_ P w0 n U g S H a w o e:=by
 unfold comp at hc;cases dB:o.op
 case move x=>
  simp only[dB]at hc
  split at hc<;>subst hc
  case h_2=>cases bf
  rename_i y hx;exact GF R hd hx dc (by unfold execOp;simp only[dB];rfl) c_ he
 case assign x=>
  simp only[dB]at hc
  split at hc<;>subst hc
  case h_2=>cases bf
  rename_i y hx;exact GF R hd hx dc (by unfold execOp;simp only[dB];rfl) c_ he
 case pick x x1 x2=>
  simp only[dB]at hc
  split at hc<;>subst hc
  case h_2=>cases bf
  rename_i c a' b h1 h2 h3;simp only[eb.rd,List.mem_append]at dc;exact IZ R dB hd h1 h2 h3 (λt h=>dc t (.inl (.inl h))) (λt h=>dc t (.inl (.inr h))) (λt h=>dc t (.inr h)) he
 case alloc t=>simp only[dB]at hc;split at hc<;>subst hc<;>cases bf
 case box t x=>simp only[dB]at hc;split at hc<;>subst hc<;>cases bf
 case build t ps=>
  simp only[dB]at hc;split at hc
  .rename_i fs zs h1 h2;split at hc
   case h_2=>subst hc;cases bf
   rename_i places h3
   split at hc<;>subst hc
   case h_2=>cases bf
   rename_i qs h4;have h2:=pQ h2;unfold zeroCells at h2;split at h2
   case h_2=>cases h2
   rename_i it hi;split at h2
   case h_2=>cases h2
   rename_i z hz;exact F_ R dB hd hi h1 hz h3 h2 h4 (λq hq t ht=>dc t (List.mem_flatMap.2 ⟨q,hq,ht⟩)) he
  .rename_i len el zs h1 h2;split at hc
   case h_2=>subst hc;cases bf
   rename_i ie h3
   split at hc<;>subst hc
   case h_2=>cases bf
   rename_i qs h4;have h2:=pQ h2;unfold zeroCells at h2;split at h2
   case h_2=>cases h2
   rename_i it hi;split at h2
   case h_2=>cases h2
   rename_i z hz;exact D8 R dB hd hi h1 hz h3 h2 h4 (λq hq t ht=>dc t (List.mem_flatMap.2 ⟨q,hq,ht⟩)) he
  .rename_i len el h1 h2;split at hc
   case h_2=>subst hc;cases bf
   rename_i it ie ys h3 h4 h5;split at hc
   case h_2=>subst hc;cases bf
   rename_i z hz
   split at hc<;>subst hc
   case isFalse=>cases bf
   rename_i jB;exact DU R dB hd h3 h1 hz h4 jB.1 (by simpa using jB.2.1) (tD _ 0 (by rw[jB.2.2,List.range_eq_range'])) h5 (λy hy t ht=>dc t (List.mem_flatMap.2 ⟨y,hy,ht⟩)) he
  .subst hc;cases bf
 case buildSlice t len ps=>
  simp only[dB]at hc;split at hc
  case h_2=>subst hc;cases bf
  rename_i el h1;split at hc
  case h_2=>subst hc;cases bf
  rename_i i h2;split at hc
  case isTrue=>
   rename_i jB;subst hc
   have gE:ps=#[]:=by
    have:=jB.2;simp only[List.isEmpty_iff]at this;exact Array.toList_eq_nil_iff.1 this
   rw[jB.1,gE]at dB;exact Fc R dB hd h1 h2 he
  case isFalse=>
   split at hc
   case h_2=>subst hc;cases bf
   rename_i z ys h3 h4
   split at hc<;>subst hc
   case isFalse=>cases bf
   rename_i ig
   have hlen:ps.toList.length=len:=by have:=congrArg List.length ig.2.2;simpa using this
   exact we R dB hd h1 h2 h3 ig.1 (tD _ 0 (by rw[ig.2.2,hlen,List.range_eq_range'])) (by simpa using hlen) ig.2.1 h4 (λy hy t ht=>dc t (List.mem_flatMap.2 ⟨y,hy,ht⟩)) he
 case load t x=>
  simp only[dB]at hc;split at hc
  case h_2=>subst hc;cases bf
  rename_i i d y h1 h2 h3
  split at hc<;>subst hc
  case isTrue jB=>
   obtain⟨dd,DK⟩:=Option.isSome_iff_exists.1 jB.2.2;exact Fv R dB DK (hd dd DK) h2 jB.2.1 h3 dc he
  case isFalse jB=>exact Ji R dB hd h1 h2 h3 dc he
 case store t x1 x2=>
  simp only[dB]at hc;split at hc
  case h_2=>subst hc;cases bf
  rename_i i y z h1 h2 h3
  split at hc<;>subst hc
  case isFalse=>cases bf
  rename_i jB;simp only[eb.rd,List.mem_append]at dc;exact FC R dB (by simpa using jB) h1 h2 h3 (λt h=>dc t (.inl h)) (λt h=>dc t (.inr h)) he
 case binOp op t x1 x2 t'=>
  simp only[dB]at hc;split at hc
  .subst hc;rename_i k y1 y2 h1 h2 h3;simp only[eb.rd,List.mem_append]at dc;exact Bs R dB hd h2 h3 (λt h=>dc t (.inl h)) (λt h=>dc t (.inr h)) he
  .subst hc;rename_i y1 y2 h1 h2 h3;simp only[eb.rd,List.mem_append]at dc;exact Bs R dB hd h2 h3 (λt h=>dc t (.inl h)) (λt h=>dc t (.inr h)) he
  .rename_i y1 y2 h1 h2 h3
   split at hc<;>subst hc
   .simp only[eb.rd,List.mem_append]at dc;exact Cf (neg:=false) R dB hd h1 h2 h3 (λt h=>dc t (.inl h)) (λt h=>dc t (.inr h)) he
   .simp only[eb.rd,List.mem_append]at dc;exact Cf (neg:=true) R dB hd h1 h2 h3 (λt h=>dc t (.inl h)) (λt h=>dc t (.inr h)) he
   .cases bf
  .rename_i fs y1 y2 h1 h2 h3;split at hc
   case isFalse=>subst hc;cases bf
   rename_i yc
   split at hc<;>subst hc
   .simp only[eb.rd,List.mem_append]at dc;exact B0 (neg:=false) R dB hd h1 (by assumption) yc h2 h3 (λt h=>dc t (.inl h)) (λt h=>dc t (.inr h)) he
   .simp only[eb.rd,List.mem_append]at dc;exact B0 (neg:=true) R dB hd h1 (by assumption) yc h2 h3 (λt h=>dc t (.inl h)) (λt h=>dc t (.inr h)) he
   .cases bf
  .rename_i el y1 y2 h1 h2 h3
   split at hc<;>subst hc
   .exact xA (neg:=false) R dB hd h1 h2 dc he
   .exact xA (neg:=true) R dB hd h1 h2 dc he
   .cases bf
  .subst hc;cases bf
 case unOp u t x=>
  cases u<;>simp only[dB]at hc
  case not=>
   split at hc<;>subst hc
   case h_2=>cases bf
   rename_i y h1;exact Ln R dB hd h1 dc he
  all_goals (subst hc;cases bf)
 case convert s d x=>
  simp only[dB]at hc;split at hc
  .subst hc;rename_i ds k y h1 h2 h3;exact IH R dB hd h1 h2 h3 dc he
  .rename_i el y h1 h2 h3
   split at hc<;>subst hc
   case h_2=>cases bf
   rename_i h4;exact IM R dB hd h1 h4 h2 h3 dc he
  .subst hc;cases bf
 case makeInterface t x=>
  simp only[dB]at hc
  split at hc<;>subst hc
  case h_1=>cases bf
  case h_3=>cases bf
  rename_i d y D4 h1 h2;exact FX R dB hd h1 D4 h2 dc he
 case makeFunc fn f c=>
  simp only[dB]at hc
  split at hc<;>subst hc
  case h_2=>cases bf
  rename_i f2 c2 h1 h2;simp only[eb.rd,List.mem_append,List.mem_flatMap]at dc;exact Lf R dB hd h1 h2 (λy hy t ht=>dc t (.inl ⟨y,hy,ht⟩)) (λy hy t ht=>dc t (.inr ⟨y,hy,ht⟩)) he
 case slice t x lo hi mx=>
  cases mx with
  |some m=>simp only[dB]at hc;subst hc;cases bf
  |none=>
   simp only[dB]at hc;split at hc
   .subst hc;rename_i y vh cy h1 h2 h3 h4;simp only[eb.rd,List.mem_append,List.mem_flatMap]at dc;exact Eb R dB hd h1 h2 (λt h=>dc t (.inl h)) h3 h4 (λy hy t ht=>dc t (.inr ⟨y,.inl (by simpa using hy),ht⟩)) (λy hy t ht=>dc t (.inr ⟨y,.inr (by simpa using hy),ht⟩)) he
   .rename_i el y vh cy h1 h2 h3 h4
    split at hc<;>subst hc
    case h_2=>cases bf
    rename_i i h5;simp only[eb.rd,List.mem_append,List.mem_flatMap]at dc;exact D' R dB hd h1 h5 h2 (λt h=>dc t (.inl h)) h3 h4 (λy hy t ht=>dc t (.inr ⟨y,.inl (by simpa using hy),ht⟩)) (λy hy t ht=>dc t (.inr ⟨y,.inr (by simpa using hy),ht⟩)) he
   .rename_i len el y h1 h2 h3 h4
    split at hc<;>subst hc
    case h_2=>cases bf
    rename_i i h5;have e3:=uB h3;have e4:=uB h4;subst e3;subst e4;exact DR R dB hd h1 h5 h2 dc he
   .subst hc;cases bf
 case fieldAddr s x j=>
  simp only[dB]at hc;split at hc
  case h_2=>subst hc;cases bf
  rename_i fs y h1 h2;split at hc
  case h_2=>subst hc;cases bf
  rename_i f h3;split at hc
  case h_2=>subst hc;cases bf
  rename_i i h4
  split at hc<;>subst hc
  case isFalse=>cases bf
  rename_i jB;exact ye R dB hd h1 h3 h4 jB h2 dc he
 case indexAddr t x1 x2=>
  simp only[dB]at hc;split at hc
  case h_2=>subst hc;cases bf
  rename_i el y z h1 h2 h3
  split at hc<;>subst hc
  case h_2=>cases bf
  rename_i i h4;simp only[eb.rd,List.mem_append]at dc;exact yf R dB hd h1 h4 h2 h3 (λt h=>dc t (.inl h)) (λt h=>dc t (.inr h)) he
 case index t x1 x2=>
  simp only[dB]at hc;split at hc
  .subst hc;rename_i y z h1 h2 h3;simp only[eb.rd,List.mem_append]at dc;exact Dm R dB hd h1 h2 h3 (λt h=>dc t (.inl h)) (λt h=>dc t (.inr h)) he
  .rename_i len el y z h1 h2 h3;split at hc
   .rename_i i a1 a2 a3 h4 h5
    split at hc<;>subst hc
    case isFalse=>cases bf
    rename_i hs;simp only[eb.rd,List.mem_append]at dc;exact DJ R dB hd h1 h4 hs h5 rfl h2 h3 (λt h=>dc t (.inl h)) (λt h=>dc t (.inr h)) he
   case h_3=>subst hc;cases bf
   subst hc;rename_i i d _ h4 h5;simp only[eb.rd,List.mem_append]at dc;exact CP R dB hd h1 h4 h5 h2 h3 (λt h=>dc t (.inl h)) (λt h=>dc t (.inr h)) he
  .subst hc;cases bf
 case lookup t x1 x2 ok=>
  cases ok with
  |false=>simp only[dB]at hc;subst hc;cases bf
  |true=>
   simp only[dB]at hc;split at hc
   case h_2=>subst hc;cases bf
   rename_i kt el y z h1 h2 h3;split at hc
   case h_2=>subst hc;cases bf
   rename_i fs k ie h4 h5 h6;split at hc
   case h_2=>subst hc;cases bf
   rename_i v h7
   split at hc<;>subst hc
   case h_2=>cases bf
   rename_i zs h8;simp only[eb.rd,List.mem_append]at dc;exact DV (z:=.agg v) R dB hd h1 h4 h5 h6 h7 h8 h2 h3 (λt h=>dc t (.inl h)) (λt h=>dc t (.inr h)) he
 case extract x j=>
  simp only[dB]at hc
  split at hc<;>subst hc
  case h_2=>cases bf
  rename_i y h1;exact AQ R dB hd h1 dc he
 case typeAssert x xt t ok=>
  cases ok with
  |false=>simp only[dB]at hc;subst hc;cases bf
  |true=>
   simp only[dB]at hc;split at hc
   case h_1=>subst hc;cases bf
   case h_3=>subst hc;cases bf
   rename_i d i y D4 h1 h2 h3;split at hc
   case h_2=>subst hc;cases bf
   rename_i z hz
   split at hc<;>subst hc
   case h_2=>cases bf
   rename_i zs pw;exact D0 (z:=.agg z) R dB hd h1 D4 h2 hz pw h3 dc he
 case panic x=>simp only[dB]at hc;split at hc<;>subst hc<;>cases bf
 case call cl=>
  simp only[dB]at hc;split at hc
  .rename_i x s jw ha ht
   have EY:cl.args=#[x]:=by rw[<-Array.toArray_toList (xs:=cl.args),ha]
   have vY:cl.argTypes=#[s]:=by rw[<-Array.toArray_toList (xs:=cl.argTypes),ht]
   split at hc<;>subst hc
   .rename_i y h1 h2;exact B8 R dB jw EY vY hd h1 h2 dc (.inl ⟨rfl,he⟩)
   .rename_i el y h1 h2;exact B8 R dB jw EY vY hd h1 h2 dc (.inr ⟨⟨el,rfl⟩,he⟩)
   .cases bf
  .rename_i x1 x2 t t' jw ha ht
   have EY:cl.args=#[x1,x2]:=by rw[<-Array.toArray_toList (xs:=cl.args),ha]
   have vY:cl.argTypes=#[t,t']:=by rw[<-Array.toArray_toList (xs:=cl.argTypes),ht]
   split at hc
   case h_2=>subst hc;cases bf
   rename_i el y1 y2 h1 h2 h3;split at hc
   case h_2=>subst hc;cases bf
   rename_i i h4;split at hc
   case h_2=>subst hc;cases bf
   rename_i z h5
   split at hc<;>subst hc
   case isFalse=>cases bf
   rename_i jB;obtain⟨rfl,k1,k2⟩:=jB;simp only[eb.rd,List.mem_append]at dc c_;exact DT R dB jw EY vY hd h1 h4 h5 k1 k2 h2 h3 (λt h=>dc t (.inl h)) (λt h=>dc t (.inr h)) (λt ht h=>c_ t ht (.inl h)) he
  .rename_i x1 x2 jw ha
   have EY:cl.args=#[x1,x2]:=by rw[<-Array.toArray_toList (xs:=cl.args),ha]
   split at hc<;>subst hc
   case h_2=>cases bf
   rename_i y1 y2 h1 h2;simp only[eb.rd,List.mem_append]at dc;exact vx R dB EY hd h1 h2 (λt h=>dc t (.inl h)) (λt h=>dc t (.inr h)) (.inl ⟨jw,he⟩)
  .rename_i x1 x2 jw ha
   have EY:cl.args=#[x1,x2]:=by rw[<-Array.toArray_toList (xs:=cl.args),ha]
   split at hc<;>subst hc
   case h_2=>cases bf
   rename_i y1 y2 h1 h2;simp only[eb.rd,List.mem_append]at dc;exact vx R dB EY hd h1 h2 (λt h=>dc t (.inl h)) (λt h=>dc t (.inr h)) (.inr ⟨jw,he⟩)
  .split at hc<;>subst hc<;>cases bf
  .split at hc<;>subst hc<;>cases bf
  .subst hc;cases bf
 all_goals (simp only[dB]at hc;subst hc;cases bf)
end
def bp:Nat->Prop:=λ_=>False
def av(GI:World->Prop):Prop:=∀w w',GI w->Below w.heap.size w w'->GI w'
def bc.ok(n:Nat)(o:bc):Bool:=
 (match o.dst with|some d=>decide (d<n)&&!o.op.rd.contains d|none=>true)&&
 (match o.guard with|some (t,_)=>decide (t<n)|none=>true)
def eb.fP:eb->Bool
 |.alloc ..|.box ..=>true
 |_=>false
def bc.fP(o:bc):List Nat:=if o.op.fP then o.dst.toList else[]
def ug(ops:Array Oper)(j:Nat):Option Nat:=(ops[j]?).bind (·.dst)
def taken(ops:Array Oper)(d:Nat):Bool:=
 ops.any λo=>match o.op with
  |.call { callee:=.builtin .append,args,.. }=>match args.toList with
   |.tmp t::_=>t==d
   |_=>false
  |_=>false
def rootOf(ops:Array Oper):Nat->Operand->HR
 |k+1,.tmp t=>match ops.toList.find? (λo=>o.dst==some t)with
  |some o=>match o.op with
   |.fieldAddr _ x _=>rootOf ops k x
   |.indexAddr ..=>.ref
   |.alloc _=>.box t
   |_=>.any
  |none=>.box t
 |_,_=>.any
def JY(ops:Array Oper)(o:Oper):HR:=
 match o.op with
 |.load _ x|.store _ x _=>rootOf ops 10 x
 |_=>.any
def aW(P:Program)(n:Nat)(dr:Bool)(ops:Array Oper)(o:Oper):bc:={
 dst:=o.dst
 guard:=match o.guard with
  |some (j,b)=>match ug ops j with
   |some t=>some (t,b)
   |none=>some (n,b)
  |none=>none
 op:=comp P n (match o.dst with|some d=>taken ops d|none=>false) (if dr then JY ops o else .any) o }
def aO(P:Program)(n:Nat)(dr:Bool)(ops:Array Oper):List bc:=ops.toList.map (aW P n dr ops)
def an(S:af):Option (Nat×Bool)->Option Bool
 |none=>some true
 |some (t,b)=>match S t with
  |.bool c=>some (c==b)
  |.fZ []=>some false
  |_=>none
def aV(P:Program)(GI:World->Prop):List bc->(af->ah->Prop)->(AV->Prop)->af->ah->Prop
 |[],K,_,S,H=>K S H
 |o::rest,K,Qp,S,H=>match an S o.guard with
  |some true=>aI P GI o.op o.dst (aV P GI rest K Qp) Qp S H
  |some false=>aV P GI rest K Qp (aH S o.dst bI) H
  |none=>False
section
variable{P:Program}{GI:World->Prop}{w0:World}{n:Nat}{U:Nat->Prop}{g:Gh}{S:af}{H:ah}{a:Act}{w:World}
def b_.wp {o:Oper} {e:aB} (h:b_ P w0 n U g S H a w o e) {K:Act→World→Prop} {Q:Exit→Act→World→Prop}
  (hK:∀g' a' w',g'.base=g.base->g'.old=g.old->Rel P w0 n U g' (e.S S o.dst) (e.H H) a' w'->K a' w'):o.wp P a w K Q:=by
 obtain⟨c,w',g',hr,h1,h2,R⟩:=h;unfold Oper.wp
 rcases hr with hr|⟨hr,rfl⟩
 .rw[hr];exact hK g' _ _ h1 h2 R
 .rw[hr];exact hK g' _ _ h1 h2 R
def dX{a:Act}{cl:Call}{f:Operand}{t:TypeId}(hc:cl.callee=.value f):resolve a.eval cl t=Deferred.ofValue (a.eval f) (cl.args.map a.eval):=by
 unfold resolve;rw[hc]
def vW (R:Rel P w0 n U g S H a w) (hG:av GI) (db:GI w0) {f:Nat} {args:List AV} {a_:Array Value} {bx:Bool} {KA:AV→Prop} {Qp:AV→Prop}
  (hl:args.length=a_.size) (hr:∀i (h:i<args.length)(h':i<a_.size),RV (kh g bx) (λ_=>none) w args[i] a_[i])
  (h:jk P GI f args bx KA Qp) (dst:Option Nat) (hd:∀t,dst=some t->t<n/\¬U t) {Kc:Act->World->Prop} {Qc:Exit->Act->World->Prop}
  (hK:∀v g' a' w',g'.base=g.base->g'.old=g.old->Rel P w0 n U g' (aH S dst v) H a' w'->KA v->Kc a' w')
  (hP:∀v c hi w',Below w0.heap.size w0 w'->(∀b,w'.heap.size<=b->hi b=0)->RD (lL w0.heap.size g.old.c hi) w' v c->Qp v->Qc (.panic [{ v:=c,recovered:=false }]) a w'):
  dW P f=true/\Calls P f a_ w (λ|.returned v,iU=>Kc (a.put dst v) iU|.panicked chain,iU=>Qc (.panic chain) a iU|.outgrown,_=>LetsOut Qc):=by
 obtain⟨out,mw,ja,bC,mC⟩:=h
 have hle:g.base<=w.heap.size:=by rw[R.base];exact R.below.size
 have lg:GI w:=by
  have hb:=R.below;rw[R.base]at hb;exact hG w0 w db hb
 refine⟨mw,(ja w (kh g bx) a_ lg hl hr).mono ?_⟩;rintro e w' ⟨hb,hi,lq,hh⟩
 cases out with
 |ret v=>
  obtain⟨c,rfl,h1,h2⟩:=hh;obtain⟨g',e1,e2,R'⟩:=R.call dst hd bx hb lq h1 h2 (λhx=>bC hx);exact hK v g' _ _ e1 e2 R' mC
 |panic v=>
  obtain⟨c,rfl,h1⟩:=hh
  have Y_:bx=false:=by
   cases bx with
   |false=>rfl
   |true=>have:=bC rfl;cases this
  subst Y_;have qW:=R.below;rw[R.base]at qW hle;refine hP v c (λb=>if b<w.heap.size then g.hi b else hi b) w' (qW.trans (hb.mono hle)) (λb gQ=>?_) ?_ mC
  .have:=hb.size;show(if b<w.heap.size then g.hi b else hi b)=0;rw[if_neg (by omega)];exact lq b gQ
  .refine h1.mono (aE.same λb k _ hp=>?_)
   rcases hp with⟨k1,k2⟩|⟨k1,k2⟩
   .rcases k2 with k2|⟨k2,_⟩
    .rcases k2 with k2|k2
     .exact .inl (by rw[<-R.base];exact k2)
     .exact .inr ⟨by rw[<-R.base];exact k2.1,by show k<(if b<w.heap.size then g.hi b else hi b);rw[if_pos k1];exact k2.2⟩
    .cases k2
   .exact .inr ⟨by omega,by show k<(if b<w.heap.size then g.hi b else hi b);rw[if_neg (by omega)];exact k2⟩
def BL(d:Nat):(λt=>(bp t\/t=d)/\t≠d)=bp:=by
 funext t
 simp only[bp,false_or,eq_iff_iff,iff_false,not_and,Classical.not_not];exact id
def Ax (R:Rel P w0 n bp g S H a w) {o:Oper} {d:Nat} (gG:o.dst=some d) (hd:d < n) (bC:¬ g.old.bx d) {ty:TypeId} {vs:Array Value} {cs:List AV}
  (eO:(execOp a.eval o).run P w=.ok (.value (.pointer (some ⟨w.heap.size,0,none⟩))) (w.alloc (.cells vs ty))) (hr:ng g.Pr w cs vs)
  (ho:∀(g':Gh) j (h:j<cs.length)(h':j<vs.size),(cs[j]).kE/\dw P w g' (.cell d j) cs[j] vs[j])
  {Kc:Act->World->Prop} {Qc:Exit->Act->World->Prop}
  (hK:∀g' a' w',g'.base=g.base->g'.old=g.old->Rel P w0 n bp g' (au (λt=>aZ d (S t)) d (.box d 0)) (au H d (some cs)) a' w'->Kc a' w'):o.wp P a w Kc Qc:=by
 have R1:=R.suspend d bC (.box d 0) cs;have R2:=R1.CM d (.inr rfl) hd cs vs ty (aN _ _ _) (aN _ _ _) hr.1 hr.2.1 (λj h h'=>ho _ j h h') hr.2.2;unfold Oper.wp;rw[eO];show Kc _ _;rw[gG];rw[BL]at R2;exact hK { g with al:=au (au g.al d none) d (some w.heap.size) } _ _ rfl rfl R2
def xM{o:Oper}{tk:Bool}{hr:HR}{t:TypeId}{cs:List AV}(h:comp P n tk hr o=.alloc t cs):o.op=.alloc t/\zeroCells P t=some cs:=by
 unfold comp at h
 repeat' split at h
 all_goals first
  |(cases h;done)
  |(cases h;exact⟨by assumption,by assumption⟩)
def LK{o:Oper}{tk:Bool}{hr:HR}{t:TypeId}{size:Nat}{x:bZ}(h:comp P n tk hr o=.box t size x):∃x',o.op=.box t x'/\dg n x'=some x:=by
 unfold comp at h
 repeat' split at h
 all_goals first
  |(cases h;done)
  |(cases h;exact⟨_,by assumption,by assumption⟩)
def E4{o:Oper}{tk:Bool}{hr:HR}{x:bZ}(h:comp P n tk hr o=.panic x):∃x',o.op=.panic x'/\dg n x'=some x:=by
 unfold comp at h
 repeat' split at h
 all_goals first
  |(cases h;done)
  |(cases h;exact⟨_,by assumption,by assumption⟩)
def Vn{x:Operand}{f:Nat}(h:dg n x=some (.f f)):x=.func f:=by
 cases x<;>simp only[dg]at h
 .split at h<;>cases h
 .simp only[Option.map_eq_some_iff]at h;obtain⟨_,_,h⟩:=h;cases h
 .cases h
 .cases h;rfl
def Jm{o:Oper}{tk:Bool}{hr:HR}{f:Nat}{args:List bZ}(h:comp P n tk hr o=.call f args):∃cl,o.op=.call cl/\cl.callee=.value (.func f)/\nJ n cl.args.toList=some args:=by
 unfold comp at h
 repeat' split at h
 all_goals first
  |(cases h;done)
  |skip
 cases h;rename_i h1 h2;have e:=Vn h1;subst e;exact⟨_,by assumption,by assumption,h2⟩
def Fj {o:Oper} {tk:Bool} {hr:HR} {f:bZ} {args:List bZ} (h:comp P n tk hr o = .gI f args) :
  (∃cl f',o.op=.call cl/\cl.callee=.value f'/\dg n f'=some f/\nJ n cl.args.toList=some args)\/
  ∃cl r name t,o.op=.call cl/\cl.callee=.invoke r name/\dg n r=some (.t t)/\f=.m t (FT P name)/\nJ n cl.args.toList=some args:=by
 unfold comp at h
 repeat' split at h
 all_goals first
  |(cases h;done)
  |skip
 .cases h;exact .inl ⟨_,_,by assumption,by assumption,by assumption,by assumption⟩
 .cases h;exact .inr ⟨_,_,_,_,by assumption,by assumption,by assumption,rfl,by assumption⟩
def G4(x:Value)(l:Array Value):(#[x]++l)[0]?=some x:=by
 rw[Array.getElem?_append_left (by simp)];rfl
def Lj(x:Value)(l:Array Value):(#[x]++l).extract 1 (#[x]++l).size=l:=by
 apply Array.ext';simp
def qf (R:Rel P w0 n U g S H a w) (hG:av GI) (db:GI w0) {o:Oper} {tk:Bool} {hr:HR} {f:Nat} {args:List bZ} (hc:comp P n tk hr o = .call f args) (hd:∀ t,o.dst=some t→t < n∧¬ U t) (hu:∀ t∈(eb.call f args).rd,¬ U t)
  {KA:AV->Prop} {Qp:AV->Prop} (h:jk P GI f (args.map λy=>fz H (AL.ev S y)) (args.any λy=>bR (AL.ev S y)) KA Qp) {Kc:Act->World->Prop} {Qc:Exit->Act->World->Prop}
  (hK:∀v g' a' w',g'.base=g.base->g'.old=g.old->Rel P w0 n U g' (aH S o.dst v) H a' w'->KA v->Kc a' w')
  (hP:∀v c hi w',Below w0.heap.size w0 w'->(∀b,w'.heap.size<=b->hi b=0)->RD (lL w0.heap.size g.old.c hi) w' v c->Qp v->Qc (.panic [{ v:=c,recovered:=false }]) a w'):o.wp P a w Kc Qc:=by
 obtain⟨cl,dB,F',oR⟩:=Jm hc;obtain⟨l1,r1⟩:=R.E7 oR (λy hy t ht=>hu t (List.mem_flatMap.2 ⟨y,hy,ht⟩))
 obtain⟨mw,vy⟩:=vW R hG db (a_:=cl.args.map a.eval) (by simpa using l1) (λi hi cy=>by
  simp only[List.length_map]at hi;simp only[List.getElem_map,Array.getElem_map];have:=r1 i hi (by simpa using cy)
  refine R.fz (by simpa using this) _ λhb=>?_
  exact List.any_eq_true.2 ⟨_,List.getElem_mem hi,hb⟩) h o.dst hd (Kc:=Kc) (Qc:=Qc) hK hP
 have ZD:a.eval (.func f)=.func (.func f) #[] #[]:=rfl;unfold Oper.wp execOp;simp only[dB,dX F',ZD,Deferred.ofValue,Sem.run_bind,Sem.run_pure,Result.andThen_ok,invoke,Array.empty_append,Array.append_empty];rw[eV mw];exact vy
def sa (R:Rel P w0 n U g S H a w) (hG:av GI) (db:GI w0) {o:Oper} {tk:Bool} {hr:HR} {f:bZ} {args:List bZ} (hc:comp P n tk hr o = .gI f args) (hd:∀ t,o.dst=some t→t < n∧¬ U t) (hu:∀ t∈(eb.gI f args).rd,¬ U t)
  {k:Nat} {first cap:List AV} (vn:AL.ev S f=.func (.func k) first cap)
  {KA:AV->Prop} {Qp:AV->Prop} (h:jk P GI k ((first++args.map (AL.ev S)++cap).map (fz H)) ((first++args.map (AL.ev S)++cap).any bR) KA Qp) {Kc:Act->World->Prop} {Qc:Exit->Act->World->Prop}
  (hK:∀v g' a' w',g'.base=g.base->g'.old=g.old->Rel P w0 n U g' (aH S o.dst v) H a' w'->KA v->Kc a' w')
  (hP:∀v c hi w',Below w0.heap.size w0 w'->(∀b,w'.heap.size<=b->hi b=0)->RD (lL w0.heap.size g.old.c hi) w' v c->Qp v->Qc (.panic [{ v:=c,recovered:=false }]) a w'):o.wp P a w Kc Qc:=by
 simp only[eb.rd,List.mem_append,List.mem_flatMap]at hu
 rcases Fj hc with⟨cl,f',dB,F',hf,oR⟩|⟨cl,r,name,t,dB,F',nB,rfl,oR⟩
 case inr=>
  obtain⟨l1,r1⟩:=R.E7 oR (λy hy t ht=>hu t (.inr ⟨y,hy,ht⟩));have LL:=R.ev nB (λt' ht=>hu t' (.inl (by simpa[bZ.tmps]using ht)));simp only[AL.ev]at vn LL;generalize hS:S t=sv at vn LL;split at vn
  case h_2=>cases vn
  rename_i ty v;split at vn
  case h_2=>cases vn
  rename_i k' hk;cases vn;generalize T7:a.eval r=cr at LL;have LL:=LL.bQ rfl
  cases LL with
  |iface _ _ cv hv=>
  simp only[List.singleton_append,List.append_nil]at h
  obtain⟨mw,vy⟩:=vW R hG db (a_:=#[cv]++cl.args.map a.eval) (by simp at l1⊢;omega) (λi hi cy=>by
   simp only[List.length_map]at hi;simp only[List.getElem_map]
   refine R.fz ?_ _ λhb=>?_
   .cases i with
    |zero=>
     have e2:(#[cv]++cl.args.map a.eval)[0]=cv:=by rw[Array.getElem_append_left (by simp)];rfl
     simp only[List.getElem_cons_zero];rw[e2];exact .data _ _ hv
    |succ i=>
     have e2:(#[cv]++cl.args.map a.eval)[i+1]=a.eval (cl.args.toList[i]'(by simp at cy l1⊢;omega)):=by
      rw[Array.getElem_append_right (by simp)];simp
     simp only[List.getElem_cons_succ,List.getElem_map];rw[e2];exact r1 i (by simpa using hi) (by simp at cy l1⊢;omega)
   .exact List.any_eq_true.2 ⟨_,List.getElem_mem hi,hb⟩) h o.dst hd (Kc:=Kc) (Qc:=Qc) hK hP
  have hm:=Fp (v:=cv) (w:=w) hk;unfold Oper.wp execOp;simp only[dB]
  have Fg:(resolve a.eval cl o.type).run P w=.ok { target:=.fn (.method name) #[],args:=#[.iface ty cv]++cl.args.map a.eval } w:=by
   unfold resolve;rw[F'];simp[T7]
  simp only[Sem.run_bind,Fg,Result.andThen_ok,invoke,G4,callMethod,Lj,hm,run_program];rw[eV mw];simp only[Oper.upon];exact vy
 obtain⟨l1,r1⟩:=R.E7 oR (λy hy t ht=>hu t (.inr ⟨y,hy,ht⟩));have Fy:=R.ev hf (λt ht=>hu t (.inl ht));rw[vn]at Fy;generalize RM:a.eval f'=cf at Fy
 cases Fy with
 |data _ _ hh=>cases hh
 |func _ _ _ vs us q1 q2 q3 q4=>
  have eP:∀i (hi:i<(first++args.map (AL.ev S)++cap).length)(cy:i<(vs++cl.args.map a.eval++us).size),RV g.Pr g.al w (first++args.map (AL.ev S)++cap)[i] (vs++cl.args.map a.eval++us)[i]:=by
   intro i hi cy;simp only[List.length_append,List.length_map]at hi;simp only[Array.length_toList]at l1
   by_cases c1:i<first.length
   .have e1:(first++args.map (AL.ev S)++cap)[i]=first[i]:=by rw[List.getElem_append_left (by simp;omega),List.getElem_append_left c1]
    have e2:(vs++cl.args.map a.eval++us)[i]=vs[i]:=by rw[Array.getElem_append_left (by simp;omega),Array.getElem_append_left (by omega)]
    rw[e1,e2];exact q3 i c1 (by omega)
   .by_cases c2:i<first.length+args.length
    .have e1:(first++args.map (AL.ev S)++cap)[i]=AL.ev S (args[i-first.length]):=by rw[List.getElem_append_left (by simp;omega),List.getElem_append_right (by omega)];simp
     have e2:(vs++cl.args.map a.eval++us)[i]=a.eval (cl.args.toList[i-first.length]'(by simp;omega)):=by
      rw[Array.getElem_append_left (by simp;omega),Array.getElem_append_right (by omega)];simp[q1]
     rw[e1,e2];exact r1 _ (by omega) (by simp;omega)
    .have e1:(first++args.map (AL.ev S)++cap)[i]=cap[i-(first.length+args.length)]'(by omega):=by rw[List.getElem_append_right (by simp;omega)];simp
     have e2:(vs++cl.args.map a.eval++us)[i]=us[i-(first.length+args.length)]'(by omega):=by
      rw[Array.getElem_append_right (by simp;omega)];simp[q1,l1]
     rw[e1,e2];exact q4 _ (by omega) (by omega)
  obtain⟨mw,vy⟩:=vW R hG db (a_:=vs++cl.args.map a.eval++us) (by simp at l1⊢;omega) (λi hi cy=>by
   simp only[List.length_map]at hi;simp only[List.getElem_map]
   refine R.fz (eP i hi cy) _ λhb=>?_
   exact List.any_eq_true.2 ⟨_,List.getElem_mem hi,hb⟩) h o.dst hd (Kc:=Kc) (Qc:=Qc) hK hP
  unfold Oper.wp execOp;simp only[dB,dX F',RM,Deferred.ofValue,Sem.run_bind,Sem.run_pure,Result.andThen_ok,invoke];rw[eV mw];simp only[Oper.upon];exact vy
def Kq (R:Rel P w0 n bp g S H a w) (hG:av GI) (db:GI w0) {o:Oper} {tk:Bool} {hr:HR} (hd:∀ t,o.dst=some t→t < n) (c_:∀ t,o.dst=some t→t∉(comp P n tk hr o).rd) (bC:∀ d,o.dst=some d→(comp P n tk hr o).fP=true→¬ g.old.bx d)
  {K:af->ah->Prop} {Qp:AV->Prop} (h:aI P GI (comp P n tk hr o) o.dst K Qp S H) {Kc:Act->World->Prop} {Qc:Exit->Act->World->Prop}
  (hK:∀g' S' H' a' w',g'.base=g.base->g'.old=g.old->Rel P w0 n bp g' S' H' a' w'->K S' H'->Kc a' w')
  (hP:∀v c hi w',Below w0.heap.size w0 w'->(∀b,w'.heap.size<=b->hi b=0)->RD (lL w0.heap.size g.old.c hi) w' v c->Qp v->Qc (.panic [{ v:=c,recovered:=false }]) a w'):
  o.wp P a w Kc Qc:=by
 by_cases bf:(comp P n tk hr o).calm=true
 .rw[xy bf]at h;split at h
  case h_2=>exact h.elim
  rename_i e he
  exact(tG R rfl bf (λt ht=>⟨hd t ht,id⟩) (λ_ _=>id) c_ he).wp λg' a' w' h1 h2 R'=>hK g' _ _ _ _ h1 h2 R' h
 .generalize hc:comp P n tk hr o=op at h bf c_ bC
  cases op<;>try (exact absurd rfl bf)
  case alloc t cs=>
   simp only[aI]at h
   cases gG:o.dst with
   |none=>rw[gG]at h;exact h.elim
   |some d=>
    rw[gG]at h;obtain⟨dB,hz⟩:=xM hc;unfold zeroCells at hz;split at hz
    case h_2=>cases hz
    rename_i it hi;split at hz
    case h_2=>cases hz
    rename_i z Vx;obtain⟨h1,h2,h3⟩:=gX g.Pr w hz
    refine Ax R gG (hd d gG) (bC d gG rfl) (vs:=z.cells) (ty:=t) (cs:=cs) ?_ (by simpa using h1) (λg' j hj dJ=>⟨h2 _ (List.getElem_mem hj),by have:=h3 P g' (.cell d) j hj (by simpa using dJ);rwa [Array.getElem_toList]at this⟩) λg' a' w' e1 e2 R'=>hK g' _ _ _ _ e1 e2 R' h
    unfold execOp;simp[dB,Instr.alloc,zeroValue,typeInfo,hi,Vx,newVar,newRow]
  case box t size x=>
   simp only[aI]at h
   cases gG:o.dst with
   |none=>rw[gG]at h;exact h.elim
   |some d=>
    rw[gG]at h;obtain⟨tW,pR,hk⟩:=h;obtain⟨x',dB,hx⟩:=LK hc;have hv:=(R.ev hx (λ_ _=>id)).bQ (AV.js pR);have dc:=hv.Rd pR
    have Zn:ng g.Pr w ((AL.ev S x).cells.map AV.aw) (a.eval x').cells:=by
     refine ng.mk' (by simpa using dc.1) (λi v c e1 e2=>?_) (λi v e1=>?_)
     .simp only[List.getElem?_map,Option.map_eq_some_iff]at e1;obtain⟨u,h1,rfl⟩:=e1;exact(dc.get h1 e2).aw
     .simp only[List.getElem?_map,Option.map_eq_some_iff]at e1;obtain⟨u,h1,rfl⟩:=e1;exact(AV.np _).trans (dc.one h1)
    refine Ax R gG (hd d gG) (bC d gG rfl) (vs:=(a.eval x').cells) (ty:=t) ?_ Zn (λg' j hj dJ=>⟨by simp only[List.getElem_map];exact AV.oD _,by simp only[List.getElem_map];exact fF _ _ _⟩) λg' a' w' e1 e2 R'=>hK g' _ _ _ _ e1 e2 R' hk
    unfold execOp;simp[dB,Instr.box,newVar,newRow]
  case panic x=>
   simp only[aI]at h;obtain⟨x',dB,hx⟩:=E4 hc;have hv:=R.ev hx (λ_ _=>id);generalize AL.ev S x=v at h hv;generalize lR:a.eval x'=c at hv
   cases v<;>try exact h.elim
   rename_i t v;cases hv;rename_i hv;have pY:=hv;cases pY;rename_i c' pY;unfold Oper.wp execOp;simp only[dB,lR,Instr.panic,Sem.run_bind,run_goPanic,Result.andThen_halt];have qW:=R.below;rw[R.base]at qW;refine hP (.iface t v) (.iface t c') g.hi w qW (λb hb=>(R.fresh b hb).1) ?_ h;rw[<-R.base];exact hv
  case call f args=>
   exact qf R hG db hc (λt ht=>⟨hd t ht,id⟩) (λ_ _=>id) h (λv g' a' w' e1 e2 R' hk=>hK g' _ _ _ _ e1 e2 R' hk) hP
  case gI f args=>
   simp only[aI]at h;split at h
   case h_2=>exact h.elim
   rename_i k first cap vn;exact sa R hG db hc (λt ht=>⟨hd t ht,id⟩) (λ_ _=>id) vn h (λv g' a' w' e1 e2 R' hk=>hK g' _ _ _ _ e1 e2 R' hk) hP
  case other=>exact h.elim
end
section
variable{P:Program}{GI:World->Prop}{w0:World}{n:Nat}{U:Nat->Prop}{g:Gh}{S:af}{H:ah}{a:Act}{w:World}
inductive dU where
 |normal|exit (id:Nat)|ret|panic (v:AV)
def QQ(P:Program)(w0:World)(n:Nat)(old:Old)(Q:dU->af->ah->Prop):Exit->Act->World->Prop
 |.normal,a,w=>∃g S H,g.old=old/\Rel P w0 n bp g S H a w/\Q .normal S H
 |.exit id,a,w=>∃g S H,g.old=old/\Rel P w0 n bp g S H a w/\Q (.exit id) S H
 |.ret,a,w=>∃g S H,g.old=old/\Rel P w0 n bp g S H a w/\Q .ret S H
 |.panic chain,a,w=>a.defers=old.ds/\∃v c hi S H,chain=[{ v:=c,recovered:=false }]/\Below w0.heap.size w0 w/\(∀b,w.heap.size<=b->hi b=0)/\RD (lL w0.heap.size old.c hi) w v c/\Q (.panic v) S H
 |_,_,_=>False
def rR(Pr:Nat->Nat->Prop)(w:World):RD Pr w bI undef:=.fZ [] #[] rfl λi h=>by simp at h
def Rel.Oe(R:Rel P w0 n U g S H a w)(dst:Option Nat)(hd:∀t,dst=some t->t<n):Rel P w0 n U g (Go.AL.aH S dst bI) H (a.put dst undef) w:=
 R.aH dst _ _ hd (.data _ _ (rR _ _)) λ_ _=>trivial
def p8 (R:Rel P w0 n U g S H a w) {dr:Bool} {ops:Array Oper} {o:Oper} {b:Bool} (hu:∀ t b,(aW P n dr ops o).guard=some (t,b)→¬ U t)
  (bo:(aW P n dr ops o).ok n=true) (h:an S (aW P n dr ops o).guard=some b):Region.wanted o (yielded ops a.tmps)=b:=by
 unfold Region.wanted;simp only[aW]at bo h hu
 cases hg:o.guard with
 |none=>
  rw[hg]at h;simp only[an,Option.some.injEq]at h;exact h
 |some p=>
  obtain⟨j,want⟩:=p;rw[hg]at h bo hu;simp only at h bo hu⊢
  cases hj:ug ops j with
  |none=>
   rw[hj]at bo;simp only[bc.ok,Bool.and_eq_true,decide_eq_true_eq]at bo;omega
  |some t=>
   rw[hj]at h bo hu;simp only[bc.ok,Bool.and_eq_true,decide_eq_true_eq]at bo;have ht:t<n:=bo.2;have hs:=R.slot t ht (hu t want rfl)
   have hy:yielded ops a.tmps j=(match a.tmps.getD t undef with|.bool b=>some b|_=>none):=by
    unfold yielded;unfold ug at hj;rw[hj]
    have:t<a.tmps.size:=by rw[R.size];exact ht
    simp[this]
    split<;>simp_all
   rw[hy];simp only[an]at h;generalize S t=v at h hs;generalize a.tmps.getD t undef=c at hs;split at h
   .cases h;cases hs;rename_i hs;cases hs;rename_i c'
    cases c'<;>cases want<;>rfl
   .cases h;cases hs;rename_i hs;cases hs
    simp_all
   .cases h
def lT (hG:av GI) (db:GI w0) {old:Old} {ops:Array Oper} {Q:dU→af→ah→Prop} {S0:af} {H0:ah} :
  ∀(l:List Nat)(os:List Oper)(g:Gh)(S:af)(H:ah)(a:Act)(w:World),l.map (ops[·]?)=os.map some->(∀o∈os,(aW P n false ops o).ok n=true)->(∀o∈os,∀d∈(aW P n false ops o).fP,¬old.bx d)->g.old=old->Rel P w0 n bp g S H a w->
   aV P GI (os.map (aW P n false ops)) (Q .normal) (λv=>Q (.panic v) S0 H0) S H->wpOps P ops (QQ P w0 n old Q) l a w
 |[],os,g,S,H,a,w,hl,_,_,ho,R,h=>by
  have:os=[]:=by cases os with|nil=>rfl|cons=>simp at hl
  subst this;exact⟨g,S,H,ho,R,h⟩
 |i::l,os,g,S,H,a,w,hl,bo,bC,ho,R,h=>by
  cases os with
  |nil=>simp at hl
  |cons o os=>
   simp only[List.map_cons,List.cons.injEq]at hl;obtain⟨hi,hl⟩:=hl;have qS:=bo o List.mem_cons_self;simp only[List.map_cons,aV]at h;simp only[wpOps,hi]
   have oS:∀t,o.dst=some t->t<n/\t∉(aW P n false ops o).op.rd:=by
    intro t ht;simp only[bc.ok,Bool.and_eq_true]at qS;have h1:=qS.1;rw[show(aW P n false ops o).dst=o.dst from rfl,ht]at h1;simpa using h1
   cases hw:an S (aW P n false ops o).guard with
   |none=>rw[hw]at h;exact h.elim
   |some b=>
    rw[hw]at h;rw[p8 R (λ_ _ _=>id) qS hw]
    cases b with
    |true=>
     simp only[if_true];refine .inl (Kq R hG db (λt ht=>(oS t ht).1) (λt ht=>(oS t ht).2) (λd hd hl=>by rw[ho];exact bC o List.mem_cons_self d (by have:(aW P n false ops o).op.fP=true:=hl;simp only[bc.fP,this,if_true];rw[show(aW P n false ops o).dst=o.dst from rfl,hd];simp)) h (λg' S' H' a' w' e1 e2 R' hk=>lT hG db l os g' S' H' a' w' hl (λo ho=>bo o (List.mem_cons_of_mem _ ho)) (λo ho=>bC o (List.mem_cons_of_mem _ ho)) (e2.trans ho) R' hk) ?_);intro v c hi w' k1 k2 k3 k4;exact⟨by rw[<-ho];exact R.defers,v,c,hi,S0,H0,rfl,k1,k2,by rw[<-ho];exact k3,k4⟩
    |false=>
     simp only[Bool.false_eq_true,if_false];exact lT hG db l os g _ H _ w hl (λo ho=>bo o (List.mem_cons_of_mem _ ho)) (λo ho=>bC o (List.mem_cons_of_mem _ ho)) ho (R.Oe o.dst λt ht=>(oS t ht).1) h
def Iu (hG:av GI) (db:GI w0) {old:Old} {id:Nat} {ops:Array Oper} {Q:dU→af→ah→Prop} (bo:(aO P n false ops).all (·.ok n)=true) (bC:∀ o∈aO P n false ops,∀ d∈o.fP,¬ old.bx d) (ho:g.old=old) (R:Rel P w0 n bp g S H a w)
  (h:aV P GI (aO P n false ops) (Q .normal) (λv=>Q (.panic v) S H) S H):(Code.region id ops false).wp P (QQ P w0 n old Q) a w:=by
 refine wp_region (lT hG db (S0:=S) (H0:=H) (List.range ops.size) ops.toList g S H a w ?_ (λo ic=>?_) (λo ic=>bC _ (List.mem_map_of_mem ic)) ho R h)
 .apply List.ext_getElem?;intro i;simp only[List.getElem?_map]
  by_cases hi:i<ops.size
  .simp[hi]
  .simp[hi]
 .simp only[aO,List.all_map,List.all_eq_true,Function.comp]at bo;exact bo o ic
end
inductive Acc where
 |no|rd (r:Option Nat)|soft (r:Option Nat)|wr (r:Option Nat)
def HR.one:HR->Option Nat
 |.box r=>some r
 |_=>none
def eb.acc:eb->Acc
 |.load .ref ..=>.no
 |.load hr ..=>.rd hr.one
 |.loadT hr _=>.soft hr.one
 |.store hr ..=>.wr hr.one
 |_=>.no
def meets:Option Nat->Option Nat->Bool
 |some a,some b=>a==b
 |_,_=>true
def Acc.conflict:Acc->Acc->Bool
 |.no,_|_,.no=>false
 |.rd _,.rd _|.rd _,.soft _|.soft _,.rd _=>false
 |.rd a,.wr b|.wr a,.rd b|.soft a,.soft b|.soft a,.wr b|.wr a,.soft b|.wr a,.wr b=>meets a b
def eb.wr:eb->List Nat
 |.mv true x=>x.tmps
 |.store _ _ _ x=>x.tmps
 |.append _ _ _ _ x _=>x.tmps
 |_=>[]
def bc.reads(o:bc):List Nat:=o.op.rd++(match o.guard with|some (t,_)=>[t]|none=>[])
def bc.writes(o:bc):List Nat:=o.dst.toList++o.op.wr
def bc.apart(x y:bc):Bool:=
 x.writes.all (λt=>!y.reads.contains t&&!y.writes.contains t)&&y.writes.all (λt=>!x.reads.contains t)&&!x.op.acc.conflict y.op.acc
section
variable{P:Program}{GI:World->Prop}
def jW(P:Program)(GI:World->Prop)(op:eb)(dst:Option Nat)(S:af)(H:ah)(e:aB):Prop:=
 match op with
 |.alloc _ _=>match dst with
  |some d=>e={ v:=.box d 0 }
  |none=>False
 |.call f args=>(args.any λy=>bR (ev S y))=false/\jk P GI f (args.map λy=>fz H (ev S y)) (args.any λy=>bR (ev S y)) (λv=>e={ v:=v }) (λ_=>False)
 |.gI f args=>match ev S f with
  |.func (.func k) first cap=>((first++args.map (ev S)++cap).any bR)=false/\jk P GI k ((first++args.map (ev S)++cap).map (fz H)) ((first++args.map (ev S)++cap).any bR) (λv=>e={ v:=v }) (λ_=>False)
  |_=>False
 |.box ..|.panic _|.other=>False
 |op=>aq S H op=some e
def gV(P:Program)(GI:World->Prop)(op:eb)(dst:Option Nat)(K:af->ah->Prop)(S:af)(H:ah):Prop:=
 match op with
 |.alloc _ _=>match dst with
  |some d=>K (au S d (.box d 0)) H
  |none=>False
 |.box ..|.panic _|.other=>False
 |.call f args=>(args.any λy=>bR (ev S y))=false/\aI P GI (.call f args) dst K (λ_=>False) S H
 |.gI f args=>(match ev S f with|.func _ first cap=>(first++args.map (ev S)++cap).any bR|_=>true)=false/\aI P GI (.gI f args) dst K (λ_=>False) S H
 |op=>aI P GI op dst K (λ_=>False) S H
def rG{op:eb}{dst:Option Nat}{K:af->ah->Prop}{S:af}{H:ah}(h:gV P GI op dst K S H):∃e,jW P GI op dst S H e/\K (e.S S dst) (e.H H):=by
 cases op
 case alloc t z=>
  cases dst with
  |none=>exact h.elim
  |some d=>exact⟨_,rfl,h⟩
 case call f args=>
  obtain⟨hb,out,h1,h2,h3,h4⟩:=h
  cases out with
  |ret v=>exact⟨{ v:=v },⟨hb,.ret v,h1,h2,h3,rfl⟩,h4⟩
  |panic v=>exact h4.elim
 case gI f args=>
  simp only[gV,aI]at h;simp only[jW];obtain⟨hb,h⟩:=h;split at h
  .rename_i k first cap hf;rw[hf]at hb;obtain⟨out,h1,h2,h3,h4⟩:=h
   cases out with
   |ret v=>exact⟨{ v:=v },by(try simp only[hf]);exact⟨hb,.ret v,h1,h2,h3,rfl⟩,h4⟩
   |panic v=>exact h4.elim
  .exact h.elim
 case box=>exact h.elim
 case panic=>exact h.elim
 case other=>exact h.elim
 all_goals
  simp only[gV,aI]at h;split at h
  case h_2=>exact h.elim
  rename_i e he;exact⟨e,he,h⟩
def cM(P:Program)(GI:World->Prop):List bc->(af->ah->Prop)->af->ah->Prop
 |[],K,S,H=>K S H
 |o::rest,K,S,H=>match an S o.guard with
  |some true=>gV P GI o.op o.dst (cM P GI rest K) S H
  |some false=>cM P GI rest K (aH S o.dst bI) H
  |none=>False
def d_(P:Program)(GI:World->Prop)(o:bc)(S:af)(H:ah)(e:aB):Prop:=
 match an S o.guard with
 |some true=>jW P GI o.op o.dst S H e
 |some false=>e={ v:=bI }
 |none=>False
def qN {o:bc} {rest:List bc} {K:af→ah→Prop} {S:af} {H:ah} (h:cM P GI (o::rest) K S H) :
  ∃e,d_ P GI o S H e/\cM P GI rest K (e.S S o.dst) (e.H H):=by
 simp only[cM]at h;unfold d_;split at h
 .exact rG h
 .exact⟨_,rfl,h⟩
 .exact h.elim
def bg{S S':af}{y:bZ}(h:∀t∈y.tmps,S t=S' t):ev S y=ev S' y:=by
 cases y with
 |t k=>exact h k (by simp[bZ.tmps])
 |c v=>rfl
 |f k=>rfl
 |m k Xe=>simp only[ev,h k (by simp[bZ.tmps])]
def uv{S S':af}{ys:List bZ}(h:∀y∈ys,∀t∈y.tmps,S t=S' t):ys.map (ev S)=ys.map (ev S'):=
 List.map_congr_left λy hy=>bg (h y hy)
def sS:Acc->ah->ah->Prop
 |.no,_,_=>True
 |.rd none,H,H'=>∀i,(H i).map (·.map AV.aw)=(H' i).map (·.map AV.aw)
 |.rd (some r),H,H'=>(H r).map (·.map AV.aw)=(H' r).map (·.map AV.aw)
 |.soft none,H,H'|.wr none,H,H'=>H=H'
 |.soft (some r),H,H'|.wr (some r),H,H'=>H r=H' r
def HO{ag:Bool}{size off:Nat}{cs cs':List AV}(h:cs.map AV.aw=cs'.map AV.aw):aP ag size (cs.drop off)=aP ag size (cs'.drop off):=by
 have hl:cs.length=cs'.length:=by have:=congrArg List.length h;simpa using this
 have hd:(cs.drop off).map AV.aw=(cs'.drop off).map AV.aw:=by rw[List.map_drop,List.map_drop,h]
 generalize hx:cs.drop off=xs at hd;generalize hy:cs'.drop off=ys at hd
 have oL:xs.length=ys.length:=by have:=congrArg List.length hd;simpa using this
 unfold aP
 have e1:(xs.take size).map AV.aw=(ys.take size).map AV.aw:=by rw[List.map_take,List.map_take,hd]
 have e2:(xs[0]?).map AV.aw=(ys[0]?).map AV.aw:=by
  have:=congrArg (·[0]?) hd;simpa using this
 rw[e1,e2,oL]
def Dn{S S':af}{H H':ah}{op:eb}(hS:∀t∈op.rd,S t=S' t)(hH:sS op.acc H H'):aq S H op=aq S' H' op:=by
 cases op
 case build z ps=>
  have:(ps.map λ(o,s,x)=>(o,s,ev S x))=(ps.map λ(o,s,x)=>(o,s,ev S' x)):=
   List.map_congr_left λq hq=>by
    have:=bg (S:=S) (S':=S') (y:=q.2.2) λt ht=>hS t (List.mem_flatMap.2 ⟨q,hq,ht⟩)
    simp[this]
  simp only[aq,this]
 case buildSlice t e s ps=>
  have:=uv (S:=S) (S':=S') (ys:=ps) λy hy t ht=>hS t (List.mem_flatMap.2 ⟨y,hy,ht⟩)
  simp only[aq,this]
 case D2 fn f c=>
  simp only[eb.rd,List.mem_append,List.mem_flatMap]at hS
  have h1:(f.map λx=>(ev S x).aw)=(f.map λx=>(ev S' x).aw):=List.map_congr_left λy hy=>by rw[bg λt ht=>hS t (.inl ⟨y,hy,ht⟩)]
  have h2:(c.map λx=>(ev S x).aw)=(c.map λx=>(ev S' x).aw):=List.map_congr_left λy hy=>by rw[bg λt ht=>hS t (.inr ⟨y,hy,ht⟩)]
  simp only[aq,h1,h2]
 case nY x lo hi=>
  simp only[eb.rd,List.mem_append,List.mem_flatMap]at hS
  have h0:=bg (S:=S) (S':=S') (y:=x) λt ht=>hS t (.inl ht)
  have h1:lo.map (ev S)=lo.map (ev S'):=by cases lo with|none=>rfl|some y=>simp only[Option.map_some,Option.some.injEq];exact bg λt ht=>hS t (.inr ⟨y,.inl (by simp),ht⟩)
  have h2:hi.map (ev S)=hi.map (ev S'):=by cases hi with|none=>rfl|some y=>simp only[Option.map_some,Option.some.injEq];exact bg λt ht=>hS t (.inr ⟨y,.inr (by simp),ht⟩)
  simp only[aq,h0,h1,h2]
 case nX s x lo hi=>
  simp only[eb.rd,List.mem_append,List.mem_flatMap]at hS
  have h0:=bg (S:=S) (S':=S') (y:=x) λt ht=>hS t (.inl ht)
  have h1:lo.map (ev S)=lo.map (ev S'):=by cases lo with|none=>rfl|some y=>simp only[Option.map_some,Option.some.injEq];exact bg λt ht=>hS t (.inr ⟨y,.inl (by simp),ht⟩)
  have h2:hi.map (ev S)=hi.map (ev S'):=by cases hi with|none=>rfl|some y=>simp only[Option.map_some,Option.some.injEq];exact bg λt ht=>hS t (.inr ⟨y,.inr (by simp),ht⟩)
  simp only[aq,h0,h1,h2]
 case load hr ag s x=>
  have e:=bg (S:=S) (S':=S') (y:=x) hS;simp only[aq,e];split
  .rename_i i off he;split
   case isFalse=>rfl
   rename_i bo
   have hd:(H i).map (·.map AV.aw)=(H' i).map (·.map AV.aw):=by
    cases hr with
    |any=>exact hH i
    |ref=>cases bo
    |box r=>
     have:i=r:=by simpa[HR.okB]using bo
     subst this;exact hH
   cases h1:H i<;>cases h2:H' i<;>rw[h1,h2]at hd<;>simp only[Option.map_none,Option.map_some,reduceCtorEq,Option.some.injEq]at hd
   .simp only[HO hd]
  .rfl
  .rfl
 case loadT hr x=>
  have e:=bg (S:=S) (S':=S') (y:=x) hS;simp only[aq,e];split
  .rename_i i off he;split
   case isFalse=>rfl
   rename_i bo
   have hd:H i=H' i:=by
    cases hr with
    |any=>cases(show H=H' from hH);rfl
    |ref=>cases bo
    |box r=>
     have:i=r:=by simpa[HR.okB]using bo
     subst this;exact hH
   rw[hd]
  .rfl
 case store hr s x y=>
  simp only[eb.rd,List.mem_append]at hS
  have e1:=bg (S:=S) (S':=S') (y:=x) λt ht=>hS t (.inl ht)
  have e2:=bg (S:=S) (S':=S') (y:=y) λt ht=>hS t (.inr ht)
  simp only[aq,e1,e2];split
  .rename_i i off he;split
   case isFalse=>rfl
   rename_i bo
   have hd:H i=H' i:=by
    cases hr with
    |any=>cases(show H=H' from hH);rfl
    |ref=>cases bo
    |box r=>
     have:i=r:=by simpa[HR.okB]using bo
     subst this;exact hH
   rw[hd]
  .rfl
 case pick x y z=>
  simp only[eb.rd,List.mem_append]at hS;simp only[aq,bg λt ht=>hS t (.inl (.inl ht)),bg λt ht=>hS t (.inl (.inr ht)),bg λt ht=>hS t (.inr ht)]
 case bin=>simp only[eb.rd,List.mem_append]at hS;simp only[aq,bg λt ht=>hS t (.inl ht),bg λt ht=>hS t (.inr ht)]
 case A_=>simp only[eb.rd,List.mem_append]at hS;simp only[aq,bg λt ht=>hS t (.inl ht),bg λt ht=>hS t (.inr ht)]
 case eqs=>simp only[eb.rd,List.mem_append]at hS;simp only[aq,bg λt ht=>hS t (.inl ht),bg λt ht=>hS t (.inr ht)]
 case nW xs=>
  have:=uv (S:=S) (S':=S') (ys:=xs) λy hy t ht=>hS t (List.mem_flatMap.2 ⟨y,hy,ht⟩)
  simp only[aq,this]
 case n9=>simp only[eb.rd,List.mem_append]at hS;simp only[aq,bg λt ht=>hS t (.inl ht),bg λt ht=>hS t (.inr ht)]
 case nZ=>simp only[eb.rd,List.mem_append]at hS;simp only[aq,bg λt ht=>hS t (.inl ht),bg λt ht=>hS t (.inr ht)]
 case lookup=>simp only[eb.rd,List.mem_append]at hS;simp only[aq,bg λt ht=>hS t (.inl ht),bg λt ht=>hS t (.inr ht)]
 case indexAddr=>simp only[eb.rd,List.mem_append]at hS;simp only[aq,bg λt ht=>hS t (.inl ht),bg λt ht=>hS t (.inr ht)]
 case nR=>simp only[eb.rd,List.mem_append]at hS;simp only[aq,bg λt ht=>hS t (.inl ht),bg λt ht=>hS t (.inr ht)]
 case append=>simp only[eb.rd,List.mem_append]at hS;simp only[aq,bg λt ht=>hS t (.inl ht),bg λt ht=>hS t (.inr ht)]
 case max=>simp only[eb.rd,List.mem_append]at hS;simp only[aq,bg λt ht=>hS t (.inl ht),bg λt ht=>hS t (.inr ht)]
 case min=>simp only[eb.rd,List.mem_append]at hS;simp only[aq,bg λt ht=>hS t (.inl ht),bg λt ht=>hS t (.inr ht)]
 all_goals first
  |rfl
  |simp only[aq,bg hS]
def Al{H H':ah}{v:AV}(h:qh v=false):fG H v=fG H' v:=by cases v<;>first|rfl|cases h
def wJ{H H':ah}{v:AV}(h:bR v=false):fz H v=fz H' v:=by
 cases v<;>first|rfl|skip
 case box=>cases h
 case func fn first cap=>
  simp only[bR,Bool.or_eq_false_iff,List.any_eq_false,Bool.not_eq_true]at h;simp only[fz]
  congr 1
  .exact List.map_congr_left λy hy=>Al (h.1 y hy)
  .exact List.map_congr_left λy hy=>Al (h.2 y hy)
def F5{S S':af}{H H':ah}{op:eb}{dst:Option Nat}{e:aB}(hS:∀t∈op.rd,S t=S' t)(hH:sS op.acc H H')(h:jW P GI op dst S H e):jW P GI op dst S' H' e:=by
 cases op
 case alloc=>exact h
 case box=>exact h
 case panic=>exact h
 case other=>exact h
 case call f args=>
  simp only[eb.rd,List.mem_flatMap]at hS;simp only[jW]at h⊢;obtain⟨hb,h⟩:=h
  have h2:(args.any λy=>bR (ev S y))=(args.any λy=>bR (ev S' y)):=by
   rw[Bool.eq_iff_iff];simp only[List.any_eq_true]
   constructor
   .rintro⟨y,hy,hb⟩;exact⟨y,hy,by rw[<-bg λt ht=>hS t ⟨y,hy,ht⟩];exact hb⟩
   .rintro⟨y,hy,hb⟩;exact⟨y,hy,by rw[bg λt ht=>hS t ⟨y,hy,ht⟩];exact hb⟩
  have h1:(args.map λy=>fz H (ev S y))=(args.map λy=>fz H' (ev S' y)):=List.map_congr_left λy hy=>by
   rw[<-bg λt ht=>hS t ⟨y,hy,ht⟩];simp only[List.any_eq_false,Bool.not_eq_true]at hb;exact wJ (hb y hy)
  rw[<-h1,<-h2];exact⟨hb,h⟩
 case gI f args=>
  simp only[eb.rd,List.mem_append,List.mem_flatMap]at hS;simp only[jW]at h⊢
  have h1:=uv (S:=S) (S':=S') (ys:=args) λy hy t ht=>hS t (.inr ⟨y,hy,ht⟩)
  rw[<-bg λt ht=>hS t (.inl ht)];split at h
  case h_2=>exact h.elim
  obtain⟨hb,h⟩:=h;rw[<-h1];refine⟨hb,?_⟩
  have h3:∀l:List AV,l.any bR=false->l.map (fz H)=l.map (fz H'):=λl hl=>List.map_congr_left λy hy=>by
   simp only[List.any_eq_false,Bool.not_eq_true]at hl;exact wJ (hl y hy)
  rw[<-h3 _ hb];exact h
 all_goals
  simp only[jW]at h⊢;rw[<-Dn hS hH];exact h
def aB.si{e:aB}{S:af}{dst:Option Nat}{t:Nat}(h1:dst≠some t)(h2:e.dm≠some t):e.S S dst t=S t:=by
 unfold aB.S
 cases dst with
 |none=>
  cases hd:e.dm with
  |none=>rfl
  |some k=>simp only[aH];exact aJ _ _ (λh=>h2 (by rw[hd,h]))
 |some d=>
  simp only[aH];rw[aJ _ _ (λh=>h1 (by rw[h]))]
  cases hd:e.dm with
  |none=>rfl
  |some k=>exact aJ _ _ (λh=>h2 (by rw[hd,h]))
def yD(acc:Acc)(H:ah):Option (Nat×List AV)->Prop
 |none=>True
 |some (i,cs)=>match acc with
  |.soft r=>meets r (some i)=true/\∃old,H i=some old/\old.map AV.aw=cs.map AV.aw
  |.wr r=>meets r (some i)=true
  |_=>False
def yH{hr:HR}{i:Nat}(h:hr.okB i=true):meets hr.one (some i)=true:=by
 cases hr with
 |any=>rfl
 |ref=>cases h
 |box r=>simp only[HR.okB]at h;simp only[HR.one,meets];rw[beq_iff_eq]at h⊢;exact h.symm
def gK(v:AV):v.aw=v.aw.aw:=(AV.idem v).symm
def Lo{S:af}{H:ah}{op:eb}{e:aB}(h:aq S H op=some e):(∀t,e.dm=some t->t∈op.wr)/\yD op.acc H e.hw:=by
 cases op
 case mv tk x=>
  simp only[aq]at h
  split at h<;>cases h
  .rename_i kW;subst kW;refine⟨λt ht=>?_,trivial⟩
   cases x<;>simp only[aY]at ht<;>cases ht
   simp[eb.wr,bZ.tmps]
  .exact⟨λt ht=>(by cases ht),trivial⟩
 case store hr s x y=>
  simp only[aq]at h
  split at h<;>try cases h
  split at h<;>try cases h
  split at h<;>try cases h
  split at h<;>cases h
  rename_i bo _ _ _ _;refine⟨λt ht=>?_,yH (by assumption)⟩
  cases y<;>simp only[aY]at ht<;>cases ht
  simp[eb.wr,bZ.tmps]
 case loadT hr x=>
  simp only[aq]at h
  split at h<;>try cases h
  split at h<;>try cases h
  split at h<;>try cases h
  split at h<;>cases h
  refine⟨λt ht=>(by cases ht),yH (by assumption),_,by assumption,?_⟩;rename_i cs lz _ v hv;rw[List.map_set];obtain⟨ao,rfl⟩:=List.getElem?_eq_some_iff.1 hv;apply List.ext_getElem (by simp);intro j h1 h2;rw[List.getElem_set];split
  .rename_i hj;subst hj;simp only[List.getElem_map];exact gK _
  .rfl
 case append t e s b x y=>
  simp only[aq]at h;split at h
  .split at h<;>cases h
   exact⟨λt ht=>(by cases ht),trivial⟩
  .split at h<;>cases h
   refine⟨λt ht=>?_,trivial⟩
   cases x<;>simp only[aY]at ht<;>cases ht
   simp[eb.wr,bZ.tmps]
  .cases h
 all_goals
  simp only[aq]at h
  first
   |(cases h;done)
   |(simp only[Option.map_eq_some_iff]at h;obtain⟨_,_,rfl⟩:=h;exact⟨λt ht=>(by cases ht),trivial⟩)
   |((repeat' split at h)<;>first|(cases h;done)|(cases h;exact⟨λt ht=>(by cases ht),trivial⟩)|(simp only[Option.map_eq_some_iff]at h;obtain⟨_,_,rfl⟩:=h;exact⟨λt ht=>(by cases ht),trivial⟩))
def EE{S:af}{H:ah}{op:eb}{dst:Option Nat}{e:aB}(h:jW P GI op dst S H e):(∀t,e.dm=some t->t∈op.wr)/\yD op.acc H e.hw:=by
 cases op
 case alloc=>
  simp only[jW]at h;split at h
  .subst h;exact⟨λt ht=>(by cases ht),trivial⟩
  .exact h.elim
 case box=>exact h.elim
 case panic=>exact h.elim
 case other=>exact h.elim
 case call f args=>
  obtain⟨_,out,_,_,_,h4⟩:=h
  cases out with
  |ret v=>cases(show e=_ from h4);exact⟨λt ht=>(by cases ht),trivial⟩
  |panic v=>exact h4.elim
 case gI f args=>
  simp only[jW]at h;split at h
  .obtain⟨_,out,_,_,_,h4⟩:=h
   cases out with
   |ret v=>cases(show e=_ from h4);exact⟨λt ht=>(by cases ht),trivial⟩
   |panic v=>exact h4.elim
  .exact h.elim
 all_goals exact Lo h
def eR{S:af}{H:ah}{o:bc}{e:aB}(h:d_ P GI o S H e):(∀t,e.dm=some t->t∈o.op.wr)/\yD o.op.acc H e.hw:=by
 unfold d_ at h;split at h
 .exact EE h
 .subst h;exact⟨λt ht=>(by cases ht),trivial⟩
 .exact h.elim
def ru{S S':af}{gd:Option (Nat×Bool)}(h:∀t b,gd=some (t,b)->S t=S' t):an S gd=an S' gd:=by
 cases gd with
 |none=>rfl
 |some p=>obtain⟨t,b⟩:=p;simp only[an,h t b rfl]
def tj{S S':af}{H H':ah}{o:bc}{e:aB}(hS:∀t∈o.reads,S t=S' t)(hH:sS o.op.acc H H')(h:d_ P GI o S H e):d_ P GI o S' H' e:=by
 unfold d_ at*
 have hg:an S o.guard=an S' o.guard:=ru λt b yc=>hS t (by simp[bc.reads,yc])
 rw[<-hg];split at h
 .exact F5 (λt ht=>hS t (by simp[bc.reads,ht])) hH h
 .exact h
 .exact h
def yK(a b:Acc):a.conflict b=b.conflict a:=by
 cases a<;>cases b<;>simp only[Acc.conflict]<;>(rename_i x y;cases x<;>cases y<;>simp only[meets];rw[Bool.eq_iff_iff,beq_iff_eq,beq_iff_eq];exact eq_comm)
def apart_spec {x y:bc} (h:x.apart y=true) :
  (∀t∈x.writes,t∉y.reads/\t∉y.writes)/\(∀t∈y.writes,t∉x.reads)/\x.op.acc.conflict y.op.acc=false:=by
 simp only[bc.apart,Bool.and_eq_true,List.all_eq_true,Bool.not_eq_true']at h;obtain⟨⟨h1,h2⟩,h3⟩:=h;refine⟨λt ht=>?_,λt ht=>?_,h3⟩
 .have:=h1 t ht;simpa using this
 .have:=h2 t ht;simpa using this
def yT{x y:Acc}(hc:x.conflict y=false){e:aB}{H:ah}(hw:yD y H e.hw):sS x H (e.H H):=by
 have refl:∀{H':ah},H=H'->sS x H H':=by
  rintro _ rfl
  cases x with
  |no=>trivial
  |rd r=>cases r<;>simp[sS]
  |soft r=>cases r<;>simp[sS]
  |wr r=>cases r<;>simp[sS]
 unfold aB.H
 cases hh:e.hw with
 |none=>exact refl rfl
 |some p=>
  obtain⟨i,cs⟩:=p;rw[hh]at hw;simp only
  cases x with
  |no=>trivial
  |rd r=>
   cases y with
   |no=>exact hw.elim
   |rd=>exact hw.elim
   |soft q=>
    obtain⟨_,old,h1,h2⟩:=hw
    have key:∀j,(H j).map (·.map AV.aw)=(au H i (some cs) j).map (·.map AV.aw):=by
     intro j
     by_cases hj:j=i
     .subst hj;rw[aN,h1];simp[h2]
     .rw[aJ _ _ hj]
    cases r with
    |none=>exact key
    |some r=>exact key r
   |wr q=>
    cases r with
    |none=>cases q<;>simp[Acc.conflict,meets]at hc
    |some r=>
     cases q with
     |none=>simp[Acc.conflict,meets]at hc
     |some q=>
      simp only[Acc.conflict,meets,beq_eq_false_iff_ne]at hc
      have hq:q=i:=by simpa[yD,meets]using hw
      subst hq;simp only[sS];rw[aJ _ _ hc]
  |soft r=>
   have bt:∀q,meets q (some i)=true->meets r q=false->∃r',r=some r'/\r'≠i:=by
    intro q h1 h2
    cases r with
    |none=>cases q<;>simp[meets]at h2
    |some r=>
     cases q with
     |none=>simp[meets]at h2
     |some q=>
      simp only[meets,beq_iff_eq,beq_eq_false_iff_ne]at h1 h2;exact⟨r,rfl,by rw[<-h1];exact h2⟩
   cases y with
   |no=>exact hw.elim
   |rd=>exact hw.elim
   |soft q=>
    obtain⟨r',rfl,hn⟩:=bt q hw.1 hc;simp only[sS];rw[aJ _ _ hn]
   |wr q=>
    obtain⟨r',rfl,hn⟩:=bt q hw hc;simp only[sS];rw[aJ _ _ hn]
  |wr r=>
   have bt:∀q,meets q (some i)=true->meets r q=false->∃r',r=some r'/\r'≠i:=by
    intro q h1 h2
    cases r with
    |none=>cases q<;>simp[meets]at h2
    |some r=>
     cases q with
     |none=>simp[meets]at h2
     |some q=>
      simp only[meets,beq_iff_eq,beq_eq_false_iff_ne]at h1 h2;exact⟨r,rfl,by rw[<-h1];exact h2⟩
   cases y with
   |no=>exact hw.elim
   |rd=>exact hw.elim
   |soft q=>
    obtain⟨r',rfl,hn⟩:=bt q hw.1 hc;simp only[sS];rw[aJ _ _ hn]
   |wr q=>
    obtain⟨r',rfl,hn⟩:=bt q hw hc;simp only[sS];rw[aJ _ _ hn]
def sS.symm{x:Acc}{H H':ah}(h:sS x H H'):sS x H' H:=by
 cases x with
 |no=>trivial
 |rd r=>cases r with
  |none=>exact λi=>(h i).symm
  |some r=>exact Eq.symm h
 |soft r=>cases r<;>exact Eq.symm h
 |wr r=>cases r<;>exact Eq.symm h
def eS{o:bc}{t:Nat}(h:o.dst=some t\/t∈o.op.wr):t∈o.writes:=by
 rcases h with h|h<;>simp[bc.writes,h]
def qc{x y:bc}{S:af}{H:ah}{ex ey:aB}(ha:x.apart y=true)(hy:d_ P GI y S H ey)(hx:d_ P GI x S H ex):d_ P GI x (ey.S S y.dst) (ey.H H) ex:=by
 obtain⟨h1,h2,h3⟩:=apart_spec ha;obtain⟨d1,d2⟩:=eR hy;refine tj (λt ht=>?_) (yT h3 d2) hx;rw[aB.si (λh=>h2 t (eS (.inl h)) ht) (λh=>h2 t (eS (.inr (d1 t h))) ht)]
def qe{x y:bc}{S:af}{H:ah}{ex ey:aB}(ha:x.apart y=true)(hx:d_ P GI x S H ex)(hy:d_ P GI y (ex.S S x.dst) (ex.H H) ey):d_ P GI y S H ey:=by
 obtain⟨h1,h2,h3⟩:=apart_spec ha;obtain⟨d1,d2⟩:=eR hx;refine tj (λt ht=>?_) (yT (by rw[yK];exact h3) d2).symm hy;rw[aB.si (λh=>(h1 t (eS (.inl h))).1 ht) (λh=>(h1 t (eS (.inr (d1 t h)))).1 ht)]
def aB.aag(e:aB)(S:af)(dst:Option Nat)(t:Nat):e.S S dst t=if dst=some t then e.v else if e.dm=some t then(S t).aw else S t:=by
 unfold aB.S
 cases dst with
 |none=>
  rw[if_neg (by simp)]
  cases e.dm with
  |none=>rfl
  |some k=>
   simp only[aH,Option.some.injEq]
   by_cases h:k=t
   .subst h;simp[aN]
   .rw[if_neg h];exact aJ _ _ (λhh=>h hh.symm)
 |some d=>
  simp only[aH,Option.some.injEq]
  by_cases hd:d=t
  .subst hd;simp[aN]
  .rw[if_neg hd,aJ _ _ (λhh=>hd hh.symm)]
   cases e.dm with
   |none=>rfl
   |some k=>
    simp only[Option.some.injEq]
    by_cases h:k=t
    .subst h;simp[aN]
    .rw[if_neg h];exact aJ _ _ (λhh=>h hh.symm)
def tE {x y:bc} {S:af} {ex ey:aB} (ha:x.apart y=true) (dx:∀ t,ex.dm=some t→t∈x.op.wr) (dy:∀ t,ey.dm=some t→t∈y.op.wr) :
  ey.S (ex.S S x.dst) y.dst=ex.S (ey.S S y.dst) x.dst:=by
 obtain⟨h1,h2,h3⟩:=apart_spec ha
 funext t
 simp only[aB.aag]
 by_cases hx:x.dst=some t\/ex.dm=some t
 .have hxw:t∈x.writes:=eS (hx.imp id (dx t))
  have Ea:y.dst≠some t:=λh=>(h1 t hxw).2 (eS (.inl h))
  have tQ:ey.dm≠some t:=λh=>(h1 t hxw).2 (eS (.inr (dy t h)))
  simp only[if_neg Ea,if_neg tQ]
 .simp only[not_or]at hx;simp only[if_neg hx.1,if_neg hx.2]
def t_ {x y:bc} {H:ah} {ex ey:aB} (ha:x.apart y=true) (dx:yD x.op.acc H ex.hw) (dy:yD y.op.acc H ey.hw) :
  ey.H (ex.H H)=ex.H (ey.H H):=by
 obtain⟨_,_,h3⟩:=apart_spec ha;unfold aB.H
 cases hx:ex.hw with
 |none=>rfl
 |some p=>
  cases hy:ey.hw with
  |none=>rfl
  |some q=>
   obtain⟨i,cs⟩:=p;obtain⟨j,ds⟩:=q;rw[hx]at dx;rw[hy]at dy;simp only
   have bt:i≠j:=by
    have key:∀a b:Option Nat,meets a (some i)=true->meets b (some j)=true->meets a b=false->i≠j:=by
     intro a b h1 h2 h3
     cases a with
     |none=>cases b<;>simp[meets]at h3
     |some a=>
      cases b with
      |none=>simp[meets]at h3
      |some b=>
       simp only[meets,beq_iff_eq,beq_eq_false_iff_ne]at h1 h2 h3;rw[<-h1,<-h2];exact h3
    generalize x.op.acc=ax at dx h3;generalize y.op.acc=ay at dy h3
    cases ax<;>cases ay<;>first|(exact dx.elim)|(exact dy.elim)|skip
    .exact key _ _ dx.1 dy.1 h3
    .exact key _ _ dx.1 dy h3
    .exact key _ _ dx dy.1 h3
    .exact key _ _ dx dy h3
   funext k
   by_cases h1:k=i
   .subst h1;rw[aJ _ _ bt,aN,aN]
   .by_cases h2:k=j
    .subst h2;rw[aN,aJ _ _ h1,aN]
    .rw[aJ _ _ h2,aJ _ _ h1,aJ _ _ h1,aJ _ _ h2]
end
section
variable{P:Program}{GI:World->Prop}{md:Region.Mode}{ops:Array Oper}{n:Nat}
def iD(P:Program)(n:Nat)(ops:Array Oper)(i:Nat):Option bc:=(ops[i]?).map (aW P n true ops)
def FO(P:Program)(GI:World->Prop)(n:Nat)(ops:Array Oper)(i:Nat)(K:af->ah->Prop)(S:af)(H:ah):Prop:=
 match iD P n ops i with
 |none=>False
 |some o=>∃e,d_ P GI o S H e/\K (e.S S o.dst) (e.H H)
def uD(P:Program)(GI:World->Prop)(n:Nat)(md:Region.Mode)(ops:Array Oper)(QA:af->ah->Prop):Nat->Array Bool->af->ah->Prop
 |0,listed,S,H=>Region.ready md ops listed=[]/\QA S H
 |fuel+1,listed,S,H=>(Region.ready md ops listed=[]->QA S H)/\∀i∈Region.ready md ops listed,FO P GI n ops i (uD P GI n md ops QA fuel (listed.setIfInBounds i true)) S H
def ta{listed:Array Bool}{i:Nat}(h:i∈Region.ready md ops listed):∃o,ops[i]?=some o/\iD P n ops i=some (aW P n true ops o):=by
 obtain⟨_,o,ho,_⟩:=mem_ready.1 h;exact⟨o,ho,by simp[iD,ho]⟩
def ET {QA:af→ah→Prop} {i:Nat} {oi:bc} {e:aB} (hi:iD P n ops i=some oi) :
  ∀(fuel:Nat)(listed:Array Bool)(S:af)(H:ah),
   (∀j o aj,ops[j]?=some o->iD P n ops j=some aj->j≠i->listed.getD j true=false->(∀ed∈o.after,Region.binds md ed=true->ed.on≠i)->oi.apart aj=true)->
   i∈Region.ready md ops listed->d_ P GI oi S H e->
   uD P GI n md ops QA fuel (listed.setIfInBounds i true) (e.S S oi.dst) (e.H H)->uD P GI n md ops QA (fuel+1) listed S H:=by
 intro fuel
 induction fuel with
 |zero=>
  intro listed S H _ hr hy hK;refine⟨λh=>(by rw[h]at hr;cases hr),λj hj=>?_⟩
  by_cases eL:j=i
  .subst eL;unfold FO;rw[hi];exact⟨e,hy,hK⟩
  .have:=ready_mono hj eL;rw[hK.1]at this;cases this
 |succ fuel ih=>
  intro listed S H oQ hr hy hK;refine⟨λh=>(by rw[h]at hr;cases hr),λj hj=>?_⟩
  by_cases eL:j=i
  .subst eL;unfold FO;rw[hi];exact⟨e,hy,hK⟩
  .have h1:=hK.2 j (ready_mono hj eL);obtain⟨u9,o,ho,eP⟩:=mem_ready.1 hj
   have pK:iD P n ops j=some (aW P n true ops o):=by simp[iD,ho]
   have Ah:∀ed∈o.after,Region.binds md ed=true->ed.on≠i:=λed Me hb heq=>by
    have h1:=eP ed Me hb;have h0:=(mem_ready.1 hr).1;rw[heq]at h1;rcases Nat.lt_or_ge i listed.size with h'|h'
    .simp[h']at h0 h1;rw[h0]at h1;cases h1
    .simp[Array.getElem?_eq_none h']at h1
   have nv:=oQ j o _ ho pK eL u9 Ah;unfold FO at h1⊢;rw[pK]at h1⊢;obtain⟨ej,AR,L3⟩:=h1;have rA:=qe nv hy AR;refine⟨ej,rA,?_⟩
   have sM:∀k o' ak,ops[k]?=some o'->iD P n ops k=some ak->k≠i->(listed.setIfInBounds j true).getD k true=false->(∀ed∈o'.after,Region.binds md ed=true->ed.on≠i)->oi.apart ak=true:=by
    intro k o' ak hk HY x_ fN dp;refine oQ k o' ak hk HY x_ ?_ dp
    by_cases xQ:j=k
    .subst xQ;exact u9
    .rw[getD_set_ne true xQ]at fN;exact fN
   refine ih (listed.setIfInBounds j true) _ _ sM (ready_mono hr (Ne.symm eL)) (qc nv rA hy) ?_;rw[Array.setIfInBounds_comm _ _ eL];rw[<-tE nv (eR hy).1 (eR AR).1,<-t_ nv (eR hy).2 (eR rA).2];exact L3
def Cm(md:Region.Mode)(ops:Array Oper)(al:List bc)(listed:Array Bool)(i:Nat):Bool:=
 match al[i]? with
 |none=>false
 |some oi=>(List.range ops.size).all fun j=>j==i || listed.getD j true || match ops[j]?,al[j]? with
   |some oj,some aj=>oj.after.any (λe=>Region.binds md e&&e.on==i)||oi.apart aj
   |_,_=>true
def F8(md:Region.Mode)(ops:Array Oper)(al:List bc):Nat->Nat->Array Bool->Bool
 |0,_,listed=>(Region.ready md ops listed).isEmpty
 |fuel+1,k,listed=>(Region.ready md ops listed).contains k&&Cm md ops al listed k&&F8 md ops al fuel (k+1) (listed.setIfInBounds k true)
def e_(i:Nat):(aO P n true ops)[i]?=iD P n ops i:=by simp[aO,iD]
def xz {i:Nat} {oi:bc} {listed:Array Bool} (hi:iD P n ops i=some oi) (h:Cm md ops (aO P n true ops) listed i=true) (j:Nat) (o:Oper) (aj:bc)
  (hj:ops[j]?=some o) (pK:iD P n ops j=some aj) (bt:j≠i) (fN:listed.getD j true=false) (dp:∀e∈o.after,Region.binds md e=true->e.on≠i):oi.apart aj=true:=by
 simp only[Cm,e_,hi,List.all_eq_true,List.mem_range]at h;have h1:=h j (Array.getElem?_eq_some_iff.1 hj).1;simp only[hj,pK,Bool.or_eq_true,beq_iff_eq,bt,false_or,fN,Bool.false_eq_true]at h1;rcases h1 with h1|h1
 .obtain⟨e,he,hb⟩:=Array.any_eq_true'.1 h1;simp only[Bool.and_eq_true,beq_iff_eq]at hb;exact absurd hb.2 (dp e he hb.1)
 .exact h1
def wA {QA:af→ah→Prop}:∀ (l:List Oper) (k:Nat) (listed:Array Bool) (S:af) (H:ah),(∀ j,l[j]? = ops[k+j]?) →
  F8 md ops (aO P n true ops) l.length k listed=true->cM P GI (l.map (aW P n true ops)) QA S H->uD P GI n md ops QA l.length listed S H
 |[],_,_,_,_,_,hB,h=>⟨by simpa[F8]using hB,h⟩
 |o::l,k,listed,S,H,hl,hB,h=>by
  have h0:ops[k]?=some o:=by simpa using(hl 0).symm
  have ha:iD P n ops k=some (aW P n true ops o):=by simp[iD,h0]
  simp only[List.length_cons,F8,Bool.and_eq_true]at hB;obtain⟨⟨hr,hf⟩,NZ⟩:=hB;obtain⟨e,hy,hK⟩:=qN h
  exact ET ha l.length listed S H (xz ha hf) (by simpa using hr) hy
   (wA l (k+1) _ _ _ (λj=>by have:=hl (j+1);simpa[Nat.add_assoc,Nat.add_comm 1 j]using this) NZ hK)
def aR(o:bc):Option (Nat×List AV):=
 match o.op,o.dst with
 |.alloc _ z,some d=>some (d,z)
 |_,_=>none
def UU(P:Program)(n:Nat)(ops:Array Oper)(listed:Array Bool)(t:Nat):Prop:=
 ∃j o z,iD P n ops j=some o/\aR o=some (t,z)/\listed.getD j true=false
def mG(md:Region.Mode)(ops:Array Oper)(al:List bc):Bool:=
 (List.range ops.size).all λj=>match ops[j]?,al[j]? with
  |some oj,some aj=>match aR aj with
   |some (d,_)=>oj.after.isEmpty && aj.guard.isNone && (List.range ops.size).all fun k=>k==j || match ops[k]?,al[k]? with
     |some ok,some ak=>!ak.writes.contains d&&(!ak.reads.contains d||ok.after.any (λe=>Region.binds md e&&e.on==j))
     |_,_=>false
   |none=>true
  |_,_=>false
def j4 (h:mG md ops (aO P n true ops)=true) {j:Nat} {oj:Oper} {aj:bc} {d:Nat} {z:List AV} (hj:ops[j]? = some oj) (pK:iD P n ops j=some aj) (hd:aR aj=some (d,z)) :
  oj.after=#[]/\aj.guard=none/\∀k ok ak,ops[k]?=some ok->iD P n ops k=some ak->k≠j->d∉ak.writes/\(d∈ak.reads->∃e∈ok.after,Region.binds md e=true/\e.on=j):=by
 simp only[mG,List.all_eq_true,List.mem_range]at h;have h1:=h j (Array.getElem?_eq_some_iff.1 hj).1;simp only[hj,e_,pK,hd,Bool.and_eq_true,List.all_eq_true,List.mem_range]at h1;obtain⟨⟨h2,h3⟩,h4⟩:=h1;refine⟨by simpa using h2,by simpa using h3,λk ok ak hk HY bt=>?_⟩;have h5:=h4 k (Array.getElem?_eq_some_iff.1 hk).1;simp only[hk,HY,Bool.or_eq_true,beq_iff_eq,bt,false_or,Bool.and_eq_true,Bool.not_eq_true']at h5;refine⟨by simpa using h5.1,λhd=>?_⟩;rcases h5.2 with h6|h6
 .simp at h6;exact absurd hd h6
 .obtain⟨e,he,hb⟩:=Array.any_eq_true'.1 h6;simp only[Bool.and_eq_true,beq_iff_eq]at hb;exact⟨e,he,hb⟩
def Gv(hA:mG md ops (aO P n true ops)=true){listed:Array Bool}(hr:Region.ready md ops listed=[]):UU P n ops listed=bp:=by
 funext t
 simp only[bp,eq_iff_iff,iff_false];rintro⟨j,o,z,h1,h2,h3⟩;unfold iD at h1
 cases hj:ops[j]? with
 |none=>simp[hj]at h1
 |some oj=>
  have pK:iD P n ops j=some o:=by unfold iD;exact h1
  obtain⟨ha,_,_⟩:=j4 hA hj pK h2;have:j∈Region.ready md ops listed:=mem_ready.2 ⟨h3,oj,hj,λe he=>by rw[ha]at he;simp at he⟩;rw[hr]at this;cases this
def Bz{listed:Array Bool}{i:Nat}{oi:bc}(hi:iD P n ops i=some oi)(dp:aR oi=none):UU P n ops (listed.setIfInBounds i true)=UU P n ops listed:=by
 funext t
 simp only[UU,eq_iff_iff]
 constructor
 .rintro⟨j,o,z,h1,h2,h3⟩;refine⟨j,o,z,h1,h2,?_⟩
  by_cases eL:i=j
  .subst eL;rw[hi]at h1;cases h1;rw[dp]at h2;cases h2
  .rwa [getD_set_ne true eL]at h3
 .rintro⟨j,o,z,h1,h2,h3⟩;refine⟨j,o,z,h1,h2,?_⟩
  by_cases eL:i=j
  .subst eL;rw[hi]at h1;cases h1;rw[dp]at h2;cases h2
  .rwa [getD_set_ne true eL]
def Lp (hA:mG md ops (aO P n true ops)=true) {listed:Array Bool} {i d:Nat} {o:Oper} {oi:bc} {z:List AV} (ho:ops[i]? = some o) (hi:iD P n ops i=some oi) (hd:aR oi=some (d,z)) (ao:i < listed.size) :
  UU P n ops (listed.setIfInBounds i true)=λt=>UU P n ops listed t/\t≠d:=by
 obtain⟨_,_,kR⟩:=j4 hA ho hi hd
 funext t
 simp only[UU,eq_iff_iff]
 constructor
 .rintro⟨j,oj,z',h1,h2,h3⟩
  have eL:i≠j:=by rintro rfl;simp[ao]at h3
  refine⟨⟨j,oj,z',h1,h2,by rwa [getD_set_ne true eL]at h3⟩,?_⟩;rintro rfl
  have hj:∃o',ops[j]?=some o':=by
   unfold iD at h1
   cases hj:ops[j]? with
   |none=>simp[hj]at h1
   |some o'=>exact⟨o',rfl⟩
  obtain⟨o',hj⟩:=hj;have:=(kR j o' oj hj h1 (Ne.symm eL)).1;apply this;unfold aR at h2;split at h2
  .rename_i gG;simp only[Option.some.injEq,Prod.mk.injEq]at h2;rw[h2.1]at gG;exact eS (.inl gG)
  .cases h2
 .rintro⟨⟨j,oj,z',h1,h2,h3⟩,bt⟩
  have eL:i≠j:=by
   rintro rfl;rw[hi]at h1;cases h1;rw[hd]at h2;simp only[Option.some.injEq,Prod.mk.injEq]at h2;exact bt h2.1.symm
  exact⟨j,oj,z',h1,h2,by rwa [getD_set_ne true eL]⟩
end
section
variable{P:Program}{GI:World->Prop}{w0:World}{n:Nat}{U:Nat->Prop}{g:Gh}{S:af}{H:ah}{a:Act}{w:World}{ops:Array Oper}
def FV{dr:Bool}{o:bc}{x:Oper}{hr:HR}{size:Nat}{y z:bZ}(hc:aW P n dr ops x=o)(h:o.op=.store hr size y z):∃x',dg n x'=some y:=by
 subst hc;unfold aW at h;revert h;generalize(match x.dst with|some d=>taken ops d|none=>false)=tk;intro h;simp only at h;unfold comp at h
 repeat' split at h
 all_goals first
  |(cases h;done)
  |(cases h;exact⟨_,by assumption⟩)
def Ex{dr:Bool}{o:bc}{x:Oper}{hr:HR}{y:bZ}(hc:aW P n dr ops x=o)(h:o.op=.loadT hr y):∃x',dg n x'=some y:=by
 subst hc;unfold aW at h;revert h;generalize(match x.dst with|some d=>taken ops d|none=>false)=tk;intro h;simp only at h;unfold comp at h
 repeat' split at h
 all_goals first
  |(cases h;done)
  |(cases h;exact⟨_,by assumption⟩)
def U_(R:Rel P w0 n U g S H a w){o:Oper}{dst:Option Nat}{e:aB}(dc:∀t∈(aW P n true ops o).op.rd,¬U t)(h:jW P GI (aW P n true ops o).op dst S H e){i:Nat}{cs:List AV}(hw:e.hw=some (i,cs)):(g.al i).isSome=true:=by
 have Fh:=(EE h).2;rw[hw]at Fh
 have box:∀{y:bZ}{x':Operand}{off:Nat},dg n x'=some y->(∀t∈y.tmps,¬U t)->AL.ev S y=.box i off->(g.al i).isSome=true:=by
  intro y x' off hx hu he;have:=R.ev hx hu;rw[he]at this;generalize a.eval x'=c at this
  cases this with
  |data _ _ h=>cases h
  |box _ _ b h=>simp[h]
 generalize hc:(aW P n true ops o).op=op at dc h Fh
 cases op<;>try (exact Fh.elim)
 case load hr _ _ _=>cases hr<;>exact Fh.elim
 case loadT hr y=>
  obtain⟨x',hx⟩:=Ex rfl hc;simp only[jW,aq]at h
  cases pN:AL.ev S y<;>rw[pN]at h<;>simp only at h<;>try cases h
  rename_i k off;split at h
  case isFalse=>cases h
  split at h
  case h_2=>cases h
  split at h
  case h_2=>cases h
  cases h;cases hw;exact box hx dc pN
 case store hr s y z=>
  obtain⟨x',hx⟩:=FV rfl hc;simp only[eb.rd,List.mem_append]at dc;simp only[jW,aq]at h
  cases pN:AL.ev S y<;>rw[pN]at h<;>simp only at h<;>try cases h
  rename_i k off;split at h
  case isFalse=>cases h
  split at h
  case h_2=>cases h
  split at h
  case isFalse=>cases h
  cases h;cases hw;exact box hx (λt ht=>dc t (.inl ht)) pN
def yI{op:eb}(h:op.calm=true){dst:Option Nat}{e:aB}(hd:jW P GI op dst S H e):aq S H op=some e:=by
 cases op<;>first|exact hd|cases h
def Cn (hG:av GI) (db:GI w0) {old:Old} {Q:dU→af→ah→Prop} (hA:mG .any ops (aO P n true ops)=true) (bo:∀ o∈ops,(aW P n true ops o).ok n=true) :
  ∀(fuel:Nat)(listed:Array Bool)(g:Gh)(S:af)(H:ah)(a:Act)(w:World),listed.size=ops.size->g.old=old->Rel P w0 n (UU P n ops listed) g S H a w->
   (∀j o d z,iD P n ops j=some o->aR o=some (d,z)->listed.getD j true=false->S d=.box d 0/\H d=some z)->
   uD P GI n .any ops (Q .normal) fuel listed S H->wpAny P .any ops (QQ P w0 n old Q) fuel listed a w:=by
 intro fuel
 induction fuel with
 |zero=>
  intro listed g S H a w _ ho R _ h;have hU:=Gv hA h.1;rw[hU]at R;exact⟨h.1,g,S,H,ho,R,h.2⟩
 |succ fuel ih=>
  intro listed g S H a w C' ho R hinv h;refine⟨λhr=>?_,λi hi=>?_⟩
  .have hU:=Gv hA hr;rw[hU]at R;exact⟨g,S,H,ho,R,h.1 hr⟩
  .have hd:=h.2 i hi;obtain⟨o,vO,wb⟩:=ta (P:=P) (n:=n) hi;obtain⟨TB,o',kZ,eP⟩:=mem_ready.1 hi;rw[vO]at kZ;cases kZ
   have PC:i<listed.size:=by rw[C'];exact(Array.getElem?_eq_some_iff.1 vO).1
   unfold FO at hd;rw[wb]at hd;obtain⟨e,hy,hK⟩:=hd;have qS:=bo o (Array.mem_of_getElem? vO)
   have Ed:∀t∈(aW P n true ops o).reads,¬UU P n ops listed t:=by
    rintro t ht ⟨j,aj,z,h1,h2,h3⟩
    have hj:∃oj,ops[j]?=some oj:=by
     unfold iD at h1
     cases hj:ops[j]? with
     |none=>simp[hj]at h1
     |some oj=>exact⟨oj,rfl⟩
    obtain⟨oj,hj⟩:=hj;obtain⟨k1,k2,k3⟩:=j4 hA hj h1 h2
    by_cases eL:i=j
    .subst eL;rw[wb]at h1;cases h1;unfold aR at h2;split at h2
     .rename_i dB _;simp only[bc.reads,dB,k2,eb.rd,List.append_nil]at ht;cases ht
     .cases h2
    .obtain⟨ed,he1,Up,he3⟩:=(k3 i o _ vO wb eL).2 ht;have:=eP ed he1 Up;rw[he3]at this;rcases Nat.lt_or_ge j listed.size with h'|h'
     .simp[h']at h3 this;rw[h3]at this;cases this
     .simp[Array.getElem?_eq_none h']at this
   have A0:∀j aj d z,iD P n ops j=some aj->aR aj=some (d,z)->j≠i->d∉(aW P n true ops o).writes:=by
    intro j aj d z h1 h2 bt
    have hj:∃oj,ops[j]?=some oj:=by
     unfold iD at h1
     cases hj:ops[j]? with
     |none=>simp[hj]at h1
     |some oj=>exact⟨oj,rfl⟩
    obtain⟨oj,hj⟩:=hj;exact((j4 hA hj h1 h2).2.2 i o _ vO wb (Ne.symm bt)).1
   have oS:∀t,o.dst=some t->t<n/\t∉(aW P n true ops o).op.rd:=by
    intro t ht;simp only[bc.ok,Bool.and_eq_true]at qS;have h1:=qS.1;rw[show(aW P n true ops o).dst=o.dst from rfl,ht]at h1;simpa using h1
   have UE:aR (aW P n true ops o)=none->∀t,o.dst=some t->¬UU P n ops listed t:=by
    rintro dp t ht ⟨j,aj,z,h1,h2,h3⟩
    have bt:j≠i:=by rintro rfl;rw[wb]at h1;cases h1;rw[dp]at h2;cases h2
    exact A0 j aj t z h1 h2 bt (eS (.inl ht))
   have Np:(∀ k cs,e.hw=some (k,cs)→(g.al k).isSome=true)→∀ j aj d z,iD P n ops j=some aj→aR aj=some (d,z)→(listed.setIfInBounds i true).getD j true=false →
     e.S S o.dst d=.box d 0/\e.H H d=some z:=by
    intro Fh j aj d z h1 h2 h3
    have bt:j≠i:=by rintro rfl;simp[PC]at h3
    have Sl:listed.getD j true=false:=by rwa [getD_set_ne true (Ne.symm bt)]at h3
    obtain⟨k1,k2⟩:=hinv j aj d z h1 h2 Sl;have hw:=A0 j aj d z h1 h2 bt;refine⟨?_,?_⟩
    .show e.S S (aW P n true ops o).dst d=_;rw[aB.si (λhh=>hw (eS (.inl hh))) (λhh=>hw (eS (.inr ((eR hy).1 d hh))))];exact k1
    .unfold aB.H
     cases hh:e.hw with
     |none=>exact k2
     |some p=>
      obtain⟨k,cs⟩:=p
      have FJ:d≠k:=by
       rintro rfl;have:=Fh d cs hh;rw[R.jq d ⟨j,aj,z,h1,h2,Sl⟩]at this;cases this
      simp only[aJ _ _ FJ];exact k2
   have aL:(listed.setIfInBounds i true).size=ops.size:=by simpa using C'
   unfold wpOp;simp only[vO];unfold d_ at hy
   cases sg:an S (aW P n true ops o).guard with
   |none=>rw[sg]at hy;exact hy.elim
   |some b=>
    rw[p8 R (λt b hg=>Ed t (by simp[bc.reads,hg])) qS sg];rw[sg]at hy
    cases b with
    |false=>
     simp only at hy;subst hy;simp only[Bool.false_eq_true,if_false]
     have dp:aR (aW P n true ops o)=none:=by
      cases hh:aR (aW P n true ops o)with
      |none=>rfl
      |some p=>
       obtain⟨d,z⟩:=p;have:=(j4 hA vO wb hh).2.1;rw[this]at sg;cases sg
     have hU:=Bz wb dp (listed:=listed);refine ih _ g _ _ _ _ aL ho ?_ (Np λ_ _ hh=>by cases hh) hK;rw[hU]
     exact R.aH o.dst _ _ (λt ht=>(oS t ht).1) (.data _ _ (rR _ _)) λ_ _=>trivial
    |true=>
     simp only at hy;simp only[if_true];refine .inl ?_
     have Fh:∀k cs,e.hw=some (k,cs)->(g.al k).isSome=true:=λk cs hh=>U_ R (λt ht=>Ed t (by simp only[bc.reads,List.mem_append];exact .inl ht)) hy hh
     have O1:=Np Fh
     have next:aR (aW P n true ops o)=none->∀(g':Gh)(a':Act)(w':World),g'.old=g.old->Rel P w0 n (UU P n ops listed) g' (e.S S o.dst) (e.H H) a' w'->wpAny P .any ops (QQ P w0 n old Q) fuel (listed.setIfInBounds i true) a' w':=by
      intro dp g' a' w' h2 R';refine ih _ g' _ _ _ _ aL (h2.trans ho) ?_ O1 hK;rw[Bz wb dp];exact R'
     have dc:∀t∈(aW P n true ops o).op.rd,¬UU P n ops listed t:=λt ht=>Ed t (by simp only[bc.reads,List.mem_append];exact .inl ht)
     by_cases bf:(aW P n true ops o).op.calm=true
     .have dp:aR (aW P n true ops o)=none:=by
       unfold aR;split
       .rename_i dB _;rw[dB]at bf;cases bf
       .rfl
      refine(tG R rfl bf (λt ht=>⟨(oS t ht).1,UE dp t ht⟩) dc (λt ht=>(oS t ht).2) (yI bf hy)).wp λg' a' w' e1 e2 R'=>next dp g' a' w' e2 R'
     .generalize dB:(aW P n true ops o).op=op at bf hy dc;have rn:comp P n (match o.dst with|some d=>taken ops d|none=>false) (JY ops o) o=op:=dB
      cases op<;>try (exact absurd rfl bf)
      case alloc t cs=>
       simp only[jW]at hy
       cases gG:o.dst with
       |none=>rw[show(aW P n true ops o).dst=o.dst from rfl,gG]at hy;exact hy.elim
       |some d=>
        rw[show(aW P n true ops o).dst=o.dst from rfl,gG]at hy;simp only at hy;subst hy
        have fu:aR (aW P n true ops o)=some (d,cs):=by
         unfold aR;rw[dB,show(aW P n true ops o).dst=o.dst from rfl,gG]
        obtain⟨k1,k2⟩:=hinv i _ d cs wb fu TB;obtain⟨XR,hz⟩:=xM rn;unfold zeroCells at hz;split at hz
        case h_2=>cases hz
        rename_i it mh;split at hz
        case h_2=>cases hz
        rename_i z Vx;obtain⟨h1,h2,h3⟩:=gX g.Pr w hz
        have R2:=R.CM d ⟨i,_,cs,wb,fu,TB⟩ (oS d gG).1 cs z.cells t k1 k2 (by simpa using h1.1) (λj h h'=>by have:=h1.2.1 j h (by simpa using h');simpa using this)
         (λj hj dJ=>⟨h2 _ (List.getElem_mem hj),by have:=h3 P g (.cell d) j hj (by simpa using dJ);rwa [Array.getElem_toList]at this⟩) h1.2.2
        have eO:(execOp a.eval o).run P w=.ok (.value (.pointer (some ⟨w.heap.size,0,none⟩))) (w.alloc (.cells z.cells t)):=by
         unfold execOp;simp[XR,Instr.alloc,zeroValue,typeInfo,mh,Vx,newVar,newRow]
        unfold Oper.wp;rw[eO];show wpAny P .any ops (QQ P w0 n old Q) fuel (listed.setIfInBounds i true) _ _;rw[gG];rw[<-Lp hA vO wb fu PC]at R2
        have hS:au S d (.box d 0)=S:=by
         funext t
         by_cases ht:t=d
         .subst ht;rw[aN,k1]
         .rw[aJ _ _ ht]
        have Xf:uD P GI n .any ops (Q .normal) fuel (listed.setIfInBounds i true) S H:=by
         have:({ v:=.box d 0 }:aB).S S (aW P n true ops o).dst=S:=by
          rw[show(aW P n true ops o).dst=o.dst from rfl,gG];exact hS
         rw[this]at hK;exact hK
        refine ih _ { g with al:=au g.al d (some w.heap.size) } S H _ _ aL ho R2 (λj aj d' z' h1 h2 h3=>?_) Xf;have:=O1 j aj d' z' h1 h2 h3
        have hSS:({ v:=.box d 0 }:aB).S S o.dst=S:=by rw[gG];exact hS
        rw[hSS]at this;exact this
      case call f args=>
       have dp:aR (aW P n true ops o)=none:=by unfold aR;rw[dB]
       exact qf R hG db rn (λt ht=>⟨(oS t ht).1,UE dp t ht⟩) dc hy.2 (λv g' a' w' e1 e2 R' hk=>by subst hk;exact next dp g' a' w' e2 R') (λ_ _ _ _ _ _ _ hf=>hf.elim)
      case gI f args=>
       have dp:aR (aW P n true ops o)=none:=by unfold aR;rw[dB]
       simp only[jW]at hy;split at hy
       case h_2=>exact hy.elim
       rename_i k first cap vn;exact sa R hG db rn (λt ht=>⟨(oS t ht).1,UE dp t ht⟩) dc vn hy.2 (λv g' a' w' e1 e2 R' hk=>by subst hk;exact next dp g' a' w' e2 R') (λ_ _ _ _ _ _ _ hf=>hf.elim)
      case box=>exact hy.elim
      case panic=>exact hy.elim
      case other=>exact hy.elim
def dM:List bc->af->af
 |[],S=>S
 |o::l,S=>match aR o with
  |some (d,_)=>dM l (au (λt=>aZ d (S t)) d (.box d 0))
  |none=>dM l S
def cD:List bc->ah->ah
 |[],H=>H
 |o::l,H=>match aR o with
  |some (d,z)=>cD l (au H d (some z))
  |none=>cD l H
def cH(l:List bc):List Nat:=l.filterMap λo=>(aR o).map (·.1)
def Rel.dM:∀ (l:List bc) {U:Nat→Prop} {g:Gh} {S:af} {H:ah},Rel P w0 n U g S H a w→(cH l).Nodup→(∀ d∈cH l,¬ g.old.bx d) →
  ∃g',g'.base=g.base/\g'.old=g.old/\Rel P w0 n (λt=>U t\/t∈cH l) g' (Go.AL.dM l S) (cD l H) a w
 |[],U,g,S,H,R,_,_=>⟨g,rfl,rfl,by simpa[cH,Go.AL.dM,cD]using R⟩
 |o::l,U,g,S,H,R,hn,bC=>by
  cases ha:aR o with
  |none=>
   have e:cH (o::l)=cH l:=by simp[cH,ha]
   rw[e]at hn bC⊢;simp only[Go.AL.dM,cD,ha];exact Rel.dM l R hn bC
  |some p=>
   obtain⟨d,z⟩:=p
   have e:cH (o::l)=d::cH l:=by simp[cH,ha]
   rw[e]at hn bC⊢;simp only[Go.AL.dM,cD,ha];obtain⟨g',e1,e2,R'⟩:=Rel.dM l (R.suspend d (bC d List.mem_cons_self) (.box d 0) z) (List.nodup_cons.1 hn).2 (λk hk=>bC k (List.mem_cons_of_mem _ hk));refine⟨g',e1,e2,?_⟩
   have:(λt=>U t\/t∈d::cH l)=(λt=>(U t\/t=d)\/t∈cH l):=by
    funext t;simp[or_assoc]
   rw[this];exact R'
def sh:∀(l:List bc)(S:af)(d:Nat),d∉cH l->S d=.box d 0->Go.AL.dM l S d=.box d 0
 |[],S,d,_,h=>h
 |o::l,S,d,hn,h=>by
  cases ha:aR o with
  |none=>simp only[Go.AL.dM,ha];exact sh l S d (by simpa[cH,ha]using hn) h
  |some p=>
   obtain⟨k,z⟩:=p;simp only[Go.AL.dM,ha]
   have oO:d≠k/\d∉cH l:=by simpa[cH,ha]using hn
   refine sh l _ d oO.2 ?_;rw[aJ _ _ oO.1,h];simp[aZ,oO.1]
def qF:∀(l:List bc)(H:ah)(d:Nat)(z:List AV),d∉cH l->H d=some z->cD l H d=some z
 |[],H,d,z,_,h=>h
 |o::l,H,d,z,hn,h=>by
  cases ha:aR o with
  |none=>simp only[cD,ha];exact qF l H d z (by simpa[cH,ha]using hn) h
  |some p=>
   obtain⟨k,z'⟩:=p;simp only[cD,ha]
   have oO:d≠k/\d∉cH l:=by simpa[cH,ha]using hn
   exact qF l _ d z oO.2 (by rw[aJ _ _ oO.1,h])
def vi:∀(l:List bc)(S:af)(H:ah),(cH l).Nodup->∀o∈l,∀d z,aR o=some (d,z)->Go.AL.dM l S d=.box d 0/\cD l H d=some z
 |[],S,H,_,o,ho,_,_,_=>by cases ho
 |o'::l,S,H,hn,o,ho,d,z,hd=>by
  rcases List.mem_cons.1 ho with rfl|ho
  .have e:cH (o::l)=d::cH l:=by simp[cH,hd]
   rw[e]at hn;simp only[Go.AL.dM,cD,hd];exact⟨sh l _ d (List.nodup_cons.1 hn).1 (aN _ _ _),qF l _ d z (List.nodup_cons.1 hn).1 (aN _ _ _)⟩
  .cases ha:aR o' with
   |none=>
    have e:cH (o'::l)=cH l:=by simp[cH,ha]
    rw[e]at hn;simp only[Go.AL.dM,cD,ha];exact vi l S H hn o ho d z hd
   |some p=>
    obtain⟨k,z'⟩:=p
    have e:cH (o'::l)=k::cH l:=by simp[cH,ha]
    rw[e]at hn;simp only[Go.AL.dM,cD,ha];exact vi l _ _ (List.nodup_cons.1 hn).2 o ho d z hd
def DW(P:Program)(n:Nat)(ops:Array Oper):Bool:=
 (aO P n true ops).all (·.ok n)&&mG .any ops (aO P n true ops)&&decide ((cH (aO P n true ops)).Nodup)&&F8 .any ops (aO P n true ops) ops.size 0 (Array.replicate ops.size false)
def Gg (hG:av GI) (db:GI w0) (hm:P.follows .mixedOrders=true) {old:Old} {id:Nat} {Q:dU→af→ah→Prop} (bo:DW P n ops=true) (bC:∀ o∈aO P n true ops,∀ d∈o.fP,¬ old.bx d) (ho:g.old=old) (R:Rel P w0 n bp g S H a w)
  (h:cM P GI (aO P n true ops) (Q .normal) (dM (aO P n true ops) S) (cD (aO P n true ops) H)):(Code.region id ops true).wp P (QQ P w0 n old Q) a w:=by
 simp only[DW,Bool.and_eq_true,decide_eq_true_eq]at bo;obtain⟨⟨⟨h1,h2⟩,h3⟩,h4⟩:=bo;refine wp_region_any hm ?_;have R0:Rel P w0 n bp g S H a { w with drawn:=w.drawn+1 }:=R.oA ((Below.refl _ w).drew)
 obtain⟨g',e1,e2,R'⟩:=Rel.dM (aO P n true ops) R0 h3 (λd hd=>by
  simp only[cH,List.mem_filterMap,Option.map_eq_some_iff]at hd;obtain⟨o,ic,⟨d',z⟩,k1,rfl⟩:=hd;rw[ho];refine bC o ic d' ?_;unfold aR at k1;split at k1
  .rename_i h1 h2;cases k1;simp[bc.fP,h1,h2,eb.fP]
  .cases k1)
 have hU:UU P n ops (Array.replicate ops.size false)=(λt=>bp t\/t∈cH (aO P n true ops)):=by
  funext t
  simp only[UU,bp,false_or,eq_iff_iff,cH,List.mem_filterMap,Option.map_eq_some_iff]
  constructor
  .rintro⟨j,o,z,k1,k2,k3⟩;rw[<-e_]at k1;exact⟨o,List.mem_of_getElem? k1,(t,z),k2,rfl⟩
  .rintro⟨o,ho,⟨d,z⟩,k1,rfl⟩;obtain⟨j,hj⟩:=List.getElem?_of_mem ho;refine⟨j,o,z,by rw[<-e_];exact hj,k1,?_⟩
   have:j<ops.size:=by
    have:=(List.getElem?_eq_some_iff.1 hj).1;simpa[aO]using this
   simp[this]
 refine Cn hG db h2 (λo ic=>?_) ops.size (Array.replicate ops.size false) g' _ _ a _ (by simp) (e2.trans ho) (by rw[hU];exact R') (λj o d z k1 k2 k3=>?_) ?_
 .simp only[aO,List.all_map,List.all_eq_true,Function.comp]at h1;exact h1 o (by simpa using ic)
 .rw[<-e_]at k1;exact vi _ S H h3 o (List.mem_of_getElem? k1) d z k2
 .have:=wA (QA:=Q .normal) ops.toList 0 (Array.replicate ops.size false) _ _ (by simp) (by simpa using h4) h;simpa using this
end
inductive ae where
 |skip
 |ops (l:List bc)
 |cM (l:List bc)
 |seq (x y:ae)
 |cond (c:bZ) (x y:ae)
 |block (id:Nat) (c:ae)
 |loop (c:ae)
 |exit (id:Nat)
 |ret
 |bad
def cE(P:Program)(n:Nat):Code->ae
 |.skip=>.skip
 |.region _ ops draw=>
  if draw then(if DW P n ops then .cM (aO P n true ops)else .bad)
  else(if(aO P n false ops).all (·.ok n)then .ops (aO P n false ops)else .bad)
 |.seq x y=>.seq (cE P n x) (cE P n y)
 |.cond c x y=>match dg n c with
  |some c=>.cond c (cE P n x) (cE P n y)
  |none=>.bad
 |.block id c=>.block id (cE P n c)
 |.loop c=>.loop (cE P n c)
 |.exit id=>.exit id
 |.ret=>.ret
 |_=>.bad
def ct(K:af->ah->Prop)(Q:dU->af->ah->Prop):dU->af->ah->Prop
 |.normal,S,H=>K S H
 |.exit id,S,H=>Q (.exit id) S H
 |.ret,S,H=>Q .ret S H
 |.panic v,S,H=>Q (.panic v) S H
def cb(id:Nat)(Q:dU->af->ah->Prop):dU->af->ah->Prop
 |.normal,S,H=>Q .normal S H
 |.exit j,S,H=>if j=id then Q .normal S H else Q (.exit j) S H
 |.ret,S,H=>Q .ret S H
 |.panic v,S,H=>Q (.panic v) S H
def ae.names:ae->List Nat
 |.ops l=>l.flatMap bc.fP
 |.cM l=>l.flatMap bc.fP
 |.seq x y=>x.names++y.names
 |.cond _ x y=>x.names++y.names
 |.block _ c=>c.names
 |.loop c=>c.names
 |_=>[]
def bq(P:Program)(GI:World->Prop):ae->(dU->af->ah->Prop)->af->ah->Prop
 |.skip,Q,S,H=>Q .normal S H
 |.ops l,Q,S,H=>aV P GI l (Q .normal) (λv=>Q (.panic v) S H) S H
 |.cM l,Q,S,H=>cM P GI l (Q .normal) (dM l S) (cD l H)
 |.seq x y,Q,S,H=>bq P GI x (ct (bq P GI y Q) Q) S H
 |.cond c x y,Q,S,H=>match ev S c with
  |.bool true=>bq P GI x Q S H
  |.bool false=>bq P GI y Q S H
  |.kd=>bq P GI x Q S H/\bq P GI y Q S H
  |_=>False
 |.block id c,Q,S,H=>bq P GI c (cb id Q) S H
 |.loop c,Q,S,H=>∃(I:af->ah->Prop)(μ:af->ah->Nat),I S H/\∀S H,I S H->bq P GI c (ct (λS' H'=>I S' H'/\μ S' H'<μ S H) Q) S H
 |.exit id,Q,S,H=>Q (.exit id) S H
 |.ret,Q,S,H=>Q .ret S H
 |.bad,_,_,_=>False
section
variable{P:Program}{GI:World->Prop}{w0:World}{n:Nat}{g:Gh}{S:af}{H:ah}{a:Act}{w:World}
def Ec {c:Code} {Q:Exit→Act→World→Prop} (J:Nat→Act→World→Prop)
  (round:∀m a w,J m a w->c.wp P (Exit.then (λa' w'=>∃m',m'<m/\J m' a' w') Q) a w) {m:Nat} (h0:J m a w):(Code.loop c).wp P Q a w:=by
 intro b k cs
 have key:∀m a w,J m a w->∃e a' w',Q e a' w'/\Arrives P (lone (b.at a (.code c::.inLoop c::k)) cs w) b k cs e a' w':=by
  intro m
  induction m using Nat.strongRecOn with
  |_ m ih=>
   intro a w hJ;obtain⟨e,iu,jT,hq,gC⟩:=round m a w hJ b (.inLoop c::k) cs
   cases e with
   |normal=>
    obtain⟨m',ao,hJ'⟩:=hq;obtain⟨Au,AA,zZ,tT,oP⟩:=ih m' ao iu jT hJ';exact⟨Au,AA,zZ,tT,.of_steps (Steps.trans gC (.one step_inLoop)) oP⟩
   |exit id=>exact⟨_,iu,jT,hq,.pass (x:=.inLoop c) rfl (λ_ _=>.inl (by simp)) gC⟩
   |goto l=>exact⟨_,iu,jT,hq,.pass (x:=.inLoop c) rfl (λ_ _=>.inl (by simp)) gC⟩
   |ret=>exact⟨_,iu,jT,hq,.pass (x:=.inLoop c) rfl (λ_ _=>.inl (by simp)) gC⟩
   |panic ch=>exact⟨_,iu,jT,hq,.pass (x:=.inLoop c) rfl (λ_ _=>.inl (by simp)) gC⟩
   |outgrown=>exact⟨_,iu,jT,hq,.pass (x:=.inLoop c) rfl (λ_ _=>.inl (by simp)) gC⟩
 obtain⟨e,a',w',hq,gC⟩:=key _ _ _ h0;exact⟨e,a',w',hq,.of_steps (.one step_loop) gC⟩
def lk (hG:av GI) (db:GI w0) (hm:P.follows .mixedOrders=true) {old:Old} :
  ∀(c:Code)(Q:dU->af->ah->Prop)(g:Gh)(S:af)(H:ah)(a:Act)(w:World),(∀d∈(cE P n c).names,¬old.bx d)->g.old=old->Rel P w0 n bp g S H a w->bq P GI (cE P n c) Q S H->c.wp P (QQ P w0 n old Q) a w
 |.skip,Q,g,S,H,a,w,bC,ho,R,h=>wp_skip ⟨g,S,H,ho,R,h⟩
 |.region id ops draw,Q,g,S,H,a,w,bC,ho,R,h=>by
  simp only[cE]at h bC
  cases draw with
  |true=>
   simp only[if_true]at h bC;split at h
   case isFalse=>exact h.elim
   rename_i bo;rw[if_pos bo]at bC;exact Gg hG db hm bo (λo ic d hd=>bC d (List.mem_flatMap.2 ⟨o,ic,hd⟩)) ho R h
  |false=>
   simp only[Bool.false_eq_true,if_false]at h bC;split at h
   case isFalse=>exact h.elim
   rename_i bo;rw[if_pos bo]at bC;exact Iu hG db bo (λo ic d hd=>bC d (List.mem_flatMap.2 ⟨o,ic,hd⟩)) ho R h
 |.seq x y,Q,g,S,H,a,w,bC,ho,R,h=>by
  refine wp_seq (wp_mono (lk hG db hm x _ g S H a w (λd hd=>bC d (by simp[cE,ae.names,hd])) ho R h) ?_);intro e a' w' he
  cases e with
  |normal=>
   obtain⟨g',S',H',h1,h2,h3⟩:=he;exact lk hG db hm y Q g' S' H' a' w' (λd hd=>bC d (by simp[cE,ae.names,hd])) h1 h2 h3
  |exit id=>exact he
  |ret=>exact he
  |panic ch=>exact he
  |goto l=>exact he.elim
  |outgrown=>exact he.elim
 |.cond c x y,Q,g,S,H,a,w,bC,ho,R,h=>by
  simp only[cE]at h;split at h
  case h_2=>exact h.elim
  rename_i c' hc;simp only[cE,hc,ae.names,List.mem_append]at bC;simp only[bq]at h;have hv:=R.ev hc (λ_ _=>id);split at h
  .rename_i hb;rw[hb]at hv
   have:a.eval c=.bool true:=by
    generalize a.eval c=v at hv;cases hv;rename_i hv;cases hv;rfl
   exact wp_cond this (lk hG db hm x Q g S H a w (λd hd=>bC d (.inl hd)) ho R h)
  .rename_i hb;rw[hb]at hv
   have:a.eval c=.bool false:=by
    generalize a.eval c=v at hv;cases hv;rename_i hv;cases hv;rfl
   exact wp_cond this (lk hG db hm y Q g S H a w (λd hd=>bC d (.inr hd)) ho R h)
  .rename_i hb;rw[hb]at hv
   have:∃b,a.eval c=.bool b:=by
    generalize a.eval c=v at hv;cases hv;rename_i hv;cases hv;exact⟨_,rfl⟩
   obtain⟨b,hb⟩:=this
   cases b with
   |true=>exact wp_cond hb (lk hG db hm x Q g S H a w (λd hd=>bC d (.inl hd)) ho R h.1)
   |false=>exact wp_cond hb (lk hG db hm y Q g S H a w (λd hd=>bC d (.inr hd)) ho R h.2)
  .exact h.elim
 |.block id c,Q,g,S,H,a,w,bC,ho,R,h=>by
  refine wp_block (wp_mono (lk hG db hm c _ g S H a w (λd hd=>bC d (by simpa[cE,ae.names]using hd)) ho R h) ?_);intro e a' w' he
  cases e with
  |normal=>exact he
  |exit j=>
   obtain⟨g',S',H',h1,h2,h3⟩:=he;simp only[cb]at h3;simp only[Exit.inBlock];split
   .rename_i hj;rw[if_pos hj]at h3;exact⟨g',S',H',h1,h2,h3⟩
   .rename_i hj;rw[if_neg hj]at h3;exact⟨g',S',H',h1,h2,h3⟩
  |ret=>exact he
  |panic ch=>exact he
  |goto l=>exact he.elim
  |outgrown=>exact he.elim
 |.loop c,Q,g,S,H,a,w,bC,ho,R,h=>by
  obtain⟨I,μ,h0,hr⟩:=h;refine Ec (λm a w=>∃g S H,g.old=old/\Rel P w0 n bp g S H a w/\I S H/\μ S H=m) ?_ (m:=μ S H) ⟨g,S,H,ho,R,h0,rfl⟩;rintro m a' w' ⟨g',S',H',h1,h2,h3,rfl⟩;refine wp_mono (lk hG db hm c _ g' S' H' a' w' (λd hd=>bC d (by simpa[cE,ae.names]using hd)) h1 h2 (hr S' H' h3)) ?_;intro e VQ iU he
  cases e with
  |normal=>
   obtain⟨g2,S2,H2,k1,k2,k3,k4⟩:=he;exact⟨_,k4,g2,S2,H2,k1,k2,k3,rfl⟩
  |exit id=>exact he
  |ret=>exact he
  |panic ch=>exact he
  |goto l=>exact he.elim
  |outgrown=>exact he.elim
 |.exit id,Q,g,S,H,a,w,bC,ho,R,h=>wp_exit ⟨g,S,H,ho,R,h⟩
 |.ret,Q,g,S,H,a,w,bC,ho,R,h=>wp_ret ⟨g,S,H,ho,R,h⟩
 |.rangeFunc ..,_,_,_,_,_,_,_,_,_,h=>h.elim
 |.scope _,_,_,_,_,_,_,_,_,_,h=>h.elim
 |.label _,_,_,_,_,_,_,_,_,_,h=>h.elim
 |.goto _,_,_,_,_,_,_,_,_,_,h=>h.elim
 |.refuse _,_,_,_,_,_,_,_,_,_,h=>h.elim
def AV.out:AV->AV
 |.agg cs=>.agg (cs.map bV)
 |v=>v
def cI(P:Program)(n:Nat)(S:af)(H:ah):ResultVar->Option AV
 |.tmp t=>if t<n/\(S t).bu=true then some (S t)else none
 |.cell a t=>if a < n then
   match S a with
   |.box i off=>match H i,P.info? t,P.underlying t with
    |some cs,some it,some d=>aP (fE d) it.size (cs.drop off)
    |_,_,_=>none
   |_=>none
  else none
def cL(P:Program)(n:Nat)(S:af)(H:ah):List ResultVar->Option (List AV)
 |[]=>some []
 |r::rs=>match cI P n S H r,cL P n S H rs with
  |some v,some vs=>some (v::vs)
  |_,_=>none
def cU(P:Program)(n:Nat)(rs:List ResultVar)(S:af)(H:ah):Option AV:=
 match cL P n S H rs with
 |some [v]=>some v.out
 |some vs=>some (.fZ (vs.map AV.vw))
 |none=>none
def F0(a:Act):ResultVar->Sem Value
 |.tmp t=>pure (a.tmps.getD t undef)
 |.cell x t=>do loadVar t (<-asAddr (a.tmps.getD x undef))
def DQ (R:Rel P w0 n bp g S H a w) {r:ResultVar} {v:AV} (h:cI P n S H r=some v) :
  ∃c,(F0 a r).run P w=.ok c w/\RD g.Pr w v c/\uL P g.base g.hi w v c:=by
 cases r with
 |tmp t=>
  simp only[cI]at h
  split at h<;>cases h
  rename_i hc;refine⟨a.tmps.getD t undef,rfl,(R.slot t hc.1 id).bQ hc.2,?_⟩;have ho:=R.own t hc.1 id;generalize S t=v at ho;generalize a.tmps.getD t undef=c at ho
  cases v<;>try trivial
  rename_i oo es
  cases oo with
  |view=>trivial
  |nil=>trivial
  |own e=>
   obtain⟨i,xs,b,h1,h2,h3,h4,h5⟩:=ho;exact⟨i,xs,b,h1,h2,h3,h5⟩
 |cell x t=>
  simp only[cI]at h;split at h
  case isFalse=>cases h
  rename_i hx;have hs:=R.slot x hx id;generalize S x=q at h hs;generalize lR:a.tmps.getD x undef=cx at hs
  cases hs<;>(try cases h;done)
  case data hh=>cases hh<;>cases h
  rename_i i off b fu;obtain⟨cs,vs,rv,k1,k2,k3,k4,k5,k6,k7,k8,k9⟩:=R.box i b fu;simp only[k1]at h;split at h
  case h_2=>cases h
  rename_i cs' it d lz mh hd;cases lz
  obtain ⟨c,h1,h2,h3⟩:=qt (Pr:=g.Pr) (al:=g.al) (P:=P) (w:=w) (b:=b) (off:=off) mh hd (vs:=fun k=>vs.getD (off+k) undef) (fun k hk=>by
    simp only[List.length_drop]at hk
    have:off+k<vs.size:=by omega
    simp[World.cell?,k3,this]) (λk hk=>by
    simp only[List.length_drop]at hk;simp only[List.getElem_drop]
    exact k9 (off+k) (by omega)) (λk hk=>by
    simp only[List.length_drop]at hk;simp only[List.getElem_drop];have hh:=k7 (off+k) (by omega) (by omega)
    have:off+k<vs.size:=by omega
    simpa[this]using hh) h
  refine⟨c,by simp only[F0,lR,asAddr,Sem.run_bind,Sem.run_pure,Result.andThen_ok,h1],h2,?_⟩;rw[<-h3]
  cases v<;>try trivial
  rename_i oo es
  cases oo<;>trivial
def qv (R:Rel P w0 n bp g S H a w):∀ {rs:List ResultVar} {vs:List AV},cL P n S H rs=some vs →
  ∃cs:List Value,(rs.mapM (F0 a)).run P w=Result.ok cs w/\vs.length=cs.length/\
   ∀i (h:i<vs.length)(h':i<cs.length),RD g.Pr w vs[i] cs[i]/\uL P g.base g.hi w vs[i] cs[i]
 |[],vs,h=>by cases h;exact⟨[],by simp,rfl,λi h=>by simp at h⟩
 |r::rs,vs,h=>by
  simp only[cL]at h
  split at h<;>cases h
  rename_i v ju h1 h2;obtain⟨c,r1,r2,r3⟩:=DQ R h1;obtain⟨cs,q1,q2,q3⟩:=qv R h2;refine⟨c::cs,?_,by simp[q2],λi hi cy=>?_⟩
  .simp[List.mapM_cons,r1,q1]
  .cases i with
   |zero=>exact⟨r2,r3⟩
   |succ i=>exact q3 i (by simpa using hi) (by simpa using cy)
def pj (R:Rel P w0 n bp g S H a w) {fn:Func} {v:AV} (h:cU P n fn.results.toList S H=some v) :
  ∃c,(results fn a.tmps).run P w=.ok c w/\RD g.Pr w v c/\uL P g.base g.hi w v c:=by
 unfold cU at h
 have eO:∀ cs:List Value,(fn.results.toList.mapM (F0 a)).run P w=Result.ok cs w →
   (results fn a.tmps).run P w=.ok (if h:cs.toArray.size=1 then cs.toArray[0]else .tuple cs.toArray) w:=by
  intro cs lz;unfold results;rw[Array.mapM_eq_mapM_toList]
  have e:(fn.results.toList.mapM λr=>match r with|.tmp t=>(pure (a.tmps.getD t undef):Sem Value)|.cell x t=>do loadVar t (<-asAddr (a.tmps.getD x undef)))=fn.results.toList.mapM (F0 a):=by
   congr 1
  simp only[Sem.run_bind,Sem.run_map]
  erw[e]
  rw[lz]
  rfl
 split at h
 .rename_i v' hv;cases h;obtain⟨cs,q1,q2,q3⟩:=qv R hv
  match cs,q2 with
  |[c],_=>
   have h1:=(q3 0 (by simp) (by simp)).1;have h2:=(q3 0 (by simp) (by simp)).2;simp only[List.getElem_cons_zero]at h1 h2;refine⟨c,by rw[eO _ q1];rfl,?_,?_⟩
   .cases v'<;>first|exact h1|exact h1.vw
   .cases v'<;>first|exact h2|trivial
 .rename_i vs bt CR;cases h;obtain⟨cs,q1,q2,q3⟩:=qv R CR;refine⟨.tuple cs.toArray,?_,.fZ _ _ (by simp[q2]) (λi h h'=>?_),trivial⟩
  .rw[eO _ q1,dif_neg];intro hl
   have:vs.length=1:=by rw[q2];simpa using hl
   match vs,this with
   |[v],_=>exact bt v rfl
  .simp only[List.length_map]at h;simp only[List.getElem_map,List.getElem_toArray];exact(q3 i h (by simpa using h')).1.vw
 .cases h
def post(P:Program)(n:Nat)(rs:List ResultVar)(out:jn):dU->af->ah->Prop
 |.normal,S,H|.ret,S,H=>∃v,cU P n rs S H=some v/\out=.ret v
 |.panic v,_,_=>out=.panic v
 |_,_,_=>False
def start(args:List AV):af:=λt=>(args.getD t bI).aw
def AC.MH (hG:av GI) (hm:P.follows .mixedOrders=true) {f:Nat} {fn:Func} {c:Code} {args:List AV} {out:jn} (hf:P.funcs[f]? = some fn) (hb:fn.body=some c) (hn:fn.ntmps=n) (hl:args.length≤n) {ac:ae} (hc:cE P n c=ac)
  (h:bq P GI ac (post P n fn.results.toList out) (start args) (λ_=>none)):AC P GI f args out:=by
 intro w old a_ lg hlen hr;refine calls_of_wp hf hb ?_;subst hc
 let g:Gh:={ base:=w.heap.size,old:=Old.plain old w,al:=λ_=>none,hi:=λ_=>0,owner:=λ_=>none }
 have aL:(a_++Array.replicate (fn.ntmps-a_.size) undef).size=n:=by simp;omega
 have R:Rel P w n bp g (start args) (λ_=>none) { tmps:=a_++Array.replicate (fn.ntmps-a_.size) undef,defers:=[] } w:=by
  refine{ size:=aL,defers:=rfl,facts:=λ_ h=>(by cases h),slot:=?_,own:=?_,box:=?_,jt:=?_,jq:=?_,inj:=?_,base:=rfl,below:=Below.refl _ _,fresh:=λb _=>⟨rfl,rfl⟩,still:=⟨λ_ _ h=>h.elim,λ_ h=>h.elim⟩,grown:=Nat.le_refl _,kept:=λ_ _ h=>(by cases h) }
  .intro t ht _
   by_cases IK:t<args.length
   .have h1:start args t=args[t].aw:=by simp[start,IK]
    have h2:(a_++Array.replicate (fn.ntmps-a_.size) undef).getD t undef=a_[t]'(by omega):=by
     have:t<a_.size:=by omega
     simp[Array.getElem?_append,this]
    rw[h1,h2];refine((hr t IK (by omega)).mono (aE.same λb k ao hp=>.inl ⟨ao,hp⟩) (λ_ _ h=>h)).aw
   .have h1:start args t=bI:=by simp[start,IK,bI,AV.aw]
    have h2:(a_++Array.replicate (fn.ntmps-a_.size) undef).getD t undef=undef:=by
     have:¬t<a_.size:=by omega
     simp only[Array.getD_eq_getD_getElem?,Array.getElem?_append,this,if_false]
     by_cases hh:t-a_.size<fn.ntmps-a_.size
     .simp[hh]
     .simp[hh]
    rw[h1,h2];exact .data _ _ (rR _ _)
  .intro t ht _;exact fF _ _ _
  .intro i b h;cases h
  .intro i cs h;cases h
  .intro i h;rfl
  .intro i j b h;cases h
 refine wp_mono (lk hG lg hm c _ g _ _ _ w (λ_ _ h=>h) rfl R h) ?_;intro e a' w' he
 have fin:(∃ g' S H,g'.old=Old.plain old w∧Rel P w n bp g' S H a' w'∧∃ v,cU P n fn.results.toList S H=some v∧out = .ret v) →
   a'.defers=[]/\∃v,(results fn a'.tmps).run P w'=.ok v w'/\Ends P old w out (.returned v) w':=by
  rintro⟨g',S,H,e1,R',v,hv,rfl⟩;obtain⟨c,r1,r2,r3⟩:=pj R' hv;refine⟨by rw[R'.defers,e1];rfl,c,r1,?_,g'.hi,λb hb=>(R'.fresh b hb).1,c,rfl,?_,?_⟩
  .have:=R'.below;rwa [R'.base]at this
  .have:g'.Pr=lL w.heap.size old g'.hi:=by
    funext b k
    simp only[Gh.Pr,lL,R'.base,e1,Old.plain]
   rw[this]at r2;exact .data _ _ r2
  .rwa [R'.base]at r3
 cases e with
 |normal=>exact fin he
 |ret=>exact fin he
 |exit id=>obtain⟨_,_,_,_,_,h⟩:=he;exact h.elim
 |panic chain=>
  obtain⟨hd,v,c,hi,S,H,h1,h2,h3,h4,h5⟩:=he;subst h1;cases(show out=.panic v from h5);exact⟨hd,h2,hi,h3,c,rfl,h4⟩
 |goto l=>exact he.elim
 |outgrown=>exact he.elim
end
abbrev SL:=List AV
abbrev HL:=List (Option (List AV))
def gS(s:SL):af:=λt=>s.getD t bI
def gH(h:HL):ah:=λt=>h.getD t none
inductive Res where
 |go (s:SL) (h:HL)|panic (v:AV)
def Res.on(K:af->ah->Prop)(Qp:AV->Prop):Res->Prop
 |.go s h=>K (gS s) (gH h)
 |.panic v=>Qp v
abbrev Ib:=Nat->List AV->Option jn
section
variable{P:Program}{GI:World->Prop}{call:Ib}(ky:∀f args out,call f args=some out->AC P GI f args out)
include ky
end
end Go.AL
