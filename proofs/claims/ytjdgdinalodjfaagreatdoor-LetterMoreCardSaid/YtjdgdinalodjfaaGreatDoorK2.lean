/-
  A part of the proof: K17 K18 K19 K20 P1.
-/
import Derived.ChangeSlices
import Derived.ChangeArms
import Derived.ChangeShapes
import Derived.WideShapes
import Derived.Test.YtjdgdinalodjfaaGreatDoorA2
import Derived.Test.YtjdgdinalodjfaaGreatDoorK1
set_option linter.all false
set_option linter.unusedVariables false
set_option linter.unusedSimpArgs false
set_option linter.deprecated false
namespace Go.Proofs.Tryz
open Go Go.AL Go.RowKit Go.Proofs
variable {GI:World→Prop}
noncomputable def p117 (run:CallF):List AV→Option AOut
 |[.func (.func k) [] caps]=>bif callable prog k then match run k caps with
  |some (.ret _)=>some (.ret (.int .i64 0))
  |some (.panic (.iface 161 (.agg [.int .i64 _])))=>some (.ret (.int .i64 5))
  |some (.panic (.iface 192 (.agg [.str _])))=>some (.ret (.int .i64 4))
  |_=>none
  else none
 |_=>none
theorem p117_ok (hG:Stable GI) {run:CallF} (hr:∀ f args out,run f args=some out→AC prog GI f args out) {args:List AV} {out:AOut} (h:p117 run args=some out):AC prog GI 117 args out:=by
 unfold p117 at h
 split at h
 case h_2=>cases h
 rename_i k caps
 rcases bsplit h with ⟨hcb,h⟩ | ⟨_,h⟩
 ·split at h
  ·rename_i v hv
   cases h
   exact ac117 hG hcb (hr _ _ _ hv) (.inl ⟨v,rfl,rfl⟩)
  ·rename_i n hv
   cases h
   exact ac117 hG hcb (hr _ _ _ hv) (.inr (.inl ⟨n,rfl,rfl⟩))
  ·rename_i s hv
   cases h
   exact ac117 hG hcb (hr _ _ _ hv) (.inr (.inr ⟨s,rfl,rfl⟩))
  ·cases h
 ·cases h
noncomputable def run0:CallF:=runF prog prims0 tab.get 1000 60
noncomputable def prims1:CallF:=fun f args=>bif Nat.beq f 117 then p117 run0 args else prims0 f args
noncomputable def run1:CallF:=runF prog prims1 tab.get 1000 60
def setsOf (run:CallF) (F:List AV) (outA:AV):Option (List Int×List (List End)) :=
 bif Nat.beq F.length 11 && F.all (fun x=>x.storable && x.one) then match (F[9]? : Option AV) with
  |some (.int .i64 r)=>bif decide (0≤r) && decide (r≤1000) then match dVI outA with
   |some out=>match run 145 [.agg ((F.take 10).map AV.vw1),vI out] with
    |some (.ret (.slice _ es))=>match dMap dEnd es with
     |some all=>bif decide (all.length≤1000) && decide (out.length≤1000) then some (out,ch [] all r.toNat) else none
     |none=>none
    |_=>none
   |none=>none
   else none
  |_=>none
  else none
def fitsQ (run:CallF) (F:List AV) (out:List Int) (es:List End):Option Bool :=
 bif decide (es.length < 1000) then match run 86 [.agg F,settingA out es,.int .i64 0] with
  |some (.ret (.bool b))=>some b
  |_=>none
  else none
def p97 (run:CallF):List AV→Option AOut
 |[.agg fA,outA]=>match setsOf run (fA.map AV.vw1) outA with
  |some (out,sets)=>bif decide (sets.length≤100000) && fA.all AV.one then match filtM (fitsQ run (fA.map AV.vw1) out) sets with
   |some r=>some (.ret (keptV out r))
   |none=>none
   else none
  |none=>none
 |_=>none
def p107 (run:CallF):List AV→Option AOut
 |[.agg fA,outA]=>match setsOf run (fA.map AV.vw1) outA with
  |some (out,sets)=>match filtM (fitsQ run (fA.map AV.vw1) out) sets with
   |some r=>some (.ret (.bool (!r.isEmpty)))
   |none=>none
  |none=>none
 |_=>none
theorem setsOf_ok (hG:Stable GI) {run:CallF} (hr:∀ f args out,run f args=some out→AC prog GI f args out) {fA:List AV} {outA:AV} {out:List Int} {sets:List (List End)} (h:setsOf run (fA.map AV.vw1) outA=some (out,sets)) :
  fA.length=11∧outA=vI out∧IterC prog GI 144 [.ref (fA.map AV.vw1),.ref [vI out]] (sets.map (settingA out)):=by
 unfold setsOf at h
 rcases bsplit h with ⟨hc,h⟩ | ⟨_,h⟩
 case inr=>cases h
 simp only [Bool.and_eq_true,List.all_eq_true] at hc
 obtain ⟨hl,hst⟩:=hc
 have hl:=Nat.eq_of_beq_eq_true hl
 split at h
 case h_2=>cases h
 rename_i r h9
 rcases bsplit h with ⟨hrr,h⟩ | ⟨_,h⟩
 case inr=>cases h
 simp only [Bool.and_eq_true,decide_eq_true_eq] at hrr
 split at h
 case h_2=>cases h
 rename_i out' ho
 split at h
 case h_2=>cases h
 rename_i o es hrun
 split at h
 case h_2=>cases h
 rename_i all hall
 rcases bsplit h with ⟨hc2,h⟩ | ⟨_,h⟩
 case inr=>cases h
 simp only [Bool.and_eq_true,decide_eq_true_eq] at hc2
 cases h
 have hes:es=endsA all:=dMap_eq dEnd_eq hall
 have hl':fA.length=11:=by simpa using hl
 refine ⟨hl',dVI_eq _ _ ho,?_⟩
 have hends:=hr _ _ _ hrun
 rw [hes] at hends
 exact it144 (rows:=r.toNat) hG hc2.1 (by omega) hc2.2 hl (fun x hx=>by
  have h1:=hst x (List.mem_of_mem_take hx)
  obtain ⟨y,_,rfl⟩:=List.mem_map.1 (List.mem_of_mem_take hx)
  exact ⟨h1.1,h1.2,congrFun dem_vw1 y⟩) (by rw [h9];congr 2;omega) hends
theorem fits_ok {run:CallF} (hr:∀ f args out,run f args=some out→AC prog GI f args out) {F:List AV} {out:List Int} {sets r:List (List End)} (h:filtM (fitsQ run F out) sets=some r) :
  (∀ es∈sets,es.length < 1000)∧(∀ es∈sets,AC prog GI 86 [.agg F,settingA out es,.int .i64 0] (.ret (.bool ((fitsQ run F out es).getD false))))∧r=sets.filter fun es=>(fitsQ run F out es).getD false:=by
 obtain ⟨h1,h2⟩:=filtM_eq h
 have key:∀ es∈sets,es.length < 1000∧AC prog GI 86 [.agg F,settingA out es,.int .i64 0] (.ret (.bool ((fitsQ run F out es).getD false))):=by
  intro es hes
  have hq:=h1 es hes
  generalize (fitsQ run F out es).getD false=b at hq ⊢
  unfold fitsQ at hq
  rcases bsplit hq with ⟨hc,hq⟩ | ⟨_,hq⟩
  case inr=>cases hq
  split at hq<;>cases hq
  rename_i hrun
  exact ⟨of_decide_eq_true hc,hr _ _ _ hrun⟩
 exact ⟨fun es hes=>(key es hes).1,fun es hes=>(key es hes).2,h2⟩
theorem p97_ok (hG:Stable GI) {run:CallF} (hr:∀ f args out,run f args=some out→AC prog GI f args out) {args:List AV} {out:AOut} (h:p97 run args=some out):AC prog GI 97 args out:=by
 unfold p97 at h
 split at h
 case h_2=>cases h
 split at h
 case h_2=>cases h
 rename_i out' sets hs
 rcases bsplit h with ⟨hc,h⟩ | ⟨_,h⟩
 case inr=>cases h
 simp only [Bool.and_eq_true,decide_eq_true_eq,List.all_eq_true] at hc
 split at h<;>cases h
 rename_i r hf
 obtain ⟨h1,rfl,h3⟩:=setsOf_ok hG hr hs
 obtain ⟨k1,k2,rfl⟩:=fits_ok hr hf
 exact ac97 hG h1 hc.2 hc.1 k1 h3 k2
theorem any_filter {α:Type} (p:α→Bool) (l:List α):(!(l.filter p).isEmpty)=l.any p:=by
 induction l with
 |nil=>rfl
 |cons x l ih =>
  rw [List.filter_cons,List.any_cons]
  cases p x with
  |true=>rfl
  |false=>simpa using ih
theorem p107_ok (hG:Stable GI) {run:CallF} (hr:∀ f args out,run f args=some out→AC prog GI f args out) {args:List AV} {out:AOut} (h:p107 run args=some out):AC prog GI 107 args out:=by
 unfold p107 at h
 split at h
 case h_2=>cases h
 split at h
 case h_2=>cases h
 rename_i out' sets hs
 split at h<;>cases h
 rename_i r hf
 obtain ⟨h1,rfl,h3⟩:=setsOf_ok hG hr hs
 obtain ⟨k1,k2,rfl⟩:=fits_ok hr hf
 rw [any_filter]
 exact ac107 hG h1 h3 k2
def rowsQ (run:CallF) (F:List AV) (es:List End):Option (List Line):=match run 81 [.agg F,settingA [] es] with
 |some (.ret (.slice .view ls))=>match dMap dLine ls with
  |some rows=>bif decide (rows.length < 100000) then some rows else none
  |none=>none
 |_=>none
def wideQ (run:CallF) (F:List AV) (r:Line):Option Int:=match run 84 [.agg F,lineA r,.int .i64 0] with
 |some (.ret (.int .i64 n))=>some n
 |_=>none
def widthsQ (run:CallF) (F:List AV) (es:List End):Option Int:=match rowsQ run F es with
 |some rows=>bif rows.all (fun r=>(wideQ run F r).isSome) then some (widest (fun r=>(wideQ run F r).getD 0) rows) else none
 |none=>none
def p46 (run:CallF):List AV→Option AOut
 |[.agg sA]=>bif Nat.beq sA.length 10 && sA.all AV.storable then match run 96 [.agg (sA.map AV.vw1)] with
  |some (.ret (.bool true))=>match p80 [.agg (sA.map AV.vw1)] with
   |some (.ret (.agg fA))=>match setsOf run (fA.map AV.vw1) (vI []) with
    |some (_,es0::rest)=>bif decide ((es0::rest).length≤100000) && (es0::rest).all (fun es=>(widthsQ run (fA.map AV.vw1) es).isSome) then
      some (.ret (.tup [.int .i64 (minL ((es0::rest).map fun es=>(widthsQ run (fA.map AV.vw1) es).getD 0)),.int .i64 0])) else none
    |_=>none
   |_=>none
  |_=>none
  else none
 |_=>none
theorem p80_form {args:List AV} {fA:List AV} (h:p80 args=some (.ret (.agg fA))):fA.map AV.vw1=fA:=by
 unfold p80 at h
 split at h
 case h_2=>cases h
 split at h
 case h_2=>cases h
 split at h
 case h_2=>cases h
 split at h<;>cases h
 rw [List.map_map,vw1_vw1]
theorem p46_ok (hG:Stable GI) {run:CallF} (hr:∀ f args out,run f args=some out→AC prog GI f args out) {args:List AV} {out:AOut} (h:p46 run args=some out):AC prog GI 46 args out:=by
 unfold p46 at h
 split at h
 case h_2=>cases h
 rename_i sA
 rcases bsplit h with ⟨hc,h⟩ | ⟨_,h⟩
 case inr=>cases h
 simp only [Bool.and_eq_true,List.all_eq_true] at hc
 obtain ⟨hl,hst⟩:=hc
 have hl:=Nat.eq_of_beq_eq_true hl
 split at h
 case h_2=>cases h
 rename_i h96
 split at h
 case h_2=>cases h
 rename_i fA h80
 have hF:=p80_form h80
 rw [hF] at h
 split at h
 case h_2=>cases h
 rename_i out' es0 rest hs
 rcases bsplit h with ⟨hc2,h⟩ | ⟨_,h⟩
 case inr=>cases h
 simp only [Bool.and_eq_true,decide_eq_true_eq,List.all_eq_true] at hc2
 cases h
 have hs':setsOf run (fA.map AV.vw1) (vI [])=some (out',es0::rest):=by rw [hF];exact hs
 obtain ⟨h1,h2,h3⟩:=setsOf_ok hG hr hs'
 have ho:out'=[]:=by
  cases out' with
  |nil=>rfl
  |cons x l=>simp [vI,ints] at h2
 subst ho
 rw [hF] at h3
 have hF1:∀ x∈fA,x.one=true:=by
  unfold setsOf at hs
  rcases bsplit hs with ⟨hq,_⟩ | ⟨_,hq⟩
  case inr=>cases hq
  simp only [Bool.and_eq_true,List.all_eq_true] at hq
  exact fun x hx=>(hq.2 x hx).2
 have key:∀ es∈es0::rest,∃ rows,rowsQ run fA es=some rows∧(∀ r∈rows,(wideQ run fA r).isSome=true)∧(widthsQ run fA es).getD 0=widest (fun r=>(wideQ run fA r).getD 0) rows:=by
  intro es hes
  have hq:=hc2.2 es hes
  unfold widthsQ at hq ⊢
  split at hq
  case h_2=>cases hq
  rename_i rows hrows
  cases hb:rows.all fun r=>(wideQ run fA r).isSome with
  |false=>rw [hb] at hq;cases hq
  |true =>
   exact ⟨rows,hrows,List.all_eq_true.1 hb,rfl⟩
 have hmap:((es0::rest).map fun es=>(widthsQ run fA es).getD 0)=(es0::rest).map fun es=>widest (fun r=>(wideQ run fA r).getD 0) ((rowsQ run fA es).getD []):=by
  refine List.map_congr_left fun es hes => ?_
  obtain ⟨rows,h1,_,h2⟩:=key es hes
  rw [h2,h1];rfl
 rw [hmap]
 have hAC80:=p80_ok (GI:=GI) hG h80
 refine ac46 hG hl h1 hst hF hF1 hc2.1 rfl (hr _ _ _ h96) hAC80 h3 (fun es hes => ?_) (fun es hes => ?_) (fun es hes r hr' => ?_)
 ·obtain ⟨rows,h1,_,_⟩:=key es hes
  rw [h1]
  unfold rowsQ at h1
  split at h1
  case h_2=>cases h1
  rename_i ls hrun
  split at h1
  case h_2=>cases h1
  rename_i rows' hd
  rcases bsplit h1 with ⟨_,h1⟩ | ⟨_,h1⟩
  case inr=>cases h1
  cases h1
  have:=hr _ _ _ hrun
  rwa [dMap_eq dLine_eq hd] at this
 ·obtain ⟨rows,h1,_,_⟩:=key es hes
  rw [h1]
  unfold rowsQ at h1
  split at h1
  case h_2=>cases h1
  split at h1
  case h_2=>cases h1
  rcases bsplit h1 with ⟨hb,h1⟩ | ⟨_,h1⟩
  case inr=>cases h1
  cases h1
  exact of_decide_eq_true hb
 ·obtain ⟨rows,h1,h2,_⟩:=key es hes
  rw [h1] at hr'
  have h3:=h2 r hr'
  unfold wideQ at h3 ⊢
  split at h3
  case h_2=>cases h3
  rename_i n hrun
  exact hr _ _ _ hrun
theorem prims1_sound (hG:Stable GI) (hML:∀ w,GI w→∃ m,w.cell? ⟨1,0,none⟩=some (.int .i64 m)) (f:Nat) (args:List AV) (out:AOut) (h:prims1 f args=some out):AC prog GI f args out:=by
 unfold prims1 at h
 rcases bsplit h with ⟨hf,h⟩ | ⟨_,h⟩
 ·have:=Nat.eq_of_beq_eq_true hf;subst this
  exact p117_ok hG (fun f args out h=>runF_sound hG hmix (prims0_sound hG hML) (TrOK.tbl tabOK) 60 f args out h) h
 ·exact prims0_sound hG hML f args out h
theorem run1_sound (hG:Stable GI) (hML:∀ w,GI w→∃ m,w.cell? ⟨1,0,none⟩=some (.int .i64 m)) (f:Nat) (args:List AV) (out:AOut) (h:run1 f args=some out):AC prog GI f args out :=
 runF_sound hG hmix (prims1_sound hG hML) (TrOK.tbl tabOK) 60 f args out h
end Go.Proofs.Tryz
namespace Go.Proofs.Tryz
open Go Go.AL Go.RowKit Go.Proofs
variable {GI:World→Prop}
theorem put_put (a:Act) (d:Nat) (c c':Value):(a.put (some d) c).put (some d) c'=a.put (some d) c':=by
 simp [Act.put]
theorem calls118 (hG:Stable GI) {w0:World} {n:Nat} {g:Gh} {S:Slots} {H:Boxes} {a:Act} {w:World} {d i1 i4:Nat} {s:List UInt8} {z x:List AV} (hG0:GI w0) (R:Rel prog w0 n NoU g S H a w) (hd:d < n) (h1n:i1 < n) (h4n:i4 < n) (hd4:d≠i4)
  (hS1:S i1 = .box i1 0) (hH1:H i1=some [.str s]) (hS4:S i4 = .box i4 0) (hH4:H i4=some z) (hz:z.length=10) (hx:x.length=10) (h119:AC prog GI 119 [.str s] (.ret (.agg x))) :
  Calls prog 118 #[a.tmps.getD i1 undef,a.tmps.getD i4 undef] w fun e w2=>e = .returned (.tuple #[])∧∃ (c:Value) (g':Gh) (S':Slots) (H':Boxes),g'.old=g.old∧Rel prog w0 n NoU g' S' H' (a.put (some d) c) w2∧(∀ t,t≠d→S' t=S t)∧H'=upd H i4 (some (x.map AV.dem)):=by
 have hsz:=R.size
 have v1:=R.slot i1 h1n id
 rw [hS1] at v1
 have v4:=R.slot i4 h4n id
 rw [hS4] at v4
 obtain ⟨b1,e1,hal1⟩:∃ b,a.tmps.getD i1 undef = .pointer (some ⟨b,0,none⟩)∧g.al i1=some b:=by
  generalize a.tmps.getD i1 undef=c at v1
  cases v1 with
  |data _ _ h=>cases h
  |box _ _ b h=>exact ⟨b,rfl,h⟩
 obtain ⟨b4,e4,hal4⟩:∃ b,a.tmps.getD i4 undef = .pointer (some ⟨b,0,none⟩)∧g.al i4=some b:=by
  generalize a.tmps.getD i4 undef=c at v4
  cases v4 with
  |data _ _ h=>cases h
  |box _ _ b h=>exact ⟨b,rfl,h⟩
 obtain ⟨cs,vs,ty,k0,k1,k2,k3,k4,k5,k6,k7,k8⟩:=R.box i1 b1 hal1
 rw [hH1] at k0;cases k0
 have h0:0 < vs.size:=by rw [← k5];exact Nat.zero_lt_one
 have hv:=str_eq (RV.data (al:=noneA) _ _ (k6 0 (by simp) h0))
 have hcell:w.cell? ⟨b1,0,none⟩=some (.string ⟨s.toArray⟩):=by simp [World.cell?,k2,h0,hv]
 have hb0:=R.below
 have hle:g.base≤w.heap.size:=by rw [R.base];exact R.below.size
 rw [R.base] at hb0
 have hGw:GI w:=hG w0 w hG0 hb0
 rw [e1,e4]
 refine calls_of_wp func118 rfl ?_
 refine (wpIn_FR_none (m:=0)).1 ?_
 refine anyAct (fun a=>a.tmps.size=4∧a.defers=[]∧a.tmps.getD 0 undef = .pointer (some ⟨b1,0,none⟩)∧a.tmps.getD 1 undef = .pointer (some ⟨b4,0,none⟩)) ⟨by simp [ntmps118],rfl,args_get _ _ 0 (by simp),args_get _ _ 1 (by simp)⟩ ?_
 rintro aC ⟨zC,dC,t0,t1⟩
 have hgp:∀ (a:Act) (d t:Nat) (c:Value),t≠d→(a.put (some d) c).tmps.getD t undef=a.tmps.getD t undef:=fun a d t c h=>by
  simp [Act.put,Array.getElem?_setIfInBounds_ne (Ne.symm h)]
 have hgs:∀ (a:Act) (d:Nat) (c:Value),a.tmps.size=4→d < 4→(a.put (some d) c).tmps.getD d undef=c:=fun a d c h hd=>by
  simp [Act.put,h,hd]
 refine wpIn_region ?_
 show wpOpsIn _ _ _ _ _ [0,1,2] aC w
 refine opIn_val rfl rfl (by rfl) (run_load1 (t:=9) (d := .string) (b:=b1) (off:=0) rfl t0 (by kernel_rfl) rfl hcell) ?_
 show wpOpsIn _ _ _ _ _ [1,2] (aC.put (some 2) (.string ⟨s.toArray⟩)) w
 refine opIn_call rfl rfl (by rfl) (run_callF (k:=119) (args := #[.string ⟨s.toArray⟩]) w rfl rfl ?_ (by kernel_rfl)) (h119 w (callOld g false) #[.string ⟨s.toArray⟩] hGw rfl (fun i h h'=>by
  match i,h with
  |0,_=>exact .data _ _ (.str s))) ?_
 ·simp only [List.map_toArray,List.map_cons,List.map_nil]
  show #[(aC.put (some 2) _).tmps.getD 2 undef]=_
  rw [hgs _ _ _ zC (by decide)]
 rintro e w2 ⟨hb2,hi,hfr,c,rfl,hrv,hown⟩
 refine ⟨c,rfl,?_⟩
 obtain ⟨g',hgb,hgo,R2⟩:=R.call (some d) (fun t ht=>by cases ht;exact ⟨hd,id⟩) false hb2 hfr hrv hown (fun h=>by cases h)
 obtain ⟨i28,hi28,hs28⟩:=info_size (P:=prog) (t:=28) (s:=10) (by kernel_rfl)
 let oS:Oper:={ dst:=none,op := .store 28 (.tmp i4) (.tmp d),type:=0,pos := "",after := #[],guard:=none }
 have hsp:splice z 0 (x.map AV.dem)=x.map AV.dem:=by simp [splice,hz,hx]
 have hap:apure (AL.putD S (some d) (.agg x)) H (.store .any i28.size (.t i4) (.t d))=some { v:=undefA,dm:=some d,hw:=some (i4,x.map AV.dem) }:=by
  simp [apure,AL.putD,ev,upd,Ne.symm hd4,hS4,hH4,HR.okB,AV.cells,AV.storable,AV.scells,hs28,hx,hz,tmpOf,hsp]
 obtain ⟨c2,w3,g3,hrun,hg3b,hg3o,R3⟩:=does_store R2 (o:=oS) (x1 := .tmp i4) (x2 := .tmp d) (y1 := .t i4) (y2 := .t d) (hr := .any) rfl rfl hi28 (by simp [opd,h4n]) (by simp [opd,hd]) (fun _ _=>id) (fun _ _=>id) hap
 show wpOpsIn _ _ _ _ _ [2] ((aC.put (some 2) (.string ⟨s.toArray⟩)).put (some 3) c) w2
 obtain ⟨a3,hA3⟩:∃ a3,(aC.put (some 2) (.string ⟨s.toArray⟩)).put (some 3) c=a3:=⟨_,rfl⟩
 rw [hA3]
 have z3:a3.tmps.size=4:=by rw [← hA3,put_size,put_size];exact zC
 have d3:a3.defers=[]:=by rw [← hA3];exact dC
 have e31:a3.eval (.tmp 1) = .pointer (some ⟨b4,0,none⟩):=by
  rw [← hA3,put_get _ _ _ _ (by rw [put_size];omega),if_neg (by decide),put_get _ _ _ _ (by omega),if_neg (by decide)];exact t1
 have e33:a3.eval (.tmp 3)=c:=by rw [← hA3,put_get _ _ _ _ (by rw [put_size];omega),if_pos rfl]
 have f4:(a.put (some d) c).eval (.tmp i4) = .pointer (some ⟨b4,0,none⟩):=by rw [put_get _ _ _ _ (by omega),if_neg (Ne.symm hd4)];exact e4
 have fd:(a.put (some d) c).eval (.tmp d)=c:=by rw [put_get _ _ _ _ (by omega),if_pos rfl]
 have hsame:∀ o:Oper,o.op = .store 28 (.tmp 1) (.tmp 3)→(execOp a3.eval o).run prog w2=(execOp (a.put (some d) c).eval oS).run prog w2:=by
  intro o ho
  unfold execOp
  simp only [ho,e31,e33,oS,f4,fd]
 have fin:∀ ops,wpOpsIn (FR none) 0 prog ops (bodyPost prog f118 fun e w2=>e = .returned (.tuple #[])∧∃ (c:Value) (g':Gh) (S':Slots) (H':Boxes),g'.old=g.old∧Rel prog w0 n NoU g' S' H' (a.put (some d) c) w2∧(∀ t,t≠d→S' t=S t)∧H'=upd H i4 (some (x.map AV.dem))) [] a3 w3:=by
  intro ops
  refine ⟨d3,.tuple #[],?_,rfl,c,g3,_,_,by rw [hg3o,hgo],R3,fun t ht => ?_,rfl⟩
  ·simp [results,results118]
  ·simp [Eff.S,AL.putD,upd,ht,oS]
 rcases hrun with hrun | ⟨hrun,rfl⟩
 ·refine opIn_val rfl rfl (by rfl) ((hsame _ rfl).trans hrun) (fin _)
 ·refine opIn_skip rfl rfl (by rfl) ((hsame _ rfl).trans hrun) (fin _)
theorem unkeep {P:Program} {w0:World} {n:Nat} {g:Gh} {S:Slots} {H:Boxes} {a:Act} {w:World} (R:Rel P w0 n NoU g S H a w) (b:Nat):Rel P w0 n NoU { g with old:={ g.old with keep:=upd g.old.keep b none } } S H a w:={
 size:=R.size
 defers:=R.defers
 facts:=R.facts
 slot:=R.slot
 own t ht hu:=(R.own t ht hu).keep rfl fun b hb=>⟨rfl,rfl,hb⟩
 box i c hi:=by
  obtain ⟨cs,vs,ty,h1,h2,h3,h4,h5,h6,h7,h8,h9⟩:=R.box i c hi
  exact ⟨cs,vs,ty,h1,h2,h3,h4,h5,h6,h7,fun j hj hj'=>(h8 j hj hj').keep rfl fun b hb=>⟨rfl,rfl,hb⟩,h9⟩
 alH:=R.alH
 alU:=R.alU
 inj:=R.inj
 base:=R.base
 below:=R.below
 fresh:=R.fresh
 still:=R.still
 grown:=R.grown
 kept c o h:=by
  have hc:c≠b:=by rintro rfl;simp [upd] at h
  exact R.kept c o (by simpa [upd,hc] using h) }
theorem calls117 (hG:Stable GI) {w0:World} {n:Nat} {g:Gh} {S:Slots} {H:Boxes} {a:Act} {w:World} {d i1 i4:Nat} {s:List UInt8} {z x:List AV} (hG0:GI w0) (R:Rel prog w0 n NoU g S H a w) (hd:d < n) (h1n:i1 < n) (h4n:i4 < n) (hd4:d≠i4)
  (hS1:S i1 = .box i1 0) (hH1:H i1=some [.str s]) (hS4:S i4 = .box i4 0) (hH4:H i4=some z) (hz:z.length=10) (hx:x.length=10) (h119:AC prog GI 119 [.str s] (.ret (.agg x))) :
  Calls prog 117 #[.func (.func 118) #[] #[a.tmps.getD i1 undef,a.tmps.getD i4 undef]] w fun e w2=>e = .returned (.int .i64 0)∧∃ (c:Value) (g':Gh) (S':Slots) (H':Boxes),g'.old=g.old∧Rel prog w0 n NoU g' S' H' (a.put (some d) c) w2∧(∀ t,t≠d→S' t=S t)∧H'=upd H i4 (some (x.map AV.dem)):=by
 have R1:=R.keepNew (.cells #[.int .i64 0] 36)
 have hkn:g.old.keep w.heap.size=none:=by
  cases h:g.old.keep w.heap.size with
  |none=>rfl
  |some o =>
   have:=(Array.getElem?_eq_some_iff.1 (R.kept _ o h).2.1).1
   omega
 refine attempt_calls (by kernel_rfl) (calls118 hG hG0 R1 hd h1n h4n hd4 hS1 hH1 hS4 hH4 hz hx h119) ?_
 rintro e w2 ⟨rfl,c,g',S',H',ho,R2,hS',hH'⟩
 have hk:g'.old.keep w.heap.size=some (.cells #[.int .i64 0] 36):=by rw [ho];exact upd_same _ _ _
 have hk2:=(R2.kept _ _ hk).2.1
 have hlt:=(Array.getElem?_eq_some_iff.1 hk2).1
 refine ⟨hlt,⟨_,_,hk2⟩,.inl ⟨_,rfl,rfl,c,_,S',H',?_,(unkeep R2 w.heap.size).grow' ?_,hS',hH'⟩⟩
 ·show ({ g'.old with keep:=upd g'.old.keep w.heap.size none }:Old)=_
  rw [ho]
  have:upd (upd g.old.keep w.heap.size (some (.cells #[.int .i64 0] 36))) w.heap.size none=g.old.keep:=by
   funext b
   by_cases hb:b=w.heap.size
   ·subst hb;simp [upd,hkn]
   ·simp [upd,hb]
  show ({ g.old with keep:=upd (upd g.old.keep w.heap.size (some (.cells #[.int .i64 0] 36))) w.heap.size none }:Old)=_
  rw [this]
 ·refine ⟨rfl,rfl,rfl,by simp,fun k hk' => ?_⟩
  by_cases hb:k=w.heap.size
  ·subst hb
   rw [setRow_heap w2 _ _ _ _ _ hk2,hk2]
  ·exact setRow_other w2 _ k _ hb
set_option maxRecDepth 100000 in
theorem ac68 (hG:Stable GI) {s:List UInt8} {x:List AV} (hs:s.length≤320) (hx:x.length=10) (h119:AC prog GI 119 [.str s] (.ret (.agg x))) (h96:AC prog GI 96 [.agg (x.map AV.vw1)] (.ret (.bool true))) :
  AC prog GI 68 [.str s] (.ret (.tup [.agg (x.map AV.vw1),.int .i64 0])):=by
 refine AC.of_SW func68 rfl ntmps68 (by simp) fun cc w => ?_
 refine SW.cut hG hmix (by kernel_rfl) (ac:=ACode.fst c68) (by kernel_rfl) (fun _ _ h=>h) (fun S' H'=>S' 1 = .box 1 0∧S' 2 = .box 2 0∧H' 1=some [.str s]∧∃ z,H' 2=some z∧z.length=10) ?_ ?_
 ·simp [c68,ACode.fst,awp,aops,awanted,astep,apure,ev,Eff.S,Eff.H,upd,putD,AL.start,AV.dem,AV.cells,AV.storable,scrub,tmpOf,assignQ]
 rintro S1 H1 ⟨s1,s2,h1,z2,h2,hz2⟩
 refine SW.seq (SW.cut hG hmix (by kernel_rfl) (ac:=ACode.fst (ACode.fst (ACode.snd c68))) (by kernel_rfl) (fun _ _ h=>h) (fun S' H'=>S' 1 = .box 1 0∧S' 2 = .box 2 0∧H' 1=some [.str s]∧H' 2=some z2∧S' 8 = .bool false) ?_ ?_)
 ·have hs':¬ (320:Int) < s.length:=by omega
  simp [c68,ACode.fst,ACode.snd,awp,aops,awanted,astep,apure,ev,Eff.S,Eff.H,upd,putD,s1,s2,h1,h2,loadA,HR.okB,AV.dem,abin,hs',assignQ]
 rintro S2 H2 ⟨s1,s2,h1,h2,s8⟩
 refine SW.cond rfl false (by show S2 8=_;rw [s8]) (SW.skip ?_)
 show SW prog GI 21 none (.seq _ (.seq (.seq _ (.seq _ (.cond _ _ _))) (.seq (.seq _ (.cond _ _ _)) (.seq _ .ret)))) _ _ _ _
 refine SW.cut hG hmix (by kernel_rfl) (ac:=ACode.fst (ACode.snd (ACode.snd c68))) (by kernel_rfl) (fun _ _ h=>h) (fun S' H'=>S' 1 = .box 1 0∧S' 2 = .box 2 0∧S' 4 = .box 4 0∧H' 1=some [.str s]∧H' 2=some z2∧∃ z,H' 4=some z∧z.length=10) ?_ ?_
 ·simp [c68,ACode.fst,ACode.snd,awp,aops,awanted,astep,upd,scrub,s1,s2,h1,h2,assignQ]
 rintro S3 H3 ⟨s1,s2,s4,h1,h2,z4,h4,hz4⟩
 refine SW.seq (SW.seq (SW.hand hG (p:=0) (lm:=[0,1]) (l2:=[2]) (os1:=[]) (oh:=[_,_]) (os2:=[_]) rfl rfl rfl rfl (by kernel_rfl) (fun _ h=>h) (al1:=[]) (al2:=(ACode.dl (ACode.fst (ACode.fst (ACode.snd (ACode.snd (ACode.snd c68)))))).drop 2) rfl (by kernel_rfl) rfl (by kernel_rfl)
  (K1:=fun S' H'=>S' 1 = .box 1 0∧S' 2 = .box 2 0∧S' 4 = .box 4 0∧H' 1=some [.str s]∧H' 2=some z2∧H' 4=some z4)
  (K2:=fun o S' H'=>o=Old.plain cc w∧S' 2 = .box 2 0∧S' 4 = .box 4 0∧S' 11 = .int .i64 0∧H' 2=some z2∧H' 4=some (x.map AV.dem))
  (K3:=fun o S' H'=>o=Old.plain cc w∧S' 2 = .box 2 0∧S' 4 = .box 4 0∧S' 5 = .int .i64 0∧H' 2=some z2∧H' 4=some (x.map AV.dem)) ⟨s1,s2,s4,h1,h2,h4⟩ ?_ ?_ ?_))
 ·rintro w0 g S5 H5 a w5 m hG0 ho R ⟨s1,s2,s4,h1,h2,h4⟩
  have hsz:=R.size
  refine opIn_val rfl rfl (by rfl) (run_mkf (fn := .func 118) (c := #[.tmp 1,.tmp 4]) rfl) ?_
  obtain ⟨fv,hfv⟩:∃ fv:Value,fv = .func (.func 118) #[] (#[Operand.tmp 1,.tmp 4].map a.eval):=⟨_,rfl⟩
  show wpOpsIn _ _ _ _ _ [1] (a.put (some 10) (.func (.func 118) #[] (#[Operand.tmp 1,.tmp 4].map a.eval))) w5
  rw [← hfv]
  have R1:=R.put 10 .junk fv (by decide) (.junk _) trivial
  obtain ⟨a1,ha1⟩:∃ a1,a.put (some 10) fv=a1:=⟨_,rfl⟩
  rw [ha1] at R1 ⊢
  have hfv2:fv = .func (.func 118) #[] #[a1.tmps.getD 1 undef,a1.tmps.getD 4 undef]:=by
   have e1:=put_get a 10 1 fv (by omega)
   have e4:=put_get a 10 4 fv (by omega)
   rw [if_neg (by decide),ha1] at e1 e4
   have e1':a1.tmps.getD 1 undef=a.eval (.tmp 1):=e1
   have e4':a1.tmps.getD 4 undef=a.eval (.tmp 4):=e4
   rw [e1',e4',hfv]
   simp only [List.map_toArray,List.map_cons,List.map_nil]
  have e10:a1.eval (.tmp 10)=fv:=by rw [← ha1,put_get _ _ _ _ (by omega),if_pos rfl]
  refine opIn_call rfl rfl (by rfl) (run_callF (k:=117) (args := #[.func (.func 118) #[] #[a1.tmps.getD 1 undef,a1.tmps.getD 4 undef]]) w5 rfl rfl ?_ (by kernel_rfl)) (calls117 hG hG0 R1 (d:=11) (i1:=1) (i4:=4) (by decide) (by decide) (by decide) (by decide) (by simp [upd,s1]) h1 (by simp [upd,s4]) h4 hz4 hx h119) ?_
  ·simp only [List.map_toArray,List.map_cons,List.map_nil,e10,← hfv2]
  ·rintro e w6 ⟨rfl,c,g',S',H',ho',R2,hS',hH'⟩
   refine ⟨_,rfl,?_⟩
   have R3:=R2.put 11 (.int .i64 0) (.int .i64 0) (by decide) (.data _ _ (.int _ _)) trivial
   rw [put_put] at R3
   refine ⟨g',_,H',R3,ho'.trans ho,?_,?_,upd_same _ _ _,?_,?_⟩
   ·show upd S' 11 _ 2=_
    rw [upd_ne _ _ (by decide),hS' 2 (by decide)];simp [upd,s2]
   ·show upd S' 11 _ 4=_
    rw [upd_ne _ _ (by decide),hS' 4 (by decide)];simp [upd,s4]
   ·rw [hH',upd_ne _ _ (by decide)];exact h2
   ·rw [hH'];exact upd_same _ _ _
 ·rintro o S5 H5 ⟨rfl,s2,s4,s11,h2,h4⟩
  refine ⟨fun _ h=>h,?_⟩
  simp [c68,ACode.fst,ACode.snd,ACode.dl,aops,awanted,astep,apure,ev,Eff.S,Eff.H,upd,putD,s2,s4,s11,h2,h4,AV.dem,tmpOf]
 ·rintro o S5 H5 ⟨rfl,s2,s4,s5,h2,h4⟩
  refine SW.cut hG hmix (by kernel_rfl) (ac:=ACode.fst (ACode.snd (ACode.fst (ACode.snd (ACode.snd (ACode.snd c68)))))) (by kernel_rfl) (fun _ _ h=>h) (fun S' H'=>S' 2 = .box 2 0∧S' 4 = .box 4 0∧S' 13 = .bool false∧H' 2=some z2∧H' 4=some (x.map AV.dem)) ?_ ?_
  ·simp [c68,ACode.fst,ACode.snd,awp,aops,awanted,astep,apure,ev,Eff.S,Eff.H,upd,putD,s2,s4,s5,h2,h4,AV.dem,abin,assignQ]
  rintro S6 H6 ⟨s2,s4,s13,h2,h4⟩
  refine SW.cond rfl false (by show S6 13=_;rw [s13]) (SW.skip ?_)
  have ht10:List.take 10 (x.map AV.dem)=x.map AV.dem:=List.take_of_length_le (by simp;omega)
  have e7:∀ (l:List AV) H,fz H (.agg (l.map AV.dem)) = .agg (l.map AV.vw1):=fun l H=>by simp only [fz,fz1,AV.vw,List.map_map,vw1_dem]
  refine SW.seq (SW.cut hG hmix (by kernel_rfl) (ac:=ACode.fst (ACode.fst (ACode.snd (ACode.snd (ACode.snd (ACode.snd c68)))))) (by kernel_rfl) (fun _ _ h=>h) (fun S' H'=>S' 2 = .box 2 0∧S' 4 = .box 4 0∧S' 18 = .bool false∧H' 2=some z2∧H' 4=some (x.map AV.dem)) ?_ ?_)
  ·simp [c68,ACode.fst,ACode.snd,awp,aops,awanted,astep,apure,ev,Eff.S,Eff.H,upd,putD,s2,s4,h2,h4,loadA,HR.okB,hx,dem_dem,ht10,e7,assignQ]
   refine ⟨_,by kernel_rfl,h96,by simp [boxy],?_⟩
   simp [onOut,upd,s2,s4,h2,h4]
  rintro S7 H7 ⟨s2,s4,s18,h2,h4⟩
  refine SW.cond rfl false (by show S7 18=_;rw [s18]) (SW.skip ?_)
  refine SW.cut hG hmix (by kernel_rfl) (ac:=ACode.fst (ACode.snd (ACode.snd (ACode.snd (ACode.snd (ACode.snd c68)))))) (by kernel_rfl) (fun _ _ h=>h) (fun S' H'=>S' 2 = .box 2 0∧S' 3 = .int .i64 0∧H' 2=some (x.map AV.dem)) ?_ ?_
  ·have hdz:List.drop 10 z2=[]:=List.drop_eq_nil_of_le (by omega)
   simp [c68,ACode.fst,ACode.snd,awp,aops,awanted,astep,apure,ev,Eff.S,Eff.H,upd,putD,s2,s4,h2,h4,loadA,HR.okB,hx,dem_dem,ht10,AV.cells,AV.storable,AV.scells,splice,tmpOf,hz2,hdz,assignQ,AV.dem]
  rintro S8 H8 ⟨s2,s3,h2⟩
  obtain ⟨i28,hi28,hs28⟩:=info_size (P:=prog) (t:=28) (s:=10) (by kernel_rfl)
  obtain ⟨fs,hfs⟩:=under_struct (P:=prog) (t:=28) (by kernel_rfl)
  refine SW.ret ⟨Marked.plain rfl,rfl,_,?_,rfl⟩
  show ares prog 21 [.cell 2 28,.tmp 3] S8 H8=_
  simp [ares,aress,ares1,s2,s3,h2,hi28,hfs,hs28,loadA,aggT,hx,AV.out,dem_dem,vw1_dem,ht10,AV.isData,AV.vw,AV.vw1,List.map_map]
end Go.Proofs.Tryz
namespace Go.Proofs.Tryz
open Go Go.AL Go.RowKit Go.Proofs
variable {GI:World→Prop}
noncomputable def prims2:CallF:=fun f args=>bif Nat.beq f 97 then p97 run1 args else bif Nat.beq f 107 then p107 run1 args else bif Nat.beq f 46 then p46 run1 args else prims1 f args
noncomputable def run2:CallF:=runF prog prims2 tab.get 1000 60
theorem prims2_sound (hG:Stable GI) (hML:∀ w,GI w→∃ m,w.cell? ⟨1,0,none⟩=some (.int .i64 m)) (f:Nat) (args:List AV) (out:AOut) (h:prims2 f args=some out):AC prog GI f args out:=by
 unfold prims2 at h
 rcases bsplit h with ⟨hf,h⟩ | ⟨_,h⟩
 ·have:=Nat.eq_of_beq_eq_true hf;subst this
  exact p97_ok hG (run1_sound hG hML) h
 rcases bsplit h with ⟨hf,h⟩ | ⟨_,h⟩
 ·have:=Nat.eq_of_beq_eq_true hf;subst this
  exact p107_ok hG (run1_sound hG hML) h
 rcases bsplit h with ⟨hf,h⟩ | ⟨_,h⟩
 ·have:=Nat.eq_of_beq_eq_true hf;subst this
  exact p46_ok hG (run1_sound hG hML) h
 exact prims1_sound hG hML f args out h
theorem run2_sound (hG:Stable GI) (hML:∀ w,GI w→∃ m,w.cell? ⟨1,0,none⟩=some (.int .i64 m)) (f:Nat) (args:List AV) (out:AOut) (h:run2 f args=some out):AC prog GI f args out :=
 runF_sound hG hmix (prims2_sound hG hML) (TrOK.tbl tabOK) 60 f args out h
noncomputable def fn40:FnL:=⟨c40,27,[.cell 2 31,.tmp 3,.tmp 4]⟩
noncomputable def fn119:FnL:=⟨c119,171,[.cell 2 28]⟩
noncomputable def p40 (args:List AV):Option AOut:=frzFn prog run2 1000 5 5 fn40 args
noncomputable def p119 (args:List AV):Option AOut:=frzFn prog run1 1000 5 5 fn119 args
theorem p40_ok (hG:Stable GI) (hML:∀ w,GI w→∃ m,w.cell? ⟨1,0,none⟩=some (.int .i64 m)) {args:List AV} {out:AOut} (h:p40 args=some out):AC prog GI 40 args out :=
 frzFn_sound hG hmix (run2_sound hG hML) (f:=40) (fn:=fn40) ⟨f40,_,func40,rfl,ntmps40,rfl,by kernel_rfl,by kernel_rfl⟩ h
theorem p119_ok (hG:Stable GI) (hML:∀ w,GI w→∃ m,w.cell? ⟨1,0,none⟩=some (.int .i64 m)) {args:List AV} {out:AOut} (h:p119 args=some out):AC prog GI 119 args out :=
 frzFn_sound hG hmix (run1_sound hG hML) (f:=119) (fn:=fn119) ⟨f119,_,func119,rfl,ntmps119,rfl,by kernel_rfl,by kernel_rfl⟩ h
noncomputable def p68:List AV→Option AOut
 |[.str s]=>bif Nat.ble s.length 320 then match p119 [.str s] with
  |some (.ret (.agg x))=>bif Nat.beq x.length 10 then match run1 96 [.agg (x.map AV.vw1)] with
   |some (.ret (.bool true))=>some (.ret (.tup [.agg (x.map AV.vw1),.int .i64 0]))
   |_=>none
   else none
  |_=>none
  else none
 |_=>none
theorem p68_ok (hG:Stable GI) (hML:∀ w,GI w→∃ m,w.cell? ⟨1,0,none⟩=some (.int .i64 m)) {args:List AV} {out:AOut} (h:p68 args=some out):AC prog GI 68 args out:=by
 unfold p68 at h
 split at h
 case h_2=>cases h
 rename_i s
 rcases bsplit h with ⟨hs,h⟩ | ⟨_,h⟩
 case inr=>cases h
 split at h
 case h_2=>cases h
 rename_i x h119
 rcases bsplit h with ⟨hx,h⟩ | ⟨_,h⟩
 case inr=>cases h
 split at h
 case h_2=>cases h
 rename_i h96
 cases h
 exact ac68 hG (Nat.le_of_ble_eq_true hs) (Nat.eq_of_beq_eq_true hx) (p119_ok hG hML h119) (run1_sound hG hML _ _ _ h96)
noncomputable def prims3:CallF:=fun f args=>bif Nat.beq f 40 then p40 args else bif Nat.beq f 68 then p68 args else prims2 f args
theorem prims3_sound (hG:Stable GI) (hML:∀ w,GI w→∃ m,w.cell? ⟨1,0,none⟩=some (.int .i64 m)) (f:Nat) (args:List AV) (out:AOut) (h:prims3 f args=some out):AC prog GI f args out:=by
 unfold prims3 at h
 rcases bsplit h with ⟨hf,h⟩ | ⟨_,h⟩
 ·have:=Nat.eq_of_beq_eq_true hf;subst this
  exact p40_ok hG hML h
 rcases bsplit h with ⟨hf,h⟩ | ⟨_,h⟩
 ·have:=Nat.eq_of_beq_eq_true hf;subst this
  exact p68_ok hG hML h
 exact prims2_sound hG hML f args out h
end Go.Proofs.Tryz
namespace Go.Proofs.Tryz
open Go Go.AL Go.RowKit Go.Proofs
variable {GI:World→Prop}
deriving instance DecidableEq for Pair
deriving instance DecidableEq for Word
structure Sheet where
 widths:List Int
 pairs:List Pair
 olo:Int
 ohi:Int
 glo:Int
 ghi:Int
 hyphen:Int
 words:List Word
 wide:Int
 rows:Int
deriving DecidableEq
def sheetL (s:Sheet):List AV:=[vI s.widths,.slice .view (s.pairs.map pairA),.int .i64 s.olo,.int .i64 s.ohi,.int .i64 s.glo,.int .i64 s.ghi,.int .i64 s.hyphen,.slice .view (s.words.map wordA),.int .i64 s.wide,.int .i64 s.rows]
def sheetA (s:Sheet):AV := .agg (sheetL s)
def dSheet:AV→Option Sheet
 |.agg [w,.slice .view ps,.int .i64 a,.int .i64 b,.int .i64 c,.int .i64 d,.int .i64 e,.slice .view ws,.int .i64 f,.int .i64 g]=>match dVI w with
  |some w=>match dMap dPair ps with
   |some ps=>match dMap dWord ws with
    |some ws=>some ⟨w,ps,a,b,c,d,e,ws,f,g⟩
    |none=>none
   |none=>none
  |none=>none
 |_=>none
theorem dSheet_eq (x:AV) (s:Sheet) (h:dSheet x=some s):x=sheetA s:=by
 unfold dSheet at h
 split at h
 case h_2=>cases h
 split at h
 case h_2=>cases h
 rename_i hw
 split at h
 case h_2=>cases h
 rename_i hp
 split at h<;>cases h
 rename_i hws
 rw [dVI_eq _ _ hw,dMap_eq dPair_eq hp,dMap_eq dWord_eq hws];rfl
def dSetting:AV→Option (List Int×List End)
 |.agg [o,.slice .view es]=>match dVI o with
  |some o=>match dMap dEnd es with
   |some es=>some (o,es)
   |none=>none
  |none=>none
 |_=>none
theorem dSetting_eq (x:AV) (s:List Int×List End) (h:dSetting x=some s):x=settingA s.1 s.2:=by
 unfold dSetting at h
 split at h
 case h_2=>cases h
 split at h
 case h_2=>cases h
 rename_i ho
 split at h<;>cases h
 rename_i hes
 rw [dVI_eq _ _ ho,dMap_eq dEnd_eq hes];rfl
def shA:Sheet:=⟨[6,4,8],[⟨0,1,1,3⟩,⟨2,0,0,2⟩],2,4,5,8,3,[⟨[2,0,1],[],false⟩,⟨[0,2],[1],true⟩],21,2⟩
def shB:Sheet:={ shA with wide:=18 }
def shC:Sheet:={ shA with rows:=1 }
def shD:Sheet:={ shA with words:=[⟨[2,0,1],[],false⟩,⟨[0,1],[1],true⟩] }
def shT:Sheet:=⟨[1],[],0,0,0,0,1,[⟨[0],[],false⟩],1,1⟩
def xX:List End:=[(0,3),(1,2)]
def yY:List End:=[(1,1),(1,2)]
def txt:List UInt8:=[102,114,111,110,116,32,49,32,49,10,115,112,97,99,101,115,32,48,32,48,32,48,32,48,32,49,10,115,105,103,110,32,49,10,119,111,114,100,32,110,111,32,48,32,45,10,101,110,100,32,48,57,56,10]
noncomputable def run3:CallF:=runF prog prims3 tab.get 1000 60
theorem run3_sound (hG:Stable GI) (hML:∀ w,GI w→∃ m,w.cell? ⟨1,0,none⟩=some (.int .i64 m)) (f:Nat) (args:List AV) (out:AOut) (h:run3 f args=some out):AC prog GI f args out :=
 runF_sound hG hmix (prims3_sound hG hML) (TrOK.tbl tabOK) 60 f args out h
end Go.Proofs.Tryz
namespace Go.Proofs.Tryz
open Go Go.AL Go.RowKit Go.Proofs
set_option maxRecDepth 100000
section
variable {H:Type} {enc:TypeId×Value→H} {w:World} {held:Bool}
def T0:Nat→Nat→Prop:=fun _ _=>True
def CellsRD (w:World) (l:List AV) (cs:List Value):Prop:=l.length=cs.length∧∀ i (h:i < l.length) (h':i < cs.length),(l[i]).one=true∧RD T0 w l[i] cs[i]
def Opens (enc:TypeId×Value→H) (w:World) (held:Bool) (t:TypeId) {α:Type} (f:α→List AV) (good:α→Prop):Prop :=
 ∀ (fuel:Nat) (cs:List Value) (x:DataW H×List MemPlace),DataW.trod enc prog w 0 (fun _=>true) held fuel t cs=some x→∃ a,good a∧CellsRD w (f a) cs
def I64 (n:Int):Prop := -9223372036854775808≤n∧n < 9223372036854775808
theorem opens_int {t:TypeId} (ht:prog.underlying t=some (.int .i64)):Opens enc w held t (fun n:Int=>[.int .i64 n]) I64:=by
 intro fuel cs x h
 obtain ⟨n,rfl,_,hw⟩:=DataW.trod_int ht h
 refine ⟨n,?_,rfl,fun i hi hi' => ?_⟩
 ·simp only [Lit.wf,Bool.and_eq_true,decide_eq_true_eq] at hw
  have h1:IntKind.i64.min = -9223372036854775808:=by kernel_rfl
  have h2:IntKind.i64.max=9223372036854775807:=by kernel_rfl
  rw [h1,h2] at hw
  exact ⟨hw.1,by omega⟩
 ·match i,hi with
  |0,_=>exact ⟨rfl,.int _ _⟩
theorem opens_bool {t:TypeId} (ht:prog.underlying t=some .bool):Opens enc w held t (fun b:Bool=>[.bool b]) (fun _=>True):=by
 intro fuel cs x h
 obtain ⟨b,rfl,_⟩:=DataW.trod_bool ht h
 refine ⟨b,trivial,rfl,fun i hi hi' => ?_⟩
 match i,hi with
 |0,_=>exact ⟨rfl,.bool _⟩
theorem choose_list {α:Type} {p:Nat→α→Prop}:∀ (n:Nat),(∀ i,i < n→∃ a,p i a)→∃ l:List α,l.length=n∧∀ i (h:i < l.length),p i l[i]
 |0,_=>⟨[],rfl,fun i h=>by simp at h⟩
 |n+1,h=>by
  obtain ⟨l,hl,hp⟩:=choose_list n fun i hi=>h i (by omega)
  obtain ⟨a,ha⟩:=h n (by omega)
  refine ⟨l++[a],by simp [hl],fun i hi => ?_⟩
  by_cases hin:i < l.length
  ·rw [List.getElem_append_left hin];exact hp i hin
  ·have:i=n:=by simp at hi;omega
   subst this
   rw [List.getElem_append_right (by omega)]
   simpa [hl] using ha
theorem addr_spot {w:World} {a:Addr} {v:Value} (h:w.cell? a=some v):a=⟨a.block,a.off,none⟩:=by
 obtain ⟨b,o,s⟩:=a
 unfold World.cell? at h
 cases s with
 |none=>rfl
 |some s =>
  simp at h
  split at h<;>simp at h
theorem opens_slice {t e:TypeId} {α:Type} {f:α→List AV} {good:α→Prop} (mk:α→AV) (hmk:∀ a,(mk a).cells=f a) (ht:prog.underlying t=some (.slice e)) (hpos:0 < prog.cellsOf e) (he:Opens enc w held e f good) :
  Opens enc w held t (fun l:List α=>[.slice .view (l.map mk)]) (fun l=>∀ a∈l,good a):=by
 intro fuel cs x h
 rcases DataW.trod_slice ht h with ⟨rfl,_⟩ | ⟨a,len,cap,elems,rest,n,_,rfl,_,_,hlc,hcm,hlen,hel,hsp,_⟩
 ·refine ⟨[],by simp,rfl,fun i hi hi' => ?_⟩
  match i,hi with
  |0,_=>exact ⟨rfl,.nils _⟩
 ·obtain ⟨size,hsize⟩:∃ size,prog.cellsOf e=size:=⟨_,rfl⟩
  rw [hsize] at hpos hel hsp
  obtain ⟨hrl,hrest⟩:=hsp rfl
  by_cases hcap:cap=0
  ·subst hcap
   have hl0:len=0:=by omega
   subst hl0
   refine ⟨[],by simp,rfl,fun i hi hi' => ?_⟩
   match i,hi with
   |0,_=>exact ⟨rfl,.emps _ _⟩
  have hcells:∃ i cs',w.cells? 0 (a.add (i * size)) size=some cs'∧i=0:=by
   by_cases hl0:len=0
   ·subst hl0
    have h0:=hrest 0 (by omega)
    rw [List.getElem?_eq_getElem (by omega),Option.bind_eq_some_iff] at h0
    obtain ⟨cs',h1,_⟩:=h0
    exact ⟨0,cs',by simpa using h1,rfl⟩
   ·have h0:=hel 0 (by omega)
    rw [List.getElem?_eq_getElem (by omega),Option.bind_eq_some_iff] at h0
    obtain ⟨cs',h1,_⟩:=h0
    exact ⟨0,cs',h1,rfl⟩
  obtain ⟨_,cs0,hcs0,rfl⟩:=hcells
  rw [Nat.zero_mul,show a.add 0=a by simp [Addr.add]] at hcs0
  have hc0:=(World.cells?_some hcs0).2.2 0 (by omega)
  rw [show a.add 0=a by simp [Addr.add]] at hc0
  have hl0:=(World.cells?_some hcs0).2.1
  rw [List.getElem?_eq_getElem (by omega)] at hc0
  obtain ⟨b,off,rfl⟩:∃ b off,a=⟨b,off,none⟩:=⟨_,_,addr_spot hc0⟩
  clear hc0 hcs0 hl0 cs0 hrest hsp
  obtain ⟨l,hl,hp⟩:=choose_list (p:=fun i (v:α)=>good v∧∃ cs',w.cells? 0 ((⟨b,off,none⟩:Addr).add (i * size)) size=some cs'∧CellsRD w (f v) cs') len fun i hi=>by
   have h0:=hel i hi
   rw [List.getElem?_eq_getElem (by omega),Option.bind_eq_some_iff] at h0
   obtain ⟨cs',h1,h2⟩:=h0
   obtain ⟨v,hv,hc⟩:=he _ _ _ h2
   exact ⟨v,hv,cs',h1,hc⟩
  refine ⟨l,fun v hv => ?_,rfl,fun i hi hi' => ?_⟩
  ·obtain ⟨i,hi,rfl⟩:=List.getElem_of_mem hv
   exact (hp i hi).1
  ·have hi0:i=0:=by simpa using hi
   subst hi0
   refine ⟨rfl,?_⟩
   show RD T0 w (.slice .view (l.map mk)) (.slice (some ⟨b,off,none⟩) len cap)
   have hlen':len=(l.map mk).length:=by simp [hl]
   have hmkl:∀ i (h:i < (l.map mk).length),((l.map mk)[i]).cells=f (l[i]'(by simpa using h)):=fun i h=>by rw [List.getElem_map];exact hmk _
   have key:∀ m,m=(l.map mk).length→RD T0 w (.slice .view (l.map mk)) (.slice (some ⟨b,off,none⟩) m cap) := ?_
   ·exact key _ hlen'
   rintro m rfl
   have hcell:∀ i (h:i < l.length) j,j < size→∃ cs',CellsRD w (f l[i]) cs'∧cs'.length=size∧w.cell? ⟨b,off+(i * size+j),none⟩=cs'[j]? := by
    intro i h j hj
    obtain ⟨_,cs',h1,h2⟩:=hp i h
    obtain ⟨_,h3,h4⟩:=World.cells?_some h1
    have h5:=h4 j hj
    rw [Addr.add_lit,Addr.add_lit,Nat.add_assoc] at h5
    exact ⟨cs',h2,h3,h5⟩
   have hszf:∀ i (h:i < l.length),(f l[i]).length=size:=by
    intro i h
    obtain ⟨cs',h1,h2,_⟩:=hcell i h 0 hpos
    rw [h1.1,h2]
   refine .slice .view (l.map mk) b off cap size (fun k=>(w.cell? ⟨b,off+k,none⟩).getD undef) (by rw [← hlen'];exact hlc) (fun h=>by cases h) (fun i h=>by rw [hmkl];exact hszf _ _) (fun i h j hj => ?_) (fun k hk=>⟨trivial,?_⟩) (fun i h j hj => ?_)
   ·have hil:i < l.length:=by simpa using h
    have hj':j < (f l[i]).length:=by rw [hmkl] at hj;exact hj
    have hjs:j < size:=by rw [hszf] at hj';exact hj'
    obtain ⟨cs',h1,h2,_⟩:=hcell i hil j hjs
    have e:((l.map mk)[i]).cells[j]=(f l[i])[j]:=by simp only [hmkl]
    rw [e]
    exact (h1.2 j hj' (by omega)).1
   ·have hk':k < l.length * size:=by simpa using hk
    have hi:k / size < l.length:=Nat.div_lt_of_lt_mul (by rw [Nat.mul_comm];exact hk')
    have hj:k % size < size:=Nat.mod_lt _ hpos
    obtain ⟨cs',h1,h2,h3⟩:=hcell (k / size) hi (k % size) hj
    have e:k / size * size+k % size=k:=by rw [Nat.mul_comm];exact Nat.div_add_mod k size
    rw [e,List.getElem?_eq_getElem (by omega)] at h3
    rw [h3];rfl
   ·have hil:i < l.length:=by simpa using h
    have hj':j < (f l[i]).length:=by rw [hmkl] at hj;exact hj
    have hjs:j < size:=by rw [hszf] at hj';exact hj'
    obtain ⟨cs',h1,h2,h3⟩:=hcell i hil j hjs
    rw [List.getElem?_eq_getElem (by omega)] at h3
    have e:((l.map mk)[i]).cells[j]=(f l[i])[j]:=by simp only [hmkl]
    rw [e,h3]
    exact (h1.2 j hj' (by omega)).2
def fieldsOf:TypeDesc→Option (List (TypeId×Nat))
 |.struct fs=>some (fs.toList.map fun f=>(f.type,f.offset))
 |_=>none
theorem trod_fields {t:TypeId} {flds:List (TypeId×Nat)} (hf:(prog.underlying t).bind fieldsOf=some flds) {fuel:Nat} {cs:List Value} {x:DataW H×List MemPlace} (h:DataW.trod enc prog w 0 (fun _=>true) held fuel t cs=some x) :
  cs.length=prog.cellsOf t∧∀ (i t' o:Nat),flds[i]? = some (t',o)→∃ n x',DataW.trod enc prog w 0 (fun _=>true) held n t' ((cs.drop o).take (prog.cellsOf t'))=some x':=by
 cases hu:prog.underlying t with
 |none=>rw [hu] at hf;cases hf
 |some d =>
  rw [hu] at hf
  cases d<;>first | (cases hf;done) | skip
  rename_i fs
  simp only [Option.bind_some,fieldsOf,Option.some.injEq] at hf
  obtain ⟨xs,n,_,_,hl,hxl,hall⟩:=DataW.trod_struct hu h
  refine ⟨hl,fun i t' o hi => ?_⟩
  rw [← hf,List.getElem?_map,Option.map_eq_some_iff] at hi
  obtain ⟨f,hfi,e⟩:=hi
  cases e
  have hfi':fs[i]? = some f:=by rw [← Array.getElem?_toList];exact hfi
  have:=hall i f hfi'
  have hlt:i < fs.size:=(Array.getElem?_eq_some_iff.1 hfi').1
  rw [List.getElem?_eq_getElem (by omega)] at this
  exact ⟨n,_,this⟩
theorem CellsRD.append {l1 l2:List AV} {c1 c2:List Value} (h1:CellsRD w l1 c1) (h2:CellsRD w l2 c2):CellsRD w (l1++l2) (c1++c2):=by
 refine ⟨by simp [h1.1,h2.1],fun i h h' => ?_⟩
 by_cases hi:i < l1.length
 ·rw [List.getElem_append_left hi,List.getElem_append_left (by rw [← h1.1];exact hi)]
  exact h1.2 i hi _
 ·rw [List.getElem_append_right (by omega),List.getElem_append_right (by rw [← h1.1];omega)]
  have:=h1.1
  simp only [this]
  exact h2.2 _ _ _
def GoodPair (p:Pair):Prop:=I64 p.l∧I64 p.r∧I64 p.lo∧I64 p.hi
def GoodWord (w:Word):Prop:=(∀ n∈w.signs,I64 n)∧∀ n∈w.cuts,I64 n
structure GoodSheet (s:Sheet):Prop where
 widths:∀ n∈s.widths,I64 n
 pairs:∀ p∈s.pairs,GoodPair p
 olo:I64 s.olo
 ohi:I64 s.ohi
 glo:I64 s.glo
 ghi:I64 s.ghi
 hyphen:I64 s.hyphen
 words:∀ w∈s.words,GoodWord w
 wide:I64 s.wide
 rows:I64 s.rows
theorem co3:prog.cellsOf 3=1:=by kernel_rfl
theorem co4:prog.cellsOf 4=1:=by kernel_rfl
theorem co22:prog.cellsOf 22=1:=by kernel_rfl
theorem co23:prog.cellsOf 23=1:=by kernel_rfl
theorem co25:prog.cellsOf 25=2:=by kernel_rfl
theorem co26:prog.cellsOf 26=1:=by kernel_rfl
theorem co28:prog.cellsOf 28=10:=by kernel_rfl
theorem co77:prog.cellsOf 77=3:=by kernel_rfl
theorem co119:prog.cellsOf 119=4:=by kernel_rfl
theorem u3:prog.underlying 3=some (.int .i64):=by kernel_rfl
theorem opens3:Opens enc w held 3 (fun n:Int=>[.int .i64 n]) I64:=opens_int u3
theorem opens22:Opens enc w held 22 (fun l:List Int=>[vI l]) (fun l=>∀ n∈l,I64 n) :=
 opens_slice (e:=3) (fun n:Int => .int .i64 n) (fun _=>rfl) (by kernel_rfl) (by rw [co3];omega) opens3
theorem opens25:Opens enc w held 25 (fun p:Int×Int=>[.int .i64 p.1,.int .i64 p.2]) (fun p=>I64 p.1∧I64 p.2):=by
 intro fuel cs x h
 obtain ⟨hl,hf⟩:=trod_fields (flds:=[(3,0),(3,1)]) (by kernel_rfl) h
 rw [co25] at hl
 match cs,hl with
 |[x0,x1],_ =>
  obtain ⟨_,_,h0⟩:=hf 0 3 0 rfl
  obtain ⟨_,_,h1⟩:=hf 1 3 1 rfl
  rw [co3] at h0 h1
  obtain ⟨a,ga,ra⟩:=opens3 _ _ _ h0
  obtain ⟨b,gb,rb⟩:=opens3 _ _ _ h1
  exact ⟨(a,b),⟨ga,gb⟩,ra.append rb⟩
theorem opens119:Opens enc w held 119 (fun p:Pair=>(pairA p).cells) GoodPair:=by
 intro fuel cs x h
 obtain ⟨hl,hf⟩:=trod_fields (flds:=[(3,0),(3,1),(25,2)]) (by kernel_rfl) h
 rw [co119] at hl
 match cs,hl with
 |[x0,x1,x2,x3],_ =>
  obtain ⟨_,_,h0⟩:=hf 0 3 0 rfl
  obtain ⟨_,_,h1⟩:=hf 1 3 1 rfl
  obtain ⟨_,_,h2⟩:=hf 2 25 2 rfl
  rw [co3] at h0 h1
  rw [co25] at h2
  obtain ⟨a,ga,ra⟩:=opens3 _ _ _ h0
  obtain ⟨b,gb,rb⟩:=opens3 _ _ _ h1
  obtain ⟨c,gc,rc⟩:=opens25 _ _ _ h2
  exact ⟨⟨a,b,c.1,c.2⟩,⟨ga,gb,gc.1,gc.2⟩,ra.append (rb.append rc)⟩
theorem opens23:Opens enc w held 23 (fun l:List Pair=>[.slice .view (l.map pairA)]) (fun l=>∀ p∈l,GoodPair p) :=
 opens_slice (e:=119) pairA (fun _=>rfl) (by kernel_rfl) (by rw [co119];omega) opens119
theorem opens77:Opens enc w held 77 (fun x:Word=>(wordA x).cells) GoodWord:=by
 intro fuel cs x h
 obtain ⟨hl,hf⟩:=trod_fields (flds:=[(22,0),(22,1),(4,2)]) (by kernel_rfl) h
 rw [co77] at hl
 match cs,hl with
 |[x0,x1,x2],_ =>
  obtain ⟨_,_,h0⟩:=hf 0 22 0 rfl
  obtain ⟨_,_,h1⟩:=hf 1 22 1 rfl
  obtain ⟨_,_,h2⟩:=hf 2 4 2 rfl
  rw [co22] at h0 h1
  rw [co4] at h2
  obtain ⟨a,ga,ra⟩:=opens22 _ _ _ h0
  obtain ⟨b,gb,rb⟩:=opens22 _ _ _ h1
  obtain ⟨c,_,rc⟩:=opens_bool (t:=4) (by kernel_rfl) _ _ _ h2
  exact ⟨⟨a,b,c⟩,⟨ga,gb⟩,ra.append (rb.append rc)⟩
theorem opens26:Opens enc w held 26 (fun l:List Word=>[.slice .view (l.map wordA)]) (fun l=>∀ x∈l,GoodWord x) :=
 opens_slice (e:=77) wordA (fun _=>rfl) (by kernel_rfl) (by rw [co77];omega) opens77
theorem opens28:Opens enc w held 28 sheetL GoodSheet:=by
 intro fuel cs x h
 obtain ⟨hl,hf⟩:=trod_fields (flds:=[(22,0),(23,1),(25,2),(25,4),(3,6),(26,7),(3,8),(3,9)]) (by kernel_rfl) h
 rw [co28] at hl
 match cs,hl with
 |[x0,x1,x2,x3,x4,x5,x6,x7,x8,x9],_ =>
  obtain ⟨_,_,h0⟩:=hf 0 22 0 rfl
  obtain ⟨_,_,h1⟩:=hf 1 23 1 rfl
  obtain ⟨_,_,h2⟩:=hf 2 25 2 rfl
  obtain ⟨_,_,h3⟩:=hf 3 25 4 rfl
  obtain ⟨_,_,h4⟩:=hf 4 3 6 rfl
  obtain ⟨_,_,h5⟩:=hf 5 26 7 rfl
  obtain ⟨_,_,h6⟩:=hf 6 3 8 rfl
  obtain ⟨_,_,h7⟩:=hf 7 3 9 rfl
  rw [co22] at h0
  rw [co23] at h1
  rw [co25] at h2 h3
  rw [co3] at h4 h6 h7
  rw [co26] at h5
  obtain ⟨a0,g0,r0⟩:=opens22 _ _ _ h0
  obtain ⟨a1,g1,r1⟩:=opens23 _ _ _ h1
  obtain ⟨a2,g2,r2⟩:=opens25 _ _ _ h2
  obtain ⟨a3,g3,r3⟩:=opens25 _ _ _ h3
  obtain ⟨a4,g4,r4⟩:=opens3 _ _ _ h4
  obtain ⟨a5,g5,r5⟩:=opens26 _ _ _ h5
  obtain ⟨a6,g6,r6⟩:=opens3 _ _ _ h6
  obtain ⟨a7,g7,r7⟩:=opens3 _ _ _ h7
  exact ⟨⟨a0,a1,a2.1,a2.2,a3.1,a3.2,a4,a5,a6,a7⟩,⟨g0,g1,g2.1,g2.2,g3.1,g3.2,g4,g5,g6,g7⟩,r0.append (r1.append (r2.append (r3.append (r4.append (r5.append (r6.append r7))))))⟩
theorem open_sheet {d:DataW H} {ps:List MemPlace} {v:Value} {r:Reach} {base:Nat} (hval:Value.okWide prog w r base 28 v) (h:DataW.Trod enc prog w 0 (fun _=>true) held 28 v d ps):∃ s:Sheet,GoodSheet s∧RD T0 w (sheetA s) v:=by
 obtain ⟨fuel,hf⟩:=h
 obtain ⟨s,gs,hc⟩:=opens28 _ _ _ hf
 refine ⟨s,gs,?_⟩
 obtain ⟨fs,hfs⟩:=under_struct (P:=prog) (t:=28) (by kernel_rfl)
 obtain ⟨cs,rfl,_⟩:=WideShapes.okWide_struct hfs hval
 refine .agg _ _ (by simpa [Value.cells] using hc.1) (fun i hi=>(hc.2 i hi (by rw [← hc.1];exact hi)).1) (fun i hi hi' => ?_)
 have:=(hc.2 i hi (by rw [← hc.1];exact hi)).2
 simpa [Value.cells] using this
end
end Go.Proofs.Tryz
