/-
  A part of the proof: P2 P3 P4 P5.
-/
import Derived.Test.YtjdgdinalodjfaaGreatDoorTie
import Derived.Shelf.Vars
import Derived.ProofKit
import Derived.OpenShut
import Derived.LaidMore
import Derived.Lay
import Derived.SevenTiedAt
import Derived.Stop.Joined
import Derived.Test.YtjdgdinalodjfaaGreatDoorCards
import Derived.MakeChecks
import Derived.Test.YtjdgdinalodjfaaGreatDoorK2
set_option linter.all false
set_option linter.unusedVariables false
set_option linter.unusedSimpArgs false
set_option linter.deprecated false
namespace Go.Proofs.YtjdgdinalodjfaaGreatDoor
open Go Go.AL Go.ChangeShapes Go.WideShapes Go.ChangeAt Go.RowKit
theorem own:ownKnob Tryz.prog.godebug=none:=by kernel_rfl
theorem laidOut':laidOutB Tryz.prog=true:=by kernel_rfl
def GI (w:World):Prop:=∃ m,w.cell? ⟨1,0,none⟩=some (.int .i64 m)
theorem gi_stable:Stable GI:=by
 rintro w w' ⟨m,hm⟩ hb
 refine ⟨m,?_⟩
 have h1:1 < w.heap.size:=by
  unfold World.cell? at hm
  by_cases h:1 < w.heap.size
  ·exact h
  ·have:w.heap[1]? = none:=by simp;omega
   simp [this] at hm
 unfold World.cell? at hm ⊢
 rw [hb.block 1 h1]
 exact hm
theorem gi_of {w:World} (h:w.ShapedOpen Tryz.prog):GI w :=
 cell_of_shapedOpen_int (g:=1) (t:=3) (zero := #[.int .i64 0]) (k := .i64) h (of_decide_eq_true (by kernel_rfl)) (by kernel_rfl) rfl (by kernel_rfl) (by kernel_rfl) (by kernel_rfl)
abbrev laid5:List (String×DataW Unit):=Rows.letterAlikesRow.laid
variable {H:Type} {enc:TypeId×Value→H}
theorem trodAll_length {w:World} {base:Nat} {spare:Nat→Bool} {held:Bool}:∀ {ts:List TypeId} {vs:List Value} {ds:List (DataW H)} {ps:List MemPlace},DataW.TrodAll enc Tryz.prog w base spare held ts vs ds ps→ds.length=ts.length
 |[],[],[],_,_=>rfl
 |_::_,_::_,_::_,_,⟨_,_,_,h,_⟩=>congrArg (· + 1) (trodAll_length h)
theorem trodAll_below {W W':World} (hb:Below W.heap.size W W'):∀ {ts:List TypeId} {vs:List Value} {ds:List (DataW H)} {ps:List MemPlace},(∀ t∈ts,Tryz.prog.readableRec t=true∧t < Tryz.prog.types.size) →
  DataW.TrodAll enc Tryz.prog W 0 (fun _=>true) true ts vs ds ps→(∀ x∈ps,x.block < W.heap.size)→DataW.TrodAll enc Tryz.prog W' 0 (fun b=>decide (b < W.heap.size)) true ts vs ds ps
 |[],[],[],_,_,h,_=>h
 |t::_,_::_,_::_,_,hr,⟨p,q,h1,h2,e⟩,hlt=>by
  subst e
  exact ⟨p,q,Below.trod laidOut' (hr t List.mem_cons_self).1 (hr t List.mem_cons_self).2 h1 hb (fun x hx=>hlt x (List.mem_append_left _ hx)),trodAll_below hb (fun u hu=>hr u (List.mem_cons_of_mem _ hu)) h2 (fun x hx=>hlt x (List.mem_append_right _ hx)),rfl⟩
set_option maxRecDepth 100000 in
theorem lifted_of (f:FuncId) (fn:Func) (hfn:Tryz.checked.prog.funcs[f]? = some fn) (noInit:Tryz.checked.prog.inits.idxOf? f=none) (hres:fn.resultTypes = #[4]) (spec:ChangeSpec) (hvars:spec.vars=[])
  (hspec:∀ (ds:List (DataW H)),ds.length=fn.params.size→spec.fn H ds={ results:=[.lit (.bool true)],args:=ds })
  (hrd:∀ t∈fn.params.toList,Tryz.prog.readableRec t=true∧t < Tryz.prog.types.size)
  (os:Os) (started:os.Started) (args0:Array Value) (fuel:Nat)
  (hsh:((World.laidAll Tryz.prog os laid5).forCall (fun _ _=>0) ⟨#[],args0,[]⟩).Shaped Tryz.checked.prog)
  (hok:Input.okWideB Tryz.checked.prog ((World.laidAll Tryz.prog os laid5).forCall (fun _ _=>0) ⟨#[],args0,[]⟩) f ⟨#[],args0,[]⟩=true)
  (hpre:spec.preB enc Tryz.checked.prog fn [] false ((World.laidAll Tryz.prog os laid5).forCall (fun _ _=>0) ⟨#[],args0,[]⟩).memory args0 fuel=true)
  (hsz:spec.sizedB enc Tryz.checked.prog fn false ((World.laidAll Tryz.prog os laid5).forCall (fun _ _=>0) ⟨#[],args0,[]⟩).memory args0 fuel=true)
  (hx:laidMetH Tryz.prog laid5 ((World.laidAll Tryz.prog os laid5).forCall (fun _ _=>0) ⟨#[],args0,[]⟩).memory)
  (hcall:∀ (W:World) (base:Nat) (args:Array Value) (ds:List (DataW H)) (p:List MemPlace),GI W →
   (∀ (j:Nat) t v,fn.params[j]? = some t→args[j]? = some v→Value.okWide Tryz.prog W .any base t v) →
   DataW.TrodAll enc Tryz.prog W 0 (fun _=>true) true fn.params.toList args.toList ds p →
   Calls Tryz.prog f args W fun e W'=>e = .returned (.bool true)∧Below W.heap.size W W') :
  ReturnsInHanded {} Tryz.checked os f .any (fun w args=>(spec.pre enc Tryz.checked.prog fn [] false w args∧laidMetH Tryz.checked.prog laid5 w)∧sizedMet enc Tryz.checked.prog fn (OpenSpec.ofChange spec) false w args)
   (spec.post enc Tryz.checked.prog fn false true false false):=by
 refine returnsInHanded_of_calls (C:=Tryz.checked) own started noInit
  (ChangeSpec.witness_shaped (enc:=enc) (C:=Tryz.checked) (os:=os) (X:=fun w _=>laidMetH Tryz.prog laid5 w) false (World.laidAll Tryz.prog os laid5) args0 fuel (World.laidAll_os _ _ _) hsh hok hpre hsz hx) ?_
 intro w tape i _ hopen _ hok' hp _
 obtain ⟨_,_,_,fn',hfn',_,_,_,_,hval⟩:=hok'
 have e:fn'=fn:=Option.some.inj (hfn'.symm.trans hfn)
 subst e
 obtain ⟨⟨⟨ds,gs,before,hw,hc⟩,_⟩,hz⟩:=hp
 have hw':=DataW.Whole.of_heap (w':=w.forCall tape i) (by rfl) hw
 have hW:=hw'
 obtain ⟨p,q,hA,hV,rfl,_,_⟩:=hw'
 have hgs:gs=[]∧q=[]:=by
  rw [hvars] at hV
  obtain ⟨rfl,rfl⟩:=trodVars_none hV
  exact ⟨rfl,rfl⟩
 obtain ⟨rfl,rfl⟩:=hgs
 have hA':DataW.TrodAll enc Tryz.prog (w.forCall tape i) 0 (fun _=>true) true fn'.params.toList i.args.toList ds p:=hA
 have hlt:∀ x∈p,x.block < (w.forCall tape i).heap.size:=fun x hx=>by simpa using hW.lt x (List.mem_append_left _ hx)
 refine (hcall (w.forCall tape i) w.heap.size i.args ds p (gi_of hopen) hval hA').mono fun e W' ⟨he,hb⟩ => ?_
 subst he
 show spec.post enc Tryz.checked.prog fn' false true false false (w.forCall tape i).blind i.args (.bool true) W'.blind
 refine ChangeSpec.post_blind (?_:spec.post enc Tryz.checked.prog fn' false true false false (w.forCall tape i) i.args (.bool true) W')
 have hdl:ds.length=fn'.params.size:=by
  rw [trodAll_length hA'];simp
 refine ⟨ds,[],p++[],[] ,p,[],hW,?_,?_,?_,hb.frame _,fun h=>by cases h⟩
 ·rw [List.append_nil,hspec ds hdl,hres]
  exact trodAll_mk1 (shut_bool (by kernel_rfl) _)
 ·rw [List.append_nil,hspec ds hdl]
  exact trodAll_below hb hrd hA' hlt
 ·rw [List.append_nil,hspec ds hdl,hvars]
  rfl
end Go.Proofs.YtjdgdinalodjfaaGreatDoor
namespace Go.Proofs.YtjdgdinalodjfaaGreatDoor
open Go Go.AL Go.ChangeShapes Go.WideShapes Go.ChangeAt Go.RowKit
set_option maxRecDepth 100000
def ch (l:List Nat):List Char:=l.map Char.ofNat
def w1:List Nat:=[104,97,114,110,101,115,115]
def w2:List Nat:=[99,54,99,51,53,99,50,54,51,53,48,102,56,102,49,48,48,49,101,50,56,54,98,97,98,97,48,55,100,98,102,98,102,97,99,97,49,54,102,101,51,51,49,49,57,49,55,98,52,102,55,48,52,51,97,50,98,52,53,98,50,57,52,56]
def w3:List Nat:=[99,117,116]
def w4:List Nat:=[97,116,32,109,97,104,108,115,116,105,99,107,47,109,97,104,108,115,116,105,99,107,108,97,119,48,49,46,76,101,116,116,101,114,80,108,97,99,101,100,32,109,97,104,108,115,116,105,99,107,47,109,97,104,108,115,116,105,99,107,108,97,119,48,49,46,76,101,116,116,101,114,83,116,114,101,116,99,104,101,115,32,109,97,104,108,115,116,105,99,107,47,109,97,104,108,115,116,105,99,107,108,97,119,48,49,46,76,101,116,116,101,114,87,105,100,101,32,109,97,104,108,115,116,105,99,107,47,109,97,104,108,115,116,105,99,107,108,97,119,48,49,46,76,101,116,116,101,114,83,101,116,115,32,109,97,104,108,115,116,105,99,107,47,109,97,104,108,115,116,105,99,107,108,97,119,48,49,46,76,101,116,116,101,114,82,105,118,97,108,32,109,97,104,108,115,116,105,99,107,47,109,97,104,108,115,116,105,99,107,108,97,119,48,49,46,76,101,116,116,101,114,67,111,117,110,116,115,32,109,97,104,108,115,116,105,99,107,47,109,97,104,108,115,116,105,99,107,108,97,119,48,49,46,76,101,116,116,101,114,76,105,115,116,101,100,32,109,97,104,108,115,116,105,99,107,47,109,97,104,108,115,116,105,99,107,108,97,119,48,49,46,76,101,116,116,101,114,68,114,111,112,115,32,109,97,104,108,115,116,105,99,107,47,109,97,104,108,115,116,105,99,107,108,97,119,48,49,46,76,101,116,116,101,114,76,101,115,115,32,109,97,104,108,115,116,105,99,107,47,109,97,104,108,115,116,105,99,107,108,97,119,48,49,46,76,101,116,116,101,114,79,118,101,114,115,32,109,97,104,108,115,116,105,99,107,47,109,97,104,108,115,116,105,99,107,108,97,119,48,49,46,76,101,116,116,101,114,67,117,116,79,102,102,32,109,97,104,108,115,116,105,99,107,47,109,97,104,108,115,116,105,99,107,108,97,119,48,49,46,76,101,116,116,101,114,70,114,111,110,116,115,32,109,97,104,108,115,116,105,99,107,47,109,97,104,108,115,116,105,99,107,108,97,119,48,49,46,76,101,116,116,101,114,65,108,105,107,101,115,32,109,97,104,108,115,116,105,99,107,47,109,97,104,108,115,116,105,99,107,108,97,119,48,49,46,76,101,116,116,101,114,70,101,108,108,32,109,97,104,108,115,116,105,99,107,47,109,97,104,108,115,116,105,99,107,108,97,119,48,49,46,76,101,116,116,101,114,77,111,114,101,32,109,97,104,108,115,116,105,99,107,47,109,97,104,108,115,116,105,99,107,108,97,119,48,49,46,76,101,116,116,101,114,87,105,100,116,104,115,32,109,97,104,108,115,116,105,99,107,47,109,97,104,108,115,116,105,99,107,108,97,119,48,49,46,76,101,116,116,101,114,80,114,105,110,116,115,32,109,97,104,108,115,116,105,99,107,47,109,97,104,108,115,116,105,99,107,108,97,119,48,49,46,76,101,116,116,101,114,82,101,97,100,115,32,109,97,104,108,115,116,105,99,107,47,109,97,104,108,115,116,105,99,107,108,97,119,48,49,46,76,101,116,116,101,114,83,112,111,105,108,116]
theorem words_cons:∀ {a b:List Char},(a.all fun c=>c != Char.ofNat 32)=true→wordsSigns (a++Char.ofNat 32::b)=a::wordsSigns b
 |[],b,_=>rfl
 |c::a,b,h=>by
  simp only [List.all_cons,Bool.and_eq_true,bne_iff_ne] at h
  have ih:=words_cons (b:=b) h.2
  show wordsSigns (c::(a++Char.ofNat 32::b))=_
  conv=>lhs;unfold wordsSigns
  split
  ·rename_i e;cases e
  ·rename_i e;cases e;exact absurd rfl h.1
  ·rename_i e;cases e;rw [ih]
theorem head_eq:Tryz.prog.initOrder=String.ofList (ch w1++Char.ofNat 32::(ch w2++Char.ofNat 32::(ch w3++Char.ofNat 32::ch w4))):=by kernel_rfl
theorem head_words:wordsSigns Tryz.prog.initOrder.toList=ch w1::ch w2::ch w3::wordsSigns (ch w4):=by
 rw [head_eq,String.toList_ofList,words_cons (by kernel_rfl),words_cons (by kernel_rfl),words_cons (by kernel_rfl)]
theorem p_sum:ch w2 = "c6c35c26350f8f1001e286baba07dbfbfaca16fe3311917b4f7043a2b45b2948".toList:=by
 have : "c6c35c26350f8f1001e286baba07dbfbfaca16fe3311917b4f7043a2b45b2948" = String.ofList (ch w2):=by kernel_rfl
 rw [this,String.toList_ofList]
theorem tl (s:String) (l:List Nat) (h:s=String.ofList (ch l)):s.toList=ch l:=by rw [h,String.toList_ofList]
theorem tl_harness : "harness".toList=ch [104,97,114,110,101,115,115]:=tl _ _ (by kernel_rfl)
theorem tl_ownmain : "ownmain".toList=ch [111,119,110,109,97,105,110]:=tl _ _ (by kernel_rfl)
theorem tl_gc : "gc".toList=ch [103,99]:=tl _ _ (by kernel_rfl)
theorem tl_spec : "spec".toList=ch [115,112,101,99]:=tl _ _ (by kernel_rfl)
theorem tl_stop : "stop".toList=ch [115,116,111,112]:=tl _ _ (by kernel_rfl)
theorem tl_carried : "carried".toList=ch [99,97,114,114,105,101,100]:=tl _ _ (by kernel_rfl)
theorem tl_cut : "cut".toList=ch [99,117,116]:=tl _ _ (by kernel_rfl)
theorem tl_finals : "finals".toList=ch [102,105,110,97,108,115]:=tl _ _ (by kernel_rfl)
theorem tl_reflectrows : "reflectrows".toList=ch [114,101,102,108,101,99,116,114,111,119,115]:=tl _ _ (by kernel_rfl)
theorem tl_leanrows : "leanrows".toList=ch [108,101,97,110,114,111,119,115]:=tl _ _ (by kernel_rfl)
theorem tl_onebuild : "onebuild".toList=ch [111,110,101,98,117,105,108,100]:=tl _ _ (by kernel_rfl)
theorem tl_publicsums : "publicsums".toList=ch [112,117,98,108,105,99,115,117,109,115]:=tl _ _ (by kernel_rfl)
theorem tl_eqguard : "eqguard".toList=ch [101,113,103,117,97,114,100]:=tl _ _ (by kernel_rfl)
theorem tl_ownunsafe : "ownunsafe".toList=ch [111,119,110,117,110,115,97,102,101]:=tl _ _ (by kernel_rfl)
theorem tl_libbeside : "libbeside".toList=ch [108,105,98,98,101,115,105,100,101]:=tl _ _ (by kernel_rfl)
theorem tl_ownbeside : "ownbeside".toList=ch [111,119,110,98,101,115,105,100,101]:=tl _ _ (by kernel_rfl)
theorem tl_reflbeside : "reflbeside".toList=ch [114,101,102,108,98,101,115,105,100,101]:=tl _ _ (by kernel_rfl)
theorem tl_aliases : "aliases".toList=ch [97,108,105,97,115,101,115]:=tl _ _ (by kernel_rfl)
theorem tl_afterinit : "afterinit".toList=ch [97,102,116,101,114,105,110,105,116]:=tl _ _ (by kernel_rfl)
theorem tl_crcplain : "crcplain".toList=ch [99,114,99,112,108,97,105,110]:=tl _ _ (by kernel_rfl)
theorem tl_roadunsafe : "roadunsafe".toList=ch [114,111,97,100,117,110,115,97,102,101]:=tl _ _ (by kernel_rfl)
theorem tl_fmthandon : "fmthandon".toList=ch [102,109,116,104,97,110,100,111,110]:=tl _ _ (by kernel_rfl)
theorem p_isSum:isSumSigns (ch w2)=true:=by kernel_rfl
def mainOf (ws:List (List Char)):Option (Bool×List Char):=match ws with
 |h::s::_=>if !isSumSigns s then none else if h == "harness".toList then some (true,s) else if h == "ownmain".toList then some (false,s) else none
 |_=>none
theorem mainIs_of (P:Program):P.mainIs=mainOf (wordsSigns P.initOrder.toList):=rfl
theorem mainOf_eq (R:List (List Char)):mainOf (ch w1::ch w2::ch w3::R)=some (true,ch w2):=by
 simp only [mainOf,p_isSum,tl_harness]
 rfl
theorem p_mainIs:Tryz.prog.mainIs=some (true,ch w2):=(mainIs_of _).trans ((congrArg mainOf head_words).trans (mainOf_eq _))
theorem behind_eq (R:List (List Char)):behindMainWord (ch w1::ch w2::R)=R:=by
 simp only [behindMainWord,p_isSum,tl_harness,tl_ownmain]
 rfl
theorem p_behind:behindMainWord (wordsSigns Tryz.prog.initOrder.toList)=ch w3::wordsSigns (ch w4):=(congrArg behindMainWord head_words).trans (behind_eq _)
theorem p_strip (R:List (List Char)):stripLifts liftWords (ch w3::R)=([],ch w3::R):=by
 unfold liftWords
 simp only [stripLifts,tl_finals,tl_reflectrows,tl_leanrows,tl_onebuild,tl_publicsums,tl_eqguard,tl_ownunsafe,tl_libbeside,tl_ownbeside,tl_reflbeside,tl_aliases,tl_afterinit,tl_crcplain,tl_roadunsafe,tl_fmthandon]
 rfl
def headOf (ws:List (List Char)):List String:=if (stripLifts liftWords ws).2.head? == some "cut".toList then (stripLifts liftWords ws).1 else []
theorem headLifts_of (P:Program):P.headLifts=headOf (behindMainWord (wordsSigns P.initOrder.toList)):=rfl
theorem headOf_eq (R:List (List Char)):headOf (ch w3::R)=[]:=by
 simp only [headOf,p_strip,tl_cut]
 rfl
theorem p_headLifts:Tryz.prog.headLifts=[]:=(headLifts_of _).trans ((congrArg headOf p_behind).trans (headOf_eq _))
theorem makeOf_eq {P:Program} {R:List (List Char)} (h:behindMainWord (wordsSigns P.initOrder.toList)=ch w3::R) (hl:P.headLifts=[]):P.make=some .cut:=by
 unfold Program.make
 rw [h]
 simp only [tl_cut,tl_gc,tl_spec,tl_finals,tl_carried,hl]
 rfl
theorem p_make:Tryz.prog.make=some .cut:=makeOf_eq p_behind p_headLifts
theorem liftsFinal_eq {P:Program} {R:List (List Char)} (h:behindMainWord (wordsSigns P.initOrder.toList)=ch w3::R) (hl:P.headLifts=[]):P.liftsFinal=false:=by
 unfold Program.liftsFinal
 simp only [h,tl_cut,tl_gc,tl_carried,hl]
 rfl
theorem p_liftsFinal:Tryz.prog.liftsFinal=false:=liftsFinal_eq p_behind p_headLifts
theorem p_laysLater:Tryz.prog.laysLater=false:=by kernel_rfl
theorem p_bearsReflect:Tryz.prog.bearsReflect=false:=by kernel_rfl
theorem p_doorFits:Tryz.prog.doorFits []=true:=by kernel_rfl
theorem mayEnter_eq {P:Program} {R:List (List Char)} (h:behindMainWord (wordsSigns P.initOrder.toList)=ch w3::R) (h1:P.laysLater=false) (h2:P.bearsReflect=false) (h3:P.doorFits []=true):P.mayEnter=true:=by
 unfold Program.mayEnter
 rw [h]
 simp only [p_strip,tl_cut,tl_gc,tl_carried,tl_spec,tl_stop,h1,h2,h3]
 rfl
theorem p_mayEnter:Tryz.prog.mayEnter=true:=mayEnter_eq p_behind p_laysLater p_bearsReflect p_doorFits
end Go.Proofs.YtjdgdinalodjfaaGreatDoor
namespace Go.Proofs.YtjdgdinalodjfaaGreatDoor
open Go Go.AL Go.ChangeShapes Go.WideShapes Go.ChangeAt Go.RowKit Go.Proofs.Tryz
set_option maxRecDepth 100000
theorem p_mapsRowed:mapsRowed Tryz.prog=true:=by kernel_rfl
theorem p_stops:(Tryz.prog.stops==[])=true:=by kernel_rfl
theorem p_stopKnobs:(Tryz.prog.stopKnobs==[])=true:=by kernel_rfl
theorem p_plainKeys:Tryz.prog.plainKeys=false:=by kernel_rfl
theorem p_stopsHeard:Tryz.prog.stopsHeard=true:=by kernel_rfl
theorem p_looks:true=Tryz.prog.looks []:=by kernel_rfl
theorem joined_of {f:FuncId} {fn:Func} {s:ChangeSpec} {c:OpenClaim}
  (h0:c.stops=[]∧c.knobs=[]∧c.plainKeys=false∧c.shortTexts=none∧c.lifted=false∧c.make = .cut)
  (h1:c.wf (OpenSpec.ofChange s)=true) (h2:fn.params.all (Tryz.prog.readableRec ·)=true) (h3:namedTie Tryz.prog c.named s.vars=true)
  (h4:(c.inPlace==Tryz.prog.inPlace f)=true) (h5:(c.unfollowed==Tryz.prog.unfollowed f)=true) (h6:(c.recurses==Tryz.prog.recurses f)=true) (h7:(c.named==Tryz.prog.varsNamed f)=true)
  (h8:((c.maps==(fn.params.toList++s.plain.varTypes Tryz.prog).any (Tryz.prog.mapsRec ·)) && (c.ifaces==(fn.params.toList++s.plain.varTypes Tryz.prog).any (Tryz.prog.ifacesRec ·)) && (c.mapsOut==Tryz.prog.mapsAmong fn.resultTypes.toList) &&
   (c.loops==(fn.params.toList++s.plain.varTypes Tryz.prog).any (Tryz.prog.loopsFrom ·)) && (c.wideKeys==(fn.params.toList++s.plain.varTypes Tryz.prog++fn.resultTypes.toList).any (Tryz.prog.wideKeysFrom ·)) &&
   s.vars.all (Tryz.prog.varReadable ·) && fn.resultTypes.all (fun t=>Tryz.prog.readableRec t && decide (t < Tryz.prog.types.size)) && (c.ifacesOut==fn.resultTypes.toList.any (Tryz.prog.ifacesRec ·)) && (c.loopsOut==fn.resultTypes.toList.any (Tryz.prog.loopsFrom ·)))=true)
  (h9:(c.kinds==(if c.domain.isEmpty then [] else fn.params.toList.map fun t=>match Tryz.prog.underlying t with | some (.int k)=>some k | _=>none))=true) (h10:(c.pinned==c.pinnedBy)=true)
  (h11:((c.veiled==(fn.params.toList++s.plain.varTypes Tryz.prog++fn.resultTypes.toList).any (Tryz.prog.veiledRec ·)) && c.veiledFits Tryz.prog fn.params.toList (fn.params.toList++s.plain.varTypes Tryz.prog++fn.resultTypes.toList))=true) :
  joinedFacts Tryz.prog f fn s c=true:=by
 obtain ⟨a1,a2,a3,a4,a5,a6⟩:=h0
 unfold joinedFacts
 simp only [Bool.and_eq_true] at h8 h11 ⊢
 obtain ⟨⟨⟨⟨⟨⟨⟨⟨b1,b2⟩,b3⟩,b4⟩,b5⟩,b6⟩,b7⟩,b8⟩,b9⟩:=h8
 refine ⟨⟨⟨⟨⟨⟨⟨⟨⟨⟨⟨⟨⟨⟨⟨⟨⟨⟨⟨⟨⟨⟨⟨⟨⟨⟨⟨⟨⟨⟨⟨h1,laidOut'⟩,p_mapsRowed⟩,h2⟩,h3⟩,?_⟩,p_stops⟩,?_⟩,p_stopKnobs⟩,h4⟩,h5⟩,h6⟩,h7⟩,b1⟩,b2⟩,b3⟩,b4⟩,b5⟩,b6⟩,b7⟩,b8⟩,b9⟩,?_⟩,?_⟩,p_stopsHeard⟩,p_mayEnter⟩,?_⟩,?_⟩,h9⟩,h10⟩,h11.1⟩,h11.2⟩
 ·rw [a1];rfl
 ·rw [a2];rfl
 ·rw [a3,p_plainKeys];rfl
 ·rw [a4];rfl
 ·rw [a5,p_liftsFinal];rfl
 ·rw [p_make,a6];rfl
theorem calls_of {G:World→Prop} {f:Nat} {avs:List AV} {W:World} {args:Array Value} (h:AC Tryz.prog G f avs (.ret (.bool true))) (hG:G W) (hl:avs.length=args.size) (hr:∀ i (h:i < avs.length) (h':i < args.size),RV T0 (fun _=>none) W avs[i] args[i]) :
  Calls Tryz.prog f args W fun e W'=>e = .returned (.bool true)∧Below W.heap.size W W':=by
 refine (h W T0 args hG hl hr).mono ?_
 rintro e W' ⟨hb,hi,_,c,rfl,hv,_⟩
 cases hv with
 |data _ _ h=>cases h with
  |bool b=>exact ⟨rfl,hb⟩
end Go.Proofs.YtjdgdinalodjfaaGreatDoor
namespace Go.Proofs.Tryz
open Go Go.AL Go.RowKit Go.Proofs
set_option maxRecDepth 100000
section
variable {H:Type} {enc:TypeId×Value→H} {w:World} {held:Bool}
theorem open_int {d:DataW H} {ps:List MemPlace} {v:Value} {r:Reach} {base:Nat} (hval:Value.okWide prog w r base 3 v) (h:DataW.Trod enc prog w 0 (fun _=>true) held 3 v d ps):∃ n:Int,I64 n∧RD T0 w (.int .i64 n) v:=by
 obtain ⟨fuel,hf⟩:=h
 obtain ⟨n,gn,hc⟩:=opens3 _ _ _ hf
 obtain ⟨m,rfl⟩:=WideShapes.okWide_int u3 hval
 refine ⟨n,gn,?_⟩
 have:=(hc.2 0 (by simp) (by simp [Value.cells])).2
 simpa [Value.cells] using this
end
end Go.Proofs.Tryz
