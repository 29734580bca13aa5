/-
  A part of the proof: C13 C1.
-/
import Derived.Test.YtifmgeicigngbaaGreatA2
import Derived.Test.YtifmgeicigngbaaGreatQ1
set_option linter.all false
set_option linter.unusedVariables false
set_option linter.unusedSimpArgs false
set_option linter.deprecated false
namespace Go.Proofs.Tryz
open Go Go.AL Go.RowKit Go.Proofs
attribute [local simp] awp_all qs_all ops_all dops_all ops_nil dops_nil ops_call ops_callv ops_alloc ops_box dops_call dops_alloc kO_eq kD_eq awanted apure ev Eff.S Eff.H tmpOf upd putD AL.start AV.dem AV.cells AV.storable AV.scells splice scrub abin loadA HR.okB post ares aress ares1 AV.out AV.isData ints_len ints_get fz fz1 AV.vw AV.vw1 boxy vI int undefA assignQ thenQ blockQ seqQ panQ prol prolH allocOf
variable {GI:World→Prop}
structure TCell where
 lo:Int
 hi:Int
 hid:Bool
def tcA (c:TCell):AV := .agg [.int .i64 c.lo,.int .i64 c.hi,.bool c.hid]
structure TSheet where
 cells:List TCell
 pos:Int
 reach:Int
 pace:Int
 turn:Int
 name:Sheet
def tshL (s:TSheet):List AV:=[.slice .view (s.cells.map tcA),.int .i64 s.pos,.int .i64 s.reach,.int .i64 s.pace,.int .i64 s.turn]++sheetL s.name
def tshA (s:TSheet):AV := .agg (tshL s)
theorem ac91 (hG:Stable GI) (n lo hi:Int):AC prog GI 91 [.int .i64 n,.int .i64 lo,.int .i64 hi] (.ret (.bool (inI n lo hi))):=by
 refine AC.of_body hG hmix func91 rfl ntmps91 (by simp) (ac:=c91) (by kernel_rfl) ?_
 by_cases h1:lo≤n<;>by_cases h2:n≤hi<;>simp [c91,inI,h1,h2]
def wrongT (x:TCell):Bool := !inI x.lo 1 20 || !inI x.hi x.lo 20
theorem ac90 (hG:Stable GI) (x:TCell):AC prog GI 90 [tcA x] (.ret (.bool (wrongT x))):=by
 refine AC.of_body hG hmix func90 rfl ntmps90 (by simp) (ac:=c90) (by kernel_rfl) ?_
 simp [c90,tcA]
 refine ⟨_,by kernel_rfl,ac91 hG x.lo 1 20,by simp [boxy],?_⟩
 cases h1:inI x.lo 1 20
 ·simp [wrongT,h1]
 ·simp
  refine ⟨_,by kernel_rfl,ac91 hG x.hi x.lo 20,by simp [boxy],?_⟩
  simp [wrongT,h1]
theorem ac94 (hG:Stable GI) (x:TCell):AC prog GI 94 [tcA x] (.ret (.int .i64 x.lo)):=by
 refine AC.of_body hG hmix func94 rfl ntmps94 (by simp) (ac:=c94) (by kernel_rfl) ?_
 simp [c94,tcA]
theorem ac95 (hG:Stable GI) (x:TCell):AC prog GI 95 [tcA x] (.ret (.int .i64 x.hi)):=by
 refine AC.of_body hG hmix func95 rfl ntmps95 (by simp) (ac:=c95) (by kernel_rfl) ?_
 simp [c95,tcA]
theorem ac151 (hG:Stable GI) (l:List TCell) (hl:l.length < 1000000) (k:Nat) (p:TCell→Bool) (hk:callable prog k=true) (h:∀ x∈l,AC prog GI k [tcA x] (.ret (.bool (p x)))) :
  AC prog GI 151 [.slice .view (l.map tcA),.func (.func k) [] []] (.ret (.int .i64 (firstT p l))):=by
 refine AC.of_body hG hmix func151 rfl ntmps151 (by simp) (ac:=c151) (by kernel_rfl) ?_
 simp [c151]
 refine awp_loop 8 l.length (fun i S H=>S 0 = .slice .view (l.map tcA)∧S 1=_∧S 7 = .int .i64 l.length∧S 8 = .int .i64 (i:Nat)∧∀ j (hj:j < l.length),j < i→p l[j]=false) (fun i S H h=>h.2.2.2.1) ⟨by simp,by simp;rfl,by simp,by simp,by simp⟩ ?_
 rintro i hi S H ⟨s0,s1,s7,s8,hb⟩
 by_cases hlt:i < l.length
 ·have hw:IntKind.i64.wrap ((i:Int)+1)=i+1:=wrapI (by omega)
  have hx:=h l[i] (List.getElem_mem hlt)
  cases hp:p l[i]
  ·simp [List.getElem_map,tcA,s0,s1,s7,s8,hlt]
   refine ⟨_,hk,hx,by simp [boxy],?_⟩
   simp [s0,s1,s7,s8,hlt,hp,hw]
   intro j hj hji
   by_cases hji':j=i
   ·subst hji';exact hp
   ·exact hb j hj (by omega)
  ·simp [List.getElem_map,tcA,s0,s1,s7,s8,hlt]
   refine ⟨_,hk,hx,by simp [boxy],?_⟩
   simp [s0,s1,s7,s8,hlt,hp,hw]
   exact firstT_at hlt hp hb
 ·have hil:i=l.length:=by omega
  subst hil
  simp [s0,s1,s7,s8]
  exact firstT_none fun j hj=>hb j hj hj
theorem ac92 (hG:Stable GI) (l:List TCell) (hl:l.length < 1000000) (k:Nat) (p:TCell→Bool) (hk:callable prog k=true) (h:∀ x∈l,AC prog GI k [tcA x] (.ret (.bool (p x)))) :
  AC prog GI 92 [.slice .view (l.map tcA),.func (.func k) [] []] (.ret (.bool (l.any p))):=by
 have hF:=ac151 hG l hl k p hk h
 refine AC.of_body hG hmix func92 rfl ntmps92 (by simp) (ac:=c92) (by kernel_rfl) ?_
 simp [c92]
 refine ⟨_,by kernel_rfl,hF,fun _=>rfl,?_⟩
 simp
 exact firstT_any.symm
theorem ac93 (hG:Stable GI) (s:Sheet) (hs:Slim s):AC prog GI 93 [sheetA s] (.ret (.int .i64 (if sheetI s then 0 else 2))):=by
 have h:=ac47 hG s hs
 refine AC.of_body hG hmix func93 rfl ntmps93 (by simp) (ac:=c93) (by kernel_rfl) ?_
 simp [c93,sheetA,sheetL]
 refine ⟨_,by kernel_rfl,h,by simp [boxy],?_⟩
 cases sheetI s<;>simp
def tshI (s:TSheet):Bool:=inI s.cells.length 1 12 && !s.cells.any wrongT && inI s.pos 1 s.cells.length && inI s.reach 1 12 && inI s.pace 1 9 && inI s.turn 0 9 && sheetI s.name
structure TSlim (s:TSheet):Prop where
 cells:s.cells.length < 1000000
 name:Slim s.name
theorem ac36 (hG:Stable GI) (s:TSheet) (hs:TSlim s):AC prog GI 36 [tshA s] (.ret (.bool (tshI s))):=by
 refine AC.of_body hG hmix func36 rfl ntmps36 (by simp) (ac:=c36) (by kernel_rfl) ?_
 simp [c36,tshA,tshL,sheetL]
 refine ⟨_,by kernel_rfl,ac91 hG s.cells.length 1 12,by simp [boxy],?_⟩
 cases e1:inI s.cells.length 1 12
 ·simp [tshI,e1]
 simp
 refine ⟨_,by kernel_rfl,ac92 hG s.cells hs.cells 90 wrongT (by kernel_rfl) (fun x _=>ac90 hG x),by simp [boxy],?_⟩
 cases e3:s.cells.any wrongT
 case true=>simp [tshI,e1,e3]
 simp
 refine ⟨_,by kernel_rfl,ac91 hG s.pos 1 s.cells.length,by simp [boxy],?_⟩
 cases e4:inI s.pos 1 s.cells.length
 ·simp [tshI,e1,e3,e4]
 simp
 refine ⟨_,by kernel_rfl,ac91 hG s.reach 1 12,by simp [boxy],?_⟩
 cases e5:inI s.reach 1 12
 ·simp [tshI,e1,e3,e4,e5]
 simp
 refine ⟨_,by kernel_rfl,ac91 hG s.pace 1 9,by simp [boxy],?_⟩
 cases e6:inI s.pace 1 9
 ·simp [tshI,e1,e3,e4,e5,e6]
 simp
 refine ⟨_,by kernel_rfl,ac91 hG s.turn 0 9,by simp [boxy],?_⟩
 cases e7:inI s.turn 0 9
 ·simp [tshI,e1,e3,e4,e5,e6,e7]
 simp
 refine ⟨_,by kernel_rfl,ac93 hG s.name hs.name,by simp [boxy],?_⟩
 cases e8:sheetI s.name<;>simp [tshI,e1,e3,e4,e5,e6,e7,e8]
end Go.Proofs.Tryz
namespace Go.Proofs.Tryz
open Go Go.AL Go.RowKit Go.Proofs
attribute [local simp] awp_all qs_all ops_all dops_all ops_nil dops_nil ops_call ops_callv ops_alloc ops_box dops_call dops_alloc kO_eq kD_eq awanted apure ev Eff.S Eff.H tmpOf upd putD AL.start AV.dem AV.cells AV.storable AV.scells splice scrub abin loadA HR.okB post ares aress ares1 AV.out AV.isData ints_len ints_get fz fz1 AV.vw AV.vw1 boxy vI int undefA assignQ thenQ blockQ seqQ panQ prol prolH allocOf
variable {GI:World→Prop}
structure CSheet where
 dry:List End
 work:List Int
 coats:List End
def cshL (s:CSheet):List AV:=[.slice .view (endsA s.dry),vI s.work,.slice .view (endsA s.coats)]
def cshA (s:CSheet):AV := .agg (cshL s)
theorem ac72 (hG:Stable GI) (n lo hi:Int):AC prog GI 72 [.int .i64 n,.int .i64 lo,.int .i64 hi] (.ret (.bool (inI n lo hi))):=by
 refine AC.of_body hG hmix func72 rfl ntmps72 (by simp) (ac:=c72) (by kernel_rfl) ?_
 by_cases h1:lo≤n<;>by_cases h2:n≤hi<;>simp [c72,inI,h1,h2]
def wrongS (x:End):Bool := !inI x.1 0 24 || !inI x.2 x.1 24
def badC (x:End):Bool := !inI x.1 1 288 || !inI x.2 x.1 400
theorem ac71 (hG:Stable GI) (x:End):AC prog GI 71 [endA x] (.ret (.bool (wrongS x))):=by
 refine AC.of_body hG hmix func71 rfl ntmps71 (by simp) (ac:=c71) (by kernel_rfl) ?_
 simp [c71,endA]
 refine ⟨_,by kernel_rfl,ac72 hG x.1 0 24,by simp [boxy],?_⟩
 cases h1:inI x.1 0 24
 ·simp [wrongS,h1]
 ·simp
  refine ⟨_,by kernel_rfl,ac72 hG x.2 x.1 24,by simp [boxy],?_⟩
  simp [wrongS,h1]
theorem ac73 (hG:Stable GI) (x:End):AC prog GI 73 [endA x] (.ret (.bool (badC x))):=by
 refine AC.of_body hG hmix func73 rfl ntmps73 (by simp) (ac:=c73) (by kernel_rfl) ?_
 simp [c73,endA]
 refine ⟨_,by kernel_rfl,ac72 hG x.1 1 288,by simp [boxy],?_⟩
 cases h1:inI x.1 1 288
 ·simp [badC,h1]
 ·simp
  refine ⟨_,by kernel_rfl,ac72 hG x.2 x.1 400,by simp [boxy],?_⟩
  simp [badC,h1]
def isDayI (s:CSheet) (n:Int):Bool:=inI n 0 ((s.dry.length:Int) - 1)
theorem ac79 (hG:Stable GI) (s:CSheet) (hs:s.dry.length < 1000000) (n:Int):AC prog GI 79 [cshA s,.int .i64 n] (.ret (.bool (isDayI s n))):=by
 have hw:IntKind.i64.wrap ((s.dry.length:Int) - 1)=s.dry.length - 1:=wrapI (by omega)
 refine AC.of_body hG hmix func79 rfl ntmps79 (by simp) (ac:=c79) (by kernel_rfl) ?_
 simp [c79,cshA,cshL,endsA,hw]
 refine ⟨_,by kernel_rfl,ac72 hG n 0 (s.dry.length - 1),by simp [boxy],?_⟩
 simp [isDayI]
theorem ac78 (hG:Stable GI) (s:CSheet) (hs:s.dry.length < 1000000) (n:Int):AC prog GI 78 [.int .i64 n,.ref (cshL s)] (.ret (.bool (!isDayI s n))):=by
 refine AC.of_body hG hmix func78 rfl ntmps78 (by simp) (ac:=c78) (by kernel_rfl) ?_
 simp [c78,cshL]
 refine ⟨_,by kernel_rfl,ac79 hG s hs n,by simp [boxy],?_⟩
 simp
def risesC (l:List Int):Bool:=(List.range l.length).all fun j => !decide (j+1 < l.length) || decide (l.getD j 0 < l.getD (j+1) 0)
theorem risesC_iff (l:List Int):risesC l=true↔∀ j,j+1 < l.length→l.getD j 0 < l.getD (j+1) 0:=by
 simp only [risesC,List.all_eq_true,List.mem_range,Bool.or_eq_true,Bool.not_eq_true',decide_eq_false_iff_not,decide_eq_true_eq]
 constructor
 ·intro h j hj
  rcases h j (by omega) with h | h
  ·exact absurd hj h
  ·exact h
 ·intro h j _
  by_cases hj:j+1 < l.length
  ·exact .inr (h j hj)
  ·exact .inl hj
theorem ac76 (hG:Stable GI) (l:List Int) (hl:l.length < 1000000):AC prog GI 76 [vI l] (.ret (.bool (risesC l))):=by
 refine AC.of_body hG hmix func76 rfl ntmps76 (by simp) (ac:=c76) (by kernel_rfl) ?_
 simp [c76]
 refine awp_loop 7 l.length (fun i S H=>S 0=vI l∧S 5=vI l∧S 6 = .int .i64 l.length∧S 7 = .int .i64 (i:Nat)∧∀ j,j+1 < i→l.getD j 0 < l.getD (j+1) 0) (fun i S H h=>h.2.2.2.1) ⟨by simp,by simp,by simp,by simp,by simp⟩ ?_
 rintro i hi S H ⟨s0,s5,s6,s7,hb⟩
 by_cases hlt:i < l.length
 ·have hw:IntKind.i64.wrap ((i:Int)+1)=i+1:=wrapI (by omega)
  have hw2:IntKind.i64.wrap ((i:Int) - 1)=i - 1:=wrapI (by omega)
  by_cases h0:i=0
  ·subst h0
   have hw1:IntKind.i64.wrap 1=1:=wrapI (by omega)
   simp [s0,s5,s6,s7,hlt,hw1]
  ·have hi0:0 < i:=by omega
   have hi1:((i:Int) - 1).toNat=i - 1:=by omega
   have hge:¬ (i:Int) - 1 < 0:=by omega
   have hlt1:i - 1 < l.length:=by omega
   have h1:(1:Int)≤i:=by omega
   have h2:(i:Int) - 1 < l.length:=by omega
   by_cases hr:l[i]≤l[i - 1]
   ·simp [s0,s5,s6,s7,hlt,hw,hw2,hi0,hi1,hge,hlt1,hr,h0,h1,h2]
    rw [← Bool.not_eq_true,risesC_iff]
    intro h
    have:=h (i - 1) (by omega)
    rw [show i - 1+1=i by omega] at this
    simp [List.getD_eq_getElem?_getD,hlt,hlt1] at this
    omega
   ·simp [s0,s5,s6,s7,hlt,hw,hw2,hi0,hi1,hge,hlt1,hr,h0,h1,h2]
    intro j hj
    by_cases hji:j+1 < i
    ·exact hb j hji
    ·have:j=i - 1:=by omega
     subst this
     rw [show i - 1+1=i by omega]
     simp [List.getD_eq_getElem?_getD,hlt,hlt1]
     omega
 ·have hil:i=l.length:=by omega
  subst hil
  simp [s0,s5,s6,s7]
  rw [risesC_iff]
  exact hb
theorem ac145 (hG:Stable GI) (l:List End) (hl:l.length < 1000000) (k:Nat) (p:End→Bool) (hk:callable prog k=true) (h:∀ x∈l,AC prog GI k [endA x] (.ret (.bool (p x)))) :
  AC prog GI 145 [.slice .view (l.map endA),.func (.func k) [] []] (.ret (.int .i64 (firstT p l))):=by
 refine AC.of_body hG hmix func145 rfl ntmps145 (by simp) (ac:=c145) (by kernel_rfl) ?_
 simp [c145]
 refine awp_loop 8 l.length (fun i S H=>S 0 = .slice .view (l.map endA)∧S 1=_∧S 7 = .int .i64 l.length∧S 8 = .int .i64 (i:Nat)∧∀ j (hj:j < l.length),j < i→p l[j]=false) (fun i S H h=>h.2.2.2.1) ⟨by simp,by simp;rfl,by simp,by simp,by simp⟩ ?_
 rintro i hi S H ⟨s0,s1,s7,s8,hb⟩
 by_cases hlt:i < l.length
 ·have hw:IntKind.i64.wrap ((i:Int)+1)=i+1:=wrapI (by omega)
  have hx:=h l[i] (List.getElem_mem hlt)
  cases hp:p l[i]
  ·simp [List.getElem_map,endA,s0,s1,s7,s8,hlt]
   refine ⟨_,hk,hx,by simp [boxy],?_⟩
   simp [s0,s1,s7,s8,hlt,hp,hw]
   intro j hj hji
   by_cases hji':j=i
   ·subst hji';exact hp
   ·exact hb j hj (by omega)
  ·simp [List.getElem_map,endA,s0,s1,s7,s8,hlt]
   refine ⟨_,hk,hx,by simp [boxy],?_⟩
   simp [s0,s1,s7,s8,hlt,hp,hw]
   exact firstT_at hlt hp hb
 ·have hil:i=l.length:=by omega
  subst hil
  simp [s0,s1,s7,s8]
  exact firstT_none fun j hj=>hb j hj hj
theorem ac74 (hG:Stable GI) (l:List End) (hl:l.length < 1000000) (k:Nat) (p:End→Bool) (hk:callable prog k=true) (h:∀ x∈l,AC prog GI k [endA x] (.ret (.bool (p x)))) :
  AC prog GI 74 [.slice .view (l.map endA),.func (.func k) [] []] (.ret (.bool (l.any p))):=by
 have hF:=ac145 hG l hl k p hk h
 refine AC.of_body hG hmix func74 rfl ntmps74 (by simp) (ac:=c74) (by kernel_rfl) ?_
 simp [c74]
 refine ⟨_,by kernel_rfl,hF,fun _=>rfl,?_⟩
 simp
 exact firstT_any.symm
theorem ac146 (hG:Stable GI) (l:List End) (hl:l.length < 1000000) (k:Nat) (p:End→Bool) (hk:callable prog k=true) (h:∀ x∈l,AC prog GI k [endA x] (.ret (.bool (p x)))) :
  AC prog GI 146 [.slice .view (l.map endA),.func (.func k) [] []] (.ret (.int .i64 (firstT p l))):=by
 refine AC.of_body hG hmix func146 rfl ntmps146 (by simp) (ac:=c146) (by kernel_rfl) ?_
 simp [c146]
 refine awp_loop 8 l.length (fun i S H=>S 0 = .slice .view (l.map endA)∧S 1=_∧S 7 = .int .i64 l.length∧S 8 = .int .i64 (i:Nat)∧∀ j (hj:j < l.length),j < i→p l[j]=false) (fun i S H h=>h.2.2.2.1) ⟨by simp,by simp;rfl,by simp,by simp,by simp⟩ ?_
 rintro i hi S H ⟨s0,s1,s7,s8,hb⟩
 by_cases hlt:i < l.length
 ·have hw:IntKind.i64.wrap ((i:Int)+1)=i+1:=wrapI (by omega)
  have hx:=h l[i] (List.getElem_mem hlt)
  cases hp:p l[i]
  ·simp [List.getElem_map,endA,s0,s1,s7,s8,hlt]
   refine ⟨_,hk,hx,by simp [boxy],?_⟩
   simp [s0,s1,s7,s8,hlt,hp,hw]
   intro j hj hji
   by_cases hji':j=i
   ·subst hji';exact hp
   ·exact hb j hj (by omega)
  ·simp [List.getElem_map,endA,s0,s1,s7,s8,hlt]
   refine ⟨_,hk,hx,by simp [boxy],?_⟩
   simp [s0,s1,s7,s8,hlt,hp,hw]
   exact firstT_at hlt hp hb
 ·have hil:i=l.length:=by omega
  subst hil
  simp [s0,s1,s7,s8]
  exact firstT_none fun j hj=>hb j hj hj
theorem ac75 (hG:Stable GI) (l:List End) (hl:l.length < 1000000) (k:Nat) (p:End→Bool) (hk:callable prog k=true) (h:∀ x∈l,AC prog GI k [endA x] (.ret (.bool (p x)))) :
  AC prog GI 75 [.slice .view (l.map endA),.func (.func k) [] []] (.ret (.bool (l.any p))):=by
 have hF:=ac146 hG l hl k p hk h
 refine AC.of_body hG hmix func75 rfl ntmps75 (by simp) (ac:=c75) (by kernel_rfl) ?_
 simp [c75]
 refine ⟨_,by kernel_rfl,hF,fun _=>rfl,?_⟩
 simp
 exact firstT_any.symm
def cshI (s:CSheet):Bool:=inI s.dry.length 1 12 && inI s.coats.length 1 5 && !s.dry.any wrongS && !s.coats.any badC && risesC s.work && !s.work.any (fun n => !isDayI s n)
theorem ac29 (hG:Stable GI) (s:CSheet) (h1:s.dry.length < 1000000) (h2:s.work.length < 1000000) (h3:s.coats.length < 1000000):AC prog GI 29 [cshA s] (.ret (.bool (cshI s))):=by
 refine AC.of_body hG hmix func29 rfl ntmps29 (by simp) (ac:=c29) (by kernel_rfl) ?_
 simp [c29,cshA,cshL,endsA]
 refine ⟨_,by kernel_rfl,ac72 hG s.dry.length 1 12,by simp [boxy],?_⟩
 cases e1:inI s.dry.length 1 12
 ·simp [cshI,e1]
 simp
 refine ⟨_,by kernel_rfl,ac72 hG s.coats.length 1 5,by simp [boxy],?_⟩
 cases e2:inI s.coats.length 1 5
 ·simp [cshI,e1,e2]
 simp
 refine ⟨_,by kernel_rfl,ac74 hG s.dry h1 71 wrongS (by kernel_rfl) (fun x _=>ac71 hG x),by simp [boxy],?_⟩
 cases e3:s.dry.any wrongS
 case true=>simp [cshI,e1,e2,e3]
 simp
 refine ⟨_,by kernel_rfl,ac75 hG s.coats h3 73 badC (by kernel_rfl) (fun x _=>ac73 hG x),by simp [boxy],?_⟩
 cases e4:s.coats.any badC
 case true=>simp [cshI,e1,e2,e3,e4]
 simp
 refine ⟨_,by kernel_rfl,ac76 hG s.work h2,by simp [boxy],?_⟩
 cases e5:risesC s.work
 ·simp [cshI,e1,e2,e3,e4,e5]
 simp
 refine ⟨_,by kernel_rfl,ac77 hG s.work h2 78 [.ref (cshL s)] (.inr ⟨_,rfl⟩) (fun n => !isDayI s n) (by kernel_rfl) (fun n _=>ac78 hG s h1 n),fun _=>rfl,?_⟩
 simp [cshI,e1,e2,e3,e4,e5]
end Go.Proofs.Tryz
