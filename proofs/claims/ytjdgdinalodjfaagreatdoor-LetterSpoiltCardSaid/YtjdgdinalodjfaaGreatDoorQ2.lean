/-
  The statement's function LetterSpoilt returns true and leaves its arguments as they are, for every sheet and two numbers; no condition. The texts before this one hold the layer of abstract values, the code of the functions that are reached, and their contracts.
-/
import Derived.Laws.IdiomStrings
import Derived.Test.YtjdgdinalodjfaaGreatDoorA2
import Derived.Test.YtjdgdinalodjfaaGreatDoorC1
import Derived.Test.YtjdgdinalodjfaaGreatDoorP1
import Derived.Test.YtjdgdinalodjfaaGreatDoorK3
import Derived.Test.YtjdgdinalodjfaaGreatDoorQ1
set_option linter.all false
set_option linter.unusedVariables false
set_option linter.unusedSimpArgs false
set_option linter.deprecated false
namespace Go.Proofs.Tryz
open Go Go.AL Go.RowKit Go.Proofs
attribute [local simp] awp_all qs_all ops_allN dops_allN ops_nil dops_nil ops_call ops_callv ops_alloc ops_box dops_call dops_alloc kO_eq kD_eq awanted apure ev Eff.S Eff.H tmpOf upd putD AL.start AV.cells AV.storable AV.scells splice scrub abin loadA HR.okB post ares aress ares1 AV.out AV.isData ints_len ints_get fz fz1 AV.vw boxy vI int undefA assignQ thenQ blockQ seqQ panQ prol prolH allocOf dem_s vw1_s vw1_dgrow
variable {GI:World→Prop}
def nms:List (List UInt8):=[nmF,nmS,nmI,nmP,nmW]
def kindO (w:List UInt8):Int:=if w=nmF then 0 else if w=nmS then 1 else if w=nmI then 2 else if w=nmP then 3 else if w=nmW then 4 else -1
theorem ac162k (hG:Stable GI) (w:List UInt8):AC prog GI 162 [strs nms,.str w] (.ret (.int .i64 (kindO w))):=by
 unfold kindO
 split
 ·rename_i h;subst h;exact ac162_at hG nms _ (by decide) 0 (by decide) rfl fun j hj=>absurd hj (Nat.not_lt_zero _)
 split
 ·rename_i h;subst h;exact ac162_at hG nms _ (by decide) 1 (by decide) rfl fun j hj=>by
   match j,hj with
   |0,_=>exact (by decide:nmF≠nmS)
 split
 ·rename_i h;subst h;exact ac162_at hG nms _ (by decide) 2 (by decide) rfl fun j hj=>by
   match j,hj with
   |0,_=>exact (by decide:nmF≠nmI)
   |1,_=>exact (by decide:nmS≠nmI)
 split
 ·rename_i h;subst h;exact ac162_at hG nms _ (by decide) 3 (by decide) rfl fun j hj=>by
   match j,hj with
   |0,_=>exact (by decide:nmF≠nmP)
   |1,_=>exact (by decide:nmS≠nmP)
   |2,_=>exact (by decide:nmI≠nmP)
 split
 ·rename_i h;subst h;exact ac162_at hG nms _ (by decide) 4 (by decide) rfl fun j hj=>by
   match j,hj with
   |0,_=>exact (by decide:nmF≠nmW)
   |1,_=>exact (by decide:nmS≠nmW)
   |2,_=>exact (by decide:nmI≠nmW)
   |3,_=>exact (by decide:nmP≠nmW)
 rename_i h0 h1 h2 h3 h4
 exact ac162_no hG nms w (by decide) fun j hj=>by
  match j,hj with
  |0,_=>exact fun e=>h0 e.symm
  |1,_=>exact fun e=>h1 e.symm
  |2,_=>exact fun e=>h2 e.symm
  |3,_=>exact fun e=>h3 e.symm
  |4,_=>exact fun e=>h4 e.symm
theorem kind_eq (w:List UInt8):(kindO w==0)=decide (w=nmF)∧(kindO w==1)=decide (w=nmS)∧(kindO w==2)=decide (w=nmI)∧(kindO w==3)=decide (w=nmP)∧(kindO w==4)=decide (w=nmW):=by
 unfold kindO
 by_cases h0:w=nmF
 ·subst h0;decide
 by_cases h1:w=nmS
 ·subst h1;decide
 by_cases h2:w=nmI
 ·subst h2;decide
 by_cases h3:w=nmP
 ·subst h3;decide
 by_cases h4:w=nmW
 ·subst h4;decide
 simp [h0,h1,h2,h3,h4]
def sheetW (x:Sheet):List AV:=[grow 3 (ints x.widths),grow 119 (x.pairs.map pairA),.int .i64 x.olo,.int .i64 x.ohi,.int .i64 x.glo,.int .i64 x.ghi,.int .i64 x.hyphen,grow 77 (x.words.map wordA),.int .i64 x.wide,.int .i64 x.rows]
def outS:Except (List UInt8) Sheet→AOut
 |.ok x => .ret (sheetA x)
 |.error e => .panic (noTx e)
theorem ints_okV (l:List Int):elemsOK 1 (ints l)=true:=elems_map fun a=>⟨rfl,rfl⟩
theorem dem_nv (l:List Int) (m:List AV):(AV.slice (if l=[] then .nil else .view) m).dem = .slice (if l=[] then .nil else .view) m:=by split<;>rfl
theorem pairs_ok (l:List Pair):elemsOK 4 (l.map pairA)=true:=elems_map fun a=>⟨rfl,rfl⟩
theorem words_ok (l:List Word):elemsOK 3 (l.map wordA)=true:=elems_map fun a=>⟨rfl,rfl⟩
structure I119 (t:List UInt8) (L:List (List UInt8)) (j:Nat) (x:Sheet) (S:Slots) (H:Boxes):Prop where
 s0:S 0 = .str t
 s2:S 2 = .box 2 0
 e2:H 2=some (sheetW sheet0)
 s4:S 4 = .box 4 0
 e4:H 4=some (sheetW x)
 s5:S 5 = .ref (nms.map AV.str)
 s25:S 25=strs L
 s26:S 26 = .int .i64 (L.length:Nat)
 s27:S 27 = .int .i64 (j:Nat)
noncomputable def l119:ACode:=ACode.snd (ACode.snd (ACode.snd (ACode.fst (ACode.snd (ACode.snd (ACode.snd (ACode.snd (ACode.snd c119))))))))
noncomputable def b119:ACode:=ACode.snd (ACode.fst (ACode.snd (ACode.snd l119)))
noncomputable def e119:ACode:=ACode.snd (ACode.snd (ACode.snd (ACode.snd b119)))
theorem len2 {l:List Int} (h:l.length=2):∃ a b,l=[a,b]:=by
 match l,h with
 |[a,b],_=>exact ⟨a,b,rfl⟩
theorem len5 {l:List Int} (h:l.length=5):∃ a b c d e,l=[a,b,c,d,e]:=by
 match l,h with
 |[a,b,c,d,e],_=>exact ⟨a,b,c,d,e,rfl⟩
theorem len4 {l:List Int} (h:l.length=4):∃ a b c d,l=[a,b,c,d]:=by
 match l,h with
 |[a,b,c,d],_=>exact ⟨a,b,c,d,rfl⟩
theorem len1 {α:Type} {l:List α} (h:l.length=1):∃ a,l=[a]:=by
 match l,h with
 |[a],_=>exact ⟨a,rfl⟩
theorem len3 {α:Type} {l:List α} (h:l.length=3):∃ a b c,l=[a,b,c]:=by
 match l,h with
 |[a,b,c],_=>exact ⟨a,b,c,rfl⟩
set_option maxRecDepth 100000 in
set_option maxHeartbeats 8000000 in
theorem ac119 (hG:Stable GI) (hT:TB GI) (hML:ML GI) (t:List UInt8) (ht:t.length≤420):AC prog GI 119 [.str t] (outS (parsedE t)):=by
 have hsl:=splitS_len 10 t
 have hpt:∀ p∈splitS 10 t,p.length≤420:=fun p hp=>by have:=splitS_part hp;omega
 have hsum:=splitS_sum 10 t
 have a159:=ac159 hML t 10 (by omega)
 refine AC.of_SW func119 rfl ntmps119 (by simp) fun cc w => ?_
 refine SW.cut hG hmix (by kernel_rfl) (ac:=ACode.fst c119) (by kernel_rfl) (fun _ _ h=>h) (fun S' H'=>S' 0 = .str t∧S' 2 = .box 2 0∧H' 2=some (sheetW sheet0)) ?_ ?_
 ·simp [c119,ACode.fst,ops_ap,dops_ap,sheetW,sheet0,grow,ints]
 rintro S H ⟨s0,s2,e2⟩
 refine SW.cut hG hmix (by kernel_rfl) (ac:=ACode.fst (ACode.snd c119)) (by kernel_rfl) (fun _ _ h=>h) (fun S' H'=>S' 0 = .str t∧S' 2 = .box 2 0∧H' 2=some (sheetW sheet0)∧S' 3=strs (splitS 10 t)) ?_ ?_
 ·simp [c119,ACode.fst,ACode.snd,ops_ap,dops_ap,s0,s2,e2]
  refine ⟨_,by kernel_rfl,a159,by simp [boxy],?_⟩
  simp [ops_ap,dops_ap,s0,s2,e2,strs]
 clear s0 s2 e2 S H
 rintro S H ⟨s0,s2,e2,s3⟩
 have hpE:parsedE t=if (splitS 10 t).length < 2 then .error t else thenE (foldE stepE sheet0 ((splitS 10 t).take ((splitS 10 t).length - 2))) fun x=>if textT x=t then .ok x else .error t:=rfl
 rw [hpE]
 generalize splitS 10 t=R at *
 by_cases h2:R.length < 2
 ·rw [if_pos h2]
  have hlt:¬ (2:Int)≤R.length:=by omega
  refine SW.seq (SW.of_awp hG hmix (by kernel_rfl) (fun _ _ h=>h) (ac:=ACode.fst (ACode.snd (ACode.snd c119))) (by kernel_rfl) ?_)
  unfold Post.awp
  simp [c119,ACode.fst,ACode.snd,ops_ap,dops_ap,s0,s3,strs,hlt]
  refine ⟨_,by kernel_rfl,ac160f hG t,by simp [boxy],?_⟩
  simp [onOut,thenS,retS,outS,noTx]
  first | exact ⟨rfl,rfl⟩ | exact ⟨rfl,rfl,rfl⟩
 rw [if_neg h2]
 have hge:(2:Int)≤R.length:=by omega
 refine SW.cut hG hmix (by kernel_rfl) (ac:=ACode.fst (ACode.snd (ACode.snd c119))) (by kernel_rfl) (fun _ _ h=>h) (fun S' H'=>S' 0 = .str t∧S' 2 = .box 2 0∧H' 2=some (sheetW sheet0)∧S' 3=strs R) ?_ ?_
 ·simp [c119,ACode.fst,ACode.snd,ops_ap,dops_ap,s0,s2,e2,s3,strs,hge]
  refine ⟨_,by kernel_rfl,ac160 hG t,by simp [boxy],?_⟩
  simp [ops_ap,dops_ap,s0,s2,e2,s3,strs]
 clear s0 s2 e2 s3 S H
 rintro S H ⟨s0,s2,e2,s3⟩
 refine SW.cut hG hmix (by kernel_rfl) (ac:=ACode.fst (ACode.snd (ACode.snd (ACode.snd c119)))) (by kernel_rfl) (fun _ _ h=>h) (fun S' H'=>S' 0 = .str t∧S' 2 = .box 2 0∧H' 2=some (sheetW sheet0)∧S' 3=strs R∧S' 4 = .box 4 0∧H' 4=some (sheetW sheet0)) ?_ ?_
 ·simp [c119,ACode.fst,ACode.snd,ops_ap,dops_ap,s0,s2,e2,s3,strs,sheetW,sheet0,grow,ints]
 clear s0 s2 e2 s3 S H
 rintro S H ⟨s0,s2,e2,s3,s4,e4⟩
 refine SW.cut hG hmix (by kernel_rfl) (ac:=ACode.fst (ACode.snd (ACode.snd (ACode.snd (ACode.snd c119))))) (by kernel_rfl) (fun _ _ h=>h) (fun S' H'=>S' 0 = .str t∧S' 2 = .box 2 0∧H' 2=some (sheetW sheet0)∧S' 3=strs R∧S' 4 = .box 4 0∧H' 4=some (sheetW sheet0)∧S' 5 = .box 5 0∧H' 5=some (nms.map AV.str)) ?_ ?_
 ·simp [c119,ACode.fst,ACode.snd,ops_ap,dops_ap,s0,s2,e2,s3,s4,e4,strs]
  refine ⟨_,by kernel_rfl,ac161 hG,by simp [boxy],?_⟩
  simp [ops_ap,dops_ap,s0,s2,e2,s3,s4,e4,strs,nms]
 clear s0 s2 e2 s3 s4 e4 S H
 rintro S H ⟨s0,s2,e2,s3,s4,e4,s5,e5⟩
 refine SW.freeze (i:=5) e5 rfl ?_
 obtain ⟨L,hL⟩:∃ L,R.take (R.length - 2)=L:=⟨_,rfl⟩
 have hLl:L.length=R.length - 2:=by rw [← hL];simp
 rw [hL]
 have hLm:∀ p∈L,p.length≤420:=fun p hp=>hpt p (by rw [← hL] at hp;exact List.mem_of_mem_take hp)
 have hLs:(L.map fun p=>p.length+1).sum≤421:=by
  have h1:(R.map fun p=>p.length+1).sum=(L.map fun p=>p.length+1).sum+((R.drop (R.length - 2)).map fun p=>p.length+1).sum:=by
   rw [← hL,← List.sum_append,← List.map_append,List.take_append_drop]
  omega
 have hw2:IntKind.i64.wrap ((R.length:Int) - 2)=(L.length:Nat):=by rw [wrapI (by omega)];omega
 have hLn:(L.length:Int)≤R.length:=by omega
 show SW prog GI 171 none (.seq (.seq _ (.block 0 (.loop _))) (.seq _ (.seq _ .ret))) _ _ _ _
 refine SW.seq (SW.cut hG hmix (by kernel_rfl) (ac:=ACode.fst (ACode.fst (ACode.snd (ACode.snd (ACode.snd (ACode.snd (ACode.snd c119))))))) (by kernel_rfl) (fun _ _ h=>h) (I119 t L 0 sheet0) ?_ ?_)
 ·have hLt:L.length≤R.length:=by omega
  have hLtk:R.take L.length=L:=by rw [hLl];exact hL
  have hLtm:(R.map AV.str).take L.length=L.map AV.str:=by rw [← List.map_take,hLtk]
  simp [c119,ACode.fst,ACode.snd,ops_ap,dops_ap,s0,s2,e2,s3,s4,e4,s5,strs,frz,hw2,hLt,hLtk,hLn,bound,str_ok1]
  exact ⟨by simp [ops_ap,dops_ap,s0,frz],by simp [ops_ap,dops_ap,s2,frz],by simp [ops_ap,dops_ap,e2],by simp [ops_ap,dops_ap,s4,frz],by simp [ops_ap,dops_ap,e4],by simp [ops_ap,dops_ap,s5,frz,nms],by simp [ops_ap,dops_ap,strs,hLtm],by simp [ops_ap,dops_ap],by simp [ops_ap,dops_ap]⟩
 clear s0 s2 e2 s3 s4 e4 s5 e5 S H
 intro S H hI
 have hbx:∀ d,¬ (Old.plain cc w).bx d:=fun _ h=>h
 refine SW.block (SW.loop (fun o S' H'=>o=Old.plain cc w∧∃ j x,j≤L.length∧foldE stepE sheet0 (L.take j) = .ok x∧Grown 421 x j∧NumS x∧I119 t L j x S' H') (fun S' _=>match S' 27 with | .int _ j=>L.length - j.toNat | _=>0) ⟨rfl,0,sheet0,Nat.zero_le _,rfl,sheet0_grown _,sheet0_nums,hI⟩ ?_)
 clear hI S H
 rintro o S H ⟨rfl,j,x,hj,hf,hgr,hN,hI⟩
 have m27:=hI.s27
 show SW prog GI 171 none (.seq _ (.seq (.cond _ _ _) (.seq (.block 1 _) _))) _ _ _ _
 refine SW.cut hG hmix (by kernel_rfl) (ac:=ACode.fst l119) (by kernel_rfl) (fun d _=>hbx d) (fun S' H'=>S' 28 = .bool (decide (j < L.length))∧I119 t L j x S' H') ?_ ?_
 ·obtain ⟨s0,s2,e2,s4,e4,s5,s25,s26,s27⟩:=hI
  simp [c119,l119,ACode.fst,ACode.snd,ops_ap,dops_ap,s26,s27]
  exact ⟨by simp [ops_ap,dops_ap,s0],by simp [ops_ap,dops_ap,s2],e2,by simp [ops_ap,dops_ap,s4],e4,by simp [ops_ap,dops_ap,s5],by simp [ops_ap,dops_ap,s25],by simp [ops_ap,dops_ap,s26],by simp [ops_ap,dops_ap,s27]⟩
 clear hI
 rintro S H ⟨s28,hI⟩
 by_cases hlt:j < L.length
 case neg =>
  have hjl:j=L.length:=by omega
  rw [hjl,List.take_of_length_le (Nat.le_refl _)] at hf
  rw [hf]
  refine SW.seq (SW.cond rfl false (by show S 28=_;rw [s28];simp [hlt]) (SW.exit ?_))
  show SW prog GI 171 none (.seq _ (.seq _ .ret)) _ _ _ _
  obtain ⟨hgr',h5⟩:=foldE_grown (b:=421) (fun r hr=>by have:=hLm r hr;omega) (sheet0_grown _) hf
  have hfew:Few x:=⟨by have:=hgr'.widths;omega,by have:=hgr'.pairs;omega,by have:=hgr'.words;omega,fun w hw=>by have:=hgr'.signs w hw;omega,fun w hw=>by have:=hgr'.cuts w hw;omega⟩
  have a116:=ac116 hG hT x hN hfew
  obtain ⟨s0,s2,e2,s4,e4,s5,s25,s26,s27⟩:=hI
  by_cases htx:textT x=t
  case neg =>
   have hb:(textT x==t)=false:=by simpa using htx
   simp only [thenE,if_neg htx]
   refine SW.seq (SW.of_awp hG hmix (by kernel_rfl) (fun d _=>hbx d) (ac:=ACode.fst (ACode.snd (ACode.snd (ACode.snd (ACode.snd (ACode.snd (ACode.snd c119))))))) (by kernel_rfl) ?_)
   unfold Post.awp
   simp [c119,ACode.fst,ACode.snd,ops_ap,dops_ap,s0,s4,e4,sheetW,vw1_dgrow]
   refine ⟨_,by kernel_rfl,a116,by simp [boxy],?_⟩
   simp [ops_ap,dops_ap,s0,hb]
   refine ⟨_,by kernel_rfl,ac160f hG t,by simp [boxy],?_⟩
   simp [onOut,thenS,retS,outS,noTx]
   first | exact ⟨rfl,rfl⟩ | exact ⟨rfl,rfl,rfl⟩
  have hb:(textT x==t)=true:=by simpa using htx
  simp only [thenE,if_pos htx]
  refine SW.cut hG hmix (by kernel_rfl) (ac:=ACode.fst (ACode.snd (ACode.snd (ACode.snd (ACode.snd (ACode.snd (ACode.snd c119))))))) (by kernel_rfl) (fun d _=>hbx d) (fun S' H'=>S' 2 = .box 2 0∧H' 2=some (sheetW sheet0)∧S' 4 = .box 4 0∧H' 4=some (sheetW x)) ?_ ?_
  ·simp [c119,ACode.fst,ACode.snd,ops_ap,dops_ap,s0,s4,e4,sheetW,vw1_dgrow]
   refine ⟨_,by kernel_rfl,a116,by simp [boxy],?_⟩
   simp [ops_ap,dops_ap,s0,hb]
   refine ⟨_,by kernel_rfl,ac160 hG t,by simp [boxy],?_⟩
   simp [ops_ap,dops_ap,s2,e2,s4,e4,sheetW]
  clear s0 s2 e2 s4 e4 s5 s25 s26 s27 s28 m27 S H
  rintro S H ⟨s2,e2,s4,e4⟩
  refine SW.cut hG hmix (by kernel_rfl) (ac:=ACode.fst (ACode.snd (ACode.snd (ACode.snd (ACode.snd (ACode.snd (ACode.snd (ACode.snd c119)))))))) (by kernel_rfl) (fun d _=>hbx d) (fun S' H'=>S' 2 = .box 2 0∧H' 2=some ((sheetW x).map AV.dem)) ?_ ?_
  ·simp [c119,ACode.fst,ACode.snd,ops_ap,dops_ap,s2,e2,s4,e4,sheetW]
  clear s2 e2 s4 e4 S H
  rintro S H ⟨s2,e2⟩
  obtain ⟨i28,hi28,hs28⟩:=info_size (P:=prog) (t:=28) (s:=10) (by kernel_rfl)
  obtain ⟨fs,hfs⟩:=under_struct (P:=prog) (t:=28) (by kernel_rfl)
  refine SW.ret ⟨Marked.plain rfl,rfl,sheetA x,?_,rfl⟩
  show ares prog 171 [.cell 2 28] S H=_
  simp [ares,aress,ares1,s2,e2,hi28,hfs,hs28,loadA,aggT,sheetW,AV.out,vw1_dgrow,AV.isData,AV.vw,vw1_s,dem_s,sheetA,sheetL,vI]
 case pos =>
  obtain ⟨r,hr⟩:∃ r,L[j]=r:=⟨_,rfl⟩
  have hrl:r.length≤420:=by rw [← hr];exact hLm _ (List.getElem_mem hlt)
  have a159r:=ac159 hML r 32 (by omega)
  refine SW.seq (SW.cond rfl true (by show S 28=_;rw [s28];simp [hlt]) (SW.skip ?_))
  clear s28
  show SW prog GI 171 none (.seq (.block 1 (.seq _ (.seq _ (.seq _ (.block 2 _))))) _) _ _ _ _
  refine SW.seq (SW.block (SW.cut hG hmix (by kernel_rfl) (ac:=ACode.fst b119) (by kernel_rfl) (fun d _=>hbx d) (fun S' H'=>S' 7 = .str r∧I119 t L j x S' H') ?_ ?_))
  ·obtain ⟨s0,s2,e2,s4,e4,s5,s25,s26,s27⟩:=hI
   simp [c119,l119,b119,ACode.fst,ACode.snd,ops_ap,dops_ap,s25,s27,strs,hlt,hr]
   exact ⟨by simp [ops_ap,dops_ap,s0],by simp [ops_ap,dops_ap,s2],e2,by simp [ops_ap,dops_ap,s4],e4,by simp [ops_ap,dops_ap,s5],by simp [ops_ap,dops_ap,s25],by simp [ops_ap,dops_ap,s26],by simp [ops_ap,dops_ap,s27]⟩
  clear hI
  rintro S H ⟨s7,hI⟩
  obtain ⟨nm,tl,hws⟩:∃ nm tl,splitS 32 r=nm::tl:=by
   cases hs:splitS 32 r with
   |nil=>exact absurd hs (splitS_ne 32 r)
   |cons a l=>exact ⟨a,l,rfl⟩
  have hwl:tl.length≤421:=by have:=splitS_len 32 r;rw [hws] at this;simp at this;omega
  have hwp:∀ p∈tl,p.length≤420:=fun p hp=>by have:=splitS_part (c:=32) (l:=r) (p:=p) (by rw [hws];exact List.mem_cons_of_mem _ hp);omega
  rw [hws] at a159r
  refine SW.cut hG hmix (by kernel_rfl) (ac:=ACode.fst (ACode.snd b119)) (by kernel_rfl) (fun d _=>hbx d) (fun S' H'=>S' 7 = .str r∧S' 8=strs (nm::tl)∧I119 t L j x S' H') ?_ ?_
  ·obtain ⟨s0,s2,e2,s4,e4,s5,s25,s26,s27⟩:=hI
   simp [c119,l119,b119,ACode.fst,ACode.snd,ops_ap,dops_ap,s7]
   refine ⟨_,by kernel_rfl,a159r,by simp [boxy],?_⟩
   simp [ops_ap,dops_ap,s7,strs]
   exact ⟨by simp [ops_ap,dops_ap,s0],by simp [ops_ap,dops_ap,s2],e2,by simp [ops_ap,dops_ap,s4],e4,by simp [ops_ap,dops_ap,s5],by simp [ops_ap,dops_ap,s25],by simp [ops_ap,dops_ap,s26],by simp [ops_ap,dops_ap,s27]⟩
  clear hI s7 S H
  rintro S H ⟨s7,s8,hI⟩
  refine SW.cut hG hmix (by kernel_rfl) (ac:=ACode.fst (ACode.snd (ACode.snd b119))) (by kernel_rfl) (fun d _=>hbx d) (fun S' H'=>S' 7 = .str r∧S' 8=strs (nm::tl)∧S' 9 = .int .i64 (kindO nm)∧I119 t L j x S' H') ?_ ?_
  ·obtain ⟨s0,s2,e2,s4,e4,s5,s25,s26,s27⟩:=hI
   have a162:=ac162k (GI:=GI) hG nm
   simp only [strs,nms,List.map_cons,List.map_nil] at a162
   simp [c119,l119,b119,ACode.fst,ACode.snd,ops_ap,dops_ap,s7,s8,s5,strs,nms]
   refine ⟨_,by kernel_rfl,a162,by simp [boxy],?_⟩
   simp [ops_ap,dops_ap,s7,s8,strs]
   exact ⟨by simp [ops_ap,dops_ap,s0],by simp [ops_ap,dops_ap,s2],e2,by simp [ops_ap,dops_ap,s4],e4,by simp [ops_ap,dops_ap,s5,nms],by simp [ops_ap,dops_ap,s25,strs],by simp [ops_ap,dops_ap,s26],by simp [ops_ap,dops_ap,s27]⟩
  clear hI s7 s8 S H
  rintro S H ⟨s7,s8,s9,hI⟩
  refine SW.block (SW.mono (Q:=fun e o S' H'=>o=Old.plain cc w∧match e with | .normal=>∃ y,stepE x r = .ok y∧I119 t L j y S' H' | .panic v=>∃ er,stepE x r = .error er∧v=noTx er | _=>False) ?_ ?_)
  ·rintro e o S' H' ⟨rfl,h⟩
   cases e with
   |normal =>
    obtain ⟨y,hy,hI⟩:=h
    have hf':=foldE_succ hlt hf
    rw [hr,hy] at hf'
    show SW prog GI 171 none _ _ _ _ _
    refine SW.of_awp hG hmix (by kernel_rfl) (fun d _=>hbx d) (ac:=ACode.snd (ACode.snd (ACode.snd l119))) (by kernel_rfl) ?_
    unfold Post.awp
    obtain ⟨s0,s2,e2,s4,e4,s5,s25,s26,s27⟩:=hI
    have hwr:IntKind.i64.wrap ((j:Int)+1)=j+1:=wrapI (by omega)
    simp [c119,l119,b119,ACode.fst,ACode.snd,ops_ap,dops_ap,s27,hwr,thenS]
    refine ⟨⟨j+1,by omega,y,hf',(stepE_grown (by omega) hgr hy).1,stepE_nums hN hy,by simp [ops_ap,dops_ap,s0],by simp [ops_ap,dops_ap,s2],e2,by simp [ops_ap,dops_ap,s4],e4,by simp [ops_ap,dops_ap,s5],by simp [ops_ap,dops_ap,s25],by simp [ops_ap,dops_ap,s26],by simp [ops_ap,dops_ap]⟩,?_⟩
    rw [m27]
    show L.length - ((j:Int)+1).toNat < L.length - (j:Int).toNat
    omega
   |panic v =>
    obtain ⟨er,he,rfl⟩:=h
    have hst:=foldE_stop hlt hf (by rw [hr];exact he)
    rw [hst]
    exact ⟨rfl,rfl,rfl⟩
   |exit id=>exact h.elim
   |ret=>exact h.elim
  have hbx':∀ d∈([]:List Nat),¬ (Old.plain cc w).bx d:=fun d _=>hbx d
  obtain ⟨k0,k1,k2,k3,k4⟩:=kind_eq nm
  have hst:stepE x r=(if nm=nmF∧tl.length=2 then thenE (givenE tl) fun n => .ok { x with wide:=at' n 0,rows:=at' n 1 }
   else if nm=nmS∧tl.length=5 then thenE (givenE tl) fun n => .ok { x with olo:=at' n 0,ohi:=at' n 1,glo:=at' n 2,ghi:=at' n 3,hyphen:=at' n 4 }
   else if nm=nmI∧tl.length=1 then thenE (givenE tl) fun n => .ok { x with widths:=x.widths++n }
   else if nm=nmP∧tl.length=4 then thenE (givenE tl) fun n => .ok { x with pairs:=x.pairs++[⟨at' n 0,at' n 1,at' n 2,at' n 3⟩] }
   else if nm=nmW∧tl.length=3 then thenE (listedE (tl[1]?.getD [])) fun a=>thenE (listedE (tl[2]?.getD [])) fun b => .ok { x with words:=x.words++[⟨a,b,tl[0]?.getD []==[121,101,115]⟩] }
   else .error r):=by unfold stepE;rw [hws];rfl
  generalize stepE x r=st at *
  have a163:=ac163g (GI:=GI) hG hT (ws:=tl) (by omega)
  generalize kindO nm=kd at *
  have hokw:elemsOK 1 (AV.str nm::tl.map AV.str)=true:=str_ok1 (nm::tl)
  have hb1:(1:Int)≤(tl.length:Int)+1:=by omega
  have hb2:((tl.length:Int)+1).toNat=tl.length+1:=by omega
  have hb3:(tl.map AV.str).take tl.length=tl.map AV.str:=List.take_of_length_le (by simp)
  show SW prog GI 171 none (.seq _ (.cond _ _ _)) _ _ _ _
  refine SW.cut hG hmix (by kernel_rfl) (ac:=ACode.fst (e119)) (by kernel_rfl) (fun d _=>hbx d) (fun S' H'=>S' 40 = .bool (decide (nm=nmF∧tl.length=2))∧S' 7 = .str r∧S' 8=strs (nm::tl)∧S' 9 = .int .i64 kd∧I119 t L j x S' H') ?_ ?_
  ·have hl:((tl.length:Int)+1==3)=decide (tl.length=2):=by rw [Bool.eq_iff_iff];simp;omega
   obtain ⟨s0,s2,e2,s4,e4,s5,s25,s26,s27⟩:=hI
   by_cases h:nm=nmF
   ·have hk:kd=0:=by simpa [h] using k0
    simp [c119,l119,b119,e119,ACode.fst,ACode.snd,ops_ap,dops_ap,s7,s8,s9,strs,hk,hl,h]
    exact ⟨by simp [ops_ap,dops_ap,s0],by simp [ops_ap,dops_ap,s2],e2,by simp [ops_ap,dops_ap,s4],e4,by simp [ops_ap,dops_ap,s5],by simp [ops_ap,dops_ap,s25,strs],by simp [ops_ap,dops_ap,s26],by simp [ops_ap,dops_ap,s27]⟩
   ·have hk:(kd==0)=false:=by rw [k0];simpa using h
    simp [c119,l119,b119,e119,ACode.fst,ACode.snd,ops_ap,dops_ap,s7,s8,s9,strs,hk,h]
    exact ⟨by simp [ops_ap,dops_ap,s0],by simp [ops_ap,dops_ap,s2],e2,by simp [ops_ap,dops_ap,s4],e4,by simp [ops_ap,dops_ap,s5],by simp [ops_ap,dops_ap,s25,strs],by simp [ops_ap,dops_ap,s26],by simp [ops_ap,dops_ap,s27]⟩
  clear hI s7 s8 s9
  rintro S H ⟨sc,s7,s8,s9,hI⟩
  by_cases h0:nm=nmF∧tl.length=2
  case pos =>
   rw [if_pos h0] at hst
   refine SW.cond rfl true (by show S 40=_;rw [sc];simp [h0]) ?_
   obtain ⟨s0,s2,e2,s4,e4,s5,s25,s26,s27⟩:=hI
   refine SW.of_awp hG hmix (by kernel_rfl) (fun d _=>hbx d) (ac:=ACode.fst (ACode.snd (e119))) (by kernel_rfl) ?_
   unfold Post.awp
   cases hg:givenE tl with
   |error er =>
    rw [hg] at a163 hst
    simp [c119,l119,b119,e119,ACode.fst,ACode.snd,ops_ap,dops_ap,s8,strs,bound,hokw,hb1,hb2,hb3]
    refine ⟨_,by kernel_rfl,a163,by simp [boxy],?_⟩
    simp [onOut,outG]
    exact ⟨er,hst,rfl⟩
   |ok l =>
    rw [hg] at a163 hst
    obtain ⟨a,b,rfl⟩:=len2 (by rw [givenE_len hg];exact h0.2)
    simp [c119,l119,b119,e119,ACode.fst,ACode.snd,ops_ap,dops_ap,s8,strs,bound,hokw,hb1,hb2,hb3]
    refine ⟨_,by kernel_rfl,a163,by simp [boxy],?_⟩
    simp [ops_ap,dops_ap,outG,ints,s4,e4,sheetW]
    refine ⟨_,hst,by simp [ops_ap,dops_ap,s0],by simp [ops_ap,dops_ap,s2],by first | exact e2 | simp [ops_ap,dops_ap,e2],by simp [ops_ap,dops_ap,s4],by simp [ops_ap,dops_ap,e4,sheetW,at',ints,grow],by simp [ops_ap,dops_ap,s5],by simp [ops_ap,dops_ap,s25,strs],by simp [ops_ap,dops_ap,s26],by simp [ops_ap,dops_ap,s27]⟩
  rw [if_neg h0] at hst
  refine SW.cond rfl false (by show S 40=_;rw [sc];simp [h0]) ?_
  clear sc
  show SW prog GI 171 none (.seq _ (.cond _ _ _)) _ _ _ _
  refine SW.cut hG hmix (by kernel_rfl) (ac:=ACode.fst (ACode.snd (ACode.snd (e119)))) (by kernel_rfl) (fun d _=>hbx d) (fun S' H'=>S' 59 = .bool (decide (nm=nmS∧tl.length=5))∧S' 7 = .str r∧S' 8=strs (nm::tl)∧S' 9 = .int .i64 kd∧I119 t L j x S' H') ?_ ?_
  ·have hl:((tl.length:Int)+1==6)=decide (tl.length=5):=by rw [Bool.eq_iff_iff];simp;omega
   obtain ⟨s0,s2,e2,s4,e4,s5,s25,s26,s27⟩:=hI
   by_cases h:nm=nmS
   ·have hk:kd=1:=by simpa [h] using k1
    simp [c119,l119,b119,e119,ACode.fst,ACode.snd,ops_ap,dops_ap,s7,s8,s9,strs,hk,hl,h]
    exact ⟨by simp [ops_ap,dops_ap,s0],by simp [ops_ap,dops_ap,s2],e2,by simp [ops_ap,dops_ap,s4],e4,by simp [ops_ap,dops_ap,s5],by simp [ops_ap,dops_ap,s25,strs],by simp [ops_ap,dops_ap,s26],by simp [ops_ap,dops_ap,s27]⟩
   ·have hk:(kd==1)=false:=by rw [k1];simpa using h
    simp [c119,l119,b119,e119,ACode.fst,ACode.snd,ops_ap,dops_ap,s7,s8,s9,strs,hk,h]
    exact ⟨by simp [ops_ap,dops_ap,s0],by simp [ops_ap,dops_ap,s2],e2,by simp [ops_ap,dops_ap,s4],e4,by simp [ops_ap,dops_ap,s5],by simp [ops_ap,dops_ap,s25,strs],by simp [ops_ap,dops_ap,s26],by simp [ops_ap,dops_ap,s27]⟩
  clear hI s7 s8 s9
  rintro S H ⟨sc,s7,s8,s9,hI⟩
  by_cases h1:nm=nmS∧tl.length=5
  case pos =>
   rw [if_pos h1] at hst
   refine SW.cond rfl true (by show S 59=_;rw [sc];simp [h1]) ?_
   obtain ⟨s0,s2,e2,s4,e4,s5,s25,s26,s27⟩:=hI
   refine SW.of_awp hG hmix (by kernel_rfl) (fun d _=>hbx d) (ac:=ACode.fst (ACode.snd (ACode.snd (ACode.snd (e119))))) (by kernel_rfl) ?_
   unfold Post.awp
   cases hg:givenE tl with
   |error er =>
    rw [hg] at a163 hst
    simp [c119,l119,b119,e119,ACode.fst,ACode.snd,ops_ap,dops_ap,s8,strs,bound,hokw,hb1,hb2,hb3]
    refine ⟨_,by kernel_rfl,a163,by simp [boxy],?_⟩
    simp [onOut,outG]
    exact ⟨er,hst,rfl⟩
   |ok l =>
    rw [hg] at a163 hst
    obtain ⟨a,b,c,d,e,rfl⟩:=len5 (by rw [givenE_len hg];exact h1.2)
    refine awp_cut (fun S' H'=>S' 11 = .slice .view [.int .i64 a,.int .i64 b,.int .i64 c,.int .i64 d,.int .i64 e]∧I119 t L j x S' H') ?_ ?_
    ·simp [c119,l119,b119,e119,ACode.fst,ACode.snd,ops_ap,dops_ap,s8,strs,bound,hokw,hb1,hb2,hb3]
     refine ⟨_,by kernel_rfl,a163,by simp [boxy],?_⟩
     simp [ops_ap,dops_ap,outG,ints]
     exact ⟨by simp [ops_ap,dops_ap,s0],by simp [ops_ap,dops_ap,s2],e2,by simp [ops_ap,dops_ap,s4],e4,by simp [ops_ap,dops_ap,s5],by simp [ops_ap,dops_ap,s25,strs],by simp [ops_ap,dops_ap,s26],by simp [ops_ap,dops_ap,s27]⟩
    clear s0 s2 e2 s4 e4 s5 s25 s26 s27 s7 s8 s9 sc S H
    rintro S H ⟨sl,s0,s2,e2,s4,e4,s5,s25,s26,s27⟩
    simp [ops_ap,dops_ap,sl,s4,e4,sheetW,fillA]
    refine ⟨_,hst,by simp [ops_ap,dops_ap,s0],by simp [ops_ap,dops_ap,s2],by first | exact e2 | simp [ops_ap,dops_ap,e2],by simp [ops_ap,dops_ap,s4],by simp [ops_ap,dops_ap,e4,sheetW,at',ints,grow],by simp [ops_ap,dops_ap,s5],by simp [ops_ap,dops_ap,s25,strs],by simp [ops_ap,dops_ap,s26],by simp [ops_ap,dops_ap,s27]⟩
  rw [if_neg h1] at hst
  refine SW.cond rfl false (by show S 59=_;rw [sc];simp [h1]) ?_
  clear sc
  show SW prog GI 171 none (.seq _ (.cond _ _ _)) _ _ _ _
  refine SW.cut hG hmix (by kernel_rfl) (ac:=ACode.fst (ACode.snd (ACode.snd (ACode.snd (ACode.snd (e119)))))) (by kernel_rfl) (fun d _=>hbx d) (fun S' H'=>S' 90 = .bool (decide (nm=nmI∧tl.length=1))∧S' 7 = .str r∧S' 8=strs (nm::tl)∧S' 9 = .int .i64 kd∧I119 t L j x S' H') ?_ ?_
  ·have hl:((tl.length:Int)+1==2)=decide (tl.length=1):=by rw [Bool.eq_iff_iff];simp;omega
   obtain ⟨s0,s2,e2,s4,e4,s5,s25,s26,s27⟩:=hI
   by_cases h:nm=nmI
   ·have hk:kd=2:=by simpa [h] using k2
    simp [c119,l119,b119,e119,ACode.fst,ACode.snd,ops_ap,dops_ap,s7,s8,s9,strs,hk,hl,h]
    exact ⟨by simp [ops_ap,dops_ap,s0],by simp [ops_ap,dops_ap,s2],e2,by simp [ops_ap,dops_ap,s4],e4,by simp [ops_ap,dops_ap,s5],by simp [ops_ap,dops_ap,s25,strs],by simp [ops_ap,dops_ap,s26],by simp [ops_ap,dops_ap,s27]⟩
   ·have hk:(kd==2)=false:=by rw [k2];simpa using h
    simp [c119,l119,b119,e119,ACode.fst,ACode.snd,ops_ap,dops_ap,s7,s8,s9,strs,hk,h]
    exact ⟨by simp [ops_ap,dops_ap,s0],by simp [ops_ap,dops_ap,s2],e2,by simp [ops_ap,dops_ap,s4],e4,by simp [ops_ap,dops_ap,s5],by simp [ops_ap,dops_ap,s25,strs],by simp [ops_ap,dops_ap,s26],by simp [ops_ap,dops_ap,s27]⟩
  clear hI s7 s8 s9
  rintro S H ⟨sc,s7,s8,s9,hI⟩
  by_cases h2:nm=nmI∧tl.length=1
  case pos =>
   rw [if_pos h2] at hst
   refine SW.cond rfl true (by show S 90=_;rw [sc];simp [h2]) ?_
   obtain ⟨s0,s2,e2,s4,e4,s5,s25,s26,s27⟩:=hI
   obtain ⟨w1,hw1⟩:=len1 h2.2
   have hok1:elemsOK 1 [AV.str w1]=true:=rfl
   refine SW.drawF hG hmix [6] [0,1,2,3,4,5,6,7,8,9] (by kernel_rfl) (by kernel_rfl) (l:=ACode.dl (ACode.fst (ACode.snd (ACode.snd (ACode.snd (ACode.snd (ACode.snd (e119)))))))) (by kernel_rfl) (((ACode.dl (ACode.fst (ACode.snd (ACode.snd (ACode.snd (ACode.snd (ACode.snd (e119)))))))).take 6).map (fun o=>(false,o))++((true,⟨some 104,none,.call 163 [.t 103]⟩)::((ACode.dl (ACode.fst (ACode.snd (ACode.snd (ACode.snd (ACode.snd (ACode.snd (e119)))))))).drop 7).map fun o=>(false,o))) (by kernel_rfl) ?_
   refine dopsM_pre _ ?_
   simp [c119,l119,b119,e119,ACode.fst,ACode.snd,ops_ap,dops_ap,ACode.dl,s4,e4,s8,hw1,strs,sheetW,hok1]
   rw [hw1] at a163 hst
   refine dopsM_call (by simp [ops_ap,dops_ap]) (by kernel_rfl) (by simpa [ops_ap,dops_ap,strs] using a163) ?_
   cases hg:givenE [w1] with
   |error er =>
    rw [hg] at hst
    exact ⟨er,hst,rfl⟩
   |ok l =>
    rw [hg] at hst
    obtain ⟨a,rfl⟩:=len1 (givenE_len hg)
    simp only [outG]
    refine dopsM_end [⟨some 105,none,.append 22 3 1 8 (.t 99) (.t 104)⟩,⟨some 106,none,.fieldAddr 0 (.t 4)⟩,⟨none,none,.store (.box 4) 1 (.t 106) (.t 105)⟩] ?_
    simp
    refine dops_app (ints x.widths) (.int .i64 a) .view (by simp) (by simp [ints]) rfl (ints_okV x.widths) (by rw [ints_len];have:=hgr.widths;omega) ?_
    intro S' sd hk'
    simp [sd,hk',s4,e4,sheetW]
    refine ⟨_,hst,by simp [ops_ap,dops_ap,hk',s0],by simp [ops_ap,dops_ap,hk',s2],by first | exact e2 | simp [ops_ap,dops_ap,e2],by simp [ops_ap,dops_ap,hk',s4],by simp [ops_ap,dops_ap,e4,sheetW,ints,grow],by simp [ops_ap,dops_ap,hk',s5],by simp [ops_ap,dops_ap,hk',s25,strs],by simp [ops_ap,dops_ap,hk',s26],by simp [ops_ap,dops_ap,hk',s27]⟩
  rw [if_neg h2] at hst
  refine SW.cond rfl false (by show S 90=_;rw [sc];simp [h2]) ?_
  clear sc
  show SW prog GI 171 none (.seq _ (.cond _ _ _)) _ _ _ _
  refine SW.cut hG hmix (by kernel_rfl) (ac:=ACode.fst (ACode.snd (ACode.snd (ACode.snd (ACode.snd (ACode.snd (ACode.snd (e119)))))))) (by kernel_rfl) (fun d _=>hbx d) (fun S' H'=>S' 107 = .bool (decide (nm=nmP∧tl.length=4))∧S' 7 = .str r∧S' 8=strs (nm::tl)∧S' 9 = .int .i64 kd∧I119 t L j x S' H') ?_ ?_
  ·have hl:((tl.length:Int)+1==5)=decide (tl.length=4):=by rw [Bool.eq_iff_iff];simp;omega
   obtain ⟨s0,s2,e2,s4,e4,s5,s25,s26,s27⟩:=hI
   by_cases h:nm=nmP
   ·have hk:kd=3:=by simpa [h] using k3
    simp [c119,l119,b119,e119,ACode.fst,ACode.snd,ops_ap,dops_ap,s7,s8,s9,strs,hk,hl,h]
    exact ⟨by simp [ops_ap,dops_ap,s0],by simp [ops_ap,dops_ap,s2],e2,by simp [ops_ap,dops_ap,s4],e4,by simp [ops_ap,dops_ap,s5],by simp [ops_ap,dops_ap,s25,strs],by simp [ops_ap,dops_ap,s26],by simp [ops_ap,dops_ap,s27]⟩
   ·have hk:(kd==3)=false:=by rw [k3];simpa using h
    simp [c119,l119,b119,e119,ACode.fst,ACode.snd,ops_ap,dops_ap,s7,s8,s9,strs,hk,h]
    exact ⟨by simp [ops_ap,dops_ap,s0],by simp [ops_ap,dops_ap,s2],e2,by simp [ops_ap,dops_ap,s4],e4,by simp [ops_ap,dops_ap,s5],by simp [ops_ap,dops_ap,s25,strs],by simp [ops_ap,dops_ap,s26],by simp [ops_ap,dops_ap,s27]⟩
  clear hI s7 s8 s9
  rintro S H ⟨sc,s7,s8,s9,hI⟩
  by_cases h3:nm=nmP∧tl.length=4
  case pos =>
   rw [if_pos h3] at hst
   refine SW.cond rfl true (by show S 107=_;rw [sc];simp [h3]) ?_
   obtain ⟨s0,s2,e2,s4,e4,s5,s25,s26,s27⟩:=hI
   refine SW.of_awp hG hmix (by kernel_rfl) (fun d _=>hbx d) (ac:=ACode.fst (ACode.snd (ACode.snd (ACode.snd (ACode.snd (ACode.snd (ACode.snd (ACode.snd (e119))))))))) (by kernel_rfl) ?_
   unfold Post.awp
   cases hg:givenE tl with
   |error er =>
    rw [hg] at a163 hst
    simp [c119,l119,b119,e119,ACode.fst,ACode.snd,ops_ap,dops_ap,s8,strs,bound,hokw,hb1,hb2,hb3]
    refine ⟨_,by kernel_rfl,a163,by simp [boxy],?_⟩
    simp [onOut,outG]
    exact ⟨er,hst,rfl⟩
   |ok l =>
    rw [hg] at a163 hst
    obtain ⟨a,b,c,d,rfl⟩:=len4 (by rw [givenE_len hg];exact h3.2)
    simp [c119,l119,b119,e119,ACode.fst,ACode.snd,ops_ap,dops_ap,s8,strs,bound,hokw,hb1,hb2,hb3]
    refine ⟨_,by kernel_rfl,a163,by simp [boxy],?_⟩
    have hok1:elemsOK 4 [AV.agg [.int .i64 a,.int .i64 b,.int .i64 c,.int .i64 d]]=true:=rfl
    simp [outG,ints,s4,e4,sheetW,fillA,hok1]
    refine dops_app (x.pairs.map pairA) (.agg [.int .i64 a,.int .i64 b,.int .i64 c,.int .i64 d]) (.own 119) (by simp) (by simp) rfl (pairs_ok x.pairs) (by rw [List.length_map];have:=hgr.pairs;omega) ?_
    intro S' sd hk'
    simp [sd,hk',s4,e4,sheetW]
    refine ⟨_,hst,by simp [ops_ap,dops_ap,hk',s0],by simp [ops_ap,dops_ap,hk',s2],by first | exact e2 | simp [ops_ap,dops_ap,e2],by simp [ops_ap,dops_ap,hk',s4],by simp [ops_ap,dops_ap,e4,sheetW,at',pairA,ints,grow],by simp [ops_ap,dops_ap,hk',s5],by simp [ops_ap,dops_ap,hk',s25,strs],by simp [ops_ap,dops_ap,hk',s26],by simp [ops_ap,dops_ap,hk',s27]⟩
  rw [if_neg h3] at hst
  refine SW.cond rfl false (by show S 107=_;rw [sc];simp [h3]) ?_
  clear sc
  show SW prog GI 171 none (.seq _ (.cond _ _ _)) _ _ _ _
  refine SW.cut hG hmix (by kernel_rfl) (ac:=ACode.fst (ACode.snd (ACode.snd (ACode.snd (ACode.snd (ACode.snd (ACode.snd (ACode.snd (ACode.snd (e119)))))))))) (by kernel_rfl) (fun d _=>hbx d) (fun S' H'=>S' 137 = .bool (decide (nm=nmW∧tl.length=3))∧S' 7 = .str r∧S' 8=strs (nm::tl)∧S' 9 = .int .i64 kd∧I119 t L j x S' H') ?_ ?_
  ·have hl:((tl.length:Int)+1==4)=decide (tl.length=3):=by rw [Bool.eq_iff_iff];simp;omega
   obtain ⟨s0,s2,e2,s4,e4,s5,s25,s26,s27⟩:=hI
   by_cases h:nm=nmW
   ·have hk:kd=4:=by simpa [h] using k4
    simp [c119,l119,b119,e119,ACode.fst,ACode.snd,ops_ap,dops_ap,s7,s8,s9,strs,hk,hl,h]
    exact ⟨by simp [ops_ap,dops_ap,s0],by simp [ops_ap,dops_ap,s2],e2,by simp [ops_ap,dops_ap,s4],e4,by simp [ops_ap,dops_ap,s5],by simp [ops_ap,dops_ap,s25,strs],by simp [ops_ap,dops_ap,s26],by simp [ops_ap,dops_ap,s27]⟩
   ·have hk:(kd==4)=false:=by rw [k4];simpa using h
    simp [c119,l119,b119,e119,ACode.fst,ACode.snd,ops_ap,dops_ap,s7,s8,s9,strs,hk,h]
    exact ⟨by simp [ops_ap,dops_ap,s0],by simp [ops_ap,dops_ap,s2],e2,by simp [ops_ap,dops_ap,s4],e4,by simp [ops_ap,dops_ap,s5],by simp [ops_ap,dops_ap,s25,strs],by simp [ops_ap,dops_ap,s26],by simp [ops_ap,dops_ap,s27]⟩
  clear hI s7 s8 s9
  rintro S H ⟨sc,s7,s8,s9,hI⟩
  by_cases h4:nm=nmW∧tl.length=3
  case pos =>
   rw [if_pos h4] at hst
   refine SW.cond rfl true (by show S 137=_;rw [sc];simp [h4]) ?_
   obtain ⟨s0,s2,e2,s4,e4,s5,s25,s26,s27⟩:=hI
   obtain ⟨w1,w2,w3,hw3⟩:=len3 h4.2
   have hw2l:w2.length≤420:=hwp w2 (by rw [hw3];simp)
   have hw3l:w3.length≤420:=hwp w3 (by rw [hw3];simp)
   have a2:=ac164g (GI:=GI) hG hT hML w2 (by omega)
   have a3:=ac164g (GI:=GI) hG hT hML w3 (by omega)
   rw [hw3] at hst
   refine SW.drawF hG hmix [5,9] [0,1,2,3,4,6,7,8,10,11,12,13,5,9,14,15,16,17,18] (by kernel_rfl) (by kernel_rfl) (l:=ACode.dl (ACode.fst (ACode.snd (ACode.snd (ACode.snd (ACode.snd (ACode.snd (ACode.snd (ACode.snd (ACode.snd (ACode.snd (e119)))))))))))) (by kernel_rfl) (((ACode.dl (ACode.fst (ACode.snd (ACode.snd (ACode.snd (ACode.snd (ACode.snd (ACode.snd (ACode.snd (ACode.snd (ACode.snd (e119)))))))))))).take 5++((ACode.dl (ACode.fst (ACode.snd (ACode.snd (ACode.snd (ACode.snd (ACode.snd (ACode.snd (ACode.snd (ACode.snd (ACode.snd (e119)))))))))))).drop 6).take 3++((ACode.dl (ACode.fst (ACode.snd (ACode.snd (ACode.snd (ACode.snd (ACode.snd (ACode.snd (ACode.snd (ACode.snd (ACode.snd (e119)))))))))))).drop 10).take 4).map (fun o=>(false,o))++((true,⟨some 150,none,.call 164 [.t 149]⟩)::(true,⟨some 154,none,.call 164 [.t 153]⟩)::((ACode.dl (ACode.fst (ACode.snd (ACode.snd (ACode.snd (ACode.snd (ACode.snd (ACode.snd (ACode.snd (ACode.snd (ACode.snd (e119)))))))))))).drop 14).map fun o=>(false,o))) (by kernel_rfl) ?_
   refine dopsM_pre _ ?_
   simp [c119,l119,b119,e119,ACode.fst,ACode.snd,ops_ap,dops_ap,ACode.dl,s4,e4,s8,hw3,strs,sheetW]
   refine dopsM_call (by simp [ops_ap,dops_ap]) (by kernel_rfl) (by simpa [ops_ap,dops_ap] using a2) ?_
   cases hg2:listedE w2 with
   |error er =>
    have hst:st = .error er:=by rw [hst];simp [hg2,thenE]
    exact ⟨er,hst,rfl⟩
   |ok l2 =>
    simp only [outG]
    refine dopsM_call (by simp [ops_ap,dops_ap]) (by kernel_rfl) (by simpa [ops_ap,dops_ap] using a3) ?_
    cases hg3:listedE w3 with
    |error er =>
     have hst:st = .error er:=by rw [hst];simp [hg2,hg3,thenE]
     exact ⟨er,hst,rfl⟩
    |ok l3 =>
     have hst:st = .ok { x with words:=x.words++[⟨l2,l3,w1==[121,101,115]⟩] }:=by rw [hst];simp [hg2,hg3,thenE]
     simp only [outG]
     refine dopsM_end [⟨some 159,none,.build [.slice .nil [],.slice .nil [],.bool false] [(0,1,.t 150),(1,1,.t 154),(2,1,.t 158)]⟩,⟨some 160,none,.buildSlice 26 77 3 [.t 159]⟩,⟨some 161,none,.append 26 77 3 56 (.t 146) (.t 160)⟩,⟨some 162,none,.fieldAddr 7 (.t 4)⟩,⟨none,none,.store (.box 4) 1 (.t 162) (.t 161)⟩] ?_
     have hok1:elemsOK 3 [AV.agg [.slice .view (ints l2),.slice .view (ints l3),.bool (w1==[121,101,115])]]=true:=rfl
     generalize hb1:(w1==[121,101,115])=bb at *
     simp [fillA,hb1,dem_nv,hok1]
     refine dops_app (x.words.map wordA) (wordA ⟨l2,l3,bb⟩) (.own 77) (by simp) (by simp [wordA,vI]) rfl (words_ok x.words) (by rw [List.length_map];have:=hgr.words;omega) ?_
     intro S' sd hk'
     simp [sd,hk',s4,e4,sheetW]
     refine ⟨_,hst,by simp [ops_ap,dops_ap,hk',s0],by simp [ops_ap,dops_ap,hk',s2],by first | exact e2 | simp [ops_ap,dops_ap,e2],by simp [ops_ap,dops_ap,hk',s4],by simp [ops_ap,dops_ap,e4,sheetW,wordA,vI,ints,grow],by simp [ops_ap,dops_ap,hk',s5],by simp [ops_ap,dops_ap,hk',s25,strs],by simp [ops_ap,dops_ap,hk',s26],by simp [ops_ap,dops_ap,hk',s27]⟩
  rw [if_neg h4] at hst
  refine SW.cond rfl false (by show S 137=_;rw [sc];simp [h4]) ?_
  clear sc
  refine SW.of_awp hG hmix (by kernel_rfl) (fun d _=>hbx d) (ac:=ACode.snd (ACode.snd (ACode.snd (ACode.snd (ACode.snd (ACode.snd (ACode.snd (ACode.snd (ACode.snd (ACode.snd (e119))))))))))) (by kernel_rfl) ?_
  unfold Post.awp
  simp [c119,l119,b119,e119,ACode.fst,ACode.snd,ops_ap,dops_ap,s7]
  refine ⟨_,by kernel_rfl,ac160f hG r,by simp [boxy],?_⟩
  simp [onOut]
  exact ⟨r,hst,rfl⟩
end Go.Proofs.Tryz
namespace Go.Proofs.Tryz
open Go Go.AL Go.RowKit Go.Proofs
attribute [local simp] awp_all qs_all ops_all dops_all ops_nil dops_nil ops_call ops_callv ops_alloc ops_box dops_call dops_alloc kO_eq kD_eq awanted apure ev Eff.S Eff.H tmpOf upd putD AL.start AV.dem AV.cells AV.storable AV.scells splice scrub abin loadA HR.okB post ares aress ares1 AV.out AV.isData ints_len ints_get fz fz1 AV.vw AV.vw1 boxy vI int undefA assignQ thenQ blockQ seqQ panQ prol prolH allocOf
variable {GI:World→Prop}
def zeroS:List AV:=[.slice .nil [],.slice .nil [],.int .i64 0,.int .i64 0,.int .i64 0,.int .i64 0,.int .i64 0,.slice .nil [],.int .i64 0,.int .i64 0]
set_option maxRecDepth 100000 in
theorem ac68e (hG:Stable GI) {s e:List UInt8} (hs:s.length≤320) (h119:AC prog GI 119 [.str s] (.panic (noTx e))):AC prog GI 68 [.str s] (.ret (.tup [sheetA sheet0,.int .i64 4])):=by
 refine AC.of_SW func68 rfl ntmps68 (by simp) fun cc w => ?_
 refine SW.cut hG hmix (by kernel_rfl) (ac:=ACode.fst c68) (by kernel_rfl) (fun _ _ h=>h) (fun S' H'=>S' 1 = .box 1 0∧S' 2 = .box 2 0∧H' 1=some [.str s]∧∃ z,H' 2=some z∧z.length=10) ?_ ?_
 ·simp [c68,ACode.fst,awp,aops,awanted,astep,apure,ev,Eff.S,Eff.H,upd,putD,AL.start,AV.dem,AV.cells,AV.storable,scrub,tmpOf,assignQ]
 rintro S1 H1 ⟨s1,s2,h1,z2,h2,hz2⟩
 refine SW.seq (SW.cut hG hmix (by kernel_rfl) (ac:=ACode.fst (ACode.fst (ACode.snd c68))) (by kernel_rfl) (fun _ _ h=>h) (fun S' H'=>S' 1 = .box 1 0∧S' 2 = .box 2 0∧H' 1=some [.str s]∧H' 2=some z2∧S' 8 = .bool false) ?_ ?_)
 ·have hs':¬ (320:Int) < s.length:=by omega
  simp [c68,ACode.fst,ACode.snd,awp,aops,awanted,astep,apure,ev,Eff.S,Eff.H,upd,putD,s1,s2,h1,h2,loadA,HR.okB,AV.dem,abin,hs',assignQ]
 rintro S2 H2 ⟨s1,s2,h1,h2,s8⟩
 refine SW.cond rfl false (by show S2 8=_;rw [s8]) (SW.skip ?_)
 show SW prog GI 21 none (.seq _ (.seq (.seq _ (.seq _ (.cond _ _ _))) (.seq (.seq _ (.cond _ _ _)) (.seq _ .ret)))) _ _ _ _
 refine SW.cut hG hmix (by kernel_rfl) (ac:=ACode.fst (ACode.snd (ACode.snd c68))) (by kernel_rfl) (fun _ _ h=>h) (fun S' H'=>S' 1 = .box 1 0∧S' 2 = .box 2 0∧S' 4 = .box 4 0∧H' 1=some [.str s]∧H' 2=some z2∧∃ z,H' 4=some z∧z.length=10) ?_ ?_
 ·simp [c68,ACode.fst,ACode.snd,awp,aops,awanted,astep,upd,scrub,s1,s2,h1,h2,assignQ]
 rintro S3 H3 ⟨s1,s2,s4,h1,h2,z4,h4,hz4⟩
 refine SW.seq (SW.seq (SW.hand hG (p:=0) (lm:=[0,1]) (l2:=[2]) (os1:=[]) (oh:=[_,_]) (os2:=[_]) rfl rfl rfl rfl (by kernel_rfl) (fun _ h=>h) (al1:=[]) (al2:=(ACode.dl (ACode.fst (ACode.fst (ACode.snd (ACode.snd (ACode.snd c68)))))).drop 2) rfl (by kernel_rfl) rfl (by kernel_rfl)
  (K1:=fun S' H'=>S' 1 = .box 1 0∧S' 2 = .box 2 0∧S' 4 = .box 4 0∧H' 1=some [.str s]∧H' 2=some z2∧H' 4=some z4)
  (K2:=fun o S' H'=>o=Old.plain cc w∧S' 2 = .box 2 0∧S' 4 = .box 4 0∧S' 11 = .int .i64 4∧H' 2=some z2∧H' 4=some z4)
  (K3:=fun o S' H'=>o=Old.plain cc w∧S' 2 = .box 2 0∧S' 4 = .box 4 0∧S' 5 = .int .i64 4∧H' 2=some z2∧H' 4=some z4) ⟨s1,s2,s4,h1,h2,h4⟩ ?_ ?_ ?_))
 ·rintro w0 g S5 H5 a w5 m hG0 ho R ⟨s1,s2,s4,h1,h2,h4⟩
  have hsz:=R.size
  refine opIn_val rfl rfl (by rfl) (run_mkf (fn := .func 118) (c := #[.tmp 1,.tmp 4]) rfl) ?_
  obtain ⟨fv,hfv⟩:∃ fv:Value,fv = .func (.func 118) #[] (#[Operand.tmp 1,.tmp 4].map a.eval):=⟨_,rfl⟩
  show wpOpsIn _ _ _ _ _ [1] (a.put (some 10) (.func (.func 118) #[] (#[Operand.tmp 1,.tmp 4].map a.eval))) w5
  rw [← hfv]
  have R1:=R.put 10 .junk fv (by decide) (.junk _) trivial
  obtain ⟨a1,ha1⟩:∃ a1,a.put (some 10) fv=a1:=⟨_,rfl⟩
  rw [ha1] at R1 ⊢
  have hfv2:fv = .func (.func 118) #[] #[a1.tmps.getD 1 undef,a1.tmps.getD 4 undef]:=by
   have e1:=put_get a 10 1 fv (by omega)
   have e4:=put_get a 10 4 fv (by omega)
   rw [if_neg (by decide),ha1] at e1 e4
   have e1':a1.tmps.getD 1 undef=a.eval (.tmp 1):=e1
   have e4':a1.tmps.getD 4 undef=a.eval (.tmp 4):=e4
   rw [e1',e4',hfv]
   simp only [List.map_toArray,List.map_cons,List.map_nil]
  have e10:a1.eval (.tmp 10)=fv:=by rw [← ha1,put_get _ _ _ _ (by omega),if_pos rfl]
  refine opIn_call rfl rfl (by rfl) (run_callF (k:=117) (args := #[.func (.func 118) #[] #[a1.tmps.getD 1 undef,a1.tmps.getD 4 undef]]) w5 rfl rfl ?_ (by kernel_rfl)) (calls117p hG hG0 R1 (i1:=1) (i4:=4) (by decide) (by decide) (by simp [upd,s1]) h1 (by simp [upd,s4]) h4 h119) ?_
  ·simp only [List.map_toArray,List.map_cons,List.map_nil,e10,← hfv2]
  ·rintro e w6 ⟨rfl,g',ho',R2⟩
   refine ⟨_,rfl,?_⟩
   have R3:=R2.put 11 (.int .i64 4) (.int .i64 4) (by decide) (.data _ _ (.int _ _)) trivial
   refine ⟨g',_,H5,R3,ho'.trans ho,?_,?_,upd_same _ _ _,h2,h4⟩
   ·simp [upd,s2]
   ·simp [upd,s4]
 ·rintro o S5 H5 ⟨rfl,s2,s4,s11,h2,h4⟩
  refine ⟨fun _ h=>h,?_⟩
  simp [c68,ACode.fst,ACode.snd,ACode.dl,aops,awanted,astep,apure,ev,Eff.S,Eff.H,upd,putD,s2,s4,s11,h2,h4,AV.dem,tmpOf]
 ·rintro o S5 H5 ⟨rfl,s2,s4,s5,h2,h4⟩
  refine SW.cut hG hmix (by kernel_rfl) (ac:=ACode.fst (ACode.snd (ACode.fst (ACode.snd (ACode.snd (ACode.snd c68)))))) (by kernel_rfl) (fun _ _ h=>h) (fun S' H'=>S' 2 = .box 2 0∧S' 5 = .int .i64 4∧S' 13 = .bool true∧H' 2=some z2) ?_ ?_
  ·simp [c68,ACode.fst,ACode.snd,awp,aops,awanted,astep,apure,ev,Eff.S,Eff.H,upd,putD,s2,s4,s5,h2,h4,AV.dem,abin,assignQ]
  rintro S6 H6 ⟨s2,s5,s13,h2⟩
  refine SW.cond rfl true (by show S6 13=_;rw [s13]) ?_
  show SW prog GI 21 none (.seq _ .ret) _ _ _ _
  have hdz:List.drop 10 z2=[]:=List.drop_eq_nil_of_le (by omega)
  refine SW.cut hG hmix (by kernel_rfl) (ac:=ACode.fst (ACode.fst (ACode.snd (ACode.snd (ACode.fst (ACode.snd (ACode.snd (ACode.snd c68)))))))) (by kernel_rfl) (fun _ _ h=>h) (fun S' H'=>S' 2 = .box 2 0∧S' 3 = .int .i64 4∧H' 2=some zeroS) ?_ ?_
  ·simp [c68,ACode.fst,ACode.snd,s2,s5,h2,fillA,zeroS,hz2,hdz]
  rintro S8 H8 ⟨s2,s3,h2⟩
  obtain ⟨i28,hi28,hs28⟩:=info_size (P:=prog) (t:=28) (s:=10) (by kernel_rfl)
  obtain ⟨fs,hfs⟩:=under_struct (P:=prog) (t:=28) (by kernel_rfl)
  refine SW.ret ⟨Marked.plain rfl,rfl,_,?_,rfl⟩
  show ares prog 21 [.cell 2 28,.tmp 3] S8 H8=_
  simp [ares,aress,ares1,s2,s3,h2,hi28,hfs,hs28,loadA,aggT,AV.out,zeroS,AV.dem,AV.isData,AV.vw,AV.vw1,sheetA,sheetL,sheet0,vI,ints]
set_option maxRecDepth 100000 in
theorem ac68n (hG:Stable GI) {s:List UInt8} {x:List AV} (hs:s.length≤320) (hx:x.length=10) (h119:AC prog GI 119 [.str s] (.ret (.agg x))) (h96:AC prog GI 96 [.agg (x.map AV.vw1)] (.ret (.bool false))) :
  AC prog GI 68 [.str s] (.ret (.tup [sheetA sheet0,.int .i64 2])):=by
 refine AC.of_SW func68 rfl ntmps68 (by simp) fun cc w => ?_
 refine SW.cut hG hmix (by kernel_rfl) (ac:=ACode.fst c68) (by kernel_rfl) (fun _ _ h=>h) (fun S' H'=>S' 1 = .box 1 0∧S' 2 = .box 2 0∧H' 1=some [.str s]∧∃ z,H' 2=some z∧z.length=10) ?_ ?_
 ·simp [c68,ACode.fst,awp,aops,awanted,astep,apure,ev,Eff.S,Eff.H,upd,putD,AL.start,AV.dem,AV.cells,AV.storable,scrub,tmpOf,assignQ]
 rintro S1 H1 ⟨s1,s2,h1,z2,h2,hz2⟩
 refine SW.seq (SW.cut hG hmix (by kernel_rfl) (ac:=ACode.fst (ACode.fst (ACode.snd c68))) (by kernel_rfl) (fun _ _ h=>h) (fun S' H'=>S' 1 = .box 1 0∧S' 2 = .box 2 0∧H' 1=some [.str s]∧H' 2=some z2∧S' 8 = .bool false) ?_ ?_)
 ·have hs':¬ (320:Int) < s.length:=by omega
  simp [c68,ACode.fst,ACode.snd,awp,aops,awanted,astep,apure,ev,Eff.S,Eff.H,upd,putD,s1,s2,h1,h2,loadA,HR.okB,AV.dem,abin,hs',assignQ]
 rintro S2 H2 ⟨s1,s2,h1,h2,s8⟩
 refine SW.cond rfl false (by show S2 8=_;rw [s8]) (SW.skip ?_)
 show SW prog GI 21 none (.seq _ (.seq (.seq _ (.seq _ (.cond _ _ _))) (.seq (.seq _ (.cond _ _ _)) (.seq _ .ret)))) _ _ _ _
 refine SW.cut hG hmix (by kernel_rfl) (ac:=ACode.fst (ACode.snd (ACode.snd c68))) (by kernel_rfl) (fun _ _ h=>h) (fun S' H'=>S' 1 = .box 1 0∧S' 2 = .box 2 0∧S' 4 = .box 4 0∧H' 1=some [.str s]∧H' 2=some z2∧∃ z,H' 4=some z∧z.length=10) ?_ ?_
 ·simp [c68,ACode.fst,ACode.snd,awp,aops,awanted,astep,upd,scrub,s1,s2,h1,h2,assignQ]
 rintro S3 H3 ⟨s1,s2,s4,h1,h2,z4,h4,hz4⟩
 refine SW.seq (SW.seq (SW.hand hG (p:=0) (lm:=[0,1]) (l2:=[2]) (os1:=[]) (oh:=[_,_]) (os2:=[_]) rfl rfl rfl rfl (by kernel_rfl) (fun _ h=>h) (al1:=[]) (al2:=(ACode.dl (ACode.fst (ACode.fst (ACode.snd (ACode.snd (ACode.snd c68)))))).drop 2) rfl (by kernel_rfl) rfl (by kernel_rfl)
  (K1:=fun S' H'=>S' 1 = .box 1 0∧S' 2 = .box 2 0∧S' 4 = .box 4 0∧H' 1=some [.str s]∧H' 2=some z2∧H' 4=some z4)
  (K2:=fun o S' H'=>o=Old.plain cc w∧S' 2 = .box 2 0∧S' 4 = .box 4 0∧S' 11 = .int .i64 0∧H' 2=some z2∧H' 4=some (x.map AV.dem))
  (K3:=fun o S' H'=>o=Old.plain cc w∧S' 2 = .box 2 0∧S' 4 = .box 4 0∧S' 5 = .int .i64 0∧H' 2=some z2∧H' 4=some (x.map AV.dem)) ⟨s1,s2,s4,h1,h2,h4⟩ ?_ ?_ ?_))
 ·rintro w0 g S5 H5 a w5 m hG0 ho R ⟨s1,s2,s4,h1,h2,h4⟩
  have hsz:=R.size
  refine opIn_val rfl rfl (by rfl) (run_mkf (fn := .func 118) (c := #[.tmp 1,.tmp 4]) rfl) ?_
  obtain ⟨fv,hfv⟩:∃ fv:Value,fv = .func (.func 118) #[] (#[Operand.tmp 1,.tmp 4].map a.eval):=⟨_,rfl⟩
  show wpOpsIn _ _ _ _ _ [1] (a.put (some 10) (.func (.func 118) #[] (#[Operand.tmp 1,.tmp 4].map a.eval))) w5
  rw [← hfv]
  have R1:=R.put 10 .junk fv (by decide) (.junk _) trivial
  obtain ⟨a1,ha1⟩:∃ a1,a.put (some 10) fv=a1:=⟨_,rfl⟩
  rw [ha1] at R1 ⊢
  have hfv2:fv = .func (.func 118) #[] #[a1.tmps.getD 1 undef,a1.tmps.getD 4 undef]:=by
   have e1:=put_get a 10 1 fv (by omega)
   have e4:=put_get a 10 4 fv (by omega)
   rw [if_neg (by decide),ha1] at e1 e4
   have e1':a1.tmps.getD 1 undef=a.eval (.tmp 1):=e1
   have e4':a1.tmps.getD 4 undef=a.eval (.tmp 4):=e4
   rw [e1',e4',hfv]
   simp only [List.map_toArray,List.map_cons,List.map_nil]
  have e10:a1.eval (.tmp 10)=fv:=by rw [← ha1,put_get _ _ _ _ (by omega),if_pos rfl]
  refine opIn_call rfl rfl (by rfl) (run_callF (k:=117) (args := #[.func (.func 118) #[] #[a1.tmps.getD 1 undef,a1.tmps.getD 4 undef]]) w5 rfl rfl ?_ (by kernel_rfl)) (calls117 hG hG0 R1 (d:=11) (i1:=1) (i4:=4) (by decide) (by decide) (by decide) (by decide) (by simp [upd,s1]) h1 (by simp [upd,s4]) h4 hz4 hx h119) ?_
  ·simp only [List.map_toArray,List.map_cons,List.map_nil,e10,← hfv2]
  ·rintro e w6 ⟨rfl,c,g',S',H',ho',R2,hS',hH'⟩
   refine ⟨_,rfl,?_⟩
   have R3:=R2.put 11 (.int .i64 0) (.int .i64 0) (by decide) (.data _ _ (.int _ _)) trivial
   rw [put_put] at R3
   refine ⟨g',_,H',R3,ho'.trans ho,?_,?_,upd_same _ _ _,?_,?_⟩
   ·show upd S' 11 _ 2=_
    rw [upd_ne _ _ (by decide),hS' 2 (by decide)];simp [upd,s2]
   ·show upd S' 11 _ 4=_
    rw [upd_ne _ _ (by decide),hS' 4 (by decide)];simp [upd,s4]
   ·rw [hH',upd_ne _ _ (by decide)];exact h2
   ·rw [hH'];exact upd_same _ _ _
 ·rintro o S5 H5 ⟨rfl,s2,s4,s11,h2,h4⟩
  refine ⟨fun _ h=>h,?_⟩
  simp [c68,ACode.fst,ACode.snd,ACode.dl,aops,awanted,astep,apure,ev,Eff.S,Eff.H,upd,putD,s2,s4,s11,h2,h4,AV.dem,tmpOf]
 ·rintro o S5 H5 ⟨rfl,s2,s4,s5,h2,h4⟩
  refine SW.cut hG hmix (by kernel_rfl) (ac:=ACode.fst (ACode.snd (ACode.fst (ACode.snd (ACode.snd (ACode.snd c68)))))) (by kernel_rfl) (fun _ _ h=>h) (fun S' H'=>S' 2 = .box 2 0∧S' 4 = .box 4 0∧S' 13 = .bool false∧H' 2=some z2∧H' 4=some (x.map AV.dem)) ?_ ?_
  ·simp [c68,ACode.fst,ACode.snd,awp,aops,awanted,astep,apure,ev,Eff.S,Eff.H,upd,putD,s2,s4,s5,h2,h4,AV.dem,abin,assignQ]
  rintro S6 H6 ⟨s2,s4,s13,h2,h4⟩
  refine SW.cond rfl false (by show S6 13=_;rw [s13]) (SW.skip ?_)
  have ht10:List.take 10 (x.map AV.dem)=x.map AV.dem:=List.take_of_length_le (by simp;omega)
  have e7:∀ (l:List AV) H,fz H (.agg (l.map AV.dem)) = .agg (l.map AV.vw1):=fun l H=>by simp only [fz,fz1,AV.vw,List.map_map,vw1_dem]
  refine SW.seq (SW.cut hG hmix (by kernel_rfl) (ac:=ACode.fst (ACode.fst (ACode.snd (ACode.snd (ACode.snd (ACode.snd c68)))))) (by kernel_rfl) (fun _ _ h=>h) (fun S' H'=>S' 2 = .box 2 0∧S' 18 = .bool true∧H' 2=some z2) ?_ ?_)
  ·simp [c68,ACode.fst,ACode.snd,awp,aops,awanted,astep,apure,ev,Eff.S,Eff.H,upd,putD,s2,s4,h2,h4,loadA,HR.okB,hx,dem_dem,ht10,e7,assignQ,-fz]
   refine ⟨_,by kernel_rfl,h96,by simp [boxy],?_⟩
   simp [onOut,upd,s2,s4,h2,h4]
  rintro S7 H7 ⟨s2,s18,h2⟩
  refine SW.cond rfl true (by show S7 18=_;rw [s18]) ?_
  show SW prog GI 21 none (.seq _ .ret) _ _ _ _
  have hdz:List.drop 10 z2=[]:=List.drop_eq_nil_of_le (by omega)
  refine SW.cut hG hmix (by kernel_rfl) (ac:=ACode.fst (ACode.fst (ACode.snd (ACode.fst (ACode.snd (ACode.snd (ACode.snd (ACode.snd c68)))))))) (by kernel_rfl) (fun _ _ h=>h) (fun S' H'=>S' 2 = .box 2 0∧S' 3 = .int .i64 2∧H' 2=some zeroS) ?_ ?_
  ·simp [c68,ACode.fst,ACode.snd,s2,h2,fillA,zeroS,hz2,hdz]
  rintro S8 H8 ⟨s2,s3,h2⟩
  obtain ⟨i28,hi28,hs28⟩:=info_size (P:=prog) (t:=28) (s:=10) (by kernel_rfl)
  obtain ⟨fs,hfs⟩:=under_struct (P:=prog) (t:=28) (by kernel_rfl)
  refine SW.ret ⟨Marked.plain rfl,rfl,_,?_,rfl⟩
  show ares prog 21 [.cell 2 28,.tmp 3] S8 H8=_
  simp [ares,aress,ares1,s2,s3,h2,hi28,hfs,hs28,loadA,aggT,AV.out,zeroS,AV.dem,AV.isData,AV.vw,AV.vw1,sheetA,sheetL,sheet0,vI,ints]
def readO (t:List UInt8):AV:=if 320 < t.length then .tup [sheetA sheet0,.int .i64 3] else match parsedE t with
 |.error _ => .tup [sheetA sheet0,.int .i64 4]
 |.ok x=>if sheetI x then .tup [sheetA x,.int .i64 0] else .tup [sheetA sheet0,.int .i64 2]
theorem parsedE_slim {t:List UInt8} (ht:t.length≤420) {x:Sheet} (h:parsedE t = .ok x):Slim x:=by
 have hpE:parsedE t=if (splitS 10 t).length < 2 then .error t else thenE (foldE stepE sheet0 ((splitS 10 t).take ((splitS 10 t).length - 2))) fun x=>if textT x=t then .ok x else .error t:=rfl
 rw [hpE] at h
 split at h
 ·cases h
 obtain ⟨y,hy,h⟩:=thenE_ok h
 split at h
 case isFalse=>cases h
 cases h
 have hl:=splitS_len 10 t
 obtain ⟨hg,_⟩:=foldE_grown (b:=421) (fun r hr=>by have:=splitS_part (c:=10) (List.mem_of_mem_take hr);omega) (sheet0_grown _) hy
 have hL:((splitS 10 t).take ((splitS 10 t).length - 2)).length≤421:=by rw [List.length_take];omega
 exact ⟨by have:=hg.widths;omega,by have:=hg.pairs;omega,by have:=hg.words;omega,fun w hw=>by have:=hg.signs w hw;omega,fun w hw=>by have:=hg.cuts w hw;omega⟩
theorem sheetL_vw1 (x:Sheet):(sheetL x).map AV.vw1=sheetL x:=rfl
theorem ac68g (hG:Stable GI) (hT:TB GI) (hML:ML GI) (t:List UInt8) (ht:t.length≤420):AC prog GI 68 [.str t] (.ret (readO t)):=by
 unfold readO
 by_cases hl:320 < t.length
 ·rw [if_pos hl]
  have hlI:(320:Int) < t.length:=by omega
  obtain ⟨i28,hi28,hs28⟩:=info_size (P:=prog) (t:=28) (s:=10) (by kernel_rfl)
  obtain ⟨fs,hfs⟩:=under_struct (P:=prog) (t:=28) (by kernel_rfl)
  refine AC.of_body hG hmix func68 rfl ntmps68 (by simp) (ac:=c68) (by kernel_rfl) ?_
  simp [c68,hlI,fillA,hi28,hfs,hs28,aggT,sheetA,sheetL,sheet0,ints]
 rw [if_neg hl]
 have a119:=ac119 hG hT hML t ht
 cases hp:parsedE t with
 |error e =>
  rw [hp] at a119
  exact ac68e hG (by omega) a119
 |ok x =>
  rw [hp] at a119
  have hs:=parsedE_slim ht hp
  have a96:=ac96 hG x hs
  simp only
  cases hsh:sheetI x with
  |true =>
   rw [hsh] at a96
   have:=ac68 hG (s:=t) (x:=sheetL x) (by omega) rfl a119 (by rw [sheetL_vw1];exact a96)
   rw [sheetL_vw1] at this
   exact this
  |false =>
   rw [hsh] at a96
   exact ac68n hG (by omega) (x:=sheetL x) rfl a119 (by rw [sheetL_vw1];exact a96)
end Go.Proofs.Tryz
namespace Go.Proofs.Tryz
open Go Go.AL Go.RowKit Go.Proofs
attribute [local simp] awp_all qs_all ops_all dops_all ops_nil dops_nil ops_call ops_callv ops_alloc ops_box dops_call dops_alloc kO_eq kD_eq awanted apure ev Eff.S Eff.H tmpOf upd putD AL.start AV.dem AV.cells AV.storable AV.scells splice scrub abin loadA HR.okB post ares aress ares1 AV.out AV.isData ints_len ints_get fz fz1 AV.vw AV.vw1 boxy vI int undefA assignQ thenQ blockQ seqQ panQ prol prolH allocOf
variable {GI:World→Prop}
end Go.Proofs.Tryz
namespace Go.Proofs.Tryz
open Go Go.AL Go.RowKit Go.Proofs
attribute [local simp] awp_all qs_all ops_all dops_all ops_nil dops_nil ops_call ops_callv ops_alloc ops_box dops_call dops_alloc kO_eq kD_eq awanted apure ev Eff.S Eff.H tmpOf upd putD AL.start AV.dem AV.cells AV.storable AV.scells splice scrub abin loadA HR.okB post ares aress ares1 AV.out AV.isData ints_len ints_get fz fz1 AV.vw AV.vw1 boxy vI int undefA assignQ thenQ blockQ seqQ panQ prol prolH allocOf
variable {GI:World→Prop}
end Go.Proofs.Tryz
namespace Go.Proofs.Tryz
open Go Go.AL Go.RowKit Go.Proofs
attribute [local simp] awp_all qs_all ops_allN dops_allN ops_nil dops_nil ops_call ops_callv ops_alloc ops_box dops_call dops_alloc kO_eq kD_eq awanted apure ev Eff.S Eff.H tmpOf upd putD AL.start AV.dem AV.cells AV.storable AV.scells splice scrub abin loadA HR.okB post ares aress ares1 AV.out AV.isData ints_len ints_get fz fz1 AV.vw AV.vw1 boxy vI int undefA assignQ thenQ blockQ seqQ panQ prol prolH allocOf
variable {GI:World→Prop}
end Go.Proofs.Tryz
namespace Go.Proofs.Tryz
open Go Go.AL Go.RowKit Go.Proofs
attribute [local simp] awp_all qs_all ops_all dops_all ops_nil dops_nil ops_call ops_callv ops_alloc ops_box dops_call dops_alloc kO_eq kD_eq awanted apure ev Eff.S Eff.H tmpOf upd putD AL.start AV.dem AV.cells AV.storable AV.scells splice scrub abin loadA HR.okB post ares aress ares1 AV.out AV.isData ints_len ints_get fz fz1 AV.vw AV.vw1 boxy vI int undefA assignQ thenQ blockQ seqQ panQ prol prolH allocOf
variable {GI:World→Prop}
end Go.Proofs.Tryz
namespace Go.Proofs.Tryz
open Go Go.AL Go.RowKit Go.Proofs
end Go.Proofs.Tryz
namespace Go.Proofs.Tryz
open Go Go.AL Go.RowKit Go.Proofs
attribute [local simp] awp_all qs_all ops_all dops_all ops_nil dops_nil ops_call ops_callv ops_alloc ops_box dops_call dops_alloc kO_eq kD_eq awanted apure ev Eff.S Eff.H tmpOf upd putD AL.start AV.dem AV.cells AV.storable AV.scells splice scrub abin loadA HR.okB post ares aress ares1 AV.out AV.isData ints_len ints_get fz fz1 AV.vw AV.vw1 boxy vI int undefA assignQ thenQ blockQ seqQ panQ prol prolH allocOf
variable {GI:World→Prop}
end Go.Proofs.Tryz
namespace Go.Proofs.Tryz
open Go Go.AL Go.RowKit Go.Proofs
attribute [local simp] awp_all qs_all ops_allN dops_allN ops_nil dops_nil ops_call ops_callv ops_alloc ops_box dops_call dops_alloc kO_eq kD_eq awanted apure ev Eff.S Eff.H tmpOf upd putD AL.start AV.cells AV.storable AV.scells splice scrub abin loadA HR.okB post ares aress ares1 AV.out AV.isData ints_len ints_get fz fz1 AV.vw boxy vI int undefA assignQ thenQ blockQ seqQ panQ prol prolH allocOf dem_s vw1_s vw1_dgrow
variable {GI:World→Prop}
end Go.Proofs.Tryz
namespace Go.Proofs.Tryz
open Go Go.AL Go.RowKit Go.Proofs
attribute [local simp] awp_all qs_all ops_all dops_all ops_nil dops_nil ops_call ops_callv ops_alloc ops_box dops_call dops_alloc kO_eq kD_eq awanted apure ev Eff.S Eff.H tmpOf upd putD AL.start AV.dem AV.cells AV.storable AV.scells splice scrub abin loadA HR.okB post ares aress ares1 AV.out AV.isData ints_len ints_get fz fz1 AV.vw AV.vw1 boxy vI int undefA assignQ thenQ blockQ seqQ panQ prol prolH allocOf
variable {GI:World→Prop}
theorem slim0:Slim sheet0:=⟨by decide,by decide,by decide,fun _ h=>(List.not_mem_nil h).elim,fun _ h=>(List.not_mem_nil h).elim⟩
theorem sheetL0:sheetL sheet0=[.slice .view [],.slice .view [],.int .i64 0,.int .i64 0,.int .i64 0,.int .i64 0,.int .i64 0,.slice .view [],.int .i64 0,.int .i64 0]:=rfl
end Go.Proofs.Tryz
namespace Go.AL
open Go.RowKit
section
variable {P:Program} {a:Act} {w:World}
theorem run_bytesV {o:Oper} {s d e:TypeId} {x:Operand} {l:List UInt8} (ho:o.op = .convert s d x) (hx:a.eval x = .string ⟨l.toArray⟩) (hs:P.underlying s=some .string) (hd:P.underlying d=some (.slice e)) (he:P.underlying e=some (.int .u8)) :
  ∃ (arr:Array Value) (cap k:Nat),(execOp a.eval o).run P w = .ok (.value (.slice (some ⟨w.heap.size,0,none⟩) l.length cap)) (w.drew.alloc (.cells arr e (k,k+1)))∧l.length≤k∧∀ j (h:j < l.length),arr[j]? = some (.int .u8 (l[j].toNat:Int)):=by
 have h:=run_bytes_of_string (P:=P) w s d e ⟨l.toArray⟩ hs hd he
 have hsz:(⟨l.toArray⟩:ByteArray).size=l.length:=by simp [ByteArray.size]
 rw [hsz] at h
 refine ⟨bytesRow ⟨l.toArray⟩ (grownCap w l.length 0 e),grownCap w l.length 0 e,(bytesRow ⟨l.toArray⟩ (grownCap w l.length 0 e)).size,?_,?_,fun j hj => ?_⟩
 ·unfold execOp
  simp only [ho,hx,Sem.run_bind,h]
  rfl
 ·simp [bytesRow,ByteArray.size]
 ·rw [bytesRow_at _ _ _ (by simpa using hj)]
  simp
theorem run_storeVM {o:Oper} {t:TypeId} {x y:Operand} {b off lo hi:Nat} {v u:Value} {ty:TypeId} {i:TypeInfo} {arr:Array Value} (ho:o.op = .store t x y) (hx:a.eval x = .pointer (some ⟨b,off,none⟩)) (hi':P.info? t=some i) (hs:i.size=1) (hb:w.heap[b]? = some (.cells arr ty (lo,hi)))
  (hoff:off < lo) (hc:arr[off]? = some u) (hv:(a.eval y)=v) (h1:v.oneCell'=true):(execOp a.eval o).run P w = .ok .skip (w.putObj b (.cells (arr.setIfInBounds off v) ty (lo,hi))):=by
 have hcc:v.cells = #[v]:=by cases v<;>first | rfl | cases h1
 have hcell:w.cell? ⟨b,off,none⟩=some u:=by simp [World.cell?,hb,hc]
 have hfz:w.frozen? ⟨b,off,none⟩=false:=by simp [World.frozen?,hb];omega
 have hset:w.setCell ⟨b,off,none⟩ v=w.putObj b (.cells (arr.setIfInBounds off v) ty (lo,hi)):=by
  unfold World.setCell World.putObj
  congr 1
  apply Array.ext_getElem?
  intro k
  rw [Array.getElem?_modify,Array.getElem?_setIfInBounds]
  have hlt:=(Array.getElem?_eq_some_iff.1 hb).1
  by_cases hk:b=k
  ·subst hk
   have e:=(Array.getElem?_eq_some_iff.1 hb).2
   simp [hlt,e]
  ·simp [hk]
 have hst:(store ⟨b,off,none⟩ v).run P w = .ok () (w.setCell ⟨b,off,none⟩ v):=by
  unfold store
  cases v<;>first | (cases h1;done) | simp [Sem.run,hcell,hfz]
 unfold execOp
 simp only [ho,hx,hv,Instr.storeAt,Instr.sureAddr,storeVar,sizeOf,typeInfo,Sem.run_bind,Sem.run_pure,Result.andThen_ok,run_program,hi',hs,hcc,ne_eq,not_true_eq_false,if_false]
 have hsz:(#[v]:Array Value).size=1:=rfl
 simp only [hsz,not_true_eq_false,if_false]
 rw [show storeCells ⟨b,off,none⟩ (#[v]:Array Value).toList=storeCells ⟨b,off,none⟩ [v] 0 from rfl]
 have hadd:(⟨b,off,none⟩:Addr).add 0=⟨b,off,none⟩:=by unfold Addr.add;simp
 simp only [storeCells,hadd,Sem.run_bind,hst,Result.andThen_ok,hset]
 rfl
theorem run_backV {o:Oper} {s d e:TypeId} {x:Operand} {b cap:Nat} {l:List UInt8} (ho:o.op = .convert s d x) (hx:a.eval x = .slice (some ⟨b,0,none⟩) l.length cap) (hs:P.underlying s=some (.slice e)) (he:P.underlying e=some (.int .u8)) (hd:P.underlying d=some .string)
  (hc:∀ j (hj:j < l.length),w.cell? ⟨b,j,none⟩=some (.int .u8 (l[j].toNat:Int))):(execOp a.eval o).run P w = .ok (.value (.string ⟨l.toArray⟩)) w:=by
 have h:=run_convert_bytes_back (P:=P) w s d e ⟨b,0,none⟩ cap l hs he hd (fun j hj=>by
  have hadd:(⟨b,0,none⟩:Addr).add j=⟨b,j,none⟩:=by rw [Addr.add_lit];simp
  rw [hadd];exact hc j hj)
 unfold execOp
 simp only [ho,hx,Sem.run_bind,h]
 rfl
end
end Go.AL
namespace Go.Proofs.Tryz
open Go Go.AL Go.RowKit Go.Proofs
attribute [local simp] awp_all qs_all ops_all dops_all ops_nil dops_nil ops_call ops_callv ops_alloc ops_box dops_call dops_alloc kO_eq kD_eq awanted apure ev Eff.S Eff.H tmpOf upd putD AL.start AV.dem AV.cells AV.storable AV.scells splice scrub abin loadA HR.okB post ares aress ares1 AV.out AV.isData ints_len ints_get fz fz1 AV.vw AV.vw1 boxy vI int undefA assignQ thenQ blockQ seqQ panQ prol prolH allocOf
variable {GI:World→Prop}
structure KB (cc:Nat→Nat→Prop) (l:List UInt8) (o:Old) (b:Nat):Prop where
 c:o.c=cc
 ds:o.ds=[]
 bx:∀ d,¬ o.bx d
 keep:∃ arr k,o.keep b=some (.cells arr 5 (k,k+1))∧l.length≤k∧∀ j (h:j < l.length),arr[j]? = some (.int .u8 (l[j].toNat:Int))
set_option maxRecDepth 100000 in
set_option maxHeartbeats 8000000 in
theorem ac21m (hG:Stable GI) (hML:ML GI) (hT:TB GI) {s:Sheet} (hsI:shortI s=true) (hsh:sheetI s=true) {k:Nat} (hkl:k < (textT s).length) {dg':Nat} (hd9:dg'≤9) (hdig:digit (textT s)[k]) (hne:(textT s)[k].toNat≠48+dg') :
  AC prog GI 21 [sheetA s,.int .i64 (k:Nat),.int .i64 (dg':Nat)] (.ret (.bool true)):=by
 have hk:=ac24 hG hML
 have hs:=shortI_slim hsI
 have a29:=ac29 (GI:=GI) hG s
 rw [hsI] at a29
 have a33:=ac33 hG s hs
 rw [hsh] at a33
 have a67:=ac67_ok hG hT s hs hsh
 have htl:=text_len hsh
 have hsp:=text_spoilt hsh hkl (d:=UInt8.ofNat (48+dg')) hdig (by unfold digit;rw [show (UInt8.ofNat (48+dg')).toNat=48+dg' by simp;omega];omega) (fun e=>hne (by
  have:=congrArg UInt8.toNat e
  rw [← this];simp;omega))
 have a68:=ac68g hG hT hML ((textT s).set k (UInt8.ofNat (48+dg'))) (by rw [List.length_set];omega)
 have hro:readO ((textT s).set k (UInt8.ofNat (48+dg'))) = .tup [sheetA sheet0,.int .i64 4]:=by
  unfold readO
  rw [if_neg (by rw [List.length_set];omega)]
  cases hp:parsedE ((textT s).set k (UInt8.ofNat (48+dg'))) with
  |error e=>rfl
  |ok x=>exact absurd hp (hsp x)
 rw [hro] at a68
 have z70:=ac70s (GI:=GI) hG sheet0 slim0
 unfold sheetA at z70 a68
 rw [sheetL0] at z70
 have hdg:=hdig
 unfold digit at hdg
 have hc1:((textT s)[k].toNat:Int) - 48≠dg':=by omega
 generalize textT s=t at *
 unfold sheetA at a29 a33 a67
 refine AC.of_SW func21 rfl ntmps21 (by simp) fun cc w => ?_
 refine SW.cut hG hmix (by kernel_rfl) (ac:=ACode.fst c21) (by kernel_rfl) (fun _ _ h=>h) (fun S H=>S 1 = .int .i64 (k:Nat)∧S 2 = .int .i64 (dg':Nat)∧S 3 = .box 3 0∧H 3=some (sheetL s)) ?_ ?_
 ·simp [c21,ACode.fst,sheetA,sheetL]
 rintro S H ⟨s1,s2,s3,e3⟩
 refine SW.cut hG hmix (by kernel_rfl) (ac:=ACode.fst (ACode.snd c21)) (by kernel_rfl) (fun _ _ h=>h) (fun S H=>S 1 = .int .i64 (k:Nat)∧S 2 = .int .i64 (dg':Nat)∧S 3 = .box 3 0∧H 3=some (sheetL s)) ?_ ?_
 ·have h1:¬ (dg':Int) < 0:=by omega
  have h2:¬ (9:Int) < dg':=by omega
  simp [c21,ACode.fst,ACode.snd,s1,s2,s3,e3,sheetL]
  refine ⟨_,by kernel_rfl,a29,by simp [boxy],?_⟩
  simp [s1,s2,s3,e3,sheetL]
  refine ⟨_,by kernel_rfl,a33,by simp [boxy],?_⟩
  simp [s1,s2,s3,e3,sheetL,h1,h2]
 clear s1 s2 s3 e3 S H
 rintro S H ⟨s1,s2,s3,e3⟩
 refine SW.cut hG hmix (by kernel_rfl) (ac:=ACode.fst (ACode.snd (ACode.snd c21))) (by kernel_rfl) (fun _ _ h=>h) (fun S H=>S 1 = .int .i64 (k:Nat)∧S 2 = .int .i64 (dg':Nat)∧S 7 = .str t∧S 8 = .int .i64 0) ?_ ?_
 ·simp [c21,ACode.fst,ACode.snd,s1,s2,s3,e3,sheetL]
  refine ⟨_,by kernel_rfl,a67,by simp [boxy],?_⟩
  simp [s1,s2,s3,e3,sheetL]
 clear s1 s2 s3 e3 S H
 rintro S H ⟨s1,s2,s7,s8⟩
 refine SW.cut hG hmix (by kernel_rfl) (ac:=ACode.fst (ACode.snd (ACode.snd (ACode.snd c21)))) (by kernel_rfl) (fun _ _ h=>h) (fun S H=>S 1 = .int .i64 (k:Nat)∧S 2 = .int .i64 (dg':Nat)∧S 7 = .str t) ?_ ?_
 ·simp [c21,ACode.fst,ACode.snd,s1,s2,s7,s8]
 clear s1 s2 s7 s8 S H
 rintro S H ⟨s1,s2,s7⟩
 refine SW.cut hG hmix (by kernel_rfl) (ac:=ACode.fst (ACode.snd (ACode.snd (ACode.snd (ACode.snd c21))))) (by kernel_rfl) (fun _ _ h=>h) (fun S H=>S 1 = .int .i64 (k:Nat)∧S 2 = .int .i64 (dg':Nat)∧S 7 = .str t) ?_ ?_
 ·have h0:¬ (k:Int) < 0:=by omega
  have h1:¬ (t.length:Int)≤k:=by omega
  have h2:¬ (t[k].toNat:Int) < 48:=by omega
  have h3:¬ (57:Int) < t[k].toNat:=by omega
  have hg:t[k]? = some t[k]:=List.getElem?_eq_getElem hkl
  have hw1:IntKind.u8.wrap ((t[k].toNat:Int) - 48)=(t[k].toNat:Int) - 48:=by
   unfold IntKind.wrap;simp [IntKind.bits,IntKind.signed];omega
  have hw2:IntKind.i64.wrap ((t[k].toNat:Int) - 48)=(t[k].toNat:Int) - 48:=wrapI (by omega)
  have h4:((t[k].toNat:Int) - 48==dg')=false:=by simpa using hc1
  simp [c21,ACode.fst,ACode.snd,s1,s2,s7,h0,h1,h2,h3,hg,hkl,hw1,hw2,h4]
 clear s1 s2 s7 S H
 rintro S H ⟨s1,s2,s7⟩
 obtain ⟨d,hd⟩:∃ d,UInt8.ofNat (48+dg')=d:=⟨_,rfl⟩
 have hdn:(d.toNat:Int)=48+dg':=by rw [← hd];simp;omega
 rw [hd] at a68 hro
 obtain ⟨i5,hi5,hs5⟩:=info_size (P:=prog) (t:=5) (s:=1) (by kernel_rfl)
 show SW prog GI 90 none (.seq _ (.seq _ (.seq _ (.seq _ .ret)))) _ _ _ _
 refine SW.seq (SW.hand hG (p:=1) (lm:=[1]) (l2:=[2]) (os1:=[_]) (oh:=[_]) (os2:=[_]) rfl rfl rfl rfl (by kernel_rfl) (fun _ h=>h) (al1:=(ACode.dl (ACode.fst (ACode.snd (ACode.snd (ACode.snd (ACode.snd (ACode.snd c21))))))).take 1) (al2:=(ACode.dl (ACode.fst (ACode.snd (ACode.snd (ACode.snd (ACode.snd (ACode.snd c21))))))).drop 2) (by kernel_rfl) (by kernel_rfl) (by kernel_rfl) (by kernel_rfl)
  (K1:=fun S H=>S 1 = .int .i64 (k:Nat)∧S 2 = .int .i64 (dg':Nat)∧S 66 = .str t)
  (K2:=fun o S H=>∃ b cap,KB cc t o b∧S 1 = .int .i64 (k:Nat)∧S 2 = .int .i64 (dg':Nat)∧S 67 = .val (.slice (some ⟨b,0,none⟩) t.length cap))
  (K3:=fun o S H=>∃ b cap,KB cc t o b∧S 1 = .int .i64 (k:Nat)∧S 2 = .int .i64 (dg':Nat)∧S 9 = .val (.slice (some ⟨b,0,none⟩) t.length cap)) ?_ ?_ ?_ ?_)
 ·simp [c21,ACode.fst,ACode.snd,ACode.dl,s1,s2,s7]
 ·rintro w0 g S1 H1 a w1 m hG0 ho R ⟨s1,s2,s66⟩
  have t66:=R.slot 66 (by decide) (fun h=>h)
  rw [s66] at t66
  have t66:a.eval (.tmp 66) = .string ⟨t.toArray⟩:=str_eq t66
  obtain ⟨arr,cap,kk,hrun,hl,hcells⟩:=run_bytesV (P:=prog) (a:=a) (w:=w1) (o:={ dst:=some 67,op := .convert 9 97 (.tmp 66),type:=_,pos:=_,after:=_,guard:=_ }) (s:=9) (d:=97) (e:=5) rfl t66 (by kernel_rfl) (by kernel_rfl) (by kernel_rfl)
  refine opIn_val rfl rfl (by rfl) hrun ?_
  have R2:=R.keepIn (((Below.refl _ w1).drew).alloc (Nat.le_refl _) (.cells arr 5 (kk,kk+1))) (b:=w1.heap.size) (Nat.le_refl _) (World.alloc_heap_new w1.drew _)
  have R3:=R2.put 67 (.val (.slice (some ⟨w1.heap.size,0,none⟩) t.length cap)) _ (by decide) (.data _ _ (.val _ rfl)) trivial
  refine ⟨_,_,H1,R3,w1.heap.size,cap,⟨by rw [ho];rfl,by rw [ho];rfl,by rw [ho];exact fun _ h=>h,arr,kk,upd_same _ _ _,hl,hcells⟩,by simp [upd,s1],by simp [upd,s2],upd_same _ _ _⟩
 ·rintro o S H ⟨b,cap,hK,s1,s2,s67⟩
  refine ⟨hK.bx,?_⟩
  simp [c21,ACode.fst,ACode.snd,ACode.dl,s1,s2,s67]
  first | exact hK | exact ⟨hK,rfl⟩ | exact ⟨b,cap,hK,rfl,rfl⟩
 clear s1 s2 s7 S H
 rintro o S H ⟨b,cap,hK,s1,s2,s9⟩
 have hbx:=hK.bx
 refine SW.seq (SW.hand hG (p:=5) (lm:=[5,6]) (l2:=[]) (os1:=[_,_,_,_,_]) (oh:=[_,_]) (os2:=[]) rfl rfl rfl rfl (by kernel_rfl) hbx (al1:=(ACode.dl (ACode.fst (ACode.snd (ACode.snd (ACode.snd (ACode.snd (ACode.snd (ACode.snd c21)))))))).take 5) (al2:=[]) (by kernel_rfl) rfl (by kernel_rfl) rfl
  (K1:=fun S H=>S 68 = .val (.slice (some ⟨b,0,none⟩) t.length cap)∧S 69 = .int .i64 (k:Nat)∧S 72 = .int .u8 (48+dg':Int)∧S 9 = .val (.slice (some ⟨b,0,none⟩) t.length cap))
  (K2:=fun o S H=>KB cc (t.set k d) o b∧S 9 = .val (.slice (some ⟨b,0,none⟩) t.length cap))
  (K3:=fun o S H=>KB cc (t.set k d) o b∧S 9 = .val (.slice (some ⟨b,0,none⟩) t.length cap)) ?_ ?_ ?_ ?_)
 ·have hw1:IntKind.i64.wrap (48+(dg':Int))=48+dg':=wrapI (by omega)
  have hw2:IntKind.u8.wrap (48+(dg':Int))=48+dg':=by
   unfold IntKind.wrap;simp [IntKind.bits,IntKind.signed];omega
  simp [c21,ACode.fst,ACode.snd,ACode.dl,s1,s2,s9,hw1,hw2]
 ·rintro w0 g S1 H1 a w1 m hG0 ho R ⟨s68,s69,s72,s9⟩
  have t68:=R.slot 68 (by decide) (fun h=>h)
  rw [s68] at t68
  have t68:a.eval (.tmp 68) = .slice (some ⟨b,0,none⟩) t.length cap:=t68.val_eq
  have t69:=R.slot 69 (by decide) (fun h=>h)
  rw [s69] at t69
  have t69:a.eval (.tmp 69) = .int .i64 (k:Nat):=t69.int_eq
  have t72:=R.slot 72 (by decide) (fun h=>h)
  rw [s72] at t72
  have t72:a.eval (.tmp 72) = .int .u8 (48+dg':Int):=t72.int_eq
  obtain ⟨arr,kk,hkeep,hl,hcells⟩:=hK.keep
  rw [← ho] at hkeep
  have hb:=(R.kept b _ hkeep).2.1
  have hsz:=R.size
  refine opIn_val rfl rfl (by rfl) (run_indexAddrV (k:=k) rfl (by kernel_rfl) hi5 t68 t69 hkl) ?_
  rw [hs5,Nat.mul_one]
  have R1:=R.put 73 (.val (.pointer (some ⟨b,k,none⟩))) (.pointer (some ⟨b,k,none⟩)) (by decide) (.data _ _ (.val _ rfl)) trivial
  have e73:(a.put (some 73) (.pointer (some ⟨b,k,none⟩))).eval (.tmp 73) = .pointer (some ⟨b,k,none⟩):=by rw [put_get _ _ _ _ (by omega),if_pos rfl]
  have e72:(a.put (some 73) (.pointer (some ⟨b,k,none⟩))).eval (.tmp 72) = .int .u8 (48+dg':Int):=by rw [put_get _ _ _ _ (by omega),if_neg (by decide)];exact t72
  refine opIn_skip rfl rfl (by rfl) (run_storeVM rfl e73 hi5 hs5 hb (by omega) (hcells k hkl) e72 rfl) ?_
  have R2:=R1.rekeep hkeep (.cells (arr.setIfInBounds k (.int .u8 (48+dg':Int))) 5 (kk,kk+1))
  refine ⟨_,_,H1,R2,⟨by show g.old.c=_;rw [ho];exact hK.c,by show g.old.ds=_;rw [ho];exact hK.ds,by show ∀ d,¬ g.old.bx d;rw [ho];exact hbx,_,kk,upd_same _ _ _,by rw [List.length_set];exact hl,fun j hj => ?_⟩,by simp [upd,s9]⟩
  rw [List.length_set] at hj
  have hkk:k < arr.size:=(Array.getElem?_eq_some_iff.1 (hcells k hkl)).1
  rw [Array.getElem?_setIfInBounds,List.getElem_set]
  by_cases hjk:k=j
  ·subst hjk;simp [hkk,hdn]
  ·rw [if_neg hjk];simp only [hjk,if_false];exact hcells j hj
 ·rintro o S H ⟨hK,s9⟩
  exact ⟨hK.bx,hK,s9⟩
 clear s1 s2 s9 hK hbx S H
 rintro o S H ⟨hK,s9⟩
 have hbx:=hK.bx
 refine SW.seq (SW.hand hG (p:=1) (lm:=[1]) (l2:=[2,3,4,5,6,7,8]) (os1:=[_]) (oh:=[_]) (os2:=[_,_,_,_,_,_,_]) rfl rfl rfl rfl (by kernel_rfl) hbx (al1:=(ACode.dl (ACode.fst (ACode.snd (ACode.snd (ACode.snd (ACode.snd (ACode.snd (ACode.snd (ACode.snd c21))))))))).take 1) (al2:=(ACode.dl (ACode.fst (ACode.snd (ACode.snd (ACode.snd (ACode.snd (ACode.snd (ACode.snd (ACode.snd c21))))))))).drop 2) (by kernel_rfl) (by kernel_rfl) (by kernel_rfl) (by kernel_rfl)
  (K1:=fun S H=>S 75 = .val (.slice (some ⟨b,0,none⟩) t.length cap))
  (K2:=fun o S H=>(o.c=cc∧o.ds=[]∧∀ d,¬ o.bx d)∧S 76 = .str (t.set k d))
  (K3:=fun o S H=>(o.c=cc∧o.ds=[]∧∀ d,¬ o.bx d)∧S 10 = .box 10 0∧H 10=some (sheetL sheet0)∧S 11 = .int .i64 4) ?_ ?_ ?_ ?_)
 ·simp [c21,ACode.fst,ACode.snd,ACode.dl,s9]
 ·rintro w0 g S1 H1 a w1 m hG0 ho R s75
  have t75:=R.slot 75 (by decide) (fun h=>h)
  rw [s75] at t75
  have t75:a.eval (.tmp 75) = .slice (some ⟨b,0,none⟩) (t.set k d).length cap:=by rw [List.length_set];exact t75.val_eq
  obtain ⟨arr,kk,hkeep,hl,hcells⟩:=hK.keep
  rw [← ho] at hkeep
  have hb:=(R.kept b _ hkeep).2.1
  refine opIn_val rfl rfl (by rfl) (run_backV (l:=t.set k d) rfl t75 (by kernel_rfl) (by kernel_rfl:prog.underlying 5=some (.int .u8)) (by kernel_rfl) fun j hj=>by
   rw [← hcells j hj];simp [World.cell?,hb]) ?_
  have R2:=R.put 76 (.str (t.set k d)) (.string ⟨(t.set k d).toArray⟩) (by decide) (.data _ _ (.str _)) trivial
  exact ⟨_,_,H1,R2,⟨by rw [ho];exact hK.c,by rw [ho];exact hK.ds,by rw [ho];exact hbx⟩,upd_same _ _ _⟩
 ·rintro o S H ⟨ho,s76⟩
  refine ⟨ho.2.2,?_⟩
  simp [c21,ACode.fst,ACode.snd,ACode.dl,s76]
  refine ⟨_,by kernel_rfl,a68,by simp [boxy],?_⟩
  simp [ho,sheetL0]
 clear s9 hK hbx S H
 rintro o S H ⟨⟨hoc,hods,hbx⟩,s10,e10,s11⟩
 rw [sheetL0] at e10
 refine SW.cut hG hmix (by kernel_rfl) (ac:=ACode.fst (ACode.snd (ACode.snd (ACode.snd (ACode.snd (ACode.snd (ACode.snd (ACode.snd (ACode.snd c21))))))))) (by kernel_rfl) (fun d _=>hbx d) (fun S H=>S 6 = .bool true) ?_ ?_
 ·simp [c21,ACode.fst,ACode.snd,s10,e10,s11,fillA]
  refine ⟨_,by kernel_rfl,z70,by simp [boxy],?_⟩
  simp
  refine ⟨_,by kernel_rfl,hk,fun _=>rfl,?_⟩
  simp
 intro S H s6
 refine SW.ret ⟨Marked.plain hods,hoc,.bool true,?_,rfl⟩
 show ares prog 90 [.tmp 6] S H=_
 simp [ares,aress,ares1,s6,AV.isData,AV.out]
end Go.Proofs.Tryz
namespace Go.Proofs.Tryz
open Go Go.AL Go.RowKit Go.Proofs
attribute [local simp] awp_all qs_all ops_all dops_all ops_nil dops_nil ops_call ops_callv ops_alloc ops_box dops_call dops_alloc kO_eq kD_eq awanted apure ev Eff.S Eff.H tmpOf upd putD AL.start AV.dem AV.cells AV.storable AV.scells splice scrub abin loadA HR.okB post ares aress ares1 AV.out AV.isData ints_len ints_get fz fz1 AV.vw AV.vw1 boxy vI int undefA assignQ thenQ blockQ seqQ panQ prol prolH allocOf
variable {GI:World→Prop}
theorem ac21 (hG:Stable GI) (hML:ML GI) (hT:TB GI) (s:Sheet) (p q:Int):AC prog GI 21 [sheetA s,.int .i64 p,.int .i64 q] (.ret (.bool true)):=by
 have hk:=ac24 hG hML
 have a29:=ac29 (GI:=GI) hG s
 by_cases hmain:shortI s=true∧sheetI s=true∧0≤q∧q≤9∧0≤p∧∃ h:p.toNat < (textT s).length,digit (textT s)[p.toNat]∧((textT s)[p.toNat].toNat:Int)≠48+q
 ·obtain ⟨h1,h2,h3,h4,h5,h6,h7,h8⟩:=hmain
  have:=ac21m hG hML hT h1 h2 h6 (dg':=q.toNat) (by omega) h7 (by omega)
  rw [Int.toNat_of_nonneg h5,Int.toNat_of_nonneg h3] at this
  exact this
 refine AC.of_body hG hmix func21 rfl ntmps21 (by simp) (ac:=c21) (by kernel_rfl) ?_
 refine awp_cut (fun S H=>S 1 = .int .i64 p∧S 2 = .int .i64 q∧S 3 = .box 3 0∧H 3=some (sheetL s)) (by simp [sheetA,sheetL]) ?_
 rintro S H ⟨s1,s2,s3,e3⟩
 cases hsI:shortI s
 ·rw [hsI] at a29
  simp [s1,s2,s3,e3,sheetL]
  refine ⟨_,by kernel_rfl,a29,by simp [boxy],?_⟩
  simp [s1,s2,s3,e3,sheetL]
  refine ⟨_,by kernel_rfl,hk,fun _=>rfl,?_⟩
  simp
 rw [hsI] at a29
 have hs:=shortI_slim hsI
 have a33:=ac33 hG s hs
 cases hsh:sheetI s
 ·rw [hsh] at a33
  simp [s1,s2,s3,e3,sheetL]
  refine ⟨_,by kernel_rfl,a29,by simp [boxy],?_⟩
  simp [s1,s2,s3,e3,sheetL]
  refine ⟨_,by kernel_rfl,a33,by simp [boxy],?_⟩
  simp [s1,s2,s3,e3,sheetL]
  refine ⟨_,by kernel_rfl,hk,fun _=>rfl,?_⟩
  simp
 rw [hsh] at a33
 by_cases hq:0≤q∧q≤9
 case neg =>
  by_cases hq0:q < 0
  ·simp [s1,s2,s3,e3,sheetL]
   refine ⟨_,by kernel_rfl,a29,by simp [boxy],?_⟩
   simp [s1,s2,s3,e3,sheetL]
   refine ⟨_,by kernel_rfl,a33,by simp [boxy],?_⟩
   simp [s1,s2,s3,e3,sheetL,hq0]
   refine ⟨_,by kernel_rfl,hk,fun _=>rfl,?_⟩
   simp
  ·have hq9:9 < q:=by omega
   simp [s1,s2,s3,e3,sheetL]
   refine ⟨_,by kernel_rfl,a29,by simp [boxy],?_⟩
   simp [s1,s2,s3,e3,sheetL]
   refine ⟨_,by kernel_rfl,a33,by simp [boxy],?_⟩
   simp [s1,s2,s3,e3,sheetL,hq0,hq9]
   refine ⟨_,by kernel_rfl,hk,fun _=>rfl,?_⟩
   simp
 have hq0:¬ q < 0:=by omega
 have hq9:¬ 9 < q:=by omega
 have a67:=ac67_ok hG hT s hs hsh
 have htl:=text_len hsh
 have hm:¬ (0≤p∧∃ h:p.toNat < (textT s).length,digit (textT s)[p.toNat]∧((textT s)[p.toNat].toNat:Int)≠48+q):=fun h=>hmain ⟨hsI,hsh,hq.1,hq.2,h⟩
 generalize textT s=t at *
 refine awp_cut (fun S H=>S 1 = .int .i64 p∧S 2 = .int .i64 q∧S 3 = .box 3 0∧H 3=some (sheetL s)) ?_ ?_
 ·simp [s1,s2,s3,e3,sheetL]
  refine ⟨_,by kernel_rfl,a29,by simp [boxy],?_⟩
  simp [s1,s2,s3,e3,sheetL]
  refine ⟨_,by kernel_rfl,a33,by simp [boxy],?_⟩
  simp [s1,s2,s3,e3,sheetL,hq0,hq9]
 clear s1 s2 s3 e3 S H
 rintro S H ⟨s1,s2,s3,e3⟩
 refine awp_cut (fun S H=>S 1 = .int .i64 p∧S 2 = .int .i64 q∧S 7 = .str t∧S 8 = .int .i64 0) ?_ ?_
 ·simp [s1,s2,s3,e3,sheetL]
  refine ⟨_,by kernel_rfl,a67,by simp [boxy],?_⟩
  simp [s1,s2,s3,e3,sheetL]
 clear s1 s2 s3 e3 S H
 rintro S H ⟨s1,s2,s7,s8⟩
 refine awp_cut (fun S H=>S 1 = .int .i64 p∧S 2 = .int .i64 q∧S 7 = .str t) (by simp [s1,s2,s7,s8]) ?_
 clear s1 s2 s7 s8 S H
 rintro S H ⟨s1,s2,s7⟩
 by_cases hp0:p < 0
 ·simp [s1,s2,s7,hp0]
  refine ⟨_,by kernel_rfl,hk,fun _=>rfl,?_⟩
  simp
 by_cases hpl:(t.length:Int)≤p
 ·simp [s1,s2,s7,hp0,hpl]
  refine ⟨_,by kernel_rfl,hk,fun _=>rfl,?_⟩
  simp
 obtain ⟨k,rfl⟩:∃ k:Nat,p=k:=⟨p.toNat,by omega⟩
 have hkl:k < t.length:=by omega
 have hg:t[k]? = some t[k]:=List.getElem?_eq_getElem hkl
 have hm:¬ (digit t[k]∧(t[k].toNat:Int)≠48+q):=fun h=>hm ⟨by omega,hkl,h⟩
 have hby:=byte_le t[k]
 by_cases h48:(t[k].toNat:Int) < 48
 ·simp [s1,s2,s7,hp0,hpl,hg,hkl,h48]
  refine ⟨_,by kernel_rfl,hk,fun _=>rfl,?_⟩
  simp
 by_cases h57:(57:Int) < t[k].toNat
 ·simp [s1,s2,s7,hp0,hpl,hg,hkl,h48,h57]
  refine ⟨_,by kernel_rfl,hk,fun _=>rfl,?_⟩
  simp
 have he:(t[k].toNat:Int)=48+q:=by
  refine Classical.byContradiction fun h=>hm ⟨?_,h⟩
  unfold digit;omega
 have hw1:IntKind.u8.wrap ((t[k].toNat:Int) - 48)=q:=by
  unfold IntKind.wrap;simp [IntKind.bits,IntKind.signed];omega
 have hw2:IntKind.i64.wrap q=q:=wrapI (by omega)
 simp [s1,s2,s7,hp0,hpl,hg,hkl,h48,h57,hw1,hw2]
 refine ⟨_,by kernel_rfl,hk,fun _=>rfl,?_⟩
 simp
end Go.Proofs.Tryz
namespace Go.Proofs.YtjdgdinalodjfaaGreatDoor
open Go Go.AL Go.ChangeShapes Go.WideShapes Go.ChangeAt Go.RowKit Go.Proofs.Tryz
set_option maxRecDepth 100000
namespace Spoilt
abbrev row:OpenClaim:=Rows.letterSpoiltRow
abbrev spec:ChangeSpec:=Rows.letterSpoiltSpec
theorem call (W:World) (base:Nat) (args:Array Value) {H:Type} {enc:TypeId×Value→H} (ds:List (DataW H)) (p:List MemPlace) (hG:GT W) (hval:∀ (j:Nat) t v,Tryz.f21.params[j]? = some t→args[j]? = some v→Value.okWide Tryz.prog W .any base t v)
  (hA:DataW.TrodAll enc Tryz.prog W 0 (fun _=>true) true Tryz.f21.params.toList args.toList ds p):Calls Tryz.prog 21 args W fun e W'=>e = .returned (.bool true)∧Below W.heap.size W W':=by
 rw [Tryz.params21] at hA hval
 obtain ⟨v0,vs0,d0,ds0,p0,q0,e0,rfl,rfl,h0,hr1⟩:=trodAll_cons hA
 obtain ⟨v1,vs1,d1,ds1,p1,q1,e1,rfl,rfl,h1,hr2⟩:=trodAll_cons hr1
 obtain ⟨v2,vs2,d2,ds2,p2,q2,e2,rfl,rfl,h2,hr3⟩:=trodAll_cons hr2
 obtain ⟨rfl,rfl,rfl⟩:=trodAll_nil hr3
 obtain rfl:args = #[v0,v1,v2]:=by
  apply Array.toList_inj.1;rw [e0,e1,e2]
 obtain ⟨x0,g0,a0⟩:=open_sheet (hval 0 28 v0 rfl rfl) h0
 obtain ⟨x1,g1,a1⟩:=open_int (hval 1 3 v1 rfl rfl) h1
 obtain ⟨x2,g2,a2⟩:=open_int (hval 2 3 v2 rfl rfl) h2
 refine calls_of (ac21 gt_stable (fun _ h=>h.1) (fun _ h=>h.2) x0 x1 x2) hG rfl fun i h h' => ?_
 match i,h with
 |0,_=>exact .data _ _ a0
 |1,_=>exact .data _ _ a1
 |2,_=>exact .data _ _ a2
theorem w1 (os:Os):((World.laidAll Tryz.prog os row.laid).forCall (fun _ _=>0) ⟨#[],#[.agg #[.slice none 0 0,.slice none 0 0,.int .i64 0,.int .i64 0,.int .i64 0,.int .i64 0,.int .i64 0,.slice none 0 0,.int .i64 0,.int .i64 0],.int .i64 0,.int .i64 0],[]⟩).Shaped Tryz.checked.prog :=
 World.shaped_of_ZipB (by kernel_rfl) (by kernel_rfl)
theorem lifted (os:Os) (started:os.Started) (H:Type) (enc:TypeId×Value→H) :
  ReturnsInHanded {} Tryz.checked os 21 .any (fun w args=>(spec.pre enc Tryz.prog Tryz.f21 row.domain false w args∧laidMetH Tryz.prog row.laid w)∧sizedMet enc Tryz.prog Tryz.f21 (OpenSpec.ofChange spec) false w args)
   (spec.post enc Tryz.prog Tryz.f21 false true false false):=by
 refine lifted_ofT 21 Tryz.f21 Tryz.func21 (by kernel_rfl) (by kernel_rfl) spec rfl ?_ ?_ os started _ 12 (w1 os) (by kernel_rfl) (by kernel_rfl) (by kernel_rfl) ?_ (fun W base args ds p=>call W base args ds p)
 ·intro ds hl
  rw [show Tryz.f21.params.size=3 by kernel_rfl] at hl
  match ds,hl with
  |[d0,d1,d2],_=>rfl
 ·rw [Tryz.params21]
  intro t ht
  have:t=28∨t=3:=by simpa using ht
  rcases this with rfl | rfl
  all_goals exact ⟨by kernel_rfl,of_decide_eq_true (by kernel_rfl)⟩
 ·rw [MakeChecks.laidMetH_plain _ _ _ (by kernel_rfl)];exact laidMet_laidAll _ (by kernel_rfl) (by kernel_rfl)
theorem f_named:Tryz.prog.funcNamed "mahlstick/mahlsticklaw01.LetterSpoilt" = some 21:=by kernel_rfl
theorem f_inPlace:(row.inPlace==Tryz.prog.inPlace 21)=true:=by kernel_rfl
theorem f_unfollowed:(row.unfollowed==Tryz.prog.unfollowed 21)=true:=by kernel_rfl
theorem f_recurses:(row.recurses==Tryz.prog.recurses 21)=true:=by kernel_rfl
theorem f_vars:(row.named==Tryz.prog.varsNamed 21)=true:=by kernel_rfl
theorem joined:joinedFacts Tryz.prog 21 Tryz.f21 spec row=true :=
 joined_of ⟨rfl,rfl,rfl,rfl,rfl,rfl⟩ (by kernel_rfl) (by kernel_rfl) (by kernel_rfl) f_inPlace f_unfollowed f_recurses f_vars (by kernel_rfl) (by kernel_rfl) (by kernel_rfl) (by kernel_rfl)
theorem instanceOf:Tryz.f21.isInstance Tryz.prog row.origin row.targs:=of_decide_eq_true (by kernel_rfl)
theorem wrapperOf:Tryz.f21.isWrapper Tryz.prog row.wrapper row.mainSum:=by
 unfold Func.isWrapper
 rw [if_neg (by decide +kernel)]
 exact ⟨rfl,rfl⟩
theorem holds:Rows.LetterSpoiltSaid :=
 OpenClaim.holds_of_wide 21 Tryz.f21 rfl rfl rfl rfl rfl rfl rfl ⟨rfl,rfl,rfl,rfl,rfl⟩ rfl rfl rfl rfl rfl f_named Tryz.func21 joined instanceOf wrapperOf (fun os started H enc _=>lifted os started H enc)
theorem f_wf:row.wfByText (OpenSpec.ofChange spec)=true:=by kernel_rfl
theorem f_goes:false=row.goesBy Tryz.prog:=by kernel_rfl
theorem f_stand:([28,3].all fun u => !Tryz.prog.wantsStandIn u)=true:=by kernel_rfl
theorem f_main:Tryz.prog.mainIs=some (true, "c6c35c26350f8f1001e286baba07dbfbfaca16fe3311917b4f7043a2b45b2948".toList):=by rw [p_mainIs,p_sum]
theorem card:Rows.LetterSpoiltCardSaid :=
 Claim7.holds_tied_plain_at .later [] [.data,.data,.data,.data,.pinned] true (true, "c6c35c26350f8f1001e286baba07dbfbfaca16fe3311917b4f7043a2b45b2948") true holds (fun _ h=>by cases h) f_wf (fun _ h=>by cases h) letterSpoilt_row_tie rfl ⟨rfl,rfl⟩ f_main rfl
  (fun f fn hf hfn=>by
   obtain rfl:f=21:=Option.some.inj (f_named.symm.trans hf) |>.symm
   obtain rfl:fn=Tryz.f21:=(Option.some.inj (Tryz.func21.symm.trans hfn)).symm
   refine ⟨p_looks,fun j t ht => ?_⟩
   rw [Tryz.params21] at ht
   have hm:t∈[28,3]:=by
    simpa using Array.mem_of_getElem? ht
   exact (show Tryz.prog.wantsStandIn t=false by simpa using List.all_eq_true.1 f_stand t hm))
  f_goes
end Spoilt
#print axioms Spoilt.card
end Go.Proofs.YtjdgdinalodjfaaGreatDoor
