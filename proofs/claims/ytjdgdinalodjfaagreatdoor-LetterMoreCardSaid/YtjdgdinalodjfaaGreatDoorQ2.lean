/-
  A part of the proof: L19 Q71 Q42 Q43 Q44 Q45 Q46 Q47 Q48 Q49 Q79.
-/
import Derived.Test.YtjdgdinalodjfaaGreatDoorQ1
set_option linter.all false
set_option linter.unusedVariables false
set_option linter.unusedSimpArgs false
set_option linter.deprecated false
namespace Go.Proofs.Tryz
open Go.AL
def insI:List Int→Int→List Int
 |[],n=>[n]
 |a::l,n=>if a < n then a::insI l n else if a=n then a::l else n::a::l
theorem mem_insI {n x:Int}:∀ {l:List Int},x∈insI l n↔x=n∨x∈l
 |[]=>by simp [insI]
 |a::l=>by
  unfold insI
  by_cases h1:a < n
  ·rw [if_pos h1]
   simp only [List.mem_cons,mem_insI (l:=l)]
   constructor
   ·rintro (h | h | h)<;>simp [h]
   ·rintro (h | h | h)<;>simp [h]
  ·rw [if_neg h1]
   by_cases h2:a=n
   ·subst h2;rw [if_pos rfl];simp
   ·rw [if_neg h2];simp
theorem insI_sorted {n:Int}:∀ {l:List Int},l.Pairwise (fun a b=>a < b)→(insI l n).Pairwise fun a b=>a < b
 |[],_=>List.pairwise_singleton _ _
 |a::l,h=>by
  unfold insI
  have h':=List.pairwise_cons.1 h
  by_cases h1:a < n
  ·rw [if_pos h1,List.pairwise_cons]
   refine ⟨fun x hx => ?_,insI_sorted h'.2⟩
   rcases mem_insI.1 hx with rfl | hx
   ·exact h1
   ·exact h'.1 x hx
  ·rw [if_neg h1]
   by_cases h2:a=n
   ·rw [if_pos h2];exact h
   ·rw [if_neg h2,List.pairwise_cons]
    refine ⟨fun x hx => ?_,h⟩
    rcases List.mem_cons.1 hx with rfl | hx
    ·omega
    ·have:=h'.1 x hx;omega
theorem risesI_iff {l:List Int} {lo hi:Int}:risesI l lo hi=true↔(∀ x∈l,lo≤x∧x≤hi)∧l.Pairwise fun a b=>a < b:=by
 unfold risesI
 rw [adjI_iff]
 constructor
 ·rintro ⟨h1,h2⟩
  exact ⟨fun x hx=>by have:=h1 x hx;simp only [inI,Bool.and_eq_true,decide_eq_true_eq] at this;exact this,adj_lt fun j hj=>by simpa using h2 j hj⟩
 ·rintro ⟨h1,h2⟩
  refine ⟨fun x hx=>by simp only [inI,Bool.and_eq_true,decide_eq_true_eq];exact h1 x hx,fun j hj => ?_⟩
  simp only [decide_eq_true_eq]
  exact List.pairwise_iff_getElem.1 h2 j (j+1) _ _ (by omega)
def cutMore (cut:Int) (x:Word):Word:={ x with cuts:=insI x.cuts cut }
def moreS (s:Sheet) (wide rows:Int) (w:Nat) (cut:Int):Sheet:={ s with wide:=min 400 (s.wide+wide),rows:=min 3 (s.rows+rows),words:=s.words.modify w (cutMore cut) }
theorem more_words {s:Sheet} {wide rows:Int} {w:Nat} {cut:Int} {i:Nat} (h:i < s.words.length) (h':i < (moreS s wide rows w cut).words.length):(moreS s wide rows w cut).words[i]=if w=i then cutMore cut s.words[i] else s.words[i]:=by
 have:=List.getElem_modify (cutMore cut) w s.words i h'
 exact this
theorem sheetI_all {s:Sheet}:sheetI s=true↔(inI s.widths.length 1 6=true∧s.pairs.length≤6∧adjI (pairI s) ltP s.pairs=true∧(s.widths.any fun n => !inI n 1 20)=false∧spanI s.olo s.ohi 0 9=true∧spanI s.glo s.ghi 0 20=true∧inI s.hyphen 1 20=true∧inI s.wide 1 400=true∧inI s.rows 1 3=true)∧inI s.words.length 1 4=true∧∀ w∈s.words,wordI s w=true:=by
 rw [sheetI_parts]
 have e:(s.words.any fun w => !wordI s w)=false↔∀ w∈s.words,wordI s w=true:=by
  rw [List.any_eq_false];simp
 rw [e]
theorem more_sheet {s:Sheet} (hs:sheetI s=true) {wide rows:Int} (h1:0≤wide) (h2:0≤rows) {w:Nat} (hw:w < s.words.length) {cut:Int} (hc1:1≤cut) (hc2:cut < s.words[w].signs.length):sheetI (moreS s wide rows w cut)=true:=by
 have hF:=sheetF hs
 rw [sheetI_all] at hs ⊢
 obtain ⟨⟨a1,a2,a3,a4,a5,a6,a7,a8,a9⟩,b1,b2⟩:=hs
 have hin:∀ {n lo hi:Int},inI n lo hi=true↔lo≤n∧n≤hi:=by intro n lo hi;simp [inI]
 refine ⟨⟨a1,a2,a3,a4,a5,a6,a7,?_,?_⟩,?_,?_⟩
 ·rw [hin] at a8 ⊢;show 1≤min 400 (s.wide+wide)∧min 400 (s.wide+wide)≤400;omega
 ·rw [hin] at a9 ⊢;show 1≤min 3 (s.rows+rows)∧min 3 (s.rows+rows)≤3;omega
 ·show inI (List.length (List.modify _ _ _)) 1 4=true
  rw [List.length_modify];exact b1
 ·intro x hx
  obtain ⟨i,hi,rfl⟩:=List.getElem_of_mem hx
  have hi':i < s.words.length:=by
   have:i < (s.words.modify w (cutMore cut)).length:=hi
   rwa [List.length_modify] at this
  rw [more_words hi' hi]
  have hwi:wordI s s.words[i]=true:=b2 _ (List.getElem_mem hi')
  split
  ·rename_i hwe
   subst hwe
   unfold wordI at hwi ⊢
   simp only [Bool.and_eq_true] at hwi ⊢
   refine ⟨hwi.1,?_⟩
   rw [risesI_iff] at hwi ⊢
   refine ⟨fun x hx => ?_,insI_sorted hwi.2.2⟩
   rcases mem_insI.1 hx with rfl | hx
   ·exact ⟨hc1,by show _≤((s.words[w].signs.length:Int) - 1);omega⟩
   ·exact hwi.2.1 x hx
  ·exact hwi
theorem more_wider {s:Sheet} (hs:sheetI s=true) {wide rows:Int} (h1:0≤wide) (h2:0≤rows) (w:Nat) (cut:Int):Wider s (moreS s wide rows w cut):=by
 have hF:=sheetF hs
 refine { widths:=rfl,pairs:=rfl,olo:=rfl,ohi:=rfl,glo:=rfl,ghi:=rfl,hyphen:=rfl,len := ?_,words := ?_,wide := ?_,rows := ?_ }
 ·show List.length (List.modify _ _ _)=_
  rw [List.length_modify]
 ·intro i hi
  rw [more_words hi]
  split
  ·exact ⟨rfl,rfl,fun c hc=>mem_insI.2 (.inr hc)⟩
  ·exact ⟨rfl,rfl,fun c hc=>hc⟩
 ·show s.wide≤min 400 (s.wide+wide)
  have:=hF.wide;omega
 ·show s.rows≤min 3 (s.rows+rows)
  have:=hF.rows;omega
theorem shorter_wider:∀ {l r:List Word} (k:Nat),l.length=r.length→(∀ i (h:i < l.length) (h':i < r.length),WordW l[i] r[i])→(shorterW l k).length=(shorterW r k).length∧∀ i (h:i < (shorterW l k).length) (h':i < (shorterW r k).length),WordW (shorterW l k)[i] (shorterW r k)[i]
 |[],[],k,_,_=>⟨rfl,fun i h=>by simp [shorterW] at h⟩
 |[],_::_,_,h,_=>by simp at h
 |_::_,[],_,h,_=>by simp at h
 |a::l,b::r,k,hl,h=>by
  by_cases hk:k=0
  ·subst hk
   rw [shorterW_zero,shorterW_zero]
   exact ⟨rfl,fun i h=>by simp at h⟩
  have h0:=h 0 (by simp) (by simp)
  have hs:b.signs=a.signs:=h0.signs
  rw [shorterW_cons a l hk,shorterW_cons b r hk,hs]
  obtain ⟨g1,g2⟩:=shorter_wider (l:=l) (r:=r) (k - min k a.signs.length) (by simpa using hl) fun i hi hi'=>by
   have:=h (i+1) (by simpa using hi) (by simpa using hi')
   simpa using this
  refine ⟨by simp [g1],fun i hi hi' => ?_⟩
  cases i with
  |zero =>
   refine ⟨by simp,h0.free,fun c hc => ?_⟩
   simp only [List.getElem_cons_zero,List.mem_filter] at hc ⊢
   exact ⟨h0.cuts c hc.1,hc.2⟩
  |succ i=>exact g2 i (by simpa using hi) (by simpa using hi')
theorem Wider.less {s x:Sheet} (h:Wider s x) (k:Nat):Wider (lessS s k) (lessS x k):=by
 obtain ⟨g1,g2⟩:=shorter_wider k h.len.symm fun i hi hi'=>h.words i hi
 exact { widths:=h.widths,pairs:=h.pairs,olo:=h.olo,ohi:=h.ohi,glo:=h.glo,ghi:=h.ghi,hyphen:=h.hyphen,len:=g1.symm,words:=fun i hi=>g2 i hi _,wide:=h.wide,rows:=h.rows }
theorem Wider.fits {s x:Sheet} (h:Wider s x) (hs:sheetI s=true) (hx:sheetI x=true) (hg:goodS s []≠[]):goodS x []≠[]:=by
 obtain ⟨es,l,hl⟩:=List.ne_nil_iff_exists_cons.1 hg
 have:=h.good hs hx (outI_nil hs) (by rw [hl];exact List.mem_cons_self:es∈goodS s [])
 rintro e
 rw [e] at this;cases this
theorem Wider.lets {s x:Sheet} (h:Wider s x):letsN x.words=letsN s.words:=by
 unfold letsN
 congr 1
 refine List.ext_getElem (by simp [h.len]) fun i h1 h2 => ?_
 rw [List.getElem_map,List.getElem_map,(h.words i (by simpa using h2)).signs]
end Go.Proofs.Tryz
namespace Go.Proofs.Tryz
open Go Go.AL Go.RowKit Go.Proofs
attribute [local simp] awp_all qs_all ops_allN dops_allN ops_nil dops_nil ops_call ops_callv ops_alloc ops_box dops_call dops_alloc kO_eq kD_eq awanted apure ev Eff.S Eff.H tmpOf upd putD AL.start AV.dem AV.cells AV.storable AV.scells splice scrub abin loadA HR.okB post ares aress ares1 AV.out AV.isData ints_len ints_get fz fz1 AV.vw AV.vw1 boxy vI int undefA assignQ thenQ blockQ seqQ panQ prol prolH allocOf
variable {GI:World→Prop}
theorem insI_at {n:Int}:∀ {l:List Int} {i:Nat},i≤l.length→(∀ j (h:j < l.length),j < i→l[j] < n)→(∀ h:i < l.length,¬ l[i] < n)→insI l n=l.take i++n::l.drop (if l[i]? = some n then i+1 else i)
 |[],i,hi,_,_=>by
  have:i=0:=by simpa using hi
  subst this;simp [insI]
 |a::l,0,_,_,h2=>by
  have h0:=h2 (by simp)
  simp only [List.getElem_cons_zero] at h0
  unfold insI
  rw [if_neg h0]
  by_cases h:a=n
  ·subst h;simp
  ·rw [if_neg h];simp [h]
 |a::l,i+1,hi,h1,h2=>by
  have h0:=h1 0 (by simp) (by omega)
  simp only [List.getElem_cons_zero] at h0
  unfold insI
  rw [if_pos h0,insI_at (l:=l) (i:=i) (by simpa using hi) (fun j hj hji=>h1 (j+1) (Nat.succ_lt_succ hj) (by omega)) (fun h=>h2 (Nat.succ_lt_succ h))]
  simp only [List.getElem?_cons_succ,List.take_succ_cons,List.cons_append,List.cons.injEq,true_and]
  split<;>simp
set_option maxHeartbeats 2000000 in
theorem ac64 (hG:Stable GI) (l:List Int) (hl:l.length < 1000) (n:Int):AC prog GI 64 [vI l,.int .i64 n] (.ret (grow 3 (ints (insI l n)))):=by
 refine AC.of_body hG hmix func64 rfl ntmps64 (by simp) (ac:=c64) (by kernel_rfl) ?_
 refine awp_cut (fun S H=>S 0=vI l∧S 1 = .int .i64 n) (by simp [ops_ap,dops_ap]) ?_
 rintro S H ⟨s0,s1⟩
 refine awp_cut (fun S H=>S 0=vI l∧S 1 = .int .i64 n∧S 5=grow 3 []) (by simp [ops_ap,dops_ap,s0,s1,grow]) ?_
 clear s0 s1 S H
 rintro S H ⟨s0,s1,s5⟩
 refine awp_cut (fun S H=>∃ i,i≤l.length∧(∀ j (h:j < l.length),j < i→l[j] < n)∧(∀ h:i < l.length,¬ l[i] < n)∧S 0=vI l∧S 1 = .int .i64 n∧S 5=grow 3 (ints (l.take i))) ?_ ?_
 ·refine awp_cut (fun S H=>S 0=vI l∧S 1 = .int .i64 n∧S 5=grow 3 []∧S 6 = .int .i64 0) (by simp [ops_ap,dops_ap,s0,s1,s5]) ?_
  clear s0 s1 s5 S H
  rintro S H ⟨s0,s1,s5,s6⟩
  refine awp_in_block ?_
  refine awp_loop 6 l.length (fun i S H=>(∀ j (h:j < l.length),j < i→l[j] < n)∧S 0=vI l∧S 1 = .int .i64 n∧S 5=grow 3 (ints (l.take i))∧S 6 = .int .i64 (i:Nat)) (fun i S H h=>h.2.2.2.2) ⟨fun j _ h=>absurd h (Nat.not_lt_zero _),s0,s1,by simpa [ints] using s5,s6⟩ ?_
  clear s0 s1 s5 s6 S H
  rintro i hi S H ⟨hb,s0,s1,s5,s6⟩
  by_cases hlt:i < l.length
  case neg =>
   simp [ops_ap,dops_ap,s0,s1,s5,s6,hlt]
   exact ⟨i,hi,hb,fun h=>absurd h hlt,rfl⟩
  have hltI:(i:Int) < l.length:=by omega
  by_cases hn:l[i] < n
  case neg =>
   simp [ops_ap,dops_ap,s0,s1,s5,s6,hlt,hltI,hn]
   exact ⟨i,hi,hb,fun _=>by omega,rfl⟩
  have hw:IntKind.i64.wrap ((i:Int)+1)=i+1:=wrapI (by omega)
  refine awp_cut (fun S H=>S 0=vI l∧S 1 = .int .i64 n∧S 5=grow 3 (ints (l.take i))∧S 6 = .int .i64 (i:Nat)) (by simp [ops_ap,dops_ap,s0,s1,s5,s6,hlt,hltI,hn]) ?_
  clear s0 s1 s5 s6 S H
  rintro S H ⟨s0,s1,s5,s6⟩
  have ht:ints (l.take (i+1))=ints (l.take i)++[.int .i64 l[i]]:=by
   rw [List.take_succ_eq_append_getElem hlt];unfold ints;rw [List.map_append];rfl
  have hln:(ints (l.take i)).length+1 < 1048576:=by rw [ints_len,List.length_take];omega
  rw [ht]
  have hok:=int_ok1 (l.take i)
  generalize ints (l.take i)=B at *
  have hok1:elemsOK 1 [AV.int .i64 l[i]]=true:=rfl
  simp [s0,s1,s5,s6,hlt,hltI,hok1]
  refine aops_app B (.int .i64 l[i]) (.own 3) (by simp [s5]) (by simp) hok1 hok hln ?_
  intro S' sd hk'
  simp [sd,hk',s0,s1,s6,hw,hlt]
  exact step_all (p:=fun a=>decide (a < n)) hlt (fun j hj hji=>by simpa using hb j hj hji) (by simpa using hn) |> fun h j hj hji=>by simpa using h j hj hji
 clear s0 s1 s5 S H
 rintro S H ⟨i,hi,hb,he,s0,s1,s5⟩
 have hres:=insI_at hi hb he
 have hti:(ints (l.take i)).length=i:=by rw [ints_len,List.length_take];omega
 have hok:=int_ok1 (l.take i)
 have e0:ints (l.take i++n::l.drop (if l[i]? = some n then i+1 else i))=ints (l.take i)++[.int .i64 n]++ints (l.drop (if l[i]? = some n then i+1 else i)):=by simp [ints]
 rw [hres,e0]
 generalize ints (l.take i)=B at *
 refine awp_cut (fun S H=>S 0=vI l∧S 1 = .int .i64 n∧S 5=grow 3 B∧S 7 = .int .i64 (i:Nat)) ?_ ?_
 ·simp [ops_ap,dops_ap,s0,s1,s5,grow]
  by_cases h:B=[]
  ·subst h;simp [ops_ap,dops_ap,s0,s1,s5,hti.symm,grow]
  ·simp [ops_ap,dops_ap,h,s0,s1,s5,hti,grow]
 clear s0 s1 s5 S H
 rintro S H ⟨s0,s1,s5,s7⟩
 have hok1:elemsOK 1 [AV.int .i64 n]=true:=rfl
 refine awp_cut (fun S H=>S 0=vI l∧S 1 = .int .i64 n∧S 5=grow 3 (B++[.int .i64 n])∧S 7 = .int .i64 (i:Nat)) ?_ ?_
 ·simp [s0,s1,s5,hok1]
  refine aops_app B (.int .i64 n) (.own 3) (by simp [s5]) (by simp) hok1 hok (by omega) ?_
  intro S' sd hk'
  simp [sd,hk',s0,s1,s7]
 clear s0 s1 s5 s7 S H
 rintro S H ⟨s0,s1,s5,s7⟩
 obtain ⟨m,hm⟩:∃ m,(if l[i]? = some n then i+1 else i)=m:=⟨_,rfl⟩
 have hml:m≤l.length:=by
  rw [← hm];split
  ·rename_i h;have:=(List.getElem?_eq_some_iff.1 h).1;omega
  ·exact hi
 rw [hm]
 refine awp_cut (fun S H=>S 0=vI l∧S 5=grow 3 (B++[.int .i64 n])∧S 7 = .int .i64 (m:Nat)) ?_ ?_
 ·by_cases hlt:i < l.length
  ·have hltI:(i:Int) < l.length:=by omega
   have hw:IntKind.i64.wrap ((i:Int)+1)=i+1:=wrapI (by omega)
   by_cases hn:l[i]=n
   ·have hmi:m=i+1:=by rw [← hm,if_pos (by rw [List.getElem?_eq_getElem hlt,hn])]
    subst hmi
    simp [ops_ap,dops_ap,s0,s1,s5,s7,hlt,hltI,hn,hw]
   ·have hmi:m=i:=by rw [← hm,if_neg (by rw [List.getElem?_eq_getElem hlt];simpa using hn)]
    have hnb:(l[i]==n)=false:=by simpa using hn
    subst hmi
    simp [ops_ap,dops_ap,s0,s1,s5,s7,hlt,hltI,hnb]
  ·have hmi:m=i:=by rw [← hm,if_neg (by rw [List.getElem?_eq_none (by omega)];simp)]
   subst hmi
   simp [ops_ap,dops_ap,s0,s1,s5,s7,hlt]
 clear s0 s1 s5 s7 S H
 rintro S H ⟨s0,s5,s7⟩
 have hokB:elemsOK 1 (B++[AV.int .i64 n])=true:=by
  simp only [elemsOK,List.all_append,Bool.and_eq_true] at hok ⊢
  exact ⟨hok,rfl⟩
 refine awp_cut (fun S H=>S 4=grow 3 (B++[.int .i64 n]++ints (l.drop m))) ?_ ?_
 ·have hmI:(m:Int)≤l.length:=by omega
  have htk:(ints l).take l.length=ints l:=by
   have:=List.take_length (l:=ints l)
   rwa [ints_len] at this
  have hdr:(ints l).drop m=ints (l.drop m):=by unfold ints;rw [List.map_drop]
  simp [s0,s5,s7,hml,hmI,bound,int_ok1 l,htk,hdr]
  refine aops_appL (B++[.int .i64 n]) (ints (l.drop m)) .view (by simp [s5]) (by simp) (int_ok1 _) hokB (by rw [List.length_append,hti,ints_len,List.length_drop];simp;omega) ?_
  intro S' sd hk'
  simp [sd,hk']
 clear s0 s5 s7 S H
 intro S H s4
 simp [ops_ap,dops_ap,s4,grow]
end Go.Proofs.Tryz
namespace Go.Proofs.Tryz
open Go Go.AL Go.RowKit Go.Proofs
attribute [local simp] awp_all qs_all ops_all dops_all ops_nil dops_nil ops_call ops_callv ops_alloc ops_box dops_call dops_alloc kO_eq kD_eq awanted apure ev Eff.S Eff.H tmpOf upd putD AL.start AV.dem AV.cells AV.storable AV.scells splice scrub abin loadA HR.okB post ares aress ares1 AV.out AV.isData ints_len ints_get fz fz1 AV.vw AV.vw1 boxy vI int undefA assignQ thenQ blockQ seqQ panQ prol prolH allocOf
variable {GI:World→Prop}
def countO (s:Sheet):List AV:=if sheetI s then [.int .i64 (goodS s []).length,.int .i64 0] else [.int .i64 0,.int .i64 2]
theorem ac45 (hG:Stable GI) (s:Sheet) (hs:Slim s):AC prog GI 45 [sheetA s] (.ret (.tup (countO s))):=by
 unfold countO
 refine AC.of_body hG hmix func45 rfl ntmps45 (by simp) (ac:=c45) (by kernel_rfl) ?_
 refine awp_cut (fun S H=>S 1 = .box 1 0∧H 1=some (sheetL s)) (by simp [sheetA,sheetL]) ?_
 rintro S H ⟨s1,e1⟩
 simp [s1,e1,sheetL]
 refine ⟨_,by kernel_rfl,ac96 hG s hs,fun _=>rfl,?_⟩
 cases hsh:sheetI s
 ·simp [s1,e1,sheetL]
 simp [s1,e1,sheetL]
 refine ⟨_,by kernel_rfl,ac80f hG s hsh,by simp [boxy],?_⟩
 simp [s1,e1,frontA,frontL,sheetL,spaces]
 refine ⟨_,by kernel_rfl,ac97f hG s hsh [] (by simp) (outI_nil hsh),by simp [boxy],?_⟩
 simp
end Go.Proofs.Tryz
namespace Go.Proofs.Tryz
open Go Go.AL Go.RowKit Go.Proofs
attribute [local simp] awp_all qs_all ops_all dops_all ops_nil dops_nil ops_call ops_callv ops_alloc ops_box dops_call dops_alloc kO_eq kD_eq awanted apure ev Eff.S Eff.H tmpOf upd putD AL.start AV.dem AV.cells AV.storable AV.scells splice scrub abin loadA HR.okB post ares aress ares1 AV.out AV.isData ints_len ints_get fz fz1 AV.vw AV.vw1 boxy vI int undefA assignQ thenQ blockQ seqQ panQ prol prolH allocOf
variable {GI:World→Prop}
end Go.Proofs.Tryz
namespace Go.Proofs.Tryz
open Go Go.AL Go.RowKit Go.Proofs
attribute [local simp] awp_all qs_all ops_allN dops_allN ops_nil dops_nil ops_call ops_callv ops_alloc ops_box dops_call dops_alloc kO_eq kD_eq awanted apure ev Eff.S Eff.H tmpOf upd putD AL.start AV.dem AV.cells AV.storable AV.scells splice scrub abin loadA HR.okB post ares aress ares1 AV.out AV.isData ints_len ints_get fz fz1 AV.vw AV.vw1 boxy vI int undefA assignQ thenQ blockQ seqQ panQ prol prolH allocOf
variable {GI:World→Prop}
end Go.Proofs.Tryz
namespace Go.Proofs.Tryz
open Go Go.AL Go.RowKit Go.Proofs
attribute [local simp] awp_all qs_all ops_allN dops_allN ops_nil dops_nil ops_call ops_callv ops_alloc ops_box dops_call dops_alloc kO_eq kD_eq awanted apure ev Eff.S Eff.H tmpOf upd putD AL.start AV.dem AV.cells AV.storable AV.scells splice scrub abin loadA HR.okB post ares aress ares1 AV.out AV.isData ints_len ints_get fz fz1 AV.vw AV.vw1 boxy vI int undefA assignQ thenQ blockQ seqQ panQ prol prolH allocOf
variable {GI:World→Prop}
end Go.Proofs.Tryz
namespace Go.Proofs.Tryz
open Go Go.AL Go.RowKit Go.Proofs
attribute [local simp] awp_all qs_all ops_allN dops_allN ops_nil dops_nil ops_call ops_callv ops_alloc ops_box dops_call dops_alloc kO_eq kD_eq awanted apure ev Eff.S Eff.H tmpOf upd putD AL.start AV.dem AV.cells AV.storable AV.scells splice scrub abin loadA HR.okB post ares aress ares1 AV.out AV.isData ints_len ints_get fz fz1 AV.vw AV.vw1 boxy vI int undefA assignQ thenQ blockQ seqQ panQ prol prolH allocOf
variable {GI:World→Prop}
end Go.Proofs.Tryz
namespace Go.Proofs.Tryz
open Go Go.AL Go.RowKit Go.Proofs
attribute [local simp] awp_all qs_all ops_allN dops_allN ops_nil dops_nil ops_call ops_callv ops_alloc ops_box dops_call dops_alloc kO_eq kD_eq awanted apure ev Eff.S Eff.H tmpOf upd putD AL.start AV.dem AV.cells AV.storable AV.scells splice scrub abin loadA HR.okB post ares aress ares1 AV.out AV.isData ints_len ints_get fz fz1 AV.vw AV.vw1 boxy vI int undefA assignQ thenQ blockQ seqQ panQ prol prolH allocOf
variable {GI:World→Prop}
end Go.Proofs.Tryz
namespace Go.Proofs.Tryz
open Go Go.AL Go.RowKit Go.Proofs
attribute [local simp] awp_all qs_all ops_all dops_all ops_nil dops_nil ops_call ops_callv ops_alloc ops_box dops_call dops_alloc kO_eq kD_eq awanted apure ev Eff.S Eff.H tmpOf upd putD AL.start AV.dem AV.cells AV.storable AV.scells splice scrub abin loadA HR.okB post ares aress ares1 AV.out AV.isData ints_len ints_get fz fz1 AV.vw AV.vw1 boxy vI int undefA assignQ thenQ blockQ seqQ panQ prol prolH allocOf
variable {GI:World→Prop}
theorem ac110f (hG:Stable GI) (s:Sheet) (hs:Slim s) {L:Nat} (hL:L < 4611686018427387904):AC prog GI 110 [sheetA s,.int .i64 (L:Nat)] (.ret (sheetA (lessS s L))):=by
 have h:=ac110 hG (sA:=sheetL s) (ws:=s.words) (L:=L) rfl rfl (by
  intro x hx
  simp [sheetL] at hx
  rcases hx with rfl | rfl | rfl | rfl | rfl | rfl | rfl | rfl | rfl | rfl<;>rfl) (by have:=hs.words;omega) (fun w hw=>by have:=hs.signs w hw;have:=hs.cuts w hw;omega) hL
 have e:AV.agg (((sheetL s).set 7 (.slice .view ((shorterW s.words L).map wordA))).map AV.vw1)=sheetA (lessS s L):=by
  simp [sheetL,sheetA,lessS,vI,ints,AV.vw1]
 rw [e] at h
 exact h
def overO (s:Sheet):List AV:=if sheetI s then [.int .i64 (overI s:Nat),.int .i64 0] else [.int .i64 0,.int .i64 2]
set_option maxHeartbeats 2000000 in
theorem ac56 (hG:Stable GI) (s:Sheet) (hs:Slim s):AC prog GI 56 [sheetA s] (.ret (.tup (overO s))):=by
 unfold overO
 have a96:=ac96 hG s hs
 cases hsh:sheetI s with
 |false =>
  rw [hsh] at a96
  refine AC.of_body hG hmix func56 rfl ntmps56 (by simp) (ac:=c56) (by kernel_rfl) ?_
  refine awp_cut (fun S H=>S 1 = .box 1 0∧H 1=some (sheetL s)) (by simp [sheetA,sheetL]) ?_
  rintro S H ⟨s1,e1⟩
  simp [s1,e1,sheetL]
  refine ⟨_,by kernel_rfl,a96,fun _=>rfl,?_⟩
  simp
 |true =>
 rw [hsh] at a96
 rw [if_pos rfl]
 have hN:=letsN_sheet hsh
 obtain ⟨N,hNe⟩:∃ N,letsN s.words=N:=⟨_,rfl⟩
 have hover_at:=fun n (h:n < N) hp hb=>over_at (s:=s) (n:=n) (by omega) hp hb
 have hover_all:=over_all (s:=s)
 rw [hNe] at hover_all hN
 refine AC.of_body hG hmix func56 rfl ntmps56 (by simp) (ac:=c56) (by kernel_rfl) ?_
 refine awp_cut (fun S H=>S 1 = .box 1 0∧H 1=some (sheetL s)) (by simp [sheetA,sheetL]) ?_
 rintro S H ⟨s1,e1⟩
 refine awp_cut (fun S H=>S 1 = .box 1 0∧H 1=some (sheetL s)) ?_ ?_
 ·simp [s1,e1,sheetL]
  refine ⟨_,by kernel_rfl,a96,fun _=>rfl,?_⟩
  simp [s1,e1,sheetL]
 clear s1 e1 S H
 rintro S H ⟨s1,e1⟩
 refine awp_cut (fun S H=>S 1 = .box 1 0∧H 1=some (sheetL s)∧S 4 = .int .i64 0) (by simp [s1,e1]) ?_
 clear s1 e1 S H
 rintro S H ⟨s1,e1,s4⟩
 refine awp_cut (fun S H=>S 1 = .box 1 0∧H 1=some (sheetL s)∧S 4 = .int .i64 (N:Nat)) ?_ ?_
 ·simp [s1,e1,s4,sheetL]
  refine awp_loop 14 s.words.length (fun i S H=>S 1 = .box 1 0∧H 1=some (sheetL s)∧S 12 = .slice .view (s.words.map wordA)∧S 13 = .int .i64 s.words.length∧S 14 = .int .i64 (i:Nat)∧S 4 = .int .i64 (letsN (s.words.take i):Nat)) (fun i S H h=>h.2.2.2.2.1) ⟨by simp [s1],by simp [e1,sheetL],by simp,by simp,by simp,by simp [s4,letsN]⟩ ?_
  clear s1 e1 s4 S H
  rintro i hi S H ⟨s1,e1,s12,s13,s14,s4⟩
  by_cases hlt:i < s.words.length
  case neg =>
   have hil:i=s.words.length:=by omega
   subst hil
   rw [List.take_of_length_le (Nat.le_refl _),hNe] at s4
   simp [s1,e1,s12,s13,s14,s4,sheetL]
  have hw4:=(sheetF hsh).words
  have hw:IntKind.i64.wrap ((i:Int)+1)=i+1:=wrapI (by omega)
  have hbi:letsN (s.words.take i)≤24:=by
   have:=letsN_bound (l:=s.words.take i) (b:=6) fun w hw=>(wordF hsh (List.mem_of_mem_take hw)).len6
   rw [List.length_take] at this
   omega
  have hsi:=(wordF hsh (List.getElem_mem hlt)).len6
  rw [letsN_take hlt]
  generalize letsN (s.words.take i)=m at *
  have hwm:IntKind.i64.wrap ((m:Int)+(s.words[i].signs.length:Int))=(m:Int)+(s.words[i].signs.length:Int):=wrapI (by omega)
  simp [s1,e1,s12,s13,s14,s4,hlt,wordA,hw,hwm,sheetL]
 clear s1 e1 s4 S H
 rintro S H ⟨s1,e1,s4⟩
 simp [s1,e1,s4]
 refine awp_loop 25 N (fun n S H=>S 1 = .box 1 0∧H 1=some (sheetL s)∧S 4 = .int .i64 (N:Nat)∧S 24 = .int .i64 (N:Nat)∧S 25 = .int .i64 (n:Nat)∧∀ j,j < n→shortFits s j=false) (fun i S H h=>h.2.2.2.2.1) ⟨by simp [s1],by simp [e1],by simp [s4],by simp,by simp,fun j h=>absurd h (Nat.not_lt_zero _)⟩ ?_
 clear s1 e1 s4 S H
 rintro n hn S H ⟨s1,e1,s4,s24,s25,hb⟩
 by_cases hlt:n < N
 case neg =>
  have hnl:n=N:=by omega
  subst hnl
  rw [hover_all hb]
  simp [s1,e1,s4,s24,s25]
 have hw:IntKind.i64.wrap ((n:Int)+1)=n+1:=wrapI (by omega)
 have hws:IntKind.i64.wrap ((N:Int) - (n:Int))=(N - n:Nat):=by rw [wrapI (by omega)];omega
 have a110:=ac110f hG s hs (L:=N - n) (by omega)
 have hxs:=lessS_sheet hsh (k:=N - n) (by omega)
 have a80:=ac80f hG (lessS s (N - n)) hxs
 have a107:=ac107f hG (lessS s (N - n)) hxs [] (by simp) (outI_nil hxs)
 have hp:shortFits s n = !(goodS (lessS s (N - n)) []).isEmpty:=by unfold shortFits;rw [hNe]
 rw [← hp] at a107
 simp [s1,e1,s4,s24,s25,hlt,sheetL,hws]
 refine ⟨_,by kernel_rfl,a110,by simp [boxy],?_⟩
 simp [s1,e1,s4,s24,s25,hlt,sheetA,sheetL]
 refine ⟨_,by kernel_rfl,a80,by simp [boxy],?_⟩
 simp [s1,e1,s4,s24,s25,hlt,frontA,frontL,sheetL,spaces]
 refine ⟨_,by kernel_rfl,a107,by simp [boxy],?_⟩
 cases hf:shortFits s n
 ·simp [s1,e1,s4,s24,s25,hlt,hw]
  refine ⟨rfl,?_⟩
  intro j hj
  rcases Nat.lt_or_ge j n with h | h
  ·exact hb j h
  ·rw [show j=n by omega];exact hf
 ·rw [hover_at n hlt hf hb]
  simp [s1,e1,s4,s24,s25,hlt]
end Go.Proofs.Tryz
namespace Go.Proofs.Tryz
open Go Go.AL Go.RowKit Go.Proofs
attribute [local simp] awp_all qs_all ops_all dops_all ops_nil dops_nil ops_call ops_callv ops_alloc ops_box dops_call dops_alloc kO_eq kD_eq awanted apure ev Eff.S Eff.H tmpOf upd putD AL.start AV.dem AV.cells AV.storable AV.scells splice scrub abin loadA HR.okB post ares aress ares1 AV.out AV.isData ints_len ints_get fz fz1 AV.vw AV.vw1 boxy vI int undefA assignQ thenQ blockQ seqQ panQ prol prolH allocOf
variable {GI:World→Prop}
end Go.Proofs.Tryz
namespace Go.Proofs.Tryz
open Go Go.AL Go.RowKit Go.Proofs
attribute [local simp] awp_all qs_all ops_all dops_all ops_nil dops_nil ops_call ops_callv ops_alloc ops_box dops_call dops_alloc kO_eq kD_eq awanted apure ev Eff.S Eff.H tmpOf upd putD AL.start AV.dem AV.cells AV.storable AV.scells splice scrub abin loadA HR.okB post ares aress ares1 AV.out AV.isData ints_len ints_get fz fz1 AV.vw AV.vw1 boxy vI int undefA assignQ thenQ blockQ seqQ panQ prol prolH allocOf
variable {GI:World→Prop}
set_option maxRecDepth 100000 in
set_option maxHeartbeats 8000000 in
theorem ac17e (hG:Stable GI) (hML:ML GI) {s x:Sheet} {n e m f c d o p:Int} (r1:AC prog GI 39 [sheetA s] (.ret (.tup [.int .i64 n,.int .i64 e]))) (r2:AC prog GI 39 [sheetA x] (.ret (.tup [.int .i64 m,.int .i64 f])))
  (r3:AC prog GI 45 [sheetA s] (.ret (.tup [.int .i64 c,.int .i64 0]))) (r4:AC prog GI 45 [sheetA x] (.ret (.tup [.int .i64 d,.int .i64 0]))) (r5:AC prog GI 56 [sheetA s] (.ret (.tup [.int .i64 o,.int .i64 0]))) (r6:AC prog GI 56 [sheetA x] (.ret (.tup [.int .i64 p,.int .i64 0])))
  (he:e=0∨e=5) (hf:f=0∨f=5) (hef:e=0→f=0∧m≤n) (hcd:c≤d) (hop:p≤o) {Q:AExit→Slots→Boxes→Prop} (hQ:∀ S H,S 10 = .bool true→Q .ret S H) {S:Slots} {H:Boxes} (s5:S 5 = .box 5 0) (e5:H 5=some (sheetL s)) (s11:S 11 = .box 11 0) (e11:H 11=some (sheetL x)) :
  awp prog GI (ACode.snd (ACode.snd (ACode.snd (ACode.snd (ACode.snd (ACode.snd c17)))))) Q S H:=by
 have hk:=ac24 hG hML
 unfold sheetA at r1 r2 r3 r4 r5 r6
 refine awp_cut (fun S H=>S 5 = .box 5 0∧H 5=some (sheetL s)∧S 11 = .box 11 0∧H 11=some (sheetL x)∧S 12 = .int .i64 n∧S 13 = .int .i64 e) ?_ ?_
 ·simp [c17,ACode.snd,s5,e5,s11,e11,sheetL]
  refine ⟨_,by kernel_rfl,r1,by simp [boxy],?_⟩
  simp [s5,e5,s11,e11,sheetL]
 clear s5 e5 s11 e11 S H
 rintro S H ⟨s5,e5,s11,e11,s12,s13⟩
 refine awp_cut (fun S H=>S 5 = .box 5 0∧H 5=some (sheetL s)∧S 11 = .box 11 0∧H 11=some (sheetL x)∧S 12 = .int .i64 n∧S 13 = .int .i64 e∧S 14 = .int .i64 m∧S 15 = .int .i64 f) ?_ ?_
 ·simp [s5,e5,s11,e11,s12,s13,sheetL]
  refine ⟨_,by kernel_rfl,r2,by simp [boxy],?_⟩
  simp [s5,e5,s11,e11,s12,s13,sheetL]
 clear s5 e5 s11 e11 s12 s13 S H
 rintro S H ⟨s5,e5,s11,e11,s12,s13,s14,s15⟩
 refine awp_cut (fun S H=>S 5 = .box 5 0∧H 5=some (sheetL s)∧S 11 = .box 11 0∧H 11=some (sheetL x)∧S 12 = .int .i64 n∧S 13 = .int .i64 e∧S 14 = .int .i64 m∧S 15 = .int .i64 f∧S 16 = .int .i64 c∧S 17 = .int .i64 0) ?_ ?_
 ·simp [s5,e5,s11,e11,s12,s13,s14,s15,sheetL]
  refine ⟨_,by kernel_rfl,r3,by simp [boxy],?_⟩
  simp [s5,e5,s11,e11,s12,s13,s14,s15,sheetL]
 clear s5 e5 s11 e11 s12 s13 s14 s15 S H
 rintro S H ⟨s5,e5,s11,e11,s12,s13,s14,s15,s16,s17⟩
 refine awp_cut (fun S H=>S 5 = .box 5 0∧H 5=some (sheetL s)∧S 11 = .box 11 0∧H 11=some (sheetL x)∧S 12 = .int .i64 n∧S 13 = .int .i64 e∧S 14 = .int .i64 m∧S 15 = .int .i64 f∧S 16 = .int .i64 c∧S 17 = .int .i64 0∧S 18 = .int .i64 d∧S 19 = .int .i64 0) ?_ ?_
 ·simp [s5,e5,s11,e11,s12,s13,s14,s15,s16,s17,sheetL]
  refine ⟨_,by kernel_rfl,r4,by simp [boxy],?_⟩
  simp [s5,e5,s11,e11,s12,s13,s14,s15,s16,s17,sheetL]
 clear s5 e5 s11 e11 s12 s13 s14 s15 s16 s17 S H
 rintro S H ⟨s5,e5,s11,e11,s12,s13,s14,s15,s16,s17,s18,s19⟩
 refine awp_cut (fun S H=>S 11 = .box 11 0∧H 11=some (sheetL x)∧S 12 = .int .i64 n∧S 13 = .int .i64 e∧S 14 = .int .i64 m∧S 15 = .int .i64 f∧S 16 = .int .i64 c∧S 17 = .int .i64 0∧S 18 = .int .i64 d∧S 19 = .int .i64 0∧S 20 = .int .i64 o∧S 21 = .int .i64 0) ?_ ?_
 ·simp [s5,e5,s11,e11,s12,s13,s14,s15,s16,s17,s18,s19,sheetL]
  refine ⟨_,by kernel_rfl,r5,by simp [boxy],?_⟩
  simp [s5,e5,s11,e11,s12,s13,s14,s15,s16,s17,s18,s19,sheetL]
 clear s5 e5 s11 e11 s12 s13 s14 s15 s16 s17 s18 s19 S H
 rintro S H ⟨s11,e11,s12,s13,s14,s15,s16,s17,s18,s19,s20,s21⟩
 refine awp_cut (fun S H=>S 12 = .int .i64 n∧S 13 = .int .i64 e∧S 14 = .int .i64 m∧S 15 = .int .i64 f∧S 16 = .int .i64 c∧S 17 = .int .i64 0∧S 18 = .int .i64 d∧S 19 = .int .i64 0∧S 20 = .int .i64 o∧S 21 = .int .i64 0∧S 22 = .int .i64 p∧S 23 = .int .i64 0) ?_ ?_
 ·simp [s11,e11,s12,s13,s14,s15,s16,s17,s18,s19,s20,s21,sheetL]
  refine ⟨_,by kernel_rfl,r6,by simp [boxy],?_⟩
  simp [s11,e11,s12,s13,s14,s15,s16,s17,s18,s19,s20,s21,sheetL]
 clear s11 e11 s12 s13 s14 s15 s16 s17 s18 s19 s20 s21 S H r1 r2 r3 r4 r5 r6
 rintro S H ⟨s12,s13,s14,s15,s16,s17,s18,s19,s20,s21,s22,s23⟩
 rcases he with rfl | rfl
 ·obtain ⟨rfl,hmn⟩:=hef rfl
  simp [s12,s13,s14,s15,s16,s17,s18,s19,s20,s21,s22,s23,hcd,hop,hmn]
  refine ⟨_,by kernel_rfl,hk,fun _=>rfl,?_⟩
  simp
  exact hQ _ _ (by simp)
 ·rcases hf with rfl | rfl
  all_goals
   simp [s12,s13,s14,s15,s16,s17,s18,s19,s20,s21,s22,s23,hcd,hop]
   refine ⟨_,by kernel_rfl,hk,fun _=>rfl,?_⟩
   simp
   exact hQ _ _ (by simp)
end Go.Proofs.Tryz
