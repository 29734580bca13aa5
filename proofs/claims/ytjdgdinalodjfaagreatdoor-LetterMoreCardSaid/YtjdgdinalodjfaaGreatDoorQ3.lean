/-
  The statement's function LetterMore returns true and leaves its arguments as they are, for every sheet, width, number of rows, word and cut; no condition. The texts before this one hold the layer of abstract values, the code of the functions that are reached, and their contracts.
-/
import Derived.Test.YtjdgdinalodjfaaGreatDoorP1
import Derived.Test.YtjdgdinalodjfaaGreatDoorQ2
import Derived.Test.YtjdgdinalodjfaaGreatDoorA3
set_option linter.all false
set_option linter.unusedVariables false
set_option linter.unusedSimpArgs false
set_option linter.deprecated false
namespace Go.AL
open Go.RowKit
section
variable {P:Program} {a:Act} {w:World}
theorem run_appendNilV {o:Oper} {cl:Call} {t e:TypeId} {i:TypeInfo} {z:Value} {x1 x2:Operand} {ad:Addr} {m c:Nat} {news:List Value} (ho:o.op = .call cl) (hcl:cl.callee = .builtin .append) (hca:cl.args = #[x1,x2]) (hct:cl.argTypes = #[t,t])
  (hx1:a.eval x1 = .slice none 0 0) (hx2:a.eval x2 = .slice (some ad) m c) (ht:P.underlying t=some (.slice e)) (hi:P.info? e=some i) (hz:i.zero=some z) (hl:news.length=m * i.size) (hnews:∀ j v,news[j]? = some v→w.cell? (ad.add j)=some v)
  (h0:0 < m) (h63:m≤2097152) (h48:m * i.bytes≤140737488355328) :
  (execOp a.eval o).run P w = .ok (.value (.slice (some ⟨w.heap.size,0,none⟩) m (grownCap w m 0 e))) (w.drew.alloc (.cells (news.toArray++Builtin.zeroCells z.cells (grownCap w m 0 e - m)) e)):=by
 have h:=run_append_nil (P:=P) (w:=w) t o.type e i z ht hi hz ad m c news hl hnews h0 (by omega) (by omega)
 unfold execOp
 simp [ho,hcl,hca,hct,resolve,invoke,builtin,hx1,hx2,h]
def fieldS (P:Program) (t j:Nat):Option (Nat×Nat):=match P.underlying t with
 |some (.struct fs)=>match fs[j]? with
  |some f=>match P.info? f.type with
   |some i=>some (f.offset,i.size)
   |none=>none
  |none=>none
 |_=>none
theorem field_at {t j off sz:Nat} (h:fieldS P t j=some (off,sz)):∃ fs f i,P.underlying t=some (.struct fs)∧fs[j]? = some f∧P.info? f.type=some i∧f.offset=off∧i.size=sz:=by
 unfold fieldS at h
 split at h
 ·rename_i fs hfs
  split at h
  ·rename_i f hf
   split at h
   ·rename_i i hi
    simp only [Option.some.injEq,Prod.mk.injEq] at h
    exact ⟨fs,f,i,hfs,hf,hi,h.1,h.2⟩
   ·cases h
  ·cases h
 ·cases h
def infoS (P:Program) (t:Nat):Option (Nat×Nat×Bool):=match P.info? t with
 |some i=>some (i.size,i.bytes,i.zero.isSome)
 |none=>none
theorem info_all {t s b:Nat} (h:infoS P t=some (s,b,true)):∃ i z,P.info? t=some i∧i.size=s∧i.bytes=b∧i.zero=some z:=by
 unfold infoS at h
 split at h
 ·rename_i i hi
  simp only [Option.some.injEq,Prod.mk.injEq] at h
  obtain ⟨z,hz⟩:=Option.isSome_iff_exists.1 h.2.2
  exact ⟨i,z,hi,h.1,h.2.1,hz⟩
 ·cases h
theorem opIn_storeV {ro:Option Nat} {m:Nat} {Q:Exit→Act→World→Prop} {ops:Array Oper} {i:Nat} {rest:List Nat} {o:Oper} {t:TypeId} {x y:Operand} {b off:Nat} {v:Value} {ty:TypeId} {inf:TypeInfo} {arr:Array Value} (ho:ops[i]? = some o) (hg:o.guard=none) (hd:o.dst=none) (hop:o.op = .store t x y)
  (hx:a.eval x = .pointer (some ⟨b,off,none⟩)) (hi:P.info? t=some inf) (hs:inf.size=1) (hb:w.heap[b]? = some (.cells arr ty (0,0))) (hoff:off < arr.size) (hv:a.eval y=v) (h1:v.oneCell'=true)
  (hk:∀ arr':Array Value,arr'.size=arr.size→(∀ k,arr'.getD k undef=if k=off then v else arr.getD k undef)→wpOpsIn (FR ro) m P ops Q rest a (w.putObj b (.cells arr' ty (0,0)))):wpOpsIn (FR ro) m P ops Q (i::rest) a w:=by
 obtain ⟨arr',hr,h1',h2'⟩:=run_storeV (P:=P) hop hx hi hs hb hoff hv h1
 refine opIn_skip ho hg (by rw [hop];rfl) hr ?_
 rw [hd]
 exact hk arr' h1' h2'
end
end Go.AL
namespace Go.Proofs.Tryz
open Go Go.AL Go.RowKit Go.Proofs
attribute [local simp] awp_all qs_all ops_all dops_all ops_nil dops_nil ops_call ops_callv ops_alloc ops_box dops_call dops_alloc kO_eq kD_eq awanted apure ev Eff.S Eff.H tmpOf upd putD AL.start AV.dem AV.cells AV.storable AV.scells splice scrub abin loadA HR.okB post ares aress ares1 AV.out AV.isData ints_len ints_get fz fz1 AV.vw AV.vw1 boxy vI int undefA assignQ thenQ blockQ seqQ panQ prol prolH allocOf
variable {GI:World→Prop}
structure KW (cc:Nat→Nat→Prop) (ws:List Word) (o:Old) (b cap:Nat) (arr:Array Value):Prop where
 c:o.c=cc
 ds:o.ds=[]
 bx:∀ d,¬ o.bx d
 keep:o.keep b=some (.cells arr 77 (0,0))
 facts:∀ j (h:j < ws.length) k (hk:k < 3),((wordA ws[j]).cells.getD k .junk,arr.getD (j * 3+k) undef)∈o.facts
 cap:ws.length≤cap
 size:ws.length * 3≤arr.size
def slV (b n cap:Nat):Value := .slice (some ⟨b,0,none⟩) n cap
def moreL (s:Sheet) (wide rows:Int) (v:AV):List AV:=[vI s.widths,.slice .view (s.pairs.map pairA),.int .i64 s.olo,.int .i64 s.ohi,.int .i64 s.glo,.int .i64 s.ghi,.int .i64 s.hyphen,v,.int .i64 (min 400 (s.wide+wide)),.int .i64 (min 3 (s.rows+rows))]
structure I17 (s:Sheet) (k:Nat) (cut:Int) (S:Slots) (H:Boxes):Prop where
 s3:S 3 = .int .i64 (k:Nat)
 s4:S 4 = .int .i64 cut
 s5:S 5 = .box 5 0
 e5:H 5=some (sheetL s)
 s11:S 11 = .box 11 0
theorem words_ok3 (l:List Word):elemsOK 3 (l.map wordA)=true:=elems_map fun a=>⟨rfl,rfl⟩
theorem wordA_cells (w:Word):(wordA w).cells=[vI w.signs,vI w.cuts,.bool w.free]:=rfl
theorem more_at (l:List Word) (k:Nat) (cut:Int) (i:Nat) (h:i < l.length) (h':i < (l.modify k (cutMore cut)).length):(l.modify k (cutMore cut))[i]=if k=i then cutMore cut l[i] else l[i]:=List.getElem_modify (cutMore cut) k l i h'
theorem wider_rows {s x:Sheet} (h:Wider s x) (hs:sheetI s=true) (hx:sheetI x=true) {a:List End} {l:List (List End)} {b:List End} {m:List (List End)} (ha:goodS s []=a::l) (hb:goodS x []=b::m):(bestL (betterE x) b m).length≤(bestL (betterE s) a l).length:=by
 have hm:bestL (betterE s) a l∈goodS x []:=h.good hs hx (outI_nil hs) (by rw [ha];exact bestL_mem _ _ _)
 have hB:IsBest (betterB List.length (mostI x [])) (b::m) (bestL (betterE x) b m):=better_best b m
 rw [hb] at hm
 obtain ⟨pre,post,he,h1,h2⟩:=hB
 rw [he] at hm
 rcases List.mem_append.1 hm with hm | hm
 ·have:=h1 _ hm
  simp only [betterB,Bool.or_eq_true,Bool.and_eq_true,decide_eq_true_eq,beq_iff_eq] at this
  omega
 ·rcases List.mem_cons.1 hm with hm | hm
  ·rw [hm];exact Nat.le_refl _
  ·have:=h2 _ hm
   simp only [betterB,Bool.or_eq_false_iff,decide_eq_false_iff_not] at this
   omega
theorem wider_over {s x:Sheet} (h:Wider s x) (hs:sheetI s=true) (hx:sheetI x=true):overI x≤overI s:=by
 have hl:=h.lets
 have hle:=over_le s
 have hlx:=over_le x
 by_cases hc:overI s < letsN s.words
 ·have h1:=over_iff hs hc
  simp only [Nat.le_refl,decide_true] at h1
  unfold shortFits at h1
  simp only [Bool.not_eq_true',List.isEmpty_eq_false_iff] at h1
  have hw:=h.less (letsN s.words - overI s)
  have h2:=hw.fits (lessS_sheet hs (by omega)) (lessS_sheet hx (by omega)) h1
  have h3:=over_iff hx (n:=overI s) (by omega)
  have h4:shortFits x (overI s)=true:=by
   unfold shortFits
   rw [hl]
   simpa using h2
  rw [h4] at h3
  simpa using h3.symm
 ·omega
theorem more_rows {s x:Sheet} (h:Wider s x) (hs:sheetI s=true) (hx:sheetI x=true):∃ (n e m f:Int),rowsO s=[.int .i64 n,.int .i64 e]∧rowsO x=[.int .i64 m,.int .i64 f]∧(e=0∨e=5)∧(f=0∨f=5)∧(e=0→f=0∧m≤n):=by
 have hf:=h.fits hs hx
 unfold rowsO
 rw [hs,hx,if_pos rfl,if_pos rfl]
 cases ha:goodS s [] with
 |nil =>
  cases hb:goodS x [] with
  |nil=>exact ⟨_,_,_,_,rfl,rfl,.inr rfl,.inr rfl,fun h=>absurd h (by decide)⟩
  |cons b m=>exact ⟨_,_,_,_,rfl,rfl,.inr rfl,.inl rfl,fun h=>absurd h (by decide)⟩
 |cons a l =>
  cases hb:goodS x [] with
  |nil=>exact absurd hb (hf (by rw [ha];simp))
  |cons b m =>
   have:=wider_rows h hs hx ha hb
   exact ⟨_,_,_,_,rfl,rfl,.inl rfl,.inl rfl,fun _=>⟨rfl,by omega⟩⟩
theorem more_cells {Pr:Nat→Nat→Prop} {w:World} {l:List Word} {b cap k:Nat} {cut:Int} {arr arr':Array Value} (hcap:l.length≤cap) (hsz:l.length * 3≤arr'.size) (hb:w.heap[b]? = some (.cells arr' 77 (0,0))) (hP:∀ q,q < l.length * 3→Pr b q)
  (hf:∀ i (h:i < l.length) j,j < 3→RD Pr w ((wordA l[i]).cells.getD j .junk) (arr.getD (i * 3+j) undef)) (hkl:k < l.length) {v:Value} (hv:RD Pr w (vI (insI l[k].cuts cut)) v) (hat:∀ q,arr'.getD q undef=if q=k * 3+1 then v else arr.getD q undef) :
  RD Pr w (.slice .view ((l.modify k (cutMore cut)).map wordA)) (slV b l.length cap):=by
 have hlen:((l.modify k (cutMore cut)).map wordA).length=l.length:=by simp
 have key:∀ i (h:i < l.length) j,j < 3→RD Pr w ((wordA (if k=i then cutMore cut l[i] else l[i])).cells.getD j .junk) (arr'.getD (i * 3+j) undef):=by
  intro i hi j hj
  rw [hat]
  by_cases hki:k=i
  ·subst hki
   rw [if_pos rfl]
   by_cases hj1:j=1
   ·subst hj1;rw [if_pos rfl];exact hv
   ·rw [if_neg (by omega)]
    have:=hf k hi j hj
    rcases (by omega:j=0∨j=2) with rfl | rfl<;>exact this
  ·rw [if_neg hki,if_neg (by omega)]
   exact hf i hi j hj
 have:=RD.slice (Pr:=Pr) (w:=w) .view ((l.modify k (cutMore cut)).map wordA) b 0 cap 3 (fun q=>arr'.getD q undef) (by rw [hlen];exact hcap) (fun h=>by cases h) (fun i h=>by rw [List.getElem_map];rfl) (fun i h j hj=>by
   revert hj
   rw [List.getElem_map]
   intro hj
   match j,hj with
   |0,_=>rfl
   |1,_=>rfl
   |2,_=>rfl) (fun q hq=>by
   rw [hlen] at hq
   rw [Nat.zero_add]
   refine ⟨hP q hq,?_⟩
   have hqs:q < arr'.size:=by omega
   simp [World.cell?,hb,hqs,Array.getD]) (fun i h j hj=>by
   have hi:i < l.length:=by rw [← hlen];exact h
   revert hj
   rw [List.getElem_map,more_at l k cut i hi]
   intro hj
   have hj3:j < 3:=hj
   have h3:=key i hi j hj3
   rwa [List.getD_eq_getElem?_getD,List.getElem?_eq_getElem hj,Option.getD_some] at h3)
 rw [hlen] at this
 exact this
set_option maxRecDepth 100000 in
set_option maxHeartbeats 8000000 in
theorem ac17m (hG:Stable GI) (hML:ML GI) {s:Sheet} (hsI:shortI s=true) (hsh:sheetI s=true) {wide rows cut:Int} (h1:0≤wide) (h1':wide≤400) (h2:0≤rows) (h2':rows≤3) {k:Nat} (hkl:k < s.words.length) (hc1:1≤cut) (hc2:cut < s.words[k].signs.length) :
  AC prog GI 17 [sheetA s,.int .i64 wide,.int .i64 rows,.int .i64 (k:Nat),.int .i64 cut] (.ret (.bool true)):=by
 have hk:=ac24 hG hML
 have hs:=shortI_slim hsI
 have a29:=ac29 (GI:=GI) hG s
 rw [hsI] at a29
 have a33:=ac33 hG s hs
 rw [hsh] at a33
 have hF:=sheetF hsh
 have hwd:=hF.wide
 have hrw:=hF.rows
 have hne:s.words≠[]:=by intro h;rw [h] at hkl;simp at hkl
 unfold sheetA at a29 a33
 have hwl:=hs.words
 obtain ⟨i77,z77,hi77,hs77,hb77,hz77⟩:=info_all (P:=prog) (t:=77) (s:=3) (b:=56) (by kernel_rfl)
 obtain ⟨i22,hi22,hs22⟩:=info_size (P:=prog) (t:=22) (s:=1) (by kernel_rfl)
 obtain ⟨fs,f1,if1,hfs,hf1,hif1,hof1,hsf1⟩:=field_at (P:=prog) (t:=77) (j:=1) (off:=1) (sz:=1) (by kernel_rfl)
 have hW:=more_wider hsh h1 h2 k cut
 have hxs:=more_sheet hsh h1 h2 hkl hc1 hc2
 obtain ⟨n,e,m',f,hr1,hr2,he,hf,hef⟩:=more_rows hW hsh hxs
 have hsx:=sheet_slim hxs
 have r1:=ac39 hG s hs
 rw [hr1] at r1
 have r2:=ac39 hG _ hsx
 rw [hr2] at r2
 have r3:=ac45 hG s hs
 unfold countO at r3
 rw [hsh,if_pos rfl] at r3
 have r4:=ac45 hG _ hsx
 unfold countO at r4
 rw [hxs,if_pos rfl] at r4
 have r5:=ac56 hG s hs
 unfold overO at r5
 rw [hsh,if_pos rfl] at r5
 have r6:=ac56 hG _ hsx
 unfold overO at r6
 rw [hxs,if_pos rfl] at r6
 have hcd:=hW.count hsh hxs (outI_nil hsh)
 have hop:=wider_over hW hsh hxs
 have a64:=ac64 hG s.words[k].cuts (hs.cuts _ (List.getElem_mem hkl)) cut
 have hxA:(s.words.map wordA)[k]? = some (.agg [vI s.words[k].signs,vI s.words[k].cuts,.bool s.words[k].free]):=by rw [List.getElem?_map,List.getElem?_eq_getElem hkl];rfl
 refine AC.of_SW func17 rfl ntmps17 (by simp) fun cc w => ?_
 refine SW.cut hG hmix (by kernel_rfl) (ac:=ACode.fst c17) (by kernel_rfl) (fun _ _ h=>h) (fun S H=>S 1 = .int .i64 wide∧S 2 = .int .i64 rows∧S 3 = .int .i64 (k:Nat)∧S 4 = .int .i64 cut∧S 5 = .box 5 0∧H 5=some (sheetL s)) ?_ ?_
 ·simp [c17,ACode.fst,sheetA,sheetL]
 rintro S H ⟨s1,s2,s3,s4,s5,e5⟩
 refine SW.cut hG hmix (by kernel_rfl) (ac:=ACode.fst (ACode.snd c17)) (by kernel_rfl) (fun _ _ h=>h) (fun S H=>S 1 = .int .i64 wide∧S 2 = .int .i64 rows∧S 3 = .int .i64 (k:Nat)∧S 4 = .int .i64 cut∧S 5 = .box 5 0∧H 5=some (sheetL s)) ?_ ?_
 ·have q1:¬ wide < 0:=by omega
  have q2:¬ 400 < wide:=by omega
  have q3:¬ rows < 0:=by omega
  have q4:¬ 3 < rows:=by omega
  have q5:¬ (k:Int) < 0:=by omega
  have q6:¬ (s.words.length:Int)≤k:=by omega
  have q7:¬ cut < 1:=by omega
  have q8:¬ (s.words[k].signs.length:Int)≤cut:=by omega
  simp [c17,ACode.fst,ACode.snd,s1,s2,s3,s4,s5,e5,sheetL]
  refine ⟨_,by kernel_rfl,a29,by simp [boxy],?_⟩
  simp [s1,s2,s3,s4,s5,e5,sheetL]
  refine ⟨_,by kernel_rfl,a33,by simp [boxy],?_⟩
  simp [s1,s2,s3,s4,s5,e5,sheetL,q1,q2,q3,q4,q5,q6,q7,q8,hkl,wordA]
 clear s1 s2 s3 s4 s5 e5 S H
 rintro S H ⟨s1,s2,s3,s4,s5,e5⟩
 refine SW.cut hG hmix (by kernel_rfl) (ac:=ACode.fst (ACode.snd (ACode.snd c17))) (by kernel_rfl) (fun _ _ h=>h) (fun S H=>S 1 = .int .i64 wide∧S 2 = .int .i64 rows∧I17 s k cut S H∧H 11=some (sheetL s)) ?_ ?_
 ·simp [c17,ACode.fst,ACode.snd,s1,s2,s3,s4,s5,e5,sheetL]
  exact ⟨by simp [s3],by simp [s4],by simp [s5],by simp [e5,sheetL],by simp⟩
 clear s1 s2 s3 s4 s5 e5 S H
 rintro S H ⟨s1,s2,⟨s3,s4,s5,e5,s11⟩,e11⟩
 refine SW.cut hG hmix (by kernel_rfl) (ac:=ACode.fst (ACode.snd (ACode.snd (ACode.snd c17)))) (by kernel_rfl) (fun _ _ h=>h) (fun S H=>I17 s k cut S H∧H 11=some (moreL s wide rows (.slice .view (s.words.map wordA)))) ?_ ?_
 ·have w1:IntKind.i64.wrap (s.wide+wide)=s.wide+wide:=wrapI (by omega)
  have w2:IntKind.i64.wrap (s.rows+rows)=s.rows+rows:=wrapI (by omega)
  simp [c17,ACode.fst,ACode.snd,s1,s2,s3,s4,s5,e5,s11,e11,sheetL,w1,w2,moreL]
  exact ⟨by simp [s3],by simp [s4],by simp [s5],by simp [e5,sheetL],by simp [s11]⟩
 clear s1 s2 s3 s4 s5 e5 s11 e11 S H
 rintro S H ⟨⟨s3,s4,s5,e5,s11⟩,e11⟩
 show SW prog GI 189 none (.seq _ (.seq _ _)) _ _ _ _
 refine SW.seq (SW.hand hG (p:=2) (lm:=[2]) (l2:=[3,4]) (os1:=[_,_]) (oh:=[_]) (os2:=[_,_]) rfl rfl rfl rfl (by kernel_rfl) (fun _ h=>h) (al1:=(ACode.dl (ACode.fst (ACode.snd (ACode.snd (ACode.snd (ACode.snd c17)))))).take 2) (al2:=(ACode.dl (ACode.fst (ACode.snd (ACode.snd (ACode.snd (ACode.snd c17)))))).drop 3) (by kernel_rfl) (by kernel_rfl) (by kernel_rfl) (by kernel_rfl)
  (K1:=fun S H=>I17 s k cut S H∧H 11=some (moreL s wide rows (.slice .view (s.words.map wordA)))∧S 89 = .slice .view (s.words.map wordA))
  (K2:=fun o S H=>∃ b cap arr,KW cc s.words o b cap arr∧I17 s k cut S H∧H 11=some (moreL s wide rows (.slice .view (s.words.map wordA)))∧S 90 = .val (slV b s.words.length cap))
  (K3:=fun o S H=>∃ b cap arr,KW cc s.words o b cap arr∧I17 s k cut S H∧H 11=some (moreL s wide rows (.val (slV b s.words.length cap)))) ?_ ?_ ?_ ?_)
 ·simp [c17,ACode.fst,ACode.snd,ACode.dl,s3,s4,s5,e5,s11,e11,sheetL]
  exact ⟨by simp [s3],by simp [s4],by simp [s5],by simp [e5,sheetL],by simp [s11]⟩
 ·rintro w0 g S1 H1 a w1 m hG0 ho R ⟨⟨s3,s4,s5,e5,s11⟩,e11,s89⟩
  have t89:=R.slot 89 (by decide) (fun h=>h)
  rw [s89] at t89
  have hd:=t89.toData rfl
  rcases hd.sliceCells 3 (words_ok3 s.words) with ⟨he,_⟩ | ⟨b0,off,cp,news,hc89,hnl,hncell,hn1,hnr⟩
  ·exact absurd (List.map_eq_nil_iff.1 he) hne
  simp only [List.length_map] at hc89 hnl
  have hwp:0 < s.words.length:=List.length_pos_iff.2 hne
  have hc89:a.eval (.tmp 89) = .slice (some ⟨b0,off,none⟩) s.words.length cp:=hc89
  refine opIn_val rfl rfl (by rfl) (run_appendNilV (P:=prog) (t:=26) (e:=77) (x2 := .tmp 89) rfl rfl rfl rfl (by rfl) hc89 (by kernel_rfl) hi77 hz77 (news:=news) (by rw [hs77];exact hnl) (fun j v hv=>by rw [Addr.add_lit];exact hncell j v hv) hwp (by omega) (by rw [hb77];omega)) ?_
  generalize hcap:grownCap w1 s.words.length 0 77=cap
  have hge:=grownCap_ge w1 s.words.length 0 77
  rw [hcap] at hge
  generalize harr:(news.toArray++Builtin.zeroCells z77.cells (cap - s.words.length))=arr
  have hag:∀ q u,news[q]? = some u→arr.getD q undef=u:=by
   intro q u hq
   obtain ⟨hlt,hqq⟩:=List.getElem?_eq_some_iff.1 hq
   rw [← harr]
   simp [Array.getElem?_append,hlt,hqq]
  have hb:=((Below.refl w1.heap.size w1).drew).alloc (Nat.le_refl _) (.cells arr 77)
  have R2:=R.keepIn hb (b:=w1.heap.size) (Nat.le_refl _) (World.alloc_heap_new w1.drew _)
  have hK:Keeps g.Pr g.Pr w1 (w1.drew.alloc (.cells arr 77)):=Keeps.of_blocks (fun b hlt=>hb.block b hlt) fun _ _ _ h=>h
  obtain ⟨o3,p1,p2,p3,p4,p5,p6,p7,R3⟩:=R2.refact ((List.range (s.words.length * 3)).map fun q=>((wordA (s.words.getD (q / 3) ⟨[],[],false⟩)).cells.getD (q % 3) .junk,arr.getD q undef)) (upd g.old.keep w1.heap.size (some (.cells arr 77))) (fun p hp=>by
   obtain ⟨q,hq,rfl⟩:=List.mem_map.1 hp
   have hq:=List.mem_range.1 hq
   have hj:q / 3 < s.words.length:=by omega
   obtain ⟨u,hu,hru⟩:=hnr (q / 3) (by simpa using hj) (q % 3) (by simp only [List.getElem_map,wordA_cells,List.length_cons,List.length_nil];omega)
   have e1:q / 3 * 3+q % 3=q:=by omega
   rw [e1] at hu
   have e2:=hag q u hu
   show RD g.Pr _ _ _
   rw [e2]
   have e3:(wordA (s.words.getD (q / 3) ⟨[],[],false⟩)).cells.getD (q % 3) .junk=((s.words.map wordA)[q / 3]'(by simpa using hj)).cells[q % 3]'(by simp only [List.getElem_map,wordA_cells,List.length_cons,List.length_nil];omega):=by
    simp only [List.getElem_map,List.getD_eq_getElem?_getD,List.getElem?_eq_getElem hj,Option.getD_some]
    rw [List.getElem?_eq_getElem (by simp only [List.getElem_map,wordA_cells,List.length_cons,List.length_nil];omega)];rfl
   rw [e3]
   exact hru.mono hK) (fun _ _ h=>h)
  have R4:=R3.put 90 (.val (slV w1.heap.size s.words.length cap)) _ (by decide) (.data _ _ (.val _ rfl)) trivial
  refine ⟨_,_,H1,R4,w1.heap.size,cap,arr,⟨p1.trans (by show g.old.c=cc;rw [ho];rfl),p4.trans (by show g.old.ds=[];rw [ho];rfl),by show ∀ d,¬ o3.bx d;rw [p3];show ∀ d,¬ g.old.bx d;rw [ho];exact fun _ h=>h,by show o3.keep _=_;rw [p5];exact upd_same _ _ _,fun j hj q hq => ?_,hge,?_⟩,⟨by simp [upd,s3],by simp [upd,s4],by simp [upd,s5],e5,by simp [upd,s11]⟩,e11,upd_same _ _ _⟩
  ·show _∈o3.facts
   rw [p2]
   refine List.mem_map.2 ⟨j * 3+q,List.mem_range.2 (by omega),?_⟩
   have e1:(j * 3+q) / 3=j:=by omega
   have e2:(j * 3+q) % 3=q:=by omega
   rw [e1,e2]
   simp [List.getElem?_eq_getElem hj]
  ·rw [← harr];simp;omega
 ·rintro o S H ⟨b,cap,arr,hK,⟨s3,s4,s5,e5,s11⟩,e11,s90⟩
  refine ⟨hK.bx,?_⟩
  simp [c17,ACode.fst,ACode.snd,ACode.dl,s3,s4,s5,e5,s11,e11,s90,moreL]
  exact ⟨b,cap,⟨arr,hK⟩,⟨by simp [s3],by simp [s4],by simp [s5],by simp [e5],by simp [s11]⟩,rfl⟩
 clear s3 s4 s5 e5 s11 e11 S H
 rintro o S H ⟨b,cap,arr,hK,⟨s3,s4,s5,e5,s11⟩,e11⟩
 refine SW.seq (SW.mono (Q:=fun e o S H=>e = .normal∧(o.c=cc∧o.ds=[]∧∀ d,¬ o.bx d)∧S 5 = .box 5 0∧H 5=some (sheetL s)∧S 11 = .box 11 0∧H 11=some (sheetL (moreS s wide rows k cut))) ?_
  (SW.cutHandB hG hmix (p:=11) (by kernel_rfl) (by kernel_rfl) (by kernel_rfl) hK.bx (l:=(ACode.dl (ACode.fst (ACode.snd (ACode.snd (ACode.snd (ACode.snd (ACode.snd c17))))))).take 11) (by kernel_rfl) (by kernel_rfl)
   (K:=fun S H=>I17 s k cut S H∧H 11=some (moreL s wide rows (.val (slV b s.words.length cap)))∧S 93 = .val (slV b s.words.length cap)∧S 94 = .int .i64 (k:Nat)∧S 102=grow 3 (ints (insI s.words[k].cuts cut))) ?_ ?_))
 ·rintro e o S H ⟨rfl,⟨q1,q2,q3⟩,s5,e5,s11,e11⟩
  refine SW.of_awp hG hmix (by kernel_rfl) (fun d _=>q3 d) (by kernel_rfl) (ac17e hG hML r1 r2 r3 r4 r5 r6 he hf hef (by exact_mod_cast hcd) (by exact_mod_cast hop) (fun S H s10 => ?_) s5 e5 s11 e11)
  refine ⟨Marked.plain q2,q1,.bool true,?_,rfl⟩
  show ares prog 189 [.tmp 10] S H=_
  simp [ares,aress,ares1,s10,AV.isData,AV.out]
 ·simp [c17,ACode.fst,ACode.snd,ACode.dl,s3,s4,s5,e5,s11,e11,sheetL,moreL,hkl,wordA]
  refine ⟨_,by kernel_rfl,a64,by simp [boxy],?_⟩
  simp [s3,s4,s5,e5,s11,e11,sheetL,moreL]
  exact ⟨by simp [s3],by simp [s4],by simp [s5],by simp [e5,sheetL],by simp [s11]⟩
 ·rintro w0 g S1 H1 a w1 m hG0 ho R ⟨⟨s3,s4,s5,e5,s11⟩,e11,s93,s94,s102⟩
  have t93:=R.slot 93 (by decide) (fun h=>h)
  rw [s93] at t93
  have t93:a.eval (.tmp 93) = .slice (some ⟨b,0,none⟩) s.words.length cap:=t93.val_eq
  have t94:=R.slot 94 (by decide) (fun h=>h)
  rw [s94] at t94
  have t94:a.eval (.tmp 94) = .int .i64 (k:Nat):=t94.int_eq
  have t102:=R.slot 102 (by decide) (fun h=>h)
  rw [s102] at t102
  have one102:=(t102.toData rfl).one rfl
  have hkeep:=hK.keep
  rw [← ho] at hkeep
  have hb:=(R.kept b _ hkeep).2.1
  have hsz:=R.size
  show wpOpsIn _ _ _ _ _ [11,12,13] a w1
  refine opIn_val rfl rfl (by rfl) (run_indexAddrV (k:=k) rfl (by kernel_rfl) hi77 t93 t94 hkl) ?_
  rw [hs77]
  have R1:=R.put 103 (.val (.pointer (some ⟨b,k * 3,none⟩))) (.pointer (some ⟨b,k * 3,none⟩)) (by decide) (.data _ _ (.val _ rfl)) trivial
  have e103:(a.put (some 103) (.pointer (some ⟨b,k * 3,none⟩))).eval (.tmp 103) = .pointer (some ⟨b,k * 3,none⟩):=by rw [put_get _ _ _ _ (by omega),if_pos rfl]
  have e102:(a.put (some 103) (.pointer (some ⟨b,k * 3,none⟩))).eval (.tmp 102)=a.tmps.getD 102 undef:=by rw [put_get _ _ _ _ (by omega),if_neg (by decide)];rfl
  have hsz1:=R1.size
  show wpOpsIn _ _ _ _ _ [12,13] (a.put (some 103) (.pointer (some ⟨b,k * 3,none⟩))) w1
  generalize a.put (some 103) (.pointer (some ⟨b,k * 3,none⟩))=a1 at *
  refine opIn_val rfl rfl (by rfl) (run_fieldAddrV rfl hfs hf1 hif1 (by rw [hsf1];decide) e103) ?_
  rw [hof1]
  have R2:=R1.put 104 (.val (.pointer (some ⟨b,k * 3+1,none⟩))) (.pointer (some ⟨b,k * 3+1,none⟩)) (by decide) (.data _ _ (.val _ rfl)) trivial
  have e104:(a1.put (some 104) (.pointer (some ⟨b,k * 3+1,none⟩))).eval (.tmp 104) = .pointer (some ⟨b,k * 3+1,none⟩):=by rw [put_get _ _ _ _ (by omega),if_pos rfl]
  have e102':(a1.put (some 104) (.pointer (some ⟨b,k * 3+1,none⟩))).eval (.tmp 102)=a.tmps.getD 102 undef:=by rw [put_get _ _ _ _ (by omega),if_neg (by decide)];exact e102
  show wpOpsIn _ _ _ _ _ [13] (a1.put (some 104) (.pointer (some ⟨b,k * 3+1,none⟩))) w1
  generalize a1.put (some 104) (.pointer (some ⟨b,k * 3+1,none⟩))=a2 at *
  have hksz:=hK.size
  refine opIn_storeV rfl rfl rfl rfl e104 hi22 hs22 hb (by omega) e102' one102 ?_
  intro arr' hsz' hat
  have R3:=R2.rekeep hkeep (.cells arr' 77 (0,0))
  have hlt:=(Array.getElem?_eq_some_iff.1 hb).1
  obtain ⟨g',q1,q2,R4,q4,q5⟩:=R3.hand (b:=b) (upd_same _ _ _) (s.words.length * 3)
  have t102':=R4.slot 102 (by decide) (fun h=>h)
  have u102:(upd (upd S1 103 (.val (.pointer (some ⟨b,k * 3,none⟩)))) 104 (.val (.pointer (some ⟨b,k * 3+1,none⟩)))) 102=S1 102:=by simp [upd]
  rw [u102,s102] at t102'
  have e102f:a2.tmps.getD 102 undef=a.tmps.getD 102 undef:=e102'
  rw [e102f] at t102'
  have hrd:=more_cells (cut:=cut) (arr:=arr) (arr':=arr') (b:=b) (cap:=cap) hK.cap (by omega) (World.putObj_heap_same hlt) q5 (fun i hi j hj=>by
   have:=R4.facts _ (by rw [q1];show _∈g.old.facts;rw [ho];exact hK.facts i hi j hj)
   refine this.toData ?_
   rcases (by omega:j=0∨j=1∨j=2) with rfl | rfl | rfl<;>rfl) hkl (t102'.toData rfl).vw1 hat
  have R5:=R4.recell (i:=11) e11 (j:=7) (by show 7 < 10;decide) (.slice .view ((s.words.modify k (cutMore cut)).map wordA)) rfl (fun e es h=>by cases h) (fun c hc=>by
   have hc:RD g'.Pr _ (.val (slV b s.words.length cap)) c:=hc
   cases hc
   exact hrd)
  obtain ⟨o6,p1,p2,p3,p4,p5,p6,p7,R6⟩:=R5.refact [] (fun _=>none) (fun _ h=>by cases h) (fun _ _ h=>by cases h)
  refine ⟨_,_,_,R6,rfl,⟨p1.trans (by rw [q1];show g.old.c=cc;rw [ho];exact hK.c),p4.trans (by rw [q1];show g.old.ds=[];rw [ho];exact hK.ds),?_⟩,by simp [upd,s5],by simp [upd,e5],by simp [upd,s11],?_⟩
  ·show ∀ d,¬ o6.bx d
   rw [p3,q1]
   show ∀ d,¬ g.old.bx d
   rw [ho];exact hK.bx
  ·rw [upd_same];rfl
end Go.Proofs.Tryz
namespace Go.Proofs.Tryz
open Go Go.AL Go.RowKit Go.Proofs
attribute [local simp] awp_all qs_all ops_all dops_all ops_nil dops_nil ops_call ops_callv ops_alloc ops_box dops_call dops_alloc kO_eq kD_eq awanted apure ev Eff.S Eff.H tmpOf upd putD AL.start AV.dem AV.cells AV.storable AV.scells splice scrub abin loadA HR.okB post ares aress ares1 AV.out AV.isData ints_len ints_get fz fz1 AV.vw AV.vw1 boxy vI int undefA assignQ thenQ blockQ seqQ panQ prol prolH allocOf
variable {GI:World→Prop}
set_option maxRecDepth 20000 in
set_option maxHeartbeats 4000000 in
theorem ac17 (hG:Stable GI) (hML:ML GI) (s:Sheet) (wide rows w cut:Int):AC prog GI 17 [sheetA s,.int .i64 wide,.int .i64 rows,.int .i64 w,.int .i64 cut] (.ret (.bool true)):=by
 have hk:=ac24 hG hML
 have a29:=ac29 (GI:=GI) hG s
 by_cases hmain:shortI s=true∧sheetI s=true∧0≤wide∧wide≤400∧0≤rows∧rows≤3∧0≤w∧∃ h:w.toNat < s.words.length,1≤cut∧cut < s.words[w.toNat].signs.length
 ·obtain ⟨h1,h2,h3,h4,h5,h6,h7,h8,h9,h10⟩:=hmain
  have:=ac17m hG hML h1 h2 h3 h4 h5 h6 h8 h9 h10
  rwa [Int.toNat_of_nonneg h7] at this
 refine AC.of_body hG hmix func17 rfl ntmps17 (by simp) (ac:=c17) (by kernel_rfl) ?_
 refine awp_cut (fun S H=>S 1 = .int .i64 wide∧S 2 = .int .i64 rows∧S 3 = .int .i64 w∧S 4 = .int .i64 cut∧S 5 = .box 5 0∧H 5=some (sheetL s)) (by simp [sheetA,sheetL]) ?_
 rintro S H ⟨s1,s2,s3,s4,s5,e5⟩
 cases hsI:shortI s
 ·rw [hsI] at a29
  simp [s1,s2,s3,s4,s5,e5,sheetL]
  refine ⟨_,by kernel_rfl,a29,by simp [boxy],?_⟩
  simp [s1,s2,s3,s4,s5,e5,sheetL]
  refine ⟨_,by kernel_rfl,hk,fun _=>rfl,?_⟩
  simp
 rw [hsI] at a29
 have hs:=shortI_slim hsI
 have a33:=ac33 hG s hs
 cases hsh:sheetI s
 ·rw [hsh] at a33
  simp [s1,s2,s3,s4,s5,e5,sheetL]
  refine ⟨_,by kernel_rfl,a29,by simp [boxy],?_⟩
  simp [s1,s2,s3,s4,s5,e5,sheetL]
  refine ⟨_,by kernel_rfl,a33,by simp [boxy],?_⟩
  simp [s1,s2,s3,s4,s5,e5,sheetL]
  refine ⟨_,by kernel_rfl,hk,fun _=>rfl,?_⟩
  simp
 rw [hsh] at a33
 by_cases q1:wide < 0
 ·simp [s1,s2,s3,s4,s5,e5,sheetL]
  refine ⟨_,by kernel_rfl,a29,by simp [boxy],?_⟩
  simp [s1,s2,s3,s4,s5,e5,sheetL]
  refine ⟨_,by kernel_rfl,a33,by simp [boxy],?_⟩
  simp [s1,s2,s3,s4,s5,e5,sheetL,q1]
  refine ⟨_,by kernel_rfl,hk,fun _=>rfl,?_⟩
  simp
 by_cases q2:400 < wide
 ·simp [s1,s2,s3,s4,s5,e5,sheetL]
  refine ⟨_,by kernel_rfl,a29,by simp [boxy],?_⟩
  simp [s1,s2,s3,s4,s5,e5,sheetL]
  refine ⟨_,by kernel_rfl,a33,by simp [boxy],?_⟩
  simp [s1,s2,s3,s4,s5,e5,sheetL,q1,q2]
  refine ⟨_,by kernel_rfl,hk,fun _=>rfl,?_⟩
  simp
 by_cases q3:rows < 0
 ·simp [s1,s2,s3,s4,s5,e5,sheetL]
  refine ⟨_,by kernel_rfl,a29,by simp [boxy],?_⟩
  simp [s1,s2,s3,s4,s5,e5,sheetL]
  refine ⟨_,by kernel_rfl,a33,by simp [boxy],?_⟩
  simp [s1,s2,s3,s4,s5,e5,sheetL,q1,q2,q3]
  refine ⟨_,by kernel_rfl,hk,fun _=>rfl,?_⟩
  simp
 by_cases q4:3 < rows
 ·simp [s1,s2,s3,s4,s5,e5,sheetL]
  refine ⟨_,by kernel_rfl,a29,by simp [boxy],?_⟩
  simp [s1,s2,s3,s4,s5,e5,sheetL]
  refine ⟨_,by kernel_rfl,a33,by simp [boxy],?_⟩
  simp [s1,s2,s3,s4,s5,e5,sheetL,q1,q2,q3,q4]
  refine ⟨_,by kernel_rfl,hk,fun _=>rfl,?_⟩
  simp
 by_cases q5:w < 0
 ·simp [s1,s2,s3,s4,s5,e5,sheetL]
  refine ⟨_,by kernel_rfl,a29,by simp [boxy],?_⟩
  simp [s1,s2,s3,s4,s5,e5,sheetL]
  refine ⟨_,by kernel_rfl,a33,by simp [boxy],?_⟩
  simp [s1,s2,s3,s4,s5,e5,sheetL,q1,q2,q3,q4,q5]
  refine ⟨_,by kernel_rfl,hk,fun _=>rfl,?_⟩
  simp
 obtain ⟨k,rfl⟩:∃ k:Nat,w=k:=⟨w.toNat,by omega⟩
 by_cases q6:s.words.length≤k
 ·simp [s1,s2,s3,s4,s5,e5,sheetL]
  refine ⟨_,by kernel_rfl,a29,by simp [boxy],?_⟩
  simp [s1,s2,s3,s4,s5,e5,sheetL]
  refine ⟨_,by kernel_rfl,a33,by simp [boxy],?_⟩
  simp [s1,s2,s3,s4,s5,e5,sheetL,q1,q2,q3,q4,q5,q6]
  refine ⟨_,by kernel_rfl,hk,fun _=>rfl,?_⟩
  simp
 have hkl:k < s.words.length:=by omega
 have q0:¬ (k:Int) < 0:=by omega
 by_cases q7:cut < 1
 ·simp [s1,s2,s3,s4,s5,e5,sheetL]
  refine ⟨_,by kernel_rfl,a29,by simp [boxy],?_⟩
  simp [s1,s2,s3,s4,s5,e5,sheetL]
  refine ⟨_,by kernel_rfl,a33,by simp [boxy],?_⟩
  simp [s1,s2,s3,s4,s5,e5,sheetL,q1,q2,q3,q4,q5,q6,q7]
  refine ⟨_,by kernel_rfl,hk,fun _=>rfl,?_⟩
  simp
 have q8:(s.words[k].signs.length:Int)≤cut:=by
  refine Classical.byContradiction fun h=>hmain ⟨hsI,hsh,by omega,by omega,by omega,by omega,by omega,hkl,by omega,?_⟩
  simp only [Int.toNat_natCast]
  omega
 simp [s1,s2,s3,s4,s5,e5,sheetL]
 refine ⟨_,by kernel_rfl,a29,by simp [boxy],?_⟩
 simp [s1,s2,s3,s4,s5,e5,sheetL]
 refine ⟨_,by kernel_rfl,a33,by simp [boxy],?_⟩
 simp [s1,s2,s3,s4,s5,e5,sheetL,q1,q2,q3,q4,q5,q6,q7,q8,hkl,wordA]
 refine ⟨_,by kernel_rfl,hk,fun _=>rfl,?_⟩
 simp
end Go.Proofs.Tryz
namespace Go.Proofs.YtjdgdinalodjfaaGreatDoor
open Go Go.AL Go.ChangeShapes Go.WideShapes Go.ChangeAt Go.RowKit Go.Proofs.Tryz
set_option maxRecDepth 100000
namespace More
abbrev row:OpenClaim:=Rows.letterMoreRow
abbrev spec:ChangeSpec:=Rows.letterMoreSpec
theorem call (W:World) (base:Nat) (args:Array Value) {H:Type} {enc:TypeId×Value→H} (ds:List (DataW H)) (p:List MemPlace) (hG:GI W) (hval:∀ (j:Nat) t v,Tryz.f17.params[j]? = some t→args[j]? = some v→Value.okWide Tryz.prog W .any base t v)
  (hA:DataW.TrodAll enc Tryz.prog W 0 (fun _=>true) true Tryz.f17.params.toList args.toList ds p):Calls Tryz.prog 17 args W fun e W'=>e = .returned (.bool true)∧Below W.heap.size W W':=by
 rw [Tryz.params17] at hA hval
 obtain ⟨v0,vs0,d0,ds0,p0,q0,e0,rfl,rfl,h0,hr1⟩:=trodAll_cons hA
 obtain ⟨v1,vs1,d1,ds1,p1,q1,e1,rfl,rfl,h1,hr2⟩:=trodAll_cons hr1
 obtain ⟨v2,vs2,d2,ds2,p2,q2,e2,rfl,rfl,h2,hr3⟩:=trodAll_cons hr2
 obtain ⟨v3,vs3,d3,ds3,p3,q3,e3,rfl,rfl,h3,hr4⟩:=trodAll_cons hr3
 obtain ⟨v4,vs4,d4,ds4,p4,q4,e4,rfl,rfl,h4,hr5⟩:=trodAll_cons hr4
 obtain ⟨rfl,rfl,rfl⟩:=trodAll_nil hr5
 obtain rfl:args = #[v0,v1,v2,v3,v4]:=by
  apply Array.toList_inj.1;rw [e0,e1,e2,e3,e4]
 obtain ⟨x0,g0,a0⟩:=open_sheet (hval 0 28 v0 rfl rfl) h0
 obtain ⟨x1,g1,a1⟩:=open_int (hval 1 3 v1 rfl rfl) h1
 obtain ⟨x2,g2,a2⟩:=open_int (hval 2 3 v2 rfl rfl) h2
 obtain ⟨x3,g3,a3⟩:=open_int (hval 3 3 v3 rfl rfl) h3
 obtain ⟨x4,g4,a4⟩:=open_int (hval 4 3 v4 rfl rfl) h4
 refine calls_of (ac17 gi_stable (fun _ h=>h) x0 x1 x2 x3 x4) hG rfl fun i h h' => ?_
 match i,h with
 |0,_=>exact .data _ _ a0
 |1,_=>exact .data _ _ a1
 |2,_=>exact .data _ _ a2
 |3,_=>exact .data _ _ a3
 |4,_=>exact .data _ _ a4
theorem w1 (os:Os):((World.laidAll Tryz.prog os row.laid).forCall (fun _ _=>0) ⟨#[],#[.agg #[.slice none 0 0,.slice none 0 0,.int .i64 0,.int .i64 0,.int .i64 0,.int .i64 0,.int .i64 0,.slice none 0 0,.int .i64 0,.int .i64 0],.int .i64 0,.int .i64 0,.int .i64 0,.int .i64 0],[]⟩).Shaped Tryz.checked.prog :=
 World.shaped_of_ZipB (by kernel_rfl) (by kernel_rfl)
theorem lifted (os:Os) (started:os.Started) (H:Type) (enc:TypeId×Value→H) :
  ReturnsInHanded {} Tryz.checked os 17 .any (fun w args=>(spec.pre enc Tryz.prog Tryz.f17 row.domain false w args∧laidMetH Tryz.prog row.laid w)∧sizedMet enc Tryz.prog Tryz.f17 (OpenSpec.ofChange spec) false w args)
   (spec.post enc Tryz.prog Tryz.f17 false true false false):=by
 refine lifted_of 17 Tryz.f17 Tryz.func17 (by kernel_rfl) (by kernel_rfl) spec rfl ?_ ?_ os started _ 12 (w1 os) (by kernel_rfl) (by kernel_rfl) (by kernel_rfl) ?_ (fun W base args ds p=>call W base args ds p)
 ·intro ds hl
  rw [show Tryz.f17.params.size=5 by kernel_rfl] at hl
  match ds,hl with
  |[d0,d1,d2,d3,d4],_=>rfl
 ·rw [Tryz.params17]
  intro t ht
  have:t=28∨t=3:=by simpa using ht
  rcases this with rfl | rfl
  all_goals exact ⟨by kernel_rfl,of_decide_eq_true (by kernel_rfl)⟩
 ·rw [MakeChecks.laidMetH_plain _ _ _ (by kernel_rfl)];exact laidMet_laidAll _ (by kernel_rfl) (by kernel_rfl)
theorem f_named:Tryz.prog.funcNamed "mahlstick/mahlsticklaw01.LetterMore" = some 17:=by kernel_rfl
theorem f_inPlace:(row.inPlace==Tryz.prog.inPlace 17)=true:=by kernel_rfl
theorem f_unfollowed:(row.unfollowed==Tryz.prog.unfollowed 17)=true:=by kernel_rfl
theorem f_recurses:(row.recurses==Tryz.prog.recurses 17)=true:=by kernel_rfl
theorem f_vars:(row.named==Tryz.prog.varsNamed 17)=true:=by kernel_rfl
theorem joined:joinedFacts Tryz.prog 17 Tryz.f17 spec row=true :=
 joined_of ⟨rfl,rfl,rfl,rfl,rfl,rfl⟩ (by kernel_rfl) (by kernel_rfl) (by kernel_rfl) f_inPlace f_unfollowed f_recurses f_vars (by kernel_rfl) (by kernel_rfl) (by kernel_rfl) (by kernel_rfl)
theorem instanceOf:Tryz.f17.isInstance Tryz.prog row.origin row.targs:=of_decide_eq_true (by kernel_rfl)
theorem wrapperOf:Tryz.f17.isWrapper Tryz.prog row.wrapper row.mainSum:=by
 unfold Func.isWrapper
 rw [if_neg (by decide +kernel)]
 exact ⟨rfl,rfl⟩
theorem holds:Rows.LetterMoreSaid :=
 OpenClaim.holds_of_wide 17 Tryz.f17 rfl rfl rfl rfl rfl rfl rfl ⟨rfl,rfl,rfl,rfl,rfl⟩ rfl rfl rfl rfl rfl f_named Tryz.func17 joined instanceOf wrapperOf (fun os started H enc _=>lifted os started H enc)
theorem f_wf:row.wfByText (OpenSpec.ofChange spec)=true:=by kernel_rfl
theorem f_goes:false=row.goesBy Tryz.prog:=by kernel_rfl
theorem f_stand:([28,3].all fun u => !Tryz.prog.wantsStandIn u)=true:=by kernel_rfl
theorem f_main:Tryz.prog.mainIs=some (true, "c6c35c26350f8f1001e286baba07dbfbfaca16fe3311917b4f7043a2b45b2948".toList):=by rw [p_mainIs,p_sum]
theorem card:Rows.LetterMoreCardSaid :=
 Claim7.holds_tied_plain_at .later [] [.data,.data,.data,.data,.pinned] true (true, "c6c35c26350f8f1001e286baba07dbfbfaca16fe3311917b4f7043a2b45b2948") true holds (fun _ h=>by cases h) f_wf (fun _ h=>by cases h) letterMore_row_tie rfl ⟨rfl,rfl⟩ f_main rfl
  (fun f fn hf hfn=>by
   obtain rfl:f=17:=Option.some.inj (f_named.symm.trans hf) |>.symm
   obtain rfl:fn=Tryz.f17:=(Option.some.inj (Tryz.func17.symm.trans hfn)).symm
   refine ⟨p_looks,fun j t ht => ?_⟩
   rw [Tryz.params17] at ht
   have hm:t∈[28,3]:=by
    simpa using Array.mem_of_getElem? ht
   exact (show Tryz.prog.wantsStandIn t=false by simpa using List.all_eq_true.1 f_stand t hm))
  f_goes
end More
#print axioms More.card
end Go.Proofs.YtjdgdinalodjfaaGreatDoor
