/-
  The statement's function LetterReads returns true and leaves its arguments as they are, for every string; no condition. The texts before this one hold the layer of abstract values, the code of the functions that are reached, and their contracts.
-/
import Derived.Test.YtjdgdinalodjfaaGreatDoorA2
import Derived.Test.YtjdgdinalodjfaaGreatDoorC1
import Derived.Test.YtjdgdinalodjfaaGreatDoorK2
import Derived.Test.YtjdgdinalodjfaaGreatDoorP1
import Derived.Test.YtjdgdinalodjfaaGreatDoorK3
import Derived.Test.YtjdgdinalodjfaaGreatDoorQ1
set_option linter.all false
set_option linter.unusedVariables false
set_option linter.unusedSimpArgs false
set_option linter.deprecated false
namespace Go.AL
open Go.RowKit
section
variable {P:Program} {a:Act} {w:World}
theorem decode_small {s:ByteArray} {pos:Nat} (h:pos < s.size) (hr:(Utf8.decode s pos).1 < 128):(Utf8.decode s pos).1=(s[pos]'h).toNat:=by
 by_cases ha:(s[pos]'h).toNat < 128
 ·rw [decode_ascii s pos h ha]
 ·exfalso
  have e:s.get! (pos+0)=s[pos]'h:=by
   show s.get! pos=_
   simp [ByteArray.get!,getElem!_pos,h]
   rfl
  simp only [Utf8.decode,e,ha,if_false] at hr
  revert hr
  (repeat' split)<;>simp only [Utf8.runeError,Nat.not_lt]<;>rename_i hh<;>try omega
  all_goals (try simp only [Bool.and_eq_true,decide_eq_true_eq] at hh;try omega)
theorem run_nextU {o:Oper} {x:Operand} {b:Nat} {s:ByteArray} {pos r p':Nat} (ho:o.op = .next x true) (hx:a.eval x = .pointer (some ⟨b,0,none⟩)) (hb:w.heap[b]? = some (.stringIter s pos)) (h:pos < s.size) (hr:(Utf8.decode s pos).1=r) (hp:pos+(Utf8.decode s pos).2=p') :
  (execOp a.eval o).run P w = .ok (.value (.tuple #[.bool true,.int .i64 pos,.int .i32 r])) (w.putObj b (.stringIter s p')):=by
 unfold execOp
 simp only [ho,hx,Instr.next,getObj,setObj,Sem.run_bind,Sem.run,hb,Result.andThen,h,if_true]
 generalize hd:Utf8.decode s pos=d at *
 obtain ⟨d1,d2⟩:=d
 simp only at hr hp
 subst hr
 subst hp
 simp [goInt,Sem.run,World.putObj]
end
end Go.AL
namespace Go.Proofs.Tryz
open Go Go.AL Go.RowKit Go.Proofs
attribute [local simp] awp_all qs_all ops_all dops_all ops_nil dops_nil ops_call ops_callv ops_alloc ops_box dops_call dops_alloc kO_eq kD_eq awanted apure ev Eff.S Eff.H tmpOf upd putD AL.start AV.dem AV.cells AV.storable AV.scells splice scrub abin loadA HR.okB post ares aress ares1 AV.out AV.isData ints_len ints_get fz fz1 AV.vw AV.vw1 boxy vI int undefA assignQ thenQ blockQ seqQ panQ prol prolH allocOf
variable {GI:World→Prop}
def noTx (e:List UInt8):AV := .iface 192 (.agg [.str e])
def outG:Except (List UInt8) (List Int)→AOut
 |.ok l => .ret (.slice (if l.isEmpty then .nil else .view) (ints l))
 |.error e => .panic (noTx e)
theorem givenE_bad:∀ {ws:List (List UInt8)} {j:Nat} (h:j < ws.length),(ws.take j).all givenW=true→givenW ws[j]=false→givenE ws = .error ws[j]
 |[],j,h,_,_=>by simp at h
 |w::ws,0,_,_,hb=>by
  unfold givenE
  rw [if_neg (by rw [show (w::ws)[0]=w from rfl] at hb;rw [hb];simp)];rfl
 |w::ws,j+1,h,ha,hb=>by
  rw [List.take_succ_cons,List.all_cons,Bool.and_eq_true] at ha
  unfold givenE
  rw [if_pos ha.1,givenE_bad (by simpa using h) ha.2 (by simpa using hb)];rfl
set_option maxRecDepth 100000 in
theorem ac163E (hG:Stable GI) {ws:List (List UInt8)} (hlen:ws.length≤100000) (hI:∀ w∈ws,w.length≤3→(∀ c∈w,digit c)→AC prog GI 157 [.int .i64 (numV w)] (.ret (.str (decI (numV w))))) :
  AC prog GI 163 [strs ws] (outG (givenE ws)):=by
 refine AC.of_SW func163 rfl ntmps163 (by simp) fun cc w => ?_
 refine SW.cut hG hmix (by kernel_rfl) (ac:=ACode.fst c163) (by kernel_rfl) (fun _ _ h=>h) (fun S' H'=>S' 0=strs ws) ?_ ?_
 ·simp [c163,ACode.fst,awp,aops,awanted,astep,apure,ev,Eff.S,Eff.H,upd,putD,AL.start,AV.dem,strs,tmpOf,assignQ]
 rintro S1 H1 s0
 refine SW.cut hG hmix (by kernel_rfl) (ac:=ACode.fst (ACode.snd c163)) (by kernel_rfl) (fun _ _ h=>h) (fun S' H'=>S' 0=strs ws∧S' 3=numsA []) ?_ ?_
 ·simp [c163,ACode.fst,ACode.snd,awp,aops,awanted,astep,apure,ev,Eff.S,Eff.H,upd,putD,s0,tmpOf,assignQ,numsA,ints]
 rintro S2 H2 ⟨s0,s3⟩
 show SW prog GI 55 none (.seq (.seq _ (.block 0 (.loop _))) (.seq _ .ret)) _ _ _ _
 refine SW.seq (SW.cut hG hmix (by kernel_rfl) (ac:=ACode.fst (ACode.fst (ACode.snd (ACode.snd c163)))) (by kernel_rfl) (fun _ _ h=>h) (F163 ws 0) ?_ ?_)
 ·simp [c163,ACode.fst,ACode.snd,awp,aops,awanted,astep,apure,ev,Eff.S,Eff.H,upd,putD,s0,s3,F163,strs,AV.dem,assignQ]
 intro S3 H3 hF
 refine SW.block (SW.loop (fun o S' H'=>∃ k j,o=oK cc w k∧j≤ws.length∧(ws.take j).all givenW=true∧F163 ws j S' H') (fun S' _=>match S' 11 with | .int _ j=>ws.length - j.toNat | _=>0) ⟨_,0,rfl,Nat.zero_le _,rfl,hF⟩ ?_)
 rintro o S4 H4 ⟨kk,j,rfl,hj,hall,hF⟩
 have m11:S4 11 = .int .i64 (j:Nat):=hF.2.2.2
 have hbx:∀ k d,¬ (oK cc w k).bx d:=fun _ _ h=>h
 show SW prog GI 55 none (.seq _ (.seq (.cond _ _ _) (.seq (.block 1 (.seq _ (.seq _ (.seq (.seq _ (.block 2 (.loop _))) (.seq _ _))))) _))) _ _ _ _
 refine SW.cut hG hmix (by kernel_rfl) (ac:=ACode.fst bodyA163) (by kernel_rfl) (fun _ _ h=>h) (fun S' H'=>S' 12 = .bool (decide (j < ws.length))∧F163 ws j S' H') ?_ ?_
 ·obtain ⟨s3,s9,s10,s11⟩:=hF
  simp [c163,bodyA163,ACode.fst,ACode.snd,awp,aops,awanted,astep,apure,assignQ,ev,Eff.S,Eff.H,upd,putD,F163,s3,s9,s10,s11,abin]
 rintro S5 H5 ⟨s12,hF⟩
 by_cases hlt:j < ws.length
 case neg =>
  refine SW.seq (SW.cond rfl false (by show S5 12=_;rw [s12];simp [hlt]) (SW.exit ?_))
  have hjl:j=ws.length:=by omega
  subst hjl
  obtain ⟨s3,s9,s10,s11⟩:=hF
  rw [List.take_length] at s3 hall
  have hout:=givenE_ok hall
  rw [hout]
  show SW prog GI 55 none (.seq _ .ret) _ _ _ _
  refine SW.cut hG hmix (by kernel_rfl) (ac:=ACode.fst (ACode.snd (ACode.snd (ACode.snd c163)))) (by kernel_rfl) (fun _ _ h=>h) (fun S' H'=>S' 2 = .slice (if ws.isEmpty then .nil else .view) (ints (ws.map numV))) ?_ ?_
  ·cases ws<;>simp [c163,ACode.fst,ACode.snd,awp,aops,awanted,astep,apure,ev,Eff.S,Eff.H,upd,putD,s3,numsA,AV.dem,tmpOf,assignQ]
  intro S7 H7 s2
  refine SW.ret ⟨Marked.plain rfl,rfl,_,?_,rfl⟩
  show ares prog 55 [.tmp 2] S7 H7=_
  simp [ares,aress,ares1,s2,AV.isData,AV.out]
 case pos =>
  refine SW.seq (SW.cond rfl true (by show S5 12=_;rw [s12];simp [hlt]) (SW.skip ?_))
  show SW prog GI 55 none (.seq (.block 1 (.seq _ (.seq _ (.seq (.seq _ (.block 2 (.loop _))) (.seq _ _))))) _) _ _ _ _
  have hmem:ws[j]∈ws:=List.getElem_mem hlt
  obtain ⟨wd,hwd⟩:∃ wd,ws[j]=wd:=⟨_,rfl⟩
  have hIw:=hI _ hmem
  rw [hwd] at hIw
  have hbad:givenW wd=false→givenE ws = .error wd:=fun h=>by rw [← hwd] at h ⊢;exact givenE_bad hlt hall h
  refine SW.seq (SW.block (SW.cut hG hmix (by kernel_rfl) (ac:=ACode.fst inA163) (by kernel_rfl) (fun _ _ h=>h) (fun S' H'=>S' 5 = .str wd∧F163 ws j S' H') ?_ ?_))
  ·obtain ⟨s3,s9,s10,s11⟩:=hF
   simp [c163,bodyA163,inA163,ACode.fst,ACode.snd,awp,aops,awanted,astep,apure,assignQ,ev,Eff.S,Eff.H,upd,putD,F163,s3,s9,s10,s11,strs,hlt,hwd,loadA,AV.cells,AV.dem,tmpOf]
  rintro S6 H6 ⟨s5,hF⟩
  refine SW.cut hG hmix (by kernel_rfl) (ac:=ACode.fst (ACode.snd inA163)) (by kernel_rfl) (fun _ _ h=>h) (fun S' H'=>S' 6 = .int .i64 0∧S' 5 = .str wd∧F163 ws j S' H') ?_ ?_
  ·obtain ⟨s3,s9,s10,s11⟩:=hF
   simp [c163,bodyA163,inA163,ACode.fst,ACode.snd,awp,aops,awanted,astep,apure,assignQ,ev,Eff.S,Eff.H,upd,putD,F163,s3,s5,s9,s10,s11,AV.dem,tmpOf]
  rintro S7 H7 ⟨s6,s5,hF⟩
  obtain ⟨sb,hsb⟩:∃ sb:ByteArray,sb=⟨wd.toArray⟩:=⟨_,rfl⟩
  refine SW.seq (SW.seq (SW.mid hG (p:=1) (oh:={ dst:=some 16,op := .range 9 (.tmp 15),type:=0,pos := "text.go:133",after:=_,guard:=none }) (os1:=[_]) (os2:=[]) (l2:=[]) rfl rfl rfl rfl (by kernel_rfl) rfl (hbx _) (al1:=(ACode.dl (ACode.fst (ACode.fst (ACode.snd (ACode.snd inA163))))).take 1) (al2:=[]) (by kernel_rfl) rfl (by kernel_rfl) rfl
   (K1:=fun S' H'=>S' 15 = .str wd∧S' 6 = .int .i64 0∧S' 5 = .str wd∧F163 ws j S' H')
   (K2:=fun o S' H'=>∃ k b,o=oK cc w k∧k b=some (.stringIter sb 0)∧S' 16 = .val (.pointer (some ⟨b,0,none⟩))∧S' 6 = .int .i64 0∧S' 5 = .str wd∧F163 ws j S' H')
   (K3:=fun o S' H'=>∃ k b,o=oK cc w k∧k b=some (.stringIter sb 0)∧S' 16 = .val (.pointer (some ⟨b,0,none⟩))∧S' 6 = .int .i64 0∧S' 5 = .str wd∧F163 ws j S' H') ?_ ?_ ?_ ?_))
  ·obtain ⟨s3,s9,s10,s11⟩:=hF
   simp [c163,bodyA163,inA163,ACode.fst,ACode.snd,ACode.dl,aops,awanted,astep,apure,ev,Eff.S,Eff.H,upd,putD,F163,s3,s5,s6,s9,s10,s11,AV.dem]
  ·rintro w0 g S8 H8 a w8 ho R ⟨s15,s6,s5,s3,s9,s10,s11⟩
   have t15:=R.slot 15 (by decide) (fun h=>h)
   rw [s15] at t15
   have t15:a.eval (.tmp 15) = .string sb:=by rw [hsb];exact str_eq t15
   have hun:prog.underlying 9=some .string:=by kernel_rfl
   have R2:=R.keepNew (.stringIter sb 0)
   refine ⟨_,_,_,upd S8 16 (.val (.pointer (some ⟨w8.heap.size,0,none⟩))),H8,.inl (run_rangeS rfl hun t15),R2.put 16 _ _ (by decide) (.data _ _ (.val _ rfl)) trivial,upd g.old.keep w8.heap.size (some (.stringIter sb 0)),w8.heap.size,?_,upd_same _ _ _,by simp [upd],by simp [upd,s6],by simp [upd,s5],by simp [upd,s3],by simp [upd,s9],by simp [upd,s10],by simp [upd,s11]⟩
   show ({ g.old with keep:=upd g.old.keep w8.heap.size _ }:Old)=_
   rw [ho];rfl
  ·rintro o S8 H8 ⟨k,b,rfl,h⟩
   exact ⟨hbx _,k,b,rfl,h⟩
  ·rintro o S8 H8 ⟨k,b,rfl,hkb,s16,s6,s5,hF⟩
   refine SW.block (SW.loopO (fun o S' H'=>∃ k b pos,o=oK cc w k∧k b=some (.stringIter sb pos)∧pos≤wd.length∧(∀ c∈wd.take pos,digit c)∧(0 < pos→wd.length≤3)∧S' 16 = .val (.pointer (some ⟨b,0,none⟩))∧S' 6 = .int .i64 (numV (wd.take pos))∧S' 5 = .str wd∧F163 ws j S' H')
    (fun o S' _=>match S' 16 with | .val (.pointer (some a))=>(match o.keep a.block with | some (.stringIter _ p)=>wd.length - p | _=>0) | _=>0) ⟨k,b,0,rfl,hkb,Nat.zero_le _,by simp,by simp,s16,s6,s5,hF⟩ ?_)
   rintro o S9 H9 ⟨k,b,pos,rfl,hkb,hpos,hdg,hl0,s16,s6,s5,hF⟩
   have m16:=s16
   have hμ:∀ (S:Slots) (k:Nat→Option Obj) p,S 16 = .val (.pointer (some ⟨b,0,none⟩))→k b=some (.stringIter sb p)→(match S 16 with | .val (.pointer (some a))=>(match (oK cc w k).keep a.block with | some (.stringIter _ p)=>wd.length - p | _=>0) | _=>0)=wd.length - p:=by
    intro S k p h1 h2
    rw [h1]
    show (match k b with | some (.stringIter _ p)=>wd.length - p | _=>0)=_
    rw [h2]
   have hsz:sb.size=wd.length:=by rw [hsb];rfl
   show SW prog GI 55 none (.seq _ (.seq (.cond _ _ _) (.block 3 (.seq _ (.seq _ _))))) _ _ _ _
   by_cases hp:pos < wd.length
   case neg =>
    refine SW.seq (SW.mid hG (p:=0) (oh:={ dst:=some 17,op := .next (.tmp 16) true,type:=0,pos := "text.go:133",after := #[],guard:=none }) (os1:=[]) (os2:=[_]) (l2:=[1]) rfl rfl rfl rfl (by kernel_rfl) rfl (hbx _) (al1:=[]) (al2:=(ACode.dl (ACode.fst loopA163)).drop 1) rfl (by kernel_rfl) rfl (by kernel_rfl)
     (K1:=fun S' H'=>S' 16 = .val (.pointer (some ⟨b,0,none⟩))∧S' 6 = .int .i64 (numV wd)∧S' 5 = .str wd∧F163 ws j S' H')
     (K2:=fun o S' H'=>o=oK cc w k∧S' 17 = .tup [.bool false]∧S' 6 = .int .i64 (numV wd)∧S' 5 = .str wd∧F163 ws j S' H')
     (K3:=fun o S' H'=>o=oK cc w k∧S' 18 = .bool false∧S' 6 = .int .i64 (numV wd)∧S' 5 = .str wd∧F163 ws j S' H') ?_ ?_ ?_ ?_)
    ·have:pos=wd.length:=by omega
     subst this
     rw [List.take_length] at s6
     exact ⟨s16,s6,s5,hF⟩
    ·rintro w0 g S10 H10 a w10 ho R ⟨s16,s6,s5,s3,s9,s10,s11⟩
     have t16:=R.slot 16 (by decide) (fun h=>h)
     rw [s16] at t16
     have t16:a.eval (.tmp 16) = .pointer (some ⟨b,0,none⟩):=t16.val_eq
     have hk:g.old.keep b=some (.stringIter sb pos):=by rw [ho];exact hkb
     have hb:=(R.kept b _ hk).2.1
     refine ⟨_,_,_,upd S10 17 (.tup [.bool false]),H10,.inl (run_nextS_end rfl t16 hb (by omega)),R.put 17 _ _ (by decide) (.data _ _ (.tup _ _ rfl fun i h h' => ?_)) trivial,ho,upd_same _ _ _,by simp [upd,s6],by simp [upd,s5],by simp [upd,s3],by simp [upd,s9],by simp [upd,s10],by simp [upd,s11]⟩
     match i,h with
     |0,_=>exact .bool _
    ·rintro o S10 H10 ⟨rfl,s17,s6,s5,s3,s9,s10,s11⟩
     refine ⟨hbx _,?_⟩
     simp [c163,bodyA163,inA163,loopA163,ACode.fst,ACode.snd,ACode.dl,aops,awanted,astep,apure,ev,Eff.S,Eff.H,upd,putD,F163,s3,s5,s6,s9,s10,s11,s17,AV.dem]
    ·rintro o S10 H10 ⟨rfl,s18,s6,s5,hF⟩
     refine SW.seq (SW.cond rfl false (by show S10 18=_;rw [s18]) (SW.exit ?_))
     show SW prog GI 55 none (.seq _ _) _ _ _ _
     have hpe:pos=wd.length:=by omega
     have hdig:∀ c∈wd,digit c:=by rw [hpe,List.take_length] at hdg;exact hdg
     have h160:=ac160 (GI:=GI) hG wd
     have h160f:=ac160f (GI:=GI) hG wd
     have e8:∀ H,fz H (.int .i64 (numV wd)) = .int .i64 (numV wd):=fun H=>rfl
     have e9:∀ H,fz H (.str wd) = .str wd:=fun H=>rfl
     have e10:∀ b H,fz H (.bool b) = .bool b:=fun b H=>rfl
     by_cases hne:wd=[]
     ·have hgb:givenW wd=false:=by rw [hne];rfl
      rw [hbad hgb]
      have hneb:(wd != [])=false:=by simpa using hne
      refine SW.seq (SW.of_awp hG hmix (by kernel_rfl) (fun d _=>hbx _ d) (ac:=ACode.fst (ACode.snd (ACode.snd (ACode.snd inA163)))) (by kernel_rfl) ?_)
      unfold Post.awp
      obtain ⟨s3,s9,s10,s11⟩:=hF
      simp [c163,bodyA163,inA163,ACode.fst,ACode.snd,ACode.dl,awp,aops,awanted,astep,apure,assignQ,thenQ,ev,Eff.S,Eff.H,upd,putD,F163,s3,s5,s6,s9,s10,s11,AV.dem,abin,hneb,e8,e9,e10,tmpOf]
      refine ⟨_,by kernel_rfl,h160f,by simp [boxy],?_⟩
      simp [onOut,thenS,blockS,retS,outG,noTx]
      exact ⟨rfl,rfl⟩
     have hl3:wd.length≤3:=hl0 (by rw [hpe];exact List.length_pos_iff.2 hne)
     have hIw:=hIw hl3 hdig
     have hneb:(wd != [])=true:=by simpa using hne
     have hs:=numV_range wd hdig hl3
     by_cases hde:decI (numV wd)=wd
     case neg =>
      have hgb:givenW wd=false:=by
       rw [Bool.eq_false_iff]
       intro h
       exact hde (givenW_iff.1 h).2.2.2
      rw [hbad hgb]
      have hdb:(decI (numV wd)==wd)=false:=by simpa using hde
      refine SW.seq (SW.of_awp hG hmix (by kernel_rfl) (fun d _=>hbx _ d) (ac:=ACode.fst (ACode.snd (ACode.snd (ACode.snd inA163)))) (by kernel_rfl) ?_)
      unfold Post.awp
      obtain ⟨s3,s9,s10,s11⟩:=hF
      simp [c163,bodyA163,inA163,ACode.fst,ACode.snd,ACode.dl,awp,aops,awanted,astep,apure,assignQ,thenQ,ev,Eff.S,Eff.H,upd,putD,F163,s3,s5,s6,s9,s10,s11,AV.dem,abin,hneb,e8,tmpOf]
      refine ⟨_,by kernel_rfl,hIw,by simp [boxy],?_⟩
      simp [onOut,upd,AV.dem,s3,s5,s6,s9,s10,s11,abin,e9,e10,hdb]
      refine ⟨_,by kernel_rfl,h160f,by simp [boxy],?_⟩
      simp [onOut,thenS,blockS,retS,outG,noTx]
      exact ⟨rfl,rfl⟩
     have hgw:givenW wd=true:=givenW_iff.2 ⟨hne,hl3,hdig,hde⟩
     have hallj:(ws.take (j+1)).all givenW=true:=by
      rw [List.take_succ_eq_append_getElem hlt,List.all_append,hall,hwd];simp [hgw]
     rw [hde] at hIw
     refine SW.cut hG hmix (by kernel_rfl) (ac:=ACode.fst (ACode.snd (ACode.snd (ACode.snd inA163)))) (by kernel_rfl) (fun d _=>hbx _ d) (fun S' H'=>S' 6 = .int .i64 (numV wd)∧F163 ws j S' H') ?_ ?_
     ·obtain ⟨s3,s9,s10,s11⟩:=hF
      simp [c163,bodyA163,inA163,ACode.fst,ACode.snd,ACode.dl,awp,aops,awanted,astep,apure,assignQ,ev,Eff.S,Eff.H,upd,putD,F163,s3,s5,s6,s9,s10,s11,AV.dem,abin,hneb,e8]
      refine ⟨_,by kernel_rfl,hIw,by simp [boxy],?_⟩
      simp [onOut,upd,AV.dem,s3,s5,s6,s9,s10,s11,abin,e9,e10]
      refine ⟨_,by kernel_rfl,h160,by simp [boxy],?_⟩
      simp [onOut,upd,AV.dem,s3,s5,s6,s9,s10,s11]
     rintro S11 H11 ⟨s6,hF⟩
     have hnx:(ws.take (j+1)).map numV=(ws.take j).map numV++[numV wd]:=by rw [List.take_succ_eq_append_getElem hlt,List.map_append,hwd];rfl
     have hLl:((ws.take j).map numV).length≤100000:=by simp;omega
     refine SW.mono (Q:=fun e o S' H'=>e = .normal∧o=oK cc w k∧S' 3=numsA ((ws.take (j+1)).map numV)∧S' 9=strs ws∧S' 10 = .int .i64 ws.length∧S' 11 = .int .i64 (j:Nat)) ?_ (SW.of_awp hG hmix (by kernel_rfl) (fun d _=>hbx _ d) (ac:=ACode.snd (ACode.snd (ACode.snd (ACode.snd inA163)))) (by kernel_rfl) ?_)
     ·rintro e o S' H' ⟨rfl,rfl,s3,s9,s10,s11⟩
      show SW prog GI 55 none _ _ _ _ _
      refine SW.of_awp hG hmix (by kernel_rfl) (fun d _=>hbx _ d) (ac:=ACode.snd (ACode.snd (ACode.snd bodyA163))) (by kernel_rfl) ?_
      have hwr:IntKind.i64.wrap ((j:Int)+1)=j+1:=wrapI (by omega)
      simp [c163,bodyA163,ACode.fst,ACode.snd,awp,aops,awanted,astep,apure,ev,Eff.S,Eff.H,upd,putD,s3,s9,s10,s11,abin,AV.dem,hwr,Post.awp,thenS,F163]
      refine ⟨⟨⟨_,rfl⟩,j+1,by omega,List.all_eq_true.1 hallj,rfl,by omega⟩,?_⟩
      rw [m11]
      show ws.length - (j+1) < ws.length - (j:Int).toNat
      rw [Int.toNat_natCast];omega
     ·unfold Post.awp
      obtain ⟨s3,s9,s10,s11⟩:=hF
      rw [hnx]
      generalize (ws.take j).map numV=L at s3 hLl ⊢
      cases L with
      |nil=>simp [c163,bodyA163,inA163,ACode.fst,ACode.snd,ACode.dl,awp,aops,awanted,astep,apure,ev,Eff.S,Eff.H,upd,putD,s3,s6,s9,s10,s11,numsA,ints,AV.dem,elemsOK,AV.storable,AV.cells,AV.vw,AV.vw1,tmpOf]
      |cons x L =>
       have hsm:L.length+1+1 < 1048576:=by simp at hLl;omega
       simp [c163,bodyA163,inA163,ACode.fst,ACode.snd,ACode.dl,awp,aops,awanted,astep,apure,ev,Eff.S,Eff.H,upd,putD,s3,s6,s9,s10,s11,numsA,ints,AV.dem,elemsOK,AV.storable,AV.cells,AV.vw,AV.vw1,tmpOf,hsm]
   case pos =>
    obtain ⟨c,hc⟩:∃ c,wd[pos]=c:=⟨_,rfl⟩
    obtain ⟨r,hr⟩:∃ r:Nat,(Utf8.decode sb pos).1=r:=⟨_,rfl⟩
    obtain ⟨p',hp'⟩:∃ p':Nat,pos+(Utf8.decode sb pos).2=p':=⟨_,rfl⟩
    have hsbc:sb[pos]'(by omega)=c:=by subst hsb;rw [← hc];rfl
    refine SW.seq (SW.mid hG (p:=0) (oh:={ dst:=some 17,op := .next (.tmp 16) true,type:=0,pos := "text.go:133",after := #[],guard:=none }) (os1:=[]) (os2:=[_]) (l2:=[1]) rfl rfl rfl rfl (by kernel_rfl) rfl (hbx _) (al1:=[]) (al2:=(ACode.dl (ACode.fst loopA163)).drop 1) rfl (by kernel_rfl) rfl (by kernel_rfl)
     (K1:=fun S' H'=>S' 16 = .val (.pointer (some ⟨b,0,none⟩))∧S' 6 = .int .i64 (numV (wd.take pos))∧S' 5 = .str wd∧F163 ws j S' H')
     (K2:=fun o S' H'=>o=oK cc w (upd k b (some (.stringIter sb p')))∧S' 16 = .val (.pointer (some ⟨b,0,none⟩))∧S' 17 = .tup [.bool true,.int .i64 pos,.int .i32 r]∧S' 6 = .int .i64 (numV (wd.take pos))∧S' 5 = .str wd∧F163 ws j S' H')
     (K3:=fun o S' H'=>o=oK cc w (upd k b (some (.stringIter sb p')))∧S' 16 = .val (.pointer (some ⟨b,0,none⟩))∧S' 18 = .bool true∧S' 17 = .tup [.bool true,.int .i64 pos,.int .i32 r]∧S' 6 = .int .i64 (numV (wd.take pos))∧S' 5 = .str wd∧F163 ws j S' H') ⟨s16,s6,s5,hF⟩ ?_ ?_ ?_)
    ·rintro w0 g S10 H10 a w10 ho R ⟨s16,s6,s5,s3,s9,s10,s11⟩
     have t16:=R.slot 16 (by decide) (fun h=>h)
     rw [s16] at t16
     have t16:a.eval (.tmp 16) = .pointer (some ⟨b,0,none⟩):=t16.val_eq
     have hk:g.old.keep b=some (.stringIter sb pos):=by rw [ho];exact hkb
     have hb:=(R.kept b _ hk).2.1
     refine ⟨_,_,_,upd S10 17 (.tup [.bool true,.int .i64 pos,.int .i32 r]),H10,.inl (run_nextU rfl t16 hb (by omega) hr hp'),(R.rekeep hk _).put 17 _ _ (by decide) (.data _ _ (.tup _ _ rfl fun i h h' => ?_)) trivial,?_,by simp [upd,s16],upd_same _ _ _,by simp [upd,s6],by simp [upd,s5],by simp [upd,s3],by simp [upd,s9],by simp [upd,s10],by simp [upd,s11]⟩
     ·match i,h with
      |0,_=>exact .bool _
      |1,_=>exact .int _ _
      |2,_ =>
       exact .int _ _
     ·show ({ g.old with keep:=upd g.old.keep b _ }:Old)=_
      rw [ho];rfl
    ·rintro o S10 H10 ⟨rfl,s16,s17,s6,s5,s3,s9,s10,s11⟩
     refine ⟨hbx _,?_⟩
     simp [c163,bodyA163,inA163,loopA163,ACode.fst,ACode.snd,ACode.dl,aops,awanted,astep,apure,ev,Eff.S,Eff.H,upd,putD,F163,s3,s5,s6,s9,s10,s11,s16,s17,AV.dem]
    ·rintro o S10 H10 ⟨rfl,s16,s18,s17,s6,s5,hF⟩
     refine SW.seq (SW.cond rfl true (by show S10 18=_;rw [s18]) (SW.skip ?_))
     show SW prog GI 55 none (.block 3 (.seq _ (.seq _ _))) _ _ _ _
     by_cases hgc:digit c∧wd.length≤3
     case neg =>
      have hgb:givenW wd=false:=by
       rw [Bool.eq_false_iff]
       intro h
       obtain ⟨_,h2,h3,_⟩:=givenW_iff.1 h
       exact hgc ⟨h3 c (hc ▸ List.getElem_mem hp),h2⟩
      rw [hbad hgb]
      have hrn:¬ (48≤(r:Int)∧(r:Int)≤57∧(wd.length:Int)≤3):=by
       rintro ⟨g1,g2,g3⟩
       refine hgc ⟨?_,by omega⟩
       have:=decode_small (s:=sb) (pos:=pos) (by omega) (by rw [hr];omega)
       rw [hr] at this
       have hcr:c.toNat=r:=by rw [← hsbc];exact this.symm
       unfold digit
       omega
      have h160f:=ac160f (GI:=GI) hG wd
      have e9:∀ H,fz H (.str wd) = .str wd:=fun H=>rfl
      have e10:∀ b H,fz H (.bool b) = .bool b:=fun b H=>rfl
      refine SW.block (SW.of_awp hG hmix (by kernel_rfl) (fun d _=>hbx _ d) (ac:=ACode.snd (ACode.snd (ACode.snd loopA163))) (by kernel_rfl) ?_)
      unfold Post.awp
      obtain ⟨s3,s9,s10,s11⟩:=hF
      by_cases g1:(48:Int)≤r
      ·by_cases g2:(r:Int)≤57
       ·have g3:¬ (wd.length:Int)≤3:=fun g3=>hrn ⟨g1,g2,g3⟩
        simp [c163,bodyA163,inA163,loopA163,ACode.fst,ACode.snd,ACode.dl,awp,aops,awanted,astep,apure,thenQ,ev,Eff.S,Eff.H,upd,putD,F163,s3,s5,s6,s9,s10,s11,s16,s17,AV.dem,abin,g1,g2,g3,e9,e10,tmpOf]
        refine ⟨_,by kernel_rfl,h160f,by simp [boxy],?_⟩
        simp [onOut,thenS,blockS,retS,outG,noTx]
        exact ⟨rfl,rfl⟩
       ·simp [c163,bodyA163,inA163,loopA163,ACode.fst,ACode.snd,ACode.dl,awp,aops,awanted,astep,apure,thenQ,ev,Eff.S,Eff.H,upd,putD,F163,s3,s5,s6,s9,s10,s11,s16,s17,AV.dem,abin,g1,g2,e9,e10,tmpOf]
        refine ⟨_,by kernel_rfl,h160f,by simp [boxy],?_⟩
        simp [onOut,thenS,blockS,retS,outG,noTx]
        exact ⟨rfl,rfl⟩
      ·simp [c163,bodyA163,inA163,loopA163,ACode.fst,ACode.snd,ACode.dl,awp,aops,awanted,astep,apure,thenQ,ev,Eff.S,Eff.H,upd,putD,F163,s3,s5,s6,s9,s10,s11,s16,s17,AV.dem,abin,g1,e9,e10,tmpOf]
       refine ⟨_,by kernel_rfl,h160f,by simp [boxy],?_⟩
       simp [onOut,thenS,blockS,retS,outG,noTx]
       exact ⟨rfl,rfl⟩
     obtain ⟨hcd,hl3⟩:=hgc
     have hcd':=hcd
     unfold digit at hcd'
     have hdec:=decode_ascii sb pos (by omega) (by rw [hsbc];omega)
     have hrc:r=c.toNat:=by rw [← hr,hdec,hsbc]
     have hpp:p'=pos+1:=by rw [← hp',hdec]
     subst hrc
     subst hpp
     have hdg1:∀ x∈wd.take (pos+1),digit x:=by
      rw [List.take_succ_eq_append_getElem hp,hc]
      intro x hx
      rcases List.mem_append.1 hx with hx | hx
      ·exact hdg x hx
      ·rw [List.mem_singleton] at hx;rw [hx];exact hcd
     have htk:wd.take (pos+1)=wd.take pos++[c]:=by rw [List.take_succ_eq_append_getElem hp,hc]
     have hnum:=numV_range (wd.take pos) hdg (by simp;omega)
     refine SW.block (SW.mono (Q:=fun e o S' H'=>e = .normal∧o=oK cc w (upd k b (some (.stringIter sb (pos+1))))∧S' 16 = .val (.pointer (some ⟨b,0,none⟩))∧S' 6 = .int .i64 (numV (wd.take (pos+1)))∧S' 5 = .str wd∧F163 ws j S' H') ?_ (SW.of_awp hG hmix (by kernel_rfl) (fun d _=>hbx _ d) (ac:=ACode.snd (ACode.snd (ACode.snd loopA163))) (by kernel_rfl) ?_))
     ·rintro e o S' H' ⟨rfl,rfl,s16,s6,s5,hF⟩
      refine ⟨⟨upd k b (some (.stringIter sb (pos+1))),b,pos+1,rfl,upd_same _ _ _,hp,hdg1,fun _=>hl3,s16,s6,s5,hF⟩,?_⟩
      show (match S' 16 with | .val (.pointer (some a))=>(match (oK cc w (upd k b (some (.stringIter sb (pos+1))))).keep a.block with | some (.stringIter _ p)=>wd.length - p | _=>0) | _=>0) < _
      rw [hμ S' _ (pos+1) s16 (upd_same _ _ _),hμ S9 k pos m16 hkb]
      omega
     ·unfold Post.awp
      obtain ⟨s3,s9,s10,s11⟩:=hF
      have h160:=ac160 (GI:=GI) hG wd
      have g1:(48:Int)≤c.toNat:=by omega
      have g2:(c.toNat:Int)≤57:=by omega
      have g3:(wd.length:Int)≤3:=by omega
      have w1:IntKind.i64.wrap (10 * numV (wd.take pos))=10 * numV (wd.take pos):=wrapI (by omega)
      have w2:IntKind.i32.wrap ((c.toNat:Int) - 48)=(c.toNat:Int) - 48:=wrap32 (by omega)
      have w3:IntKind.i64.wrap ((c.toNat:Int) - 48)=(c.toNat:Int) - 48:=wrapI (by omega)
      have w4:IntKind.i64.wrap (10 * numV (wd.take pos)+((c.toNat:Int) - 48))=numV (wd.take (pos+1)):=by rw [htk,numV_snoc,wrapI (by omega)]
      have e9:∀ H,fz H (.str wd) = .str wd:=fun H=>rfl
      have e10:∀ H,fz H (.bool true) = .bool true:=fun H=>rfl
      simp [c163,bodyA163,inA163,loopA163,ACode.fst,ACode.snd,ACode.dl,awp,aops,awanted,astep,apure,thenQ,ev,Eff.S,Eff.H,upd,putD,F163,s3,s5,s6,s9,s10,s11,s16,s17,AV.dem,abin,g1,g2,g3,e9,e10,tmpOf]
      refine ⟨_,by kernel_rfl,h160,by simp [boxy],?_⟩
      simp [onOut,upd,AV.dem,s3,s5,s6,s9,s10,s11,s16,abin,w1,w2,w3,w4,tmpOf]
theorem ac163g (hG:Stable GI) (hT:TB GI) {ws:List (List UInt8)} (hlen:ws.length≤100000):AC prog GI 163 [strs ws] (outG (givenE ws)) :=
 ac163E hG hlen fun w _ h3 hd=>ac157n hT (numV_range3 hd h3)
theorem ac164g (hG:Stable GI) (hT:TB GI) (hML:ML GI) (w:List UInt8) (hw:w.length≤10000):AC prog GI 164 [.str w] (outG (listedE w)):=by
 by_cases h0:w=[45]
 ·subst h0
  have:listedE [45] = .ok []:=rfl
  rw [this]
  refine AC.of_body hG hmix func164 rfl ntmps164 (by simp) (ac:=c164) (by kernel_rfl) ?_
  simp [c164]
  rfl
 have hlE:listedE w=givenE (splitS 44 w):=by unfold listedE;rw [if_neg h0]
 rw [hlE]
 have hne:(w==[45])=false:=by simpa using h0
 have a:=ac159 hML w 44 (by omega)
 have hsl:(splitS 44 w).length≤100000:=by have:=splitS_len 44 w;omega
 have b:=ac163g (ws:=splitS 44 w) hG hT hsl
 generalize splitS 44 w=ws at *
 generalize hog:givenE ws=o at b ⊢
 refine AC.of_body hG hmix func164 rfl ntmps164 (by simp) (ac:=c164) (by kernel_rfl) ?_
 simp [c164,hne]
 refine ⟨_,by kernel_rfl,a,by simp [boxy],?_⟩
 simp [strs]
 refine ⟨_,by kernel_rfl,(by simpa [strs] using b),by simp [boxy],?_⟩
 cases o with
 |ok l=>simp [outG]
 |error e=>simp [outG,noTx]
theorem dem_s:(∀ k n,(AV.int k n).dem = .int k n)∧(∀ b,(AV.bool b).dem = .bool b)∧(∀ l,(AV.str l).dem = .str l)∧(∀ l,(AV.slice .view l).dem = .slice .view l)∧(∀ l,(AV.slice .nil l).dem = .slice .nil l)∧(∀ e l,(AV.slice (.own e) l).dem = .slice .view l)∧(∀ cs,(AV.agg cs).dem = .agg cs)∧(∀ cs,(AV.tup cs).dem = .tup cs)∧(∀ cs,(AV.ref cs).dem = .ref cs)∧(∀ i o,(AV.box i o).dem = .box i o)∧(∀ t v,(AV.iface t v).dem = .iface t v)∧∀ v:AV,v.dem.dem=v.dem :=
 ⟨fun _ _=>rfl,fun _=>rfl,fun _=>rfl,fun _=>rfl,fun _=>rfl,fun _ _=>rfl,fun _=>rfl,fun _=>rfl,fun _=>rfl,fun _ _=>rfl,fun _ _=>rfl,AV.idem⟩
theorem vw1_s:(∀ k n,(AV.int k n).vw1 = .int k n)∧(∀ b,(AV.bool b).vw1 = .bool b)∧(∀ l,(AV.str l).vw1 = .str l)∧(∀ o l,(AV.slice o l).vw1 = .slice .view l)∧(∀ cs,(AV.agg cs).vw1 = .agg cs)∧(∀ cs,(AV.tup cs).vw1 = .tup cs)∧(∀ cs,(AV.ref cs).vw1 = .ref cs)∧∀ t v,(AV.iface t v).vw1 = .iface t v :=
 ⟨fun _ _=>rfl,fun _=>rfl,fun _=>rfl,fun _ _=>rfl,fun _=>rfl,fun _=>rfl,fun _=>rfl,fun _ _=>rfl⟩
theorem dem_grow (e:Nat) (l:List AV):(grow e l).dem = .slice (if l=[] then .nil else .view) l:=by
 unfold grow
 by_cases h:l=[]<;>simp [h,AV.dem]
theorem vw1_dgrow (e:Nat) (l:List AV):(grow e l).dem.vw1 = .slice .view l:=by
 rw [dem_grow];rfl
end Go.Proofs.Tryz
namespace Go.Proofs.Tryz
open Go Go.AL Go.RowKit Go.Proofs
variable {GI:World→Prop}
theorem panicI {Pr:Nat→Nat→Prop} {w:World} {e:List UInt8} {c:Value} (h:RD Pr w (noTx e) c):c = .iface 192 (.agg #[.string ⟨e.toArray⟩]):=by
 unfold noTx at h
 cases h with
 |iface t v c h =>
  cases h with
  |agg cs vs hl h1 hr =>
   have hs:vs.size=1:=by rw [← hl];rfl
   have h0:=hr 0 (by simp) (by omega)
   simp only [List.getElem_cons_zero] at h0
   have:vs = #[vs[0]]:=by
    apply Array.ext
    ·simpa using hs
    ·intro i h1 h2
     have:i=0:=by simp at h2;omega
     subst this;rfl
   rw [this]
   generalize vs[0]=x at h0
   cases h0;rfl
theorem calls118p (hG:Stable GI) {w0:World} {n:Nat} {g:Gh} {S:Slots} {H:Boxes} {a:Act} {w:World} {i1 i4:Nat} {s e:List UInt8} {z:List AV} (hG0:GI w0) (R:Rel prog w0 n NoU g S H a w) (h1n:i1 < n) (h4n:i4 < n)
  (hS1:S i1 = .box i1 0) (hH1:H i1=some [.str s]) (hS4:S i4 = .box i4 0) (hH4:H i4=some z) (h119:AC prog GI 119 [.str s] (.panic (noTx e))) :
  Calls prog 118 #[a.tmps.getD i1 undef,a.tmps.getD i4 undef] w fun en w2=>en = .panicked [{ v := .iface 192 (.agg #[.string ⟨e.toArray⟩]),recovered:=false }]∧Below w.heap.size w w2:=by
 have hsz:=R.size
 have v1:=R.slot i1 h1n id
 rw [hS1] at v1
 have v4:=R.slot i4 h4n id
 rw [hS4] at v4
 obtain ⟨b1,e1,hal1⟩:∃ b,a.tmps.getD i1 undef = .pointer (some ⟨b,0,none⟩)∧g.al i1=some b:=by
  generalize a.tmps.getD i1 undef=c at v1
  cases v1 with
  |data _ _ h=>cases h
  |box _ _ b h=>exact ⟨b,rfl,h⟩
 obtain ⟨b4,e4,hal4⟩:∃ b,a.tmps.getD i4 undef = .pointer (some ⟨b,0,none⟩)∧g.al i4=some b:=by
  generalize a.tmps.getD i4 undef=c at v4
  cases v4 with
  |data _ _ h=>cases h
  |box _ _ b h=>exact ⟨b,rfl,h⟩
 obtain ⟨cs,vs,ty,k0,k1,k2,k3,k4,k5,k6,k7,k8⟩:=R.box i1 b1 hal1
 rw [hH1] at k0;cases k0
 have h0:0 < vs.size:=by rw [← k5];exact Nat.zero_lt_one
 have hv:=str_eq (RV.data (al:=noneA) _ _ (k6 0 (by simp) h0))
 have hcell:w.cell? ⟨b1,0,none⟩=some (.string ⟨s.toArray⟩):=by simp [World.cell?,k2,h0,hv]
 have hb0:=R.below
 rw [R.base] at hb0
 have hGw:GI w:=hG w0 w hG0 hb0
 rw [e1,e4]
 refine calls_of_wp func118 rfl ?_
 refine (wpIn_FR_none (m:=0)).1 ?_
 refine anyAct (fun a=>a.tmps.size=4∧a.defers=[]∧a.tmps.getD 0 undef = .pointer (some ⟨b1,0,none⟩)∧a.tmps.getD 1 undef = .pointer (some ⟨b4,0,none⟩)) ⟨by simp [ntmps118],rfl,args_get _ _ 0 (by simp),args_get _ _ 1 (by simp)⟩ ?_
 rintro aC ⟨zC,dC,t0,t1⟩
 have hgs:∀ (a:Act) (d:Nat) (c:Value),a.tmps.size=4→d < 4→(a.put (some d) c).tmps.getD d undef=c:=fun a d c h hd=>by
  simp [Act.put,h,hd]
 refine wpIn_region ?_
 show wpOpsIn _ _ _ _ _ [0,1,2] aC w
 refine opIn_val rfl rfl (by rfl) (run_load1 (t:=9) (d := .string) (b:=b1) (off:=0) rfl t0 (by kernel_rfl) rfl hcell) ?_
 show wpOpsIn _ _ _ _ _ [1,2] (aC.put (some 2) (.string ⟨s.toArray⟩)) w
 refine opIn_callE rfl rfl (by rfl) (run_callF (k:=119) (args := #[.string ⟨s.toArray⟩]) w rfl rfl ?_ (by kernel_rfl)) (h119 w (callOld g false) #[.string ⟨s.toArray⟩] hGw rfl (fun i h h'=>by
  match i,h with
  |0,_=>exact .data _ _ (.str s))) ?_
 ·simp only [List.map_toArray,List.map_cons,List.map_nil]
  show #[(aC.put (some 2) _).tmps.getD 2 undef]=_
  rw [hgs _ _ _ zC (by decide)]
 rintro en w2 ⟨hb2,hi,hfr,c,rfl,hrd⟩
 have hc:=panicI hrd
 subst hc
 exact ⟨dC,rfl,hb2⟩
theorem calls117p (hG:Stable GI) {w0:World} {n:Nat} {g:Gh} {S:Slots} {H:Boxes} {a:Act} {w:World} {i1 i4:Nat} {s e:List UInt8} {z:List AV} (hG0:GI w0) (R:Rel prog w0 n NoU g S H a w) (h1n:i1 < n) (h4n:i4 < n)
  (hS1:S i1 = .box i1 0) (hH1:H i1=some [.str s]) (hS4:S i4 = .box i4 0) (hH4:H i4=some z) (h119:AC prog GI 119 [.str s] (.panic (noTx e))) :
  Calls prog 117 #[.func (.func 118) #[] #[a.tmps.getD i1 undef,a.tmps.getD i4 undef]] w fun en w2=>en = .returned (.int .i64 4)∧∃ g',g'.old=g.old∧Rel prog w0 n NoU g' S H a w2:=by
 have R1:=R.keepNew (.cells #[.int .i64 0] 36)
 have hkn:g.old.keep w.heap.size=none:=by
  cases h:g.old.keep w.heap.size with
  |none=>rfl
  |some o =>
   have:=(Array.getElem?_eq_some_iff.1 (R.kept _ o h).2.1).1
   omega
 refine attempt_calls (by kernel_rfl) (calls118p hG hG0 R1 h1n h4n hS1 hH1 hS4 hH4 h119) ?_
 rintro en w2 ⟨rfl,hb2⟩
 have R2:=R1.grow' hb2
 have hk:upd g.old.keep w.heap.size (some (.cells #[.int .i64 0] 36)) w.heap.size=some (.cells #[.int .i64 0] 36):=upd_same _ _ _
 have hk2:=(R2.kept _ _ hk).2.1
 have hlt:=(Array.getElem?_eq_some_iff.1 hk2).1
 refine ⟨hlt,⟨_,_,hk2⟩,.inr (.inr ⟨e,rfl,fun w3 hb3=>⟨rfl,?_⟩⟩)⟩
 have R3:=R2.grow' hb3
 have hk3:=(R3.kept _ _ hk).2.1
 have R4:=R3.rekeep hk (.cells #[.int .i64 4] 36)
 rw [setRow_putObj w3 hk3]
 refine ⟨_,?_,unkeep R4 w.heap.size⟩
 have:upd (upd (upd g.old.keep w.heap.size (some (.cells #[.int .i64 0] 36))) w.heap.size (some (.cells #[.int .i64 4] 36))) w.heap.size none=g.old.keep:=by
  funext b
  by_cases hb:b=w.heap.size
  ·subst hb;simp [upd,hkn]
  ·simp [upd,hb]
 show ({ g.old with keep:=upd (upd (upd g.old.keep w.heap.size (some (.cells #[.int .i64 0] 36))) w.heap.size (some (.cells #[.int .i64 4] 36))) w.heap.size none }:Old)=_
 rw [this]
end Go.Proofs.Tryz
namespace Go.Proofs.Tryz
open Go Go.AL Go.RowKit Go.Proofs
attribute [local simp] awp_all qs_all ops_allN dops_allN ops_nil dops_nil ops_call ops_callv ops_alloc ops_box dops_call dops_alloc kO_eq kD_eq awanted apure ev Eff.S Eff.H tmpOf upd putD AL.start AV.cells AV.storable AV.scells splice scrub abin loadA HR.okB post ares aress ares1 AV.out AV.isData ints_len ints_get fz fz1 AV.vw boxy vI int undefA assignQ thenQ blockQ seqQ panQ prol prolH allocOf dem_s vw1_s vw1_dgrow
variable {GI:World→Prop}
def nms:List (List UInt8):=[nmF,nmS,nmI,nmP,nmW]
def kindO (w:List UInt8):Int:=if w=nmF then 0 else if w=nmS then 1 else if w=nmI then 2 else if w=nmP then 3 else if w=nmW then 4 else -1
theorem ac162k (hG:Stable GI) (w:List UInt8):AC prog GI 162 [strs nms,.str w] (.ret (.int .i64 (kindO w))):=by
 unfold kindO
 split
 ·rename_i h;subst h;exact ac162_at hG nms _ (by decide) 0 (by decide) rfl fun j hj=>absurd hj (Nat.not_lt_zero _)
 split
 ·rename_i h;subst h;exact ac162_at hG nms _ (by decide) 1 (by decide) rfl fun j hj=>by
   match j,hj with
   |0,_=>exact (by decide:nmF≠nmS)
 split
 ·rename_i h;subst h;exact ac162_at hG nms _ (by decide) 2 (by decide) rfl fun j hj=>by
   match j,hj with
   |0,_=>exact (by decide:nmF≠nmI)
   |1,_=>exact (by decide:nmS≠nmI)
 split
 ·rename_i h;subst h;exact ac162_at hG nms _ (by decide) 3 (by decide) rfl fun j hj=>by
   match j,hj with
   |0,_=>exact (by decide:nmF≠nmP)
   |1,_=>exact (by decide:nmS≠nmP)
   |2,_=>exact (by decide:nmI≠nmP)
 split
 ·rename_i h;subst h;exact ac162_at hG nms _ (by decide) 4 (by decide) rfl fun j hj=>by
   match j,hj with
   |0,_=>exact (by decide:nmF≠nmW)
   |1,_=>exact (by decide:nmS≠nmW)
   |2,_=>exact (by decide:nmI≠nmW)
   |3,_=>exact (by decide:nmP≠nmW)
 rename_i h0 h1 h2 h3 h4
 exact ac162_no hG nms w (by decide) fun j hj=>by
  match j,hj with
  |0,_=>exact fun e=>h0 e.symm
  |1,_=>exact fun e=>h1 e.symm
  |2,_=>exact fun e=>h2 e.symm
  |3,_=>exact fun e=>h3 e.symm
  |4,_=>exact fun e=>h4 e.symm
theorem kind_eq (w:List UInt8):(kindO w==0)=decide (w=nmF)∧(kindO w==1)=decide (w=nmS)∧(kindO w==2)=decide (w=nmI)∧(kindO w==3)=decide (w=nmP)∧(kindO w==4)=decide (w=nmW):=by
 unfold kindO
 by_cases h0:w=nmF
 ·subst h0;decide
 by_cases h1:w=nmS
 ·subst h1;decide
 by_cases h2:w=nmI
 ·subst h2;decide
 by_cases h3:w=nmP
 ·subst h3;decide
 by_cases h4:w=nmW
 ·subst h4;decide
 simp [h0,h1,h2,h3,h4]
def sheetW (x:Sheet):List AV:=[grow 3 (ints x.widths),grow 119 (x.pairs.map pairA),.int .i64 x.olo,.int .i64 x.ohi,.int .i64 x.glo,.int .i64 x.ghi,.int .i64 x.hyphen,grow 77 (x.words.map wordA),.int .i64 x.wide,.int .i64 x.rows]
def outS:Except (List UInt8) Sheet→AOut
 |.ok x => .ret (sheetA x)
 |.error e => .panic (noTx e)
theorem ints_okV (l:List Int):elemsOK 1 (ints l)=true:=elems_map fun a=>⟨rfl,rfl⟩
theorem dem_nv (l:List Int) (m:List AV):(AV.slice (if l=[] then .nil else .view) m).dem = .slice (if l=[] then .nil else .view) m:=by split<;>rfl
theorem pairs_ok (l:List Pair):elemsOK 4 (l.map pairA)=true:=elems_map fun a=>⟨rfl,rfl⟩
theorem words_ok (l:List Word):elemsOK 3 (l.map wordA)=true:=elems_map fun a=>⟨rfl,rfl⟩
structure I119 (t:List UInt8) (L:List (List UInt8)) (j:Nat) (x:Sheet) (S:Slots) (H:Boxes):Prop where
 s0:S 0 = .str t
 s2:S 2 = .box 2 0
 e2:H 2=some (sheetW sheet0)
 s4:S 4 = .box 4 0
 e4:H 4=some (sheetW x)
 s5:S 5 = .ref (nms.map AV.str)
 s25:S 25=strs L
 s26:S 26 = .int .i64 (L.length:Nat)
 s27:S 27 = .int .i64 (j:Nat)
noncomputable def l119:ACode:=ACode.snd (ACode.snd (ACode.snd (ACode.fst (ACode.snd (ACode.snd (ACode.snd (ACode.snd (ACode.snd c119))))))))
noncomputable def b119:ACode:=ACode.snd (ACode.fst (ACode.snd (ACode.snd l119)))
noncomputable def e119:ACode:=ACode.snd (ACode.snd (ACode.snd (ACode.snd b119)))
theorem len2 {l:List Int} (h:l.length=2):∃ a b,l=[a,b]:=by
 match l,h with
 |[a,b],_=>exact ⟨a,b,rfl⟩
theorem len5 {l:List Int} (h:l.length=5):∃ a b c d e,l=[a,b,c,d,e]:=by
 match l,h with
 |[a,b,c,d,e],_=>exact ⟨a,b,c,d,e,rfl⟩
theorem len4 {l:List Int} (h:l.length=4):∃ a b c d,l=[a,b,c,d]:=by
 match l,h with
 |[a,b,c,d],_=>exact ⟨a,b,c,d,rfl⟩
theorem len1 {α:Type} {l:List α} (h:l.length=1):∃ a,l=[a]:=by
 match l,h with
 |[a],_=>exact ⟨a,rfl⟩
theorem len3 {α:Type} {l:List α} (h:l.length=3):∃ a b c,l=[a,b,c]:=by
 match l,h with
 |[a,b,c],_=>exact ⟨a,b,c,rfl⟩
set_option maxRecDepth 100000 in
set_option maxHeartbeats 8000000 in
theorem ac119 (hG:Stable GI) (hT:TB GI) (hML:ML GI) (t:List UInt8) (ht:t.length≤420):AC prog GI 119 [.str t] (outS (parsedE t)):=by
 have hsl:=splitS_len 10 t
 have hpt:∀ p∈splitS 10 t,p.length≤420:=fun p hp=>by have:=splitS_part hp;omega
 have hsum:=splitS_sum 10 t
 have a159:=ac159 hML t 10 (by omega)
 refine AC.of_SW func119 rfl ntmps119 (by simp) fun cc w => ?_
 refine SW.cut hG hmix (by kernel_rfl) (ac:=ACode.fst c119) (by kernel_rfl) (fun _ _ h=>h) (fun S' H'=>S' 0 = .str t∧S' 2 = .box 2 0∧H' 2=some (sheetW sheet0)) ?_ ?_
 ·simp [c119,ACode.fst,ops_ap,dops_ap,sheetW,sheet0,grow,ints]
 rintro S H ⟨s0,s2,e2⟩
 refine SW.cut hG hmix (by kernel_rfl) (ac:=ACode.fst (ACode.snd c119)) (by kernel_rfl) (fun _ _ h=>h) (fun S' H'=>S' 0 = .str t∧S' 2 = .box 2 0∧H' 2=some (sheetW sheet0)∧S' 3=strs (splitS 10 t)) ?_ ?_
 ·simp [c119,ACode.fst,ACode.snd,ops_ap,dops_ap,s0,s2,e2]
  refine ⟨_,by kernel_rfl,a159,by simp [boxy],?_⟩
  simp [ops_ap,dops_ap,s0,s2,e2,strs]
 clear s0 s2 e2 S H
 rintro S H ⟨s0,s2,e2,s3⟩
 have hpE:parsedE t=if (splitS 10 t).length < 2 then .error t else thenE (foldE stepE sheet0 ((splitS 10 t).take ((splitS 10 t).length - 2))) fun x=>if textT x=t then .ok x else .error t:=rfl
 rw [hpE]
 generalize splitS 10 t=R at *
 by_cases h2:R.length < 2
 ·rw [if_pos h2]
  have hlt:¬ (2:Int)≤R.length:=by omega
  refine SW.seq (SW.of_awp hG hmix (by kernel_rfl) (fun _ _ h=>h) (ac:=ACode.fst (ACode.snd (ACode.snd c119))) (by kernel_rfl) ?_)
  unfold Post.awp
  simp [c119,ACode.fst,ACode.snd,ops_ap,dops_ap,s0,s3,strs,hlt]
  refine ⟨_,by kernel_rfl,ac160f hG t,by simp [boxy],?_⟩
  simp [onOut,thenS,retS,outS,noTx]
  first | exact ⟨rfl,rfl⟩ | exact ⟨rfl,rfl,rfl⟩
 rw [if_neg h2]
 have hge:(2:Int)≤R.length:=by omega
 refine SW.cut hG hmix (by kernel_rfl) (ac:=ACode.fst (ACode.snd (ACode.snd c119))) (by kernel_rfl) (fun _ _ h=>h) (fun S' H'=>S' 0 = .str t∧S' 2 = .box 2 0∧H' 2=some (sheetW sheet0)∧S' 3=strs R) ?_ ?_
 ·simp [c119,ACode.fst,ACode.snd,ops_ap,dops_ap,s0,s2,e2,s3,strs,hge]
  refine ⟨_,by kernel_rfl,ac160 hG t,by simp [boxy],?_⟩
  simp [ops_ap,dops_ap,s0,s2,e2,s3,strs]
 clear s0 s2 e2 s3 S H
 rintro S H ⟨s0,s2,e2,s3⟩
 refine SW.cut hG hmix (by kernel_rfl) (ac:=ACode.fst (ACode.snd (ACode.snd (ACode.snd c119)))) (by kernel_rfl) (fun _ _ h=>h) (fun S' H'=>S' 0 = .str t∧S' 2 = .box 2 0∧H' 2=some (sheetW sheet0)∧S' 3=strs R∧S' 4 = .box 4 0∧H' 4=some (sheetW sheet0)) ?_ ?_
 ·simp [c119,ACode.fst,ACode.snd,ops_ap,dops_ap,s0,s2,e2,s3,strs,sheetW,sheet0,grow,ints]
 clear s0 s2 e2 s3 S H
 rintro S H ⟨s0,s2,e2,s3,s4,e4⟩
 refine SW.cut hG hmix (by kernel_rfl) (ac:=ACode.fst (ACode.snd (ACode.snd (ACode.snd (ACode.snd c119))))) (by kernel_rfl) (fun _ _ h=>h) (fun S' H'=>S' 0 = .str t∧S' 2 = .box 2 0∧H' 2=some (sheetW sheet0)∧S' 3=strs R∧S' 4 = .box 4 0∧H' 4=some (sheetW sheet0)∧S' 5 = .box 5 0∧H' 5=some (nms.map AV.str)) ?_ ?_
 ·simp [c119,ACode.fst,ACode.snd,ops_ap,dops_ap,s0,s2,e2,s3,s4,e4,strs]
  refine ⟨_,by kernel_rfl,ac161 hG,by simp [boxy],?_⟩
  simp [ops_ap,dops_ap,s0,s2,e2,s3,s4,e4,strs,nms]
 clear s0 s2 e2 s3 s4 e4 S H
 rintro S H ⟨s0,s2,e2,s3,s4,e4,s5,e5⟩
 refine SW.freeze (i:=5) e5 rfl ?_
 obtain ⟨L,hL⟩:∃ L,R.take (R.length - 2)=L:=⟨_,rfl⟩
 have hLl:L.length=R.length - 2:=by rw [← hL];simp
 rw [hL]
 have hLm:∀ p∈L,p.length≤420:=fun p hp=>hpt p (by rw [← hL] at hp;exact List.mem_of_mem_take hp)
 have hLs:(L.map fun p=>p.length+1).sum≤421:=by
  have h1:(R.map fun p=>p.length+1).sum=(L.map fun p=>p.length+1).sum+((R.drop (R.length - 2)).map fun p=>p.length+1).sum:=by
   rw [← hL,← List.sum_append,← List.map_append,List.take_append_drop]
  omega
 have hw2:IntKind.i64.wrap ((R.length:Int) - 2)=(L.length:Nat):=by rw [wrapI (by omega)];omega
 have hLn:(L.length:Int)≤R.length:=by omega
 show SW prog GI 171 none (.seq (.seq _ (.block 0 (.loop _))) (.seq _ (.seq _ .ret))) _ _ _ _
 refine SW.seq (SW.cut hG hmix (by kernel_rfl) (ac:=ACode.fst (ACode.fst (ACode.snd (ACode.snd (ACode.snd (ACode.snd (ACode.snd c119))))))) (by kernel_rfl) (fun _ _ h=>h) (I119 t L 0 sheet0) ?_ ?_)
 ·have hLt:L.length≤R.length:=by omega
  have hLtk:R.take L.length=L:=by rw [hLl];exact hL
  have hLtm:(R.map AV.str).take L.length=L.map AV.str:=by rw [← List.map_take,hLtk]
  simp [c119,ACode.fst,ACode.snd,ops_ap,dops_ap,s0,s2,e2,s3,s4,e4,s5,strs,frz,hw2,hLt,hLtk,hLn,bound,str_ok1]
  exact ⟨by simp [ops_ap,dops_ap,s0,frz],by simp [ops_ap,dops_ap,s2,frz],by simp [ops_ap,dops_ap,e2],by simp [ops_ap,dops_ap,s4,frz],by simp [ops_ap,dops_ap,e4],by simp [ops_ap,dops_ap,s5,frz,nms],by simp [ops_ap,dops_ap,strs,hLtm],by simp [ops_ap,dops_ap],by simp [ops_ap,dops_ap]⟩
 clear s0 s2 e2 s3 s4 e4 s5 e5 S H
 intro S H hI
 have hbx:∀ d,¬ (Old.plain cc w).bx d:=fun _ h=>h
 refine SW.block (SW.loop (fun o S' H'=>o=Old.plain cc w∧∃ j x,j≤L.length∧foldE stepE sheet0 (L.take j) = .ok x∧Grown 421 x j∧NumS x∧I119 t L j x S' H') (fun S' _=>match S' 27 with | .int _ j=>L.length - j.toNat | _=>0) ⟨rfl,0,sheet0,Nat.zero_le _,rfl,sheet0_grown _,sheet0_nums,hI⟩ ?_)
 clear hI S H
 rintro o S H ⟨rfl,j,x,hj,hf,hgr,hN,hI⟩
 have m27:=hI.s27
 show SW prog GI 171 none (.seq _ (.seq (.cond _ _ _) (.seq (.block 1 _) _))) _ _ _ _
 refine SW.cut hG hmix (by kernel_rfl) (ac:=ACode.fst l119) (by kernel_rfl) (fun d _=>hbx d) (fun S' H'=>S' 28 = .bool (decide (j < L.length))∧I119 t L j x S' H') ?_ ?_
 ·obtain ⟨s0,s2,e2,s4,e4,s5,s25,s26,s27⟩:=hI
  simp [c119,l119,ACode.fst,ACode.snd,ops_ap,dops_ap,s26,s27]
  exact ⟨by simp [ops_ap,dops_ap,s0],by simp [ops_ap,dops_ap,s2],e2,by simp [ops_ap,dops_ap,s4],e4,by simp [ops_ap,dops_ap,s5],by simp [ops_ap,dops_ap,s25],by simp [ops_ap,dops_ap,s26],by simp [ops_ap,dops_ap,s27]⟩
 clear hI
 rintro S H ⟨s28,hI⟩
 by_cases hlt:j < L.length
 case neg =>
  have hjl:j=L.length:=by omega
  rw [hjl,List.take_of_length_le (Nat.le_refl _)] at hf
  rw [hf]
  refine SW.seq (SW.cond rfl false (by show S 28=_;rw [s28];simp [hlt]) (SW.exit ?_))
  show SW prog GI 171 none (.seq _ (.seq _ .ret)) _ _ _ _
  obtain ⟨hgr',h5⟩:=foldE_grown (b:=421) (fun r hr=>by have:=hLm r hr;omega) (sheet0_grown _) hf
  have hfew:Few x:=⟨by have:=hgr'.widths;omega,by have:=hgr'.pairs;omega,by have:=hgr'.words;omega,fun w hw=>by have:=hgr'.signs w hw;omega,fun w hw=>by have:=hgr'.cuts w hw;omega⟩
  have a116:=ac116 hG hT x hN hfew
  obtain ⟨s0,s2,e2,s4,e4,s5,s25,s26,s27⟩:=hI
  by_cases htx:textT x=t
  case neg =>
   have hb:(textT x==t)=false:=by simpa using htx
   simp only [thenE,if_neg htx]
   refine SW.seq (SW.of_awp hG hmix (by kernel_rfl) (fun d _=>hbx d) (ac:=ACode.fst (ACode.snd (ACode.snd (ACode.snd (ACode.snd (ACode.snd (ACode.snd c119))))))) (by kernel_rfl) ?_)
   unfold Post.awp
   simp [c119,ACode.fst,ACode.snd,ops_ap,dops_ap,s0,s4,e4,sheetW,vw1_dgrow]
   refine ⟨_,by kernel_rfl,a116,by simp [boxy],?_⟩
   simp [ops_ap,dops_ap,s0,hb]
   refine ⟨_,by kernel_rfl,ac160f hG t,by simp [boxy],?_⟩
   simp [onOut,thenS,retS,outS,noTx]
   first | exact ⟨rfl,rfl⟩ | exact ⟨rfl,rfl,rfl⟩
  have hb:(textT x==t)=true:=by simpa using htx
  simp only [thenE,if_pos htx]
  refine SW.cut hG hmix (by kernel_rfl) (ac:=ACode.fst (ACode.snd (ACode.snd (ACode.snd (ACode.snd (ACode.snd (ACode.snd c119))))))) (by kernel_rfl) (fun d _=>hbx d) (fun S' H'=>S' 2 = .box 2 0∧H' 2=some (sheetW sheet0)∧S' 4 = .box 4 0∧H' 4=some (sheetW x)) ?_ ?_
  ·simp [c119,ACode.fst,ACode.snd,ops_ap,dops_ap,s0,s4,e4,sheetW,vw1_dgrow]
   refine ⟨_,by kernel_rfl,a116,by simp [boxy],?_⟩
   simp [ops_ap,dops_ap,s0,hb]
   refine ⟨_,by kernel_rfl,ac160 hG t,by simp [boxy],?_⟩
   simp [ops_ap,dops_ap,s2,e2,s4,e4,sheetW]
  clear s0 s2 e2 s4 e4 s5 s25 s26 s27 s28 m27 S H
  rintro S H ⟨s2,e2,s4,e4⟩
  refine SW.cut hG hmix (by kernel_rfl) (ac:=ACode.fst (ACode.snd (ACode.snd (ACode.snd (ACode.snd (ACode.snd (ACode.snd (ACode.snd c119)))))))) (by kernel_rfl) (fun d _=>hbx d) (fun S' H'=>S' 2 = .box 2 0∧H' 2=some ((sheetW x).map AV.dem)) ?_ ?_
  ·simp [c119,ACode.fst,ACode.snd,ops_ap,dops_ap,s2,e2,s4,e4,sheetW]
  clear s2 e2 s4 e4 S H
  rintro S H ⟨s2,e2⟩
  obtain ⟨i28,hi28,hs28⟩:=info_size (P:=prog) (t:=28) (s:=10) (by kernel_rfl)
  obtain ⟨fs,hfs⟩:=under_struct (P:=prog) (t:=28) (by kernel_rfl)
  refine SW.ret ⟨Marked.plain rfl,rfl,sheetA x,?_,rfl⟩
  show ares prog 171 [.cell 2 28] S H=_
  simp [ares,aress,ares1,s2,e2,hi28,hfs,hs28,loadA,aggT,sheetW,AV.out,vw1_dgrow,AV.isData,AV.vw,vw1_s,dem_s,sheetA,sheetL,vI]
 case pos =>
  obtain ⟨r,hr⟩:∃ r,L[j]=r:=⟨_,rfl⟩
  have hrl:r.length≤420:=by rw [← hr];exact hLm _ (List.getElem_mem hlt)
  have a159r:=ac159 hML r 32 (by omega)
  refine SW.seq (SW.cond rfl true (by show S 28=_;rw [s28];simp [hlt]) (SW.skip ?_))
  clear s28
  show SW prog GI 171 none (.seq (.block 1 (.seq _ (.seq _ (.seq _ (.block 2 _))))) _) _ _ _ _
  refine SW.seq (SW.block (SW.cut hG hmix (by kernel_rfl) (ac:=ACode.fst b119) (by kernel_rfl) (fun d _=>hbx d) (fun S' H'=>S' 7 = .str r∧I119 t L j x S' H') ?_ ?_))
  ·obtain ⟨s0,s2,e2,s4,e4,s5,s25,s26,s27⟩:=hI
   simp [c119,l119,b119,ACode.fst,ACode.snd,ops_ap,dops_ap,s25,s27,strs,hlt,hr]
   exact ⟨by simp [ops_ap,dops_ap,s0],by simp [ops_ap,dops_ap,s2],e2,by simp [ops_ap,dops_ap,s4],e4,by simp [ops_ap,dops_ap,s5],by simp [ops_ap,dops_ap,s25],by simp [ops_ap,dops_ap,s26],by simp [ops_ap,dops_ap,s27]⟩
  clear hI
  rintro S H ⟨s7,hI⟩
  obtain ⟨nm,tl,hws⟩:∃ nm tl,splitS 32 r=nm::tl:=by
   cases hs:splitS 32 r with
   |nil=>exact absurd hs (splitS_ne 32 r)
   |cons a l=>exact ⟨a,l,rfl⟩
  have hwl:tl.length≤421:=by have:=splitS_len 32 r;rw [hws] at this;simp at this;omega
  have hwp:∀ p∈tl,p.length≤420:=fun p hp=>by have:=splitS_part (c:=32) (l:=r) (p:=p) (by rw [hws];exact List.mem_cons_of_mem _ hp);omega
  rw [hws] at a159r
  refine SW.cut hG hmix (by kernel_rfl) (ac:=ACode.fst (ACode.snd b119)) (by kernel_rfl) (fun d _=>hbx d) (fun S' H'=>S' 7 = .str r∧S' 8=strs (nm::tl)∧I119 t L j x S' H') ?_ ?_
  ·obtain ⟨s0,s2,e2,s4,e4,s5,s25,s26,s27⟩:=hI
   simp [c119,l119,b119,ACode.fst,ACode.snd,ops_ap,dops_ap,s7]
   refine ⟨_,by kernel_rfl,a159r,by simp [boxy],?_⟩
   simp [ops_ap,dops_ap,s7,strs]
   exact ⟨by simp [ops_ap,dops_ap,s0],by simp [ops_ap,dops_ap,s2],e2,by simp [ops_ap,dops_ap,s4],e4,by simp [ops_ap,dops_ap,s5],by simp [ops_ap,dops_ap,s25],by simp [ops_ap,dops_ap,s26],by simp [ops_ap,dops_ap,s27]⟩
  clear hI s7 S H
  rintro S H ⟨s7,s8,hI⟩
  refine SW.cut hG hmix (by kernel_rfl) (ac:=ACode.fst (ACode.snd (ACode.snd b119))) (by kernel_rfl) (fun d _=>hbx d) (fun S' H'=>S' 7 = .str r∧S' 8=strs (nm::tl)∧S' 9 = .int .i64 (kindO nm)∧I119 t L j x S' H') ?_ ?_
  ·obtain ⟨s0,s2,e2,s4,e4,s5,s25,s26,s27⟩:=hI
   have a162:=ac162k (GI:=GI) hG nm
   simp only [strs,nms,List.map_cons,List.map_nil] at a162
   simp [c119,l119,b119,ACode.fst,ACode.snd,ops_ap,dops_ap,s7,s8,s5,strs,nms]
   refine ⟨_,by kernel_rfl,a162,by simp [boxy],?_⟩
   simp [ops_ap,dops_ap,s7,s8,strs]
   exact ⟨by simp [ops_ap,dops_ap,s0],by simp [ops_ap,dops_ap,s2],e2,by simp [ops_ap,dops_ap,s4],e4,by simp [ops_ap,dops_ap,s5,nms],by simp [ops_ap,dops_ap,s25,strs],by simp [ops_ap,dops_ap,s26],by simp [ops_ap,dops_ap,s27]⟩
  clear hI s7 s8 S H
  rintro S H ⟨s7,s8,s9,hI⟩
  refine SW.block (SW.mono (Q:=fun e o S' H'=>o=Old.plain cc w∧match e with | .normal=>∃ y,stepE x r = .ok y∧I119 t L j y S' H' | .panic v=>∃ er,stepE x r = .error er∧v=noTx er | _=>False) ?_ ?_)
  ·rintro e o S' H' ⟨rfl,h⟩
   cases e with
   |normal =>
    obtain ⟨y,hy,hI⟩:=h
    have hf':=foldE_succ hlt hf
    rw [hr,hy] at hf'
    show SW prog GI 171 none _ _ _ _ _
    refine SW.of_awp hG hmix (by kernel_rfl) (fun d _=>hbx d) (ac:=ACode.snd (ACode.snd (ACode.snd l119))) (by kernel_rfl) ?_
    unfold Post.awp
    obtain ⟨s0,s2,e2,s4,e4,s5,s25,s26,s27⟩:=hI
    have hwr:IntKind.i64.wrap ((j:Int)+1)=j+1:=wrapI (by omega)
    simp [c119,l119,b119,ACode.fst,ACode.snd,ops_ap,dops_ap,s27,hwr,thenS]
    refine ⟨⟨j+1,by omega,y,hf',(stepE_grown (by omega) hgr hy).1,stepE_nums hN hy,by simp [ops_ap,dops_ap,s0],by simp [ops_ap,dops_ap,s2],e2,by simp [ops_ap,dops_ap,s4],e4,by simp [ops_ap,dops_ap,s5],by simp [ops_ap,dops_ap,s25],by simp [ops_ap,dops_ap,s26],by simp [ops_ap,dops_ap]⟩,?_⟩
    rw [m27]
    show L.length - ((j:Int)+1).toNat < L.length - (j:Int).toNat
    omega
   |panic v =>
    obtain ⟨er,he,rfl⟩:=h
    have hst:=foldE_stop hlt hf (by rw [hr];exact he)
    rw [hst]
    exact ⟨rfl,rfl,rfl⟩
   |exit id=>exact h.elim
   |ret=>exact h.elim
  have hbx':∀ d∈([]:List Nat),¬ (Old.plain cc w).bx d:=fun d _=>hbx d
  obtain ⟨k0,k1,k2,k3,k4⟩:=kind_eq nm
  have hst:stepE x r=(if nm=nmF∧tl.length=2 then thenE (givenE tl) fun n => .ok { x with wide:=at' n 0,rows:=at' n 1 }
   else if nm=nmS∧tl.length=5 then thenE (givenE tl) fun n => .ok { x with olo:=at' n 0,ohi:=at' n 1,glo:=at' n 2,ghi:=at' n 3,hyphen:=at' n 4 }
   else if nm=nmI∧tl.length=1 then thenE (givenE tl) fun n => .ok { x with widths:=x.widths++n }
   else if nm=nmP∧tl.length=4 then thenE (givenE tl) fun n => .ok { x with pairs:=x.pairs++[⟨at' n 0,at' n 1,at' n 2,at' n 3⟩] }
   else if nm=nmW∧tl.length=3 then thenE (listedE (tl[1]?.getD [])) fun a=>thenE (listedE (tl[2]?.getD [])) fun b => .ok { x with words:=x.words++[⟨a,b,tl[0]?.getD []==[121,101,115]⟩] }
   else .error r):=by unfold stepE;rw [hws];rfl
  generalize stepE x r=st at *
  have a163:=ac163g (GI:=GI) hG hT (ws:=tl) (by omega)
  generalize kindO nm=kd at *
  have hokw:elemsOK 1 (AV.str nm::tl.map AV.str)=true:=str_ok1 (nm::tl)
  have hb1:(1:Int)≤(tl.length:Int)+1:=by omega
  have hb2:((tl.length:Int)+1).toNat=tl.length+1:=by omega
  have hb3:(tl.map AV.str).take tl.length=tl.map AV.str:=List.take_of_length_le (by simp)
  show SW prog GI 171 none (.seq _ (.cond _ _ _)) _ _ _ _
  refine SW.cut hG hmix (by kernel_rfl) (ac:=ACode.fst (e119)) (by kernel_rfl) (fun d _=>hbx d) (fun S' H'=>S' 40 = .bool (decide (nm=nmF∧tl.length=2))∧S' 7 = .str r∧S' 8=strs (nm::tl)∧S' 9 = .int .i64 kd∧I119 t L j x S' H') ?_ ?_
  ·have hl:((tl.length:Int)+1==3)=decide (tl.length=2):=by rw [Bool.eq_iff_iff];simp;omega
   obtain ⟨s0,s2,e2,s4,e4,s5,s25,s26,s27⟩:=hI
   by_cases h:nm=nmF
   ·have hk:kd=0:=by simpa [h] using k0
    simp [c119,l119,b119,e119,ACode.fst,ACode.snd,ops_ap,dops_ap,s7,s8,s9,strs,hk,hl,h]
    exact ⟨by simp [ops_ap,dops_ap,s0],by simp [ops_ap,dops_ap,s2],e2,by simp [ops_ap,dops_ap,s4],e4,by simp [ops_ap,dops_ap,s5],by simp [ops_ap,dops_ap,s25,strs],by simp [ops_ap,dops_ap,s26],by simp [ops_ap,dops_ap,s27]⟩
   ·have hk:(kd==0)=false:=by rw [k0];simpa using h
    simp [c119,l119,b119,e119,ACode.fst,ACode.snd,ops_ap,dops_ap,s7,s8,s9,strs,hk,h]
    exact ⟨by simp [ops_ap,dops_ap,s0],by simp [ops_ap,dops_ap,s2],e2,by simp [ops_ap,dops_ap,s4],e4,by simp [ops_ap,dops_ap,s5],by simp [ops_ap,dops_ap,s25,strs],by simp [ops_ap,dops_ap,s26],by simp [ops_ap,dops_ap,s27]⟩
  clear hI s7 s8 s9
  rintro S H ⟨sc,s7,s8,s9,hI⟩
  by_cases h0:nm=nmF∧tl.length=2
  case pos =>
   rw [if_pos h0] at hst
   refine SW.cond rfl true (by show S 40=_;rw [sc];simp [h0]) ?_
   obtain ⟨s0,s2,e2,s4,e4,s5,s25,s26,s27⟩:=hI
   refine SW.of_awp hG hmix (by kernel_rfl) (fun d _=>hbx d) (ac:=ACode.fst (ACode.snd (e119))) (by kernel_rfl) ?_
   unfold Post.awp
   cases hg:givenE tl with
   |error er =>
    rw [hg] at a163 hst
    simp [c119,l119,b119,e119,ACode.fst,ACode.snd,ops_ap,dops_ap,s8,strs,bound,hokw,hb1,hb2,hb3]
    refine ⟨_,by kernel_rfl,a163,by simp [boxy],?_⟩
    simp [onOut,outG]
    exact ⟨er,hst,rfl⟩
   |ok l =>
    rw [hg] at a163 hst
    obtain ⟨a,b,rfl⟩:=len2 (by rw [givenE_len hg];exact h0.2)
    simp [c119,l119,b119,e119,ACode.fst,ACode.snd,ops_ap,dops_ap,s8,strs,bound,hokw,hb1,hb2,hb3]
    refine ⟨_,by kernel_rfl,a163,by simp [boxy],?_⟩
    simp [ops_ap,dops_ap,outG,ints,s4,e4,sheetW]
    refine ⟨_,hst,by simp [ops_ap,dops_ap,s0],by simp [ops_ap,dops_ap,s2],by first | exact e2 | simp [ops_ap,dops_ap,e2],by simp [ops_ap,dops_ap,s4],by simp [ops_ap,dops_ap,e4,sheetW,at',ints,grow],by simp [ops_ap,dops_ap,s5],by simp [ops_ap,dops_ap,s25,strs],by simp [ops_ap,dops_ap,s26],by simp [ops_ap,dops_ap,s27]⟩
  rw [if_neg h0] at hst
  refine SW.cond rfl false (by show S 40=_;rw [sc];simp [h0]) ?_
  clear sc
  show SW prog GI 171 none (.seq _ (.cond _ _ _)) _ _ _ _
  refine SW.cut hG hmix (by kernel_rfl) (ac:=ACode.fst (ACode.snd (ACode.snd (e119)))) (by kernel_rfl) (fun d _=>hbx d) (fun S' H'=>S' 59 = .bool (decide (nm=nmS∧tl.length=5))∧S' 7 = .str r∧S' 8=strs (nm::tl)∧S' 9 = .int .i64 kd∧I119 t L j x S' H') ?_ ?_
  ·have hl:((tl.length:Int)+1==6)=decide (tl.length=5):=by rw [Bool.eq_iff_iff];simp;omega
   obtain ⟨s0,s2,e2,s4,e4,s5,s25,s26,s27⟩:=hI
   by_cases h:nm=nmS
   ·have hk:kd=1:=by simpa [h] using k1
    simp [c119,l119,b119,e119,ACode.fst,ACode.snd,ops_ap,dops_ap,s7,s8,s9,strs,hk,hl,h]
    exact ⟨by simp [ops_ap,dops_ap,s0],by simp [ops_ap,dops_ap,s2],e2,by simp [ops_ap,dops_ap,s4],e4,by simp [ops_ap,dops_ap,s5],by simp [ops_ap,dops_ap,s25,strs],by simp [ops_ap,dops_ap,s26],by simp [ops_ap,dops_ap,s27]⟩
   ·have hk:(kd==1)=false:=by rw [k1];simpa using h
    simp [c119,l119,b119,e119,ACode.fst,ACode.snd,ops_ap,dops_ap,s7,s8,s9,strs,hk,h]
    exact ⟨by simp [ops_ap,dops_ap,s0],by simp [ops_ap,dops_ap,s2],e2,by simp [ops_ap,dops_ap,s4],e4,by simp [ops_ap,dops_ap,s5],by simp [ops_ap,dops_ap,s25,strs],by simp [ops_ap,dops_ap,s26],by simp [ops_ap,dops_ap,s27]⟩
  clear hI s7 s8 s9
  rintro S H ⟨sc,s7,s8,s9,hI⟩
  by_cases h1:nm=nmS∧tl.length=5
  case pos =>
   rw [if_pos h1] at hst
   refine SW.cond rfl true (by show S 59=_;rw [sc];simp [h1]) ?_
   obtain ⟨s0,s2,e2,s4,e4,s5,s25,s26,s27⟩:=hI
   refine SW.of_awp hG hmix (by kernel_rfl) (fun d _=>hbx d) (ac:=ACode.fst (ACode.snd (ACode.snd (ACode.snd (e119))))) (by kernel_rfl) ?_
   unfold Post.awp
   cases hg:givenE tl with
   |error er =>
    rw [hg] at a163 hst
    simp [c119,l119,b119,e119,ACode.fst,ACode.snd,ops_ap,dops_ap,s8,strs,bound,hokw,hb1,hb2,hb3]
    refine ⟨_,by kernel_rfl,a163,by simp [boxy],?_⟩
    simp [onOut,outG]
    exact ⟨er,hst,rfl⟩
   |ok l =>
    rw [hg] at a163 hst
    obtain ⟨a,b,c,d,e,rfl⟩:=len5 (by rw [givenE_len hg];exact h1.2)
    refine awp_cut (fun S' H'=>S' 11 = .slice .view [.int .i64 a,.int .i64 b,.int .i64 c,.int .i64 d,.int .i64 e]∧I119 t L j x S' H') ?_ ?_
    ·simp [c119,l119,b119,e119,ACode.fst,ACode.snd,ops_ap,dops_ap,s8,strs,bound,hokw,hb1,hb2,hb3]
     refine ⟨_,by kernel_rfl,a163,by simp [boxy],?_⟩
     simp [ops_ap,dops_ap,outG,ints]
     exact ⟨by simp [ops_ap,dops_ap,s0],by simp [ops_ap,dops_ap,s2],e2,by simp [ops_ap,dops_ap,s4],e4,by simp [ops_ap,dops_ap,s5],by simp [ops_ap,dops_ap,s25,strs],by simp [ops_ap,dops_ap,s26],by simp [ops_ap,dops_ap,s27]⟩
    clear s0 s2 e2 s4 e4 s5 s25 s26 s27 s7 s8 s9 sc S H
    rintro S H ⟨sl,s0,s2,e2,s4,e4,s5,s25,s26,s27⟩
    simp [ops_ap,dops_ap,sl,s4,e4,sheetW,fillA]
    refine ⟨_,hst,by simp [ops_ap,dops_ap,s0],by simp [ops_ap,dops_ap,s2],by first | exact e2 | simp [ops_ap,dops_ap,e2],by simp [ops_ap,dops_ap,s4],by simp [ops_ap,dops_ap,e4,sheetW,at',ints,grow],by simp [ops_ap,dops_ap,s5],by simp [ops_ap,dops_ap,s25,strs],by simp [ops_ap,dops_ap,s26],by simp [ops_ap,dops_ap,s27]⟩
  rw [if_neg h1] at hst
  refine SW.cond rfl false (by show S 59=_;rw [sc];simp [h1]) ?_
  clear sc
  show SW prog GI 171 none (.seq _ (.cond _ _ _)) _ _ _ _
  refine SW.cut hG hmix (by kernel_rfl) (ac:=ACode.fst (ACode.snd (ACode.snd (ACode.snd (ACode.snd (e119)))))) (by kernel_rfl) (fun d _=>hbx d) (fun S' H'=>S' 90 = .bool (decide (nm=nmI∧tl.length=1))∧S' 7 = .str r∧S' 8=strs (nm::tl)∧S' 9 = .int .i64 kd∧I119 t L j x S' H') ?_ ?_
  ·have hl:((tl.length:Int)+1==2)=decide (tl.length=1):=by rw [Bool.eq_iff_iff];simp;omega
   obtain ⟨s0,s2,e2,s4,e4,s5,s25,s26,s27⟩:=hI
   by_cases h:nm=nmI
   ·have hk:kd=2:=by simpa [h] using k2
    simp [c119,l119,b119,e119,ACode.fst,ACode.snd,ops_ap,dops_ap,s7,s8,s9,strs,hk,hl,h]
    exact ⟨by simp [ops_ap,dops_ap,s0],by simp [ops_ap,dops_ap,s2],e2,by simp [ops_ap,dops_ap,s4],e4,by simp [ops_ap,dops_ap,s5],by simp [ops_ap,dops_ap,s25,strs],by simp [ops_ap,dops_ap,s26],by simp [ops_ap,dops_ap,s27]⟩
   ·have hk:(kd==2)=false:=by rw [k2];simpa using h
    simp [c119,l119,b119,e119,ACode.fst,ACode.snd,ops_ap,dops_ap,s7,s8,s9,strs,hk,h]
    exact ⟨by simp [ops_ap,dops_ap,s0],by simp [ops_ap,dops_ap,s2],e2,by simp [ops_ap,dops_ap,s4],e4,by simp [ops_ap,dops_ap,s5],by simp [ops_ap,dops_ap,s25,strs],by simp [ops_ap,dops_ap,s26],by simp [ops_ap,dops_ap,s27]⟩
  clear hI s7 s8 s9
  rintro S H ⟨sc,s7,s8,s9,hI⟩
  by_cases h2:nm=nmI∧tl.length=1
  case pos =>
   rw [if_pos h2] at hst
   refine SW.cond rfl true (by show S 90=_;rw [sc];simp [h2]) ?_
   obtain ⟨s0,s2,e2,s4,e4,s5,s25,s26,s27⟩:=hI
   obtain ⟨w1,hw1⟩:=len1 h2.2
   have hok1:elemsOK 1 [AV.str w1]=true:=rfl
   refine SW.drawF hG hmix [6] [0,1,2,3,4,5,6,7,8,9] (by kernel_rfl) (by kernel_rfl) (l:=ACode.dl (ACode.fst (ACode.snd (ACode.snd (ACode.snd (ACode.snd (ACode.snd (e119)))))))) (by kernel_rfl) (((ACode.dl (ACode.fst (ACode.snd (ACode.snd (ACode.snd (ACode.snd (ACode.snd (e119)))))))).take 6).map (fun o=>(false,o))++((true,⟨some 104,none,.call 163 [.t 103]⟩)::((ACode.dl (ACode.fst (ACode.snd (ACode.snd (ACode.snd (ACode.snd (ACode.snd (e119)))))))).drop 7).map fun o=>(false,o))) (by kernel_rfl) ?_
   refine dopsM_pre _ ?_
   simp [c119,l119,b119,e119,ACode.fst,ACode.snd,ops_ap,dops_ap,ACode.dl,s4,e4,s8,hw1,strs,sheetW,hok1]
   rw [hw1] at a163 hst
   refine dopsM_call (by simp [ops_ap,dops_ap]) (by kernel_rfl) (by simpa [ops_ap,dops_ap,strs] using a163) ?_
   cases hg:givenE [w1] with
   |error er =>
    rw [hg] at hst
    exact ⟨er,hst,rfl⟩
   |ok l =>
    rw [hg] at hst
    obtain ⟨a,rfl⟩:=len1 (givenE_len hg)
    simp only [outG]
    refine dopsM_end [⟨some 105,none,.append 22 3 1 8 (.t 99) (.t 104)⟩,⟨some 106,none,.fieldAddr 0 (.t 4)⟩,⟨none,none,.store (.box 4) 1 (.t 106) (.t 105)⟩] ?_
    simp
    refine dops_app (ints x.widths) (.int .i64 a) .view (by simp) (by simp [ints]) rfl (ints_okV x.widths) (by rw [ints_len];have:=hgr.widths;omega) ?_
    intro S' sd hk'
    simp [sd,hk',s4,e4,sheetW]
    refine ⟨_,hst,by simp [ops_ap,dops_ap,hk',s0],by simp [ops_ap,dops_ap,hk',s2],by first | exact e2 | simp [ops_ap,dops_ap,e2],by simp [ops_ap,dops_ap,hk',s4],by simp [ops_ap,dops_ap,e4,sheetW,ints,grow],by simp [ops_ap,dops_ap,hk',s5],by simp [ops_ap,dops_ap,hk',s25,strs],by simp [ops_ap,dops_ap,hk',s26],by simp [ops_ap,dops_ap,hk',s27]⟩
  rw [if_neg h2] at hst
  refine SW.cond rfl false (by show S 90=_;rw [sc];simp [h2]) ?_
  clear sc
  show SW prog GI 171 none (.seq _ (.cond _ _ _)) _ _ _ _
  refine SW.cut hG hmix (by kernel_rfl) (ac:=ACode.fst (ACode.snd (ACode.snd (ACode.snd (ACode.snd (ACode.snd (ACode.snd (e119)))))))) (by kernel_rfl) (fun d _=>hbx d) (fun S' H'=>S' 107 = .bool (decide (nm=nmP∧tl.length=4))∧S' 7 = .str r∧S' 8=strs (nm::tl)∧S' 9 = .int .i64 kd∧I119 t L j x S' H') ?_ ?_
  ·have hl:((tl.length:Int)+1==5)=decide (tl.length=4):=by rw [Bool.eq_iff_iff];simp;omega
   obtain ⟨s0,s2,e2,s4,e4,s5,s25,s26,s27⟩:=hI
   by_cases h:nm=nmP
   ·have hk:kd=3:=by simpa [h] using k3
    simp [c119,l119,b119,e119,ACode.fst,ACode.snd,ops_ap,dops_ap,s7,s8,s9,strs,hk,hl,h]
    exact ⟨by simp [ops_ap,dops_ap,s0],by simp [ops_ap,dops_ap,s2],e2,by simp [ops_ap,dops_ap,s4],e4,by simp [ops_ap,dops_ap,s5],by simp [ops_ap,dops_ap,s25,strs],by simp [ops_ap,dops_ap,s26],by simp [ops_ap,dops_ap,s27]⟩
   ·have hk:(kd==3)=false:=by rw [k3];simpa using h
    simp [c119,l119,b119,e119,ACode.fst,ACode.snd,ops_ap,dops_ap,s7,s8,s9,strs,hk,h]
    exact ⟨by simp [ops_ap,dops_ap,s0],by simp [ops_ap,dops_ap,s2],e2,by simp [ops_ap,dops_ap,s4],e4,by simp [ops_ap,dops_ap,s5],by simp [ops_ap,dops_ap,s25,strs],by simp [ops_ap,dops_ap,s26],by simp [ops_ap,dops_ap,s27]⟩
  clear hI s7 s8 s9
  rintro S H ⟨sc,s7,s8,s9,hI⟩
  by_cases h3:nm=nmP∧tl.length=4
  case pos =>
   rw [if_pos h3] at hst
   refine SW.cond rfl true (by show S 107=_;rw [sc];simp [h3]) ?_
   obtain ⟨s0,s2,e2,s4,e4,s5,s25,s26,s27⟩:=hI
   refine SW.of_awp hG hmix (by kernel_rfl) (fun d _=>hbx d) (ac:=ACode.fst (ACode.snd (ACode.snd (ACode.snd (ACode.snd (ACode.snd (ACode.snd (ACode.snd (e119))))))))) (by kernel_rfl) ?_
   unfold Post.awp
   cases hg:givenE tl with
   |error er =>
    rw [hg] at a163 hst
    simp [c119,l119,b119,e119,ACode.fst,ACode.snd,ops_ap,dops_ap,s8,strs,bound,hokw,hb1,hb2,hb3]
    refine ⟨_,by kernel_rfl,a163,by simp [boxy],?_⟩
    simp [onOut,outG]
    exact ⟨er,hst,rfl⟩
   |ok l =>
    rw [hg] at a163 hst
    obtain ⟨a,b,c,d,rfl⟩:=len4 (by rw [givenE_len hg];exact h3.2)
    simp [c119,l119,b119,e119,ACode.fst,ACode.snd,ops_ap,dops_ap,s8,strs,bound,hokw,hb1,hb2,hb3]
    refine ⟨_,by kernel_rfl,a163,by simp [boxy],?_⟩
    have hok1:elemsOK 4 [AV.agg [.int .i64 a,.int .i64 b,.int .i64 c,.int .i64 d]]=true:=rfl
    simp [outG,ints,s4,e4,sheetW,fillA,hok1]
    refine dops_app (x.pairs.map pairA) (.agg [.int .i64 a,.int .i64 b,.int .i64 c,.int .i64 d]) (.own 119) (by simp) (by simp) rfl (pairs_ok x.pairs) (by rw [List.length_map];have:=hgr.pairs;omega) ?_
    intro S' sd hk'
    simp [sd,hk',s4,e4,sheetW]
    refine ⟨_,hst,by simp [ops_ap,dops_ap,hk',s0],by simp [ops_ap,dops_ap,hk',s2],by first | exact e2 | simp [ops_ap,dops_ap,e2],by simp [ops_ap,dops_ap,hk',s4],by simp [ops_ap,dops_ap,e4,sheetW,at',pairA,ints,grow],by simp [ops_ap,dops_ap,hk',s5],by simp [ops_ap,dops_ap,hk',s25,strs],by simp [ops_ap,dops_ap,hk',s26],by simp [ops_ap,dops_ap,hk',s27]⟩
  rw [if_neg h3] at hst
  refine SW.cond rfl false (by show S 107=_;rw [sc];simp [h3]) ?_
  clear sc
  show SW prog GI 171 none (.seq _ (.cond _ _ _)) _ _ _ _
  refine SW.cut hG hmix (by kernel_rfl) (ac:=ACode.fst (ACode.snd (ACode.snd (ACode.snd (ACode.snd (ACode.snd (ACode.snd (ACode.snd (ACode.snd (e119)))))))))) (by kernel_rfl) (fun d _=>hbx d) (fun S' H'=>S' 137 = .bool (decide (nm=nmW∧tl.length=3))∧S' 7 = .str r∧S' 8=strs (nm::tl)∧S' 9 = .int .i64 kd∧I119 t L j x S' H') ?_ ?_
  ·have hl:((tl.length:Int)+1==4)=decide (tl.length=3):=by rw [Bool.eq_iff_iff];simp;omega
   obtain ⟨s0,s2,e2,s4,e4,s5,s25,s26,s27⟩:=hI
   by_cases h:nm=nmW
   ·have hk:kd=4:=by simpa [h] using k4
    simp [c119,l119,b119,e119,ACode.fst,ACode.snd,ops_ap,dops_ap,s7,s8,s9,strs,hk,hl,h]
    exact ⟨by simp [ops_ap,dops_ap,s0],by simp [ops_ap,dops_ap,s2],e2,by simp [ops_ap,dops_ap,s4],e4,by simp [ops_ap,dops_ap,s5],by simp [ops_ap,dops_ap,s25,strs],by simp [ops_ap,dops_ap,s26],by simp [ops_ap,dops_ap,s27]⟩
   ·have hk:(kd==4)=false:=by rw [k4];simpa using h
    simp [c119,l119,b119,e119,ACode.fst,ACode.snd,ops_ap,dops_ap,s7,s8,s9,strs,hk,h]
    exact ⟨by simp [ops_ap,dops_ap,s0],by simp [ops_ap,dops_ap,s2],e2,by simp [ops_ap,dops_ap,s4],e4,by simp [ops_ap,dops_ap,s5],by simp [ops_ap,dops_ap,s25,strs],by simp [ops_ap,dops_ap,s26],by simp [ops_ap,dops_ap,s27]⟩
  clear hI s7 s8 s9
  rintro S H ⟨sc,s7,s8,s9,hI⟩
  by_cases h4:nm=nmW∧tl.length=3
  case pos =>
   rw [if_pos h4] at hst
   refine SW.cond rfl true (by show S 137=_;rw [sc];simp [h4]) ?_
   obtain ⟨s0,s2,e2,s4,e4,s5,s25,s26,s27⟩:=hI
   obtain ⟨w1,w2,w3,hw3⟩:=len3 h4.2
   have hw2l:w2.length≤420:=hwp w2 (by rw [hw3];simp)
   have hw3l:w3.length≤420:=hwp w3 (by rw [hw3];simp)
   have a2:=ac164g (GI:=GI) hG hT hML w2 (by omega)
   have a3:=ac164g (GI:=GI) hG hT hML w3 (by omega)
   rw [hw3] at hst
   refine SW.drawF hG hmix [5,9] [0,1,2,3,4,6,7,8,10,11,12,13,5,9,14,15,16,17,18] (by kernel_rfl) (by kernel_rfl) (l:=ACode.dl (ACode.fst (ACode.snd (ACode.snd (ACode.snd (ACode.snd (ACode.snd (ACode.snd (ACode.snd (ACode.snd (ACode.snd (e119)))))))))))) (by kernel_rfl) (((ACode.dl (ACode.fst (ACode.snd (ACode.snd (ACode.snd (ACode.snd (ACode.snd (ACode.snd (ACode.snd (ACode.snd (ACode.snd (e119)))))))))))).take 5++((ACode.dl (ACode.fst (ACode.snd (ACode.snd (ACode.snd (ACode.snd (ACode.snd (ACode.snd (ACode.snd (ACode.snd (ACode.snd (e119)))))))))))).drop 6).take 3++((ACode.dl (ACode.fst (ACode.snd (ACode.snd (ACode.snd (ACode.snd (ACode.snd (ACode.snd (ACode.snd (ACode.snd (ACode.snd (e119)))))))))))).drop 10).take 4).map (fun o=>(false,o))++((true,⟨some 150,none,.call 164 [.t 149]⟩)::(true,⟨some 154,none,.call 164 [.t 153]⟩)::((ACode.dl (ACode.fst (ACode.snd (ACode.snd (ACode.snd (ACode.snd (ACode.snd (ACode.snd (ACode.snd (ACode.snd (ACode.snd (e119)))))))))))).drop 14).map fun o=>(false,o))) (by kernel_rfl) ?_
   refine dopsM_pre _ ?_
   simp [c119,l119,b119,e119,ACode.fst,ACode.snd,ops_ap,dops_ap,ACode.dl,s4,e4,s8,hw3,strs,sheetW]
   refine dopsM_call (by simp [ops_ap,dops_ap]) (by kernel_rfl) (by simpa [ops_ap,dops_ap] using a2) ?_
   cases hg2:listedE w2 with
   |error er =>
    have hst:st = .error er:=by rw [hst];simp [hg2,thenE]
    exact ⟨er,hst,rfl⟩
   |ok l2 =>
    simp only [outG]
    refine dopsM_call (by simp [ops_ap,dops_ap]) (by kernel_rfl) (by simpa [ops_ap,dops_ap] using a3) ?_
    cases hg3:listedE w3 with
    |error er =>
     have hst:st = .error er:=by rw [hst];simp [hg2,hg3,thenE]
     exact ⟨er,hst,rfl⟩
    |ok l3 =>
     have hst:st = .ok { x with words:=x.words++[⟨l2,l3,w1==[121,101,115]⟩] }:=by rw [hst];simp [hg2,hg3,thenE]
     simp only [outG]
     refine dopsM_end [⟨some 159,none,.build [.slice .nil [],.slice .nil [],.bool false] [(0,1,.t 150),(1,1,.t 154),(2,1,.t 158)]⟩,⟨some 160,none,.buildSlice 26 77 3 [.t 159]⟩,⟨some 161,none,.append 26 77 3 56 (.t 146) (.t 160)⟩,⟨some 162,none,.fieldAddr 7 (.t 4)⟩,⟨none,none,.store (.box 4) 1 (.t 162) (.t 161)⟩] ?_
     have hok1:elemsOK 3 [AV.agg [.slice .view (ints l2),.slice .view (ints l3),.bool (w1==[121,101,115])]]=true:=rfl
     generalize hb1:(w1==[121,101,115])=bb at *
     simp [fillA,hb1,dem_nv,hok1]
     refine dops_app (x.words.map wordA) (wordA ⟨l2,l3,bb⟩) (.own 77) (by simp) (by simp [wordA,vI]) rfl (words_ok x.words) (by rw [List.length_map];have:=hgr.words;omega) ?_
     intro S' sd hk'
     simp [sd,hk',s4,e4,sheetW]
     refine ⟨_,hst,by simp [ops_ap,dops_ap,hk',s0],by simp [ops_ap,dops_ap,hk',s2],by first | exact e2 | simp [ops_ap,dops_ap,e2],by simp [ops_ap,dops_ap,hk',s4],by simp [ops_ap,dops_ap,e4,sheetW,wordA,vI,ints,grow],by simp [ops_ap,dops_ap,hk',s5],by simp [ops_ap,dops_ap,hk',s25,strs],by simp [ops_ap,dops_ap,hk',s26],by simp [ops_ap,dops_ap,hk',s27]⟩
  rw [if_neg h4] at hst
  refine SW.cond rfl false (by show S 137=_;rw [sc];simp [h4]) ?_
  clear sc
  refine SW.of_awp hG hmix (by kernel_rfl) (fun d _=>hbx d) (ac:=ACode.snd (ACode.snd (ACode.snd (ACode.snd (ACode.snd (ACode.snd (ACode.snd (ACode.snd (ACode.snd (ACode.snd (e119))))))))))) (by kernel_rfl) ?_
  unfold Post.awp
  simp [c119,l119,b119,e119,ACode.fst,ACode.snd,ops_ap,dops_ap,s7]
  refine ⟨_,by kernel_rfl,ac160f hG r,by simp [boxy],?_⟩
  simp [onOut]
  exact ⟨r,hst,rfl⟩
end Go.Proofs.Tryz
namespace Go.Proofs.Tryz
open Go Go.AL Go.RowKit Go.Proofs
attribute [local simp] awp_all qs_all ops_all dops_all ops_nil dops_nil ops_call ops_callv ops_alloc ops_box dops_call dops_alloc kO_eq kD_eq awanted apure ev Eff.S Eff.H tmpOf upd putD AL.start AV.dem AV.cells AV.storable AV.scells splice scrub abin loadA HR.okB post ares aress ares1 AV.out AV.isData ints_len ints_get fz fz1 AV.vw AV.vw1 boxy vI int undefA assignQ thenQ blockQ seqQ panQ prol prolH allocOf
variable {GI:World→Prop}
def zeroS:List AV:=[.slice .nil [],.slice .nil [],.int .i64 0,.int .i64 0,.int .i64 0,.int .i64 0,.int .i64 0,.slice .nil [],.int .i64 0,.int .i64 0]
set_option maxRecDepth 100000 in
theorem ac68e (hG:Stable GI) {s e:List UInt8} (hs:s.length≤320) (h119:AC prog GI 119 [.str s] (.panic (noTx e))):AC prog GI 68 [.str s] (.ret (.tup [sheetA sheet0,.int .i64 4])):=by
 refine AC.of_SW func68 rfl ntmps68 (by simp) fun cc w => ?_
 refine SW.cut hG hmix (by kernel_rfl) (ac:=ACode.fst c68) (by kernel_rfl) (fun _ _ h=>h) (fun S' H'=>S' 1 = .box 1 0∧S' 2 = .box 2 0∧H' 1=some [.str s]∧∃ z,H' 2=some z∧z.length=10) ?_ ?_
 ·simp [c68,ACode.fst,awp,aops,awanted,astep,apure,ev,Eff.S,Eff.H,upd,putD,AL.start,AV.dem,AV.cells,AV.storable,scrub,tmpOf,assignQ]
 rintro S1 H1 ⟨s1,s2,h1,z2,h2,hz2⟩
 refine SW.seq (SW.cut hG hmix (by kernel_rfl) (ac:=ACode.fst (ACode.fst (ACode.snd c68))) (by kernel_rfl) (fun _ _ h=>h) (fun S' H'=>S' 1 = .box 1 0∧S' 2 = .box 2 0∧H' 1=some [.str s]∧H' 2=some z2∧S' 8 = .bool false) ?_ ?_)
 ·have hs':¬ (320:Int) < s.length:=by omega
  simp [c68,ACode.fst,ACode.snd,awp,aops,awanted,astep,apure,ev,Eff.S,Eff.H,upd,putD,s1,s2,h1,h2,loadA,HR.okB,AV.dem,abin,hs',assignQ]
 rintro S2 H2 ⟨s1,s2,h1,h2,s8⟩
 refine SW.cond rfl false (by show S2 8=_;rw [s8]) (SW.skip ?_)
 show SW prog GI 21 none (.seq _ (.seq (.seq _ (.seq _ (.cond _ _ _))) (.seq (.seq _ (.cond _ _ _)) (.seq _ .ret)))) _ _ _ _
 refine SW.cut hG hmix (by kernel_rfl) (ac:=ACode.fst (ACode.snd (ACode.snd c68))) (by kernel_rfl) (fun _ _ h=>h) (fun S' H'=>S' 1 = .box 1 0∧S' 2 = .box 2 0∧S' 4 = .box 4 0∧H' 1=some [.str s]∧H' 2=some z2∧∃ z,H' 4=some z∧z.length=10) ?_ ?_
 ·simp [c68,ACode.fst,ACode.snd,awp,aops,awanted,astep,upd,scrub,s1,s2,h1,h2,assignQ]
 rintro S3 H3 ⟨s1,s2,s4,h1,h2,z4,h4,hz4⟩
 refine SW.seq (SW.seq (SW.hand hG (p:=0) (lm:=[0,1]) (l2:=[2]) (os1:=[]) (oh:=[_,_]) (os2:=[_]) rfl rfl rfl rfl (by kernel_rfl) (fun _ h=>h) (al1:=[]) (al2:=(ACode.dl (ACode.fst (ACode.fst (ACode.snd (ACode.snd (ACode.snd c68)))))).drop 2) rfl (by kernel_rfl) rfl (by kernel_rfl)
  (K1:=fun S' H'=>S' 1 = .box 1 0∧S' 2 = .box 2 0∧S' 4 = .box 4 0∧H' 1=some [.str s]∧H' 2=some z2∧H' 4=some z4)
  (K2:=fun o S' H'=>o=Old.plain cc w∧S' 2 = .box 2 0∧S' 4 = .box 4 0∧S' 11 = .int .i64 4∧H' 2=some z2∧H' 4=some z4)
  (K3:=fun o S' H'=>o=Old.plain cc w∧S' 2 = .box 2 0∧S' 4 = .box 4 0∧S' 5 = .int .i64 4∧H' 2=some z2∧H' 4=some z4) ⟨s1,s2,s4,h1,h2,h4⟩ ?_ ?_ ?_))
 ·rintro w0 g S5 H5 a w5 m hG0 ho R ⟨s1,s2,s4,h1,h2,h4⟩
  have hsz:=R.size
  refine opIn_val rfl rfl (by rfl) (run_mkf (fn := .func 118) (c := #[.tmp 1,.tmp 4]) rfl) ?_
  obtain ⟨fv,hfv⟩:∃ fv:Value,fv = .func (.func 118) #[] (#[Operand.tmp 1,.tmp 4].map a.eval):=⟨_,rfl⟩
  show wpOpsIn _ _ _ _ _ [1] (a.put (some 10) (.func (.func 118) #[] (#[Operand.tmp 1,.tmp 4].map a.eval))) w5
  rw [← hfv]
  have R1:=R.put 10 .junk fv (by decide) (.junk _) trivial
  obtain ⟨a1,ha1⟩:∃ a1,a.put (some 10) fv=a1:=⟨_,rfl⟩
  rw [ha1] at R1 ⊢
  have hfv2:fv = .func (.func 118) #[] #[a1.tmps.getD 1 undef,a1.tmps.getD 4 undef]:=by
   have e1:=put_get a 10 1 fv (by omega)
   have e4:=put_get a 10 4 fv (by omega)
   rw [if_neg (by decide),ha1] at e1 e4
   have e1':a1.tmps.getD 1 undef=a.eval (.tmp 1):=e1
   have e4':a1.tmps.getD 4 undef=a.eval (.tmp 4):=e4
   rw [e1',e4',hfv]
   simp only [List.map_toArray,List.map_cons,List.map_nil]
  have e10:a1.eval (.tmp 10)=fv:=by rw [← ha1,put_get _ _ _ _ (by omega),if_pos rfl]
  refine opIn_call rfl rfl (by rfl) (run_callF (k:=117) (args := #[.func (.func 118) #[] #[a1.tmps.getD 1 undef,a1.tmps.getD 4 undef]]) w5 rfl rfl ?_ (by kernel_rfl)) (calls117p hG hG0 R1 (i1:=1) (i4:=4) (by decide) (by decide) (by simp [upd,s1]) h1 (by simp [upd,s4]) h4 h119) ?_
  ·simp only [List.map_toArray,List.map_cons,List.map_nil,e10,← hfv2]
  ·rintro e w6 ⟨rfl,g',ho',R2⟩
   refine ⟨_,rfl,?_⟩
   have R3:=R2.put 11 (.int .i64 4) (.int .i64 4) (by decide) (.data _ _ (.int _ _)) trivial
   refine ⟨g',_,H5,R3,ho'.trans ho,?_,?_,upd_same _ _ _,h2,h4⟩
   ·simp [upd,s2]
   ·simp [upd,s4]
 ·rintro o S5 H5 ⟨rfl,s2,s4,s11,h2,h4⟩
  refine ⟨fun _ h=>h,?_⟩
  simp [c68,ACode.fst,ACode.snd,ACode.dl,aops,awanted,astep,apure,ev,Eff.S,Eff.H,upd,putD,s2,s4,s11,h2,h4,AV.dem,tmpOf]
 ·rintro o S5 H5 ⟨rfl,s2,s4,s5,h2,h4⟩
  refine SW.cut hG hmix (by kernel_rfl) (ac:=ACode.fst (ACode.snd (ACode.fst (ACode.snd (ACode.snd (ACode.snd c68)))))) (by kernel_rfl) (fun _ _ h=>h) (fun S' H'=>S' 2 = .box 2 0∧S' 5 = .int .i64 4∧S' 13 = .bool true∧H' 2=some z2) ?_ ?_
  ·simp [c68,ACode.fst,ACode.snd,awp,aops,awanted,astep,apure,ev,Eff.S,Eff.H,upd,putD,s2,s4,s5,h2,h4,AV.dem,abin,assignQ]
  rintro S6 H6 ⟨s2,s5,s13,h2⟩
  refine SW.cond rfl true (by show S6 13=_;rw [s13]) ?_
  show SW prog GI 21 none (.seq _ .ret) _ _ _ _
  have hdz:List.drop 10 z2=[]:=List.drop_eq_nil_of_le (by omega)
  refine SW.cut hG hmix (by kernel_rfl) (ac:=ACode.fst (ACode.fst (ACode.snd (ACode.snd (ACode.fst (ACode.snd (ACode.snd (ACode.snd c68)))))))) (by kernel_rfl) (fun _ _ h=>h) (fun S' H'=>S' 2 = .box 2 0∧S' 3 = .int .i64 4∧H' 2=some zeroS) ?_ ?_
  ·simp [c68,ACode.fst,ACode.snd,s2,s5,h2,fillA,zeroS,hz2,hdz]
  rintro S8 H8 ⟨s2,s3,h2⟩
  obtain ⟨i28,hi28,hs28⟩:=info_size (P:=prog) (t:=28) (s:=10) (by kernel_rfl)
  obtain ⟨fs,hfs⟩:=under_struct (P:=prog) (t:=28) (by kernel_rfl)
  refine SW.ret ⟨Marked.plain rfl,rfl,_,?_,rfl⟩
  show ares prog 21 [.cell 2 28,.tmp 3] S8 H8=_
  simp [ares,aress,ares1,s2,s3,h2,hi28,hfs,hs28,loadA,aggT,AV.out,zeroS,AV.dem,AV.isData,AV.vw,AV.vw1,sheetA,sheetL,sheet0,vI,ints]
set_option maxRecDepth 100000 in
theorem ac68n (hG:Stable GI) {s:List UInt8} {x:List AV} (hs:s.length≤320) (hx:x.length=10) (h119:AC prog GI 119 [.str s] (.ret (.agg x))) (h96:AC prog GI 96 [.agg (x.map AV.vw1)] (.ret (.bool false))) :
  AC prog GI 68 [.str s] (.ret (.tup [sheetA sheet0,.int .i64 2])):=by
 refine AC.of_SW func68 rfl ntmps68 (by simp) fun cc w => ?_
 refine SW.cut hG hmix (by kernel_rfl) (ac:=ACode.fst c68) (by kernel_rfl) (fun _ _ h=>h) (fun S' H'=>S' 1 = .box 1 0∧S' 2 = .box 2 0∧H' 1=some [.str s]∧∃ z,H' 2=some z∧z.length=10) ?_ ?_
 ·simp [c68,ACode.fst,awp,aops,awanted,astep,apure,ev,Eff.S,Eff.H,upd,putD,AL.start,AV.dem,AV.cells,AV.storable,scrub,tmpOf,assignQ]
 rintro S1 H1 ⟨s1,s2,h1,z2,h2,hz2⟩
 refine SW.seq (SW.cut hG hmix (by kernel_rfl) (ac:=ACode.fst (ACode.fst (ACode.snd c68))) (by kernel_rfl) (fun _ _ h=>h) (fun S' H'=>S' 1 = .box 1 0∧S' 2 = .box 2 0∧H' 1=some [.str s]∧H' 2=some z2∧S' 8 = .bool false) ?_ ?_)
 ·have hs':¬ (320:Int) < s.length:=by omega
  simp [c68,ACode.fst,ACode.snd,awp,aops,awanted,astep,apure,ev,Eff.S,Eff.H,upd,putD,s1,s2,h1,h2,loadA,HR.okB,AV.dem,abin,hs',assignQ]
 rintro S2 H2 ⟨s1,s2,h1,h2,s8⟩
 refine SW.cond rfl false (by show S2 8=_;rw [s8]) (SW.skip ?_)
 show SW prog GI 21 none (.seq _ (.seq (.seq _ (.seq _ (.cond _ _ _))) (.seq (.seq _ (.cond _ _ _)) (.seq _ .ret)))) _ _ _ _
 refine SW.cut hG hmix (by kernel_rfl) (ac:=ACode.fst (ACode.snd (ACode.snd c68))) (by kernel_rfl) (fun _ _ h=>h) (fun S' H'=>S' 1 = .box 1 0∧S' 2 = .box 2 0∧S' 4 = .box 4 0∧H' 1=some [.str s]∧H' 2=some z2∧∃ z,H' 4=some z∧z.length=10) ?_ ?_
 ·simp [c68,ACode.fst,ACode.snd,awp,aops,awanted,astep,upd,scrub,s1,s2,h1,h2,assignQ]
 rintro S3 H3 ⟨s1,s2,s4,h1,h2,z4,h4,hz4⟩
 refine SW.seq (SW.seq (SW.hand hG (p:=0) (lm:=[0,1]) (l2:=[2]) (os1:=[]) (oh:=[_,_]) (os2:=[_]) rfl rfl rfl rfl (by kernel_rfl) (fun _ h=>h) (al1:=[]) (al2:=(ACode.dl (ACode.fst (ACode.fst (ACode.snd (ACode.snd (ACode.snd c68)))))).drop 2) rfl (by kernel_rfl) rfl (by kernel_rfl)
  (K1:=fun S' H'=>S' 1 = .box 1 0∧S' 2 = .box 2 0∧S' 4 = .box 4 0∧H' 1=some [.str s]∧H' 2=some z2∧H' 4=some z4)
  (K2:=fun o S' H'=>o=Old.plain cc w∧S' 2 = .box 2 0∧S' 4 = .box 4 0∧S' 11 = .int .i64 0∧H' 2=some z2∧H' 4=some (x.map AV.dem))
  (K3:=fun o S' H'=>o=Old.plain cc w∧S' 2 = .box 2 0∧S' 4 = .box 4 0∧S' 5 = .int .i64 0∧H' 2=some z2∧H' 4=some (x.map AV.dem)) ⟨s1,s2,s4,h1,h2,h4⟩ ?_ ?_ ?_))
 ·rintro w0 g S5 H5 a w5 m hG0 ho R ⟨s1,s2,s4,h1,h2,h4⟩
  have hsz:=R.size
  refine opIn_val rfl rfl (by rfl) (run_mkf (fn := .func 118) (c := #[.tmp 1,.tmp 4]) rfl) ?_
  obtain ⟨fv,hfv⟩:∃ fv:Value,fv = .func (.func 118) #[] (#[Operand.tmp 1,.tmp 4].map a.eval):=⟨_,rfl⟩
  show wpOpsIn _ _ _ _ _ [1] (a.put (some 10) (.func (.func 118) #[] (#[Operand.tmp 1,.tmp 4].map a.eval))) w5
  rw [← hfv]
  have R1:=R.put 10 .junk fv (by decide) (.junk _) trivial
  obtain ⟨a1,ha1⟩:∃ a1,a.put (some 10) fv=a1:=⟨_,rfl⟩
  rw [ha1] at R1 ⊢
  have hfv2:fv = .func (.func 118) #[] #[a1.tmps.getD 1 undef,a1.tmps.getD 4 undef]:=by
   have e1:=put_get a 10 1 fv (by omega)
   have e4:=put_get a 10 4 fv (by omega)
   rw [if_neg (by decide),ha1] at e1 e4
   have e1':a1.tmps.getD 1 undef=a.eval (.tmp 1):=e1
   have e4':a1.tmps.getD 4 undef=a.eval (.tmp 4):=e4
   rw [e1',e4',hfv]
   simp only [List.map_toArray,List.map_cons,List.map_nil]
  have e10:a1.eval (.tmp 10)=fv:=by rw [← ha1,put_get _ _ _ _ (by omega),if_pos rfl]
  refine opIn_call rfl rfl (by rfl) (run_callF (k:=117) (args := #[.func (.func 118) #[] #[a1.tmps.getD 1 undef,a1.tmps.getD 4 undef]]) w5 rfl rfl ?_ (by kernel_rfl)) (calls117 hG hG0 R1 (d:=11) (i1:=1) (i4:=4) (by decide) (by decide) (by decide) (by decide) (by simp [upd,s1]) h1 (by simp [upd,s4]) h4 hz4 hx h119) ?_
  ·simp only [List.map_toArray,List.map_cons,List.map_nil,e10,← hfv2]
  ·rintro e w6 ⟨rfl,c,g',S',H',ho',R2,hS',hH'⟩
   refine ⟨_,rfl,?_⟩
   have R3:=R2.put 11 (.int .i64 0) (.int .i64 0) (by decide) (.data _ _ (.int _ _)) trivial
   rw [put_put] at R3
   refine ⟨g',_,H',R3,ho'.trans ho,?_,?_,upd_same _ _ _,?_,?_⟩
   ·show upd S' 11 _ 2=_
    rw [upd_ne _ _ (by decide),hS' 2 (by decide)];simp [upd,s2]
   ·show upd S' 11 _ 4=_
    rw [upd_ne _ _ (by decide),hS' 4 (by decide)];simp [upd,s4]
   ·rw [hH',upd_ne _ _ (by decide)];exact h2
   ·rw [hH'];exact upd_same _ _ _
 ·rintro o S5 H5 ⟨rfl,s2,s4,s11,h2,h4⟩
  refine ⟨fun _ h=>h,?_⟩
  simp [c68,ACode.fst,ACode.snd,ACode.dl,aops,awanted,astep,apure,ev,Eff.S,Eff.H,upd,putD,s2,s4,s11,h2,h4,AV.dem,tmpOf]
 ·rintro o S5 H5 ⟨rfl,s2,s4,s5,h2,h4⟩
  refine SW.cut hG hmix (by kernel_rfl) (ac:=ACode.fst (ACode.snd (ACode.fst (ACode.snd (ACode.snd (ACode.snd c68)))))) (by kernel_rfl) (fun _ _ h=>h) (fun S' H'=>S' 2 = .box 2 0∧S' 4 = .box 4 0∧S' 13 = .bool false∧H' 2=some z2∧H' 4=some (x.map AV.dem)) ?_ ?_
  ·simp [c68,ACode.fst,ACode.snd,awp,aops,awanted,astep,apure,ev,Eff.S,Eff.H,upd,putD,s2,s4,s5,h2,h4,AV.dem,abin,assignQ]
  rintro S6 H6 ⟨s2,s4,s13,h2,h4⟩
  refine SW.cond rfl false (by show S6 13=_;rw [s13]) (SW.skip ?_)
  have ht10:List.take 10 (x.map AV.dem)=x.map AV.dem:=List.take_of_length_le (by simp;omega)
  have e7:∀ (l:List AV) H,fz H (.agg (l.map AV.dem)) = .agg (l.map AV.vw1):=fun l H=>by simp only [fz,fz1,AV.vw,List.map_map,vw1_dem]
  refine SW.seq (SW.cut hG hmix (by kernel_rfl) (ac:=ACode.fst (ACode.fst (ACode.snd (ACode.snd (ACode.snd (ACode.snd c68)))))) (by kernel_rfl) (fun _ _ h=>h) (fun S' H'=>S' 2 = .box 2 0∧S' 18 = .bool true∧H' 2=some z2) ?_ ?_)
  ·simp [c68,ACode.fst,ACode.snd,awp,aops,awanted,astep,apure,ev,Eff.S,Eff.H,upd,putD,s2,s4,h2,h4,loadA,HR.okB,hx,dem_dem,ht10,e7,assignQ,-fz]
   refine ⟨_,by kernel_rfl,h96,by simp [boxy],?_⟩
   simp [onOut,upd,s2,s4,h2,h4]
  rintro S7 H7 ⟨s2,s18,h2⟩
  refine SW.cond rfl true (by show S7 18=_;rw [s18]) ?_
  show SW prog GI 21 none (.seq _ .ret) _ _ _ _
  have hdz:List.drop 10 z2=[]:=List.drop_eq_nil_of_le (by omega)
  refine SW.cut hG hmix (by kernel_rfl) (ac:=ACode.fst (ACode.fst (ACode.snd (ACode.fst (ACode.snd (ACode.snd (ACode.snd (ACode.snd c68)))))))) (by kernel_rfl) (fun _ _ h=>h) (fun S' H'=>S' 2 = .box 2 0∧S' 3 = .int .i64 2∧H' 2=some zeroS) ?_ ?_
  ·simp [c68,ACode.fst,ACode.snd,s2,h2,fillA,zeroS,hz2,hdz]
  rintro S8 H8 ⟨s2,s3,h2⟩
  obtain ⟨i28,hi28,hs28⟩:=info_size (P:=prog) (t:=28) (s:=10) (by kernel_rfl)
  obtain ⟨fs,hfs⟩:=under_struct (P:=prog) (t:=28) (by kernel_rfl)
  refine SW.ret ⟨Marked.plain rfl,rfl,_,?_,rfl⟩
  show ares prog 21 [.cell 2 28,.tmp 3] S8 H8=_
  simp [ares,aress,ares1,s2,s3,h2,hi28,hfs,hs28,loadA,aggT,AV.out,zeroS,AV.dem,AV.isData,AV.vw,AV.vw1,sheetA,sheetL,sheet0,vI,ints]
def readO (t:List UInt8):AV:=if 320 < t.length then .tup [sheetA sheet0,.int .i64 3] else match parsedE t with
 |.error _ => .tup [sheetA sheet0,.int .i64 4]
 |.ok x=>if sheetI x then .tup [sheetA x,.int .i64 0] else .tup [sheetA sheet0,.int .i64 2]
theorem parsedE_slim {t:List UInt8} (ht:t.length≤420) {x:Sheet} (h:parsedE t = .ok x):Slim x:=by
 have hpE:parsedE t=if (splitS 10 t).length < 2 then .error t else thenE (foldE stepE sheet0 ((splitS 10 t).take ((splitS 10 t).length - 2))) fun x=>if textT x=t then .ok x else .error t:=rfl
 rw [hpE] at h
 split at h
 ·cases h
 obtain ⟨y,hy,h⟩:=thenE_ok h
 split at h
 case isFalse=>cases h
 cases h
 have hl:=splitS_len 10 t
 obtain ⟨hg,_⟩:=foldE_grown (b:=421) (fun r hr=>by have:=splitS_part (c:=10) (List.mem_of_mem_take hr);omega) (sheet0_grown _) hy
 have hL:((splitS 10 t).take ((splitS 10 t).length - 2)).length≤421:=by rw [List.length_take];omega
 exact ⟨by have:=hg.widths;omega,by have:=hg.pairs;omega,by have:=hg.words;omega,fun w hw=>by have:=hg.signs w hw;omega,fun w hw=>by have:=hg.cuts w hw;omega⟩
theorem sheetL_vw1 (x:Sheet):(sheetL x).map AV.vw1=sheetL x:=rfl
theorem ac68g (hG:Stable GI) (hT:TB GI) (hML:ML GI) (t:List UInt8) (ht:t.length≤420):AC prog GI 68 [.str t] (.ret (readO t)):=by
 unfold readO
 by_cases hl:320 < t.length
 ·rw [if_pos hl]
  have hlI:(320:Int) < t.length:=by omega
  obtain ⟨i28,hi28,hs28⟩:=info_size (P:=prog) (t:=28) (s:=10) (by kernel_rfl)
  obtain ⟨fs,hfs⟩:=under_struct (P:=prog) (t:=28) (by kernel_rfl)
  refine AC.of_body hG hmix func68 rfl ntmps68 (by simp) (ac:=c68) (by kernel_rfl) ?_
  simp [c68,hlI,fillA,hi28,hfs,hs28,aggT,sheetA,sheetL,sheet0,ints]
 rw [if_neg hl]
 have a119:=ac119 hG hT hML t ht
 cases hp:parsedE t with
 |error e =>
  rw [hp] at a119
  exact ac68e hG (by omega) a119
 |ok x =>
  rw [hp] at a119
  have hs:=parsedE_slim ht hp
  have a96:=ac96 hG x hs
  simp only
  cases hsh:sheetI x with
  |true =>
   rw [hsh] at a96
   have:=ac68 hG (s:=t) (x:=sheetL x) (by omega) rfl a119 (by rw [sheetL_vw1];exact a96)
   rw [sheetL_vw1] at this
   exact this
  |false =>
   rw [hsh] at a96
   exact ac68n hG (by omega) (x:=sheetL x) rfl a119 (by rw [sheetL_vw1];exact a96)
end Go.Proofs.Tryz
namespace Go.Proofs.Tryz
open Go Go.AL Go.RowKit Go.Proofs
attribute [local simp] awp_all qs_all ops_all dops_all ops_nil dops_nil ops_call ops_callv ops_alloc ops_box dops_call dops_alloc kO_eq kD_eq awanted apure ev Eff.S Eff.H tmpOf upd putD AL.start AV.dem AV.cells AV.storable AV.scells splice scrub abin loadA HR.okB post ares aress ares1 AV.out AV.isData ints_len ints_get fz fz1 AV.vw AV.vw1 boxy vI int undefA assignQ thenQ blockQ seqQ panQ prol prolH allocOf
variable {GI:World→Prop}
theorem ac165z (hG:Stable GI) {z:Int} (h1 : -999≤z) (h2:z≤999):AC prog GI 165 [.int .i64 z] (.ret (.str (decZ z))):=by
 unfold decZ
 by_cases h:z < 0
 ·rw [if_pos h]
  have a:=ac165m (GI:=GI) hG 3 (-z).toNat (by omega) (by omega) (by omega)
  have e : -(((-z).toNat:Nat):Int)=z:=by omega
  have e2:(((-z).toNat:Nat):Int) = -z:=by omega
  rw [e,e2] at a
  exact a
 ·rw [if_neg h];exact ac165 hG ⟨by omega,h2⟩
def restO (w:List UInt8):List UInt8:=match w with
 |b::l=>if b=45 then l else b::l
 |[]=>[]
def sgO (w:List UInt8):Int:=match w with
 |b::_=>if b=45 then -1 else 1
 |[]=>1
def digB (c:UInt8):Bool := !(decide ((c.toNat:Int) < 48) || decide ((c.toNat:Int) > 57))
def numO (w:List UInt8):Int×Bool :=
 if (restO w).length < 1∨(restO w).length > 3 then (0,false)
 else if (restO w).all digB then (sgO w * numV (restO w),decZ (sgO w * numV (restO w))==w)
 else (0,false)
theorem digB_iff {c:UInt8}:digB c=true↔digit c:=by unfold digB digit;simp;omega
set_option maxHeartbeats 2000000 in
theorem ac176 (hG:Stable GI) (w:List UInt8) (hw:w.length < 1000000):AC prog GI 176 [.str w,.int .i64 3] (.ret (.tup [.int .i64 (numO w).1,.bool (numO w).2])):=by
 refine AC.of_body hG hmix func176 rfl ntmps176 (by simp) (ac:=c176) (by kernel_rfl) ?_
 refine awp_cut (fun S H=>S 0 = .str w∧S 1 = .int .i64 3) (by simp) ?_
 rintro S H ⟨s0,s1⟩
 refine awp_cut (fun S H=>S 0 = .str w∧S 1 = .int .i64 3∧S 6 = .int .i64 1∧S 7 = .str w) (by simp [s0,s1]) ?_
 clear s0 s1 S H
 rintro S H ⟨s0,s1,s6,s7⟩
 refine awp_cut (fun S H=>S 0 = .str w∧S 1 = .int .i64 3∧S 6 = .int .i64 (sgO w)∧S 7 = .str (restO w)) ?_ ?_
 ·cases w with
  |nil=>simp [s0,s1,s6,s7,restO,sgO]
  |cons b l =>
   have hl:(0:Int) < l.length+1:=by omega
   have hl1:(1:Int)≤l.length+1:=by omega
   have hl':((l.length:Int)+1 > 0):=by omega
   by_cases hb:b=45
   ·subst hb
    simp [s0,s1,s6,s7,restO,sgO,hl,hl',hl1,bound]
   ·have hbn:((b.toNat:Int)==45)=false:=by
     rw [beq_eq_false_iff_ne]
     exact fun e=>hb (UInt8.toNat_inj.1 (by simpa using (by omega:b.toNat=45)))
    simp [s0,s1,s6,s7,restO,sgO,hl,hl',hb,hbn]
 clear s0 s1 s6 s7 S H
 rintro S H ⟨s0,s1,s6,s7⟩
 have hsg:sgO w=1∨sgO w = -1:=by
  unfold sgO
  cases w with
  |nil=>exact .inl rfl
  |cons b l=>by_cases hb:b=45<;>simp [hb]
 unfold numO
 generalize restO w=r at *
 generalize sgO w=sg at *
 by_cases hlen:r.length < 1∨r.length > 3
 ·rw [if_pos hlen]
  rcases hlen with h | h
  ·have h':(r.length:Int) < 1:=by omega
   simp [s0,s1,s6,s7,h,h']
  ·have h':¬ (r.length:Int) < 1:=by omega
   have h2:(3:Int) < r.length:=by omega
   have h3:((r.length:Int) > 3):=by omega
   simp [s0,s1,s6,s7,h',h2,h3]
 rw [if_neg hlen]
 obtain ⟨o,ho⟩:∃ o,(if r.all digB=true then (sg * numV r,decZ (sg * numV r)==w) else ((0:Int),false))=o:=⟨_,rfl⟩
 rw [ho]
 have h1:¬ (r.length:Int) < 1:=by omega
 have h2:¬ (3:Int) < r.length:=by omega
 have h3:¬ ((r.length:Int) > 3):=by omega
 refine awp_cut (fun S H=>S 0 = .str w∧S 1 = .int .i64 3∧S 6 = .int .i64 sg∧S 7 = .str r) (by simp [s0,s1,s6,s7,h1,h2,h3]) ?_
 clear s0 s1 s6 s7 S H
 rintro S H ⟨s0,s1,s6,s7⟩
 refine awp_cut (fun S H=>S 0 = .str w∧S 6 = .int .i64 sg∧S 7 = .str r∧S 8 = .int .i64 0) (by simp [s0,s1,s6,s7]) ?_
 clear s0 s1 s6 s7 S H
 rintro S H ⟨s0,s6,s7,s8⟩
 simp [s0,s6,s7,s8]
 refine awp_loop 9 r.length (fun i S H=>S 0 = .str w∧S 6 = .int .i64 sg∧S 7 = .str r∧S 9 = .int .i64 (i:Nat)∧S 8 = .int .i64 (numV (r.take i))∧(r.take i).all digB=true) (fun i S H h=>h.2.2.2.1) ⟨by simp [s0],by simp [s6],by simp [s7],by simp,by simp [s8,numV],by simp⟩ ?_
 clear s0 s6 s7 s8 S H
 rintro i hi S H ⟨s0,s6,s7,s9,s8,hall⟩
 by_cases hlt:i < r.length
 case neg =>
  have hil:i=r.length:=by omega
  subst hil
  rw [List.take_of_length_le (Nat.le_refl _)] at s8 hall
  have hv:=numV_range r (fun c hc=>digB_iff.1 (List.all_eq_true.1 hall c hc)) (by omega)
  rw [if_pos hall] at ho
  generalize numV r=v at *
  have hz1 : -999≤sg * v:=by rcases hsg with rfl | rfl<;>omega
  have hz2:sg * v≤999:=by rcases hsg with rfl | rfl<;>omega
  have hwz:IntKind.i64.wrap (sg * v)=sg * v:=wrapI (by omega)
  have a:=ac165z (GI:=GI) hG hz1 hz2
  subst ho
  simp [s0,s6,s7,s8,s9,hwz]
  refine ⟨_,by kernel_rfl,a,by simp [boxy],?_⟩
  simp [s0,s6,s7,s8,s9]
 have hwi:IntKind.i64.wrap ((i:Int)+1)=i+1:=wrapI (by omega)
 by_cases hd:digB r[i]=true
 ·obtain ⟨d1,d2⟩:=digB_iff.1 hd
  have hall2:(r.take (i+1)).all digB=true:=by
   rw [List.take_succ_eq_append_getElem hlt,List.all_append,hall]
   simp [hd]
  have hv:=numV_range (r.take i) (fun c hc=>digB_iff.1 (List.all_eq_true.1 hall c hc)) (by rw [List.length_take];omega)
  have hvs:numV (r.take (i+1))=10 * numV (r.take i)+((r[i].toNat:Int) - 48):=by
   rw [List.take_succ_eq_append_getElem hlt,numV_snoc]
  rw [hvs]
  generalize numV (r.take i)=v at *
  generalize hy:r[i].toNat=y at *
  have e1:¬ (y:Int) < 48:=by omega
  have e2:¬ (57:Int) < y:=by omega
  have e3:IntKind.u8.wrap ((y:Int) - 48)=y - 48:=wrap8 (by omega)
  have e4:IntKind.i64.wrap ((y:Int) - 48)=y - 48:=wrapI (by omega)
  have e5:IntKind.i64.wrap (10 * v)=10 * v:=wrapI (by omega)
  have e6:IntKind.i64.wrap (10 * v+((y:Int) - 48))=10 * v+(y - 48):=wrapI (by omega)
  simp only [List.all_eq_true] at hall2
  simp [s0,s6,s7,s8,s9,hlt,hwi,hy,e1,e2,e3,e4,e5,e6]
  exact hall2
 ·have hna:r.all digB=false:=by
   rw [← Bool.not_eq_true]
   exact fun h=>hd (List.all_eq_true.1 h _ (List.getElem_mem hlt))
  rw [hna] at ho
  have ho:o=(0,false):=by simpa using ho.symm
  subst ho
  have hd:digB r[i]=false:=by simpa using hd
  unfold digB at hd
  by_cases hq:(r[i].toNat:Int) < 48
  ·have hq':r[i].toNat < 48:=by omega
   simp [s0,s6,s7,s8,s9,hlt,hq,hq']
  ·have hq2:(57:Int) < r[i].toNat:=by simp at hd;omega
   have hq':¬ r[i].toNat < 48:=by omega
   have hq3:57 < r[i].toNat:=by omega
   simp [s0,s6,s7,s8,s9,hlt,hq,hq',hq2,hq3]
end Go.Proofs.Tryz
namespace Go.Proofs.Tryz
open Go Go.AL Go.RowKit Go.Proofs
attribute [local simp] awp_all qs_all ops_allN dops_allN ops_nil dops_nil ops_call ops_callv ops_alloc ops_box dops_call dops_alloc kO_eq kD_eq awanted apure ev Eff.S Eff.H tmpOf upd putD AL.start AV.dem AV.cells AV.storable AV.scells splice scrub abin loadA HR.okB post ares aress ares1 AV.out AV.isData ints_len ints_get fz fz1 AV.vw AV.vw1 boxy vI int undefA assignQ thenQ blockQ seqQ panQ prol prolH allocOf
variable {GI:World→Prop}
def numsO (ws:List (List UInt8)):AV:=if ws.all (fun w=>(numO w).2)=true then .tup [.slice .view (ints (ws.map fun w=>(numO w).1)),.bool true] else .tup [.slice .view [],.bool false]
theorem int_ok1 (l:List Int):elemsOK 1 (ints l)=true:=elems_map fun a=>⟨rfl,rfl⟩
set_option maxHeartbeats 2000000 in
theorem ac166 (hG:Stable GI) (ws:List (List UInt8)) (hl:ws.length < 1000000) (hw:∀ w∈ws,w.length < 1000000):AC prog GI 166 [strs ws,.int .i64 3] (.ret (numsO ws)):=by
 obtain ⟨o,ho⟩:∃ o,numsO ws=o:=⟨_,rfl⟩
 rw [ho]
 unfold numsO at ho
 refine AC.of_body hG hmix func166 rfl ntmps166 (by simp) (ac:=c166) (by kernel_rfl) ?_
 refine awp_cut (fun S H=>S 0=strs ws∧S 1 = .int .i64 3) (by simp [ops_ap,dops_ap,strs]) ?_
 rintro S H ⟨s0,s1⟩
 refine awp_cut (fun S H=>S 0=strs ws∧S 1 = .int .i64 3∧S 6=grow 3 (ints [])) (by simp [ops_ap,dops_ap,s0,s1,strs,grow,ints]) ?_
 clear s0 s1 S H
 rintro S H ⟨s0,s1,s6⟩
 simp [ops_ap,dops_ap,s0,s1,s6]
 refine awp_loop 7 ws.length (fun i S H=>S 0=strs ws∧S 1 = .int .i64 3∧S 7 = .int .i64 (i:Nat)∧S 6=grow 3 (ints ((ws.take i).map fun w=>(numO w).1))∧(ws.take i).all (fun w=>(numO w).2)=true) (fun i S H h=>h.2.2.1) ⟨by simp [ops_ap,dops_ap,s0],by simp [ops_ap,dops_ap,s1],by simp [ops_ap,dops_ap],by simp [ops_ap,dops_ap,s6],by simp⟩ ?_
 clear s0 s1 s6 S H
 rintro i hi S H ⟨s0,s1,s7,s6,hall⟩
 by_cases hlt:i < ws.length
 case neg =>
  have hil:i=ws.length:=by omega
  subst hil
  rw [List.take_of_length_le (Nat.le_refl _)] at s6 hall
  rw [if_pos hall] at ho
  subst ho
  by_cases h0:ws=[]
  ·subst h0
   simp [ops_ap,dops_ap,s0,s1,s7,s6,strs,grow,ints]
  ·have h0':ints (ws.map fun w=>(numO w).1)≠[]:=by simpa [ints] using h0
   simp only [grow,if_neg h0'] at s6
   generalize ints (ws.map fun w=>(numO w).1)=L at *
   simp [ops_ap,dops_ap,s0,s1,s7,s6,strs,h0]
 have hwi:IntKind.i64.wrap ((i:Int)+1)=i+1:=wrapI (by omega)
 have a:=ac176 (GI:=GI) hG ws[i] (hw _ (List.getElem_mem hlt))
 by_cases hb:(numO ws[i]).2=true
 ·have hall2:(ws.take (i+1)).all (fun w=>(numO w).2)=true:=by
   rw [List.take_succ_eq_append_getElem hlt,List.all_append,hall]
   simp [hb]
  have hm:ints ((ws.take (i+1)).map fun w=>(numO w).1)=ints ((ws.take i).map fun w=>(numO w).1)++[.int .i64 (numO ws[i]).1]:=by
   rw [List.take_succ_eq_append_getElem hlt,List.map_append]
   simp [ints]
  have hlen:(ints ((ws.take i).map fun w=>(numO w).1)).length≤ws.length:=by simp [ints];omega
  have hokL:=int_ok1 ((ws.take i).map fun w=>(numO w).1)
  rw [hb] at a
  rw [hm]
  generalize ints ((ws.take i).map fun w=>(numO w).1)=L at *
  generalize (numO ws[i]).1=n at *
  have hok1:elemsOK 1 [AV.int .i64 n]=true:=rfl
  simp [s0,s1,s7,s6,strs,hlt]
  refine ⟨_,by kernel_rfl,a,by simp [boxy],?_⟩
  simp [s0,s1,s7,s6,strs,hlt,hok1]
  refine aops_app L (.int .i64 n) (.own 3) (by simp [s6,grow]) (by simp) hok1 hokL (by omega) ?_
  intro S' sd hk'
  simp only [List.all_eq_true] at hall2
  simp [sd,hk',s0,s1,s7,hlt,hwi,strs,grow]
  exact hall2
 ·have hna:ws.all (fun w=>(numO w).2)=false:=by
   rw [← Bool.not_eq_true]
   exact fun h=>hb (List.all_eq_true.1 h _ (List.getElem_mem hlt))
  rw [hna] at ho
  have ho:o = .tup [.slice .view [],.bool false]:=by simpa using ho.symm
  subst ho
  have hb:(numO ws[i]).2=false:=by simpa using hb
  rw [hb] at a
  generalize (numO ws[i]).1=n at *
  simp [s0,s1,s7,s6,strs,hlt]
  refine ⟨_,by kernel_rfl,a,by simp [boxy],?_⟩
  simp [s0,s1,s7,s6,strs,hlt]
end Go.Proofs.Tryz
namespace Go.Proofs.Tryz
open Go Go.AL Go.RowKit Go.Proofs
attribute [local simp] awp_all qs_all ops_all dops_all ops_nil dops_nil ops_call ops_callv ops_alloc ops_box dops_call dops_alloc kO_eq kD_eq awanted apure ev Eff.S Eff.H tmpOf upd putD AL.start AV.dem AV.cells AV.storable AV.scells splice scrub abin loadA HR.okB post ares aress ares1 AV.out AV.isData ints_len ints_get fz fz1 AV.vw AV.vw1 boxy vI int undefA assignQ thenQ blockQ seqQ panQ prol prolH allocOf
variable {GI:World→Prop}
def okN (ws:List (List UInt8)):Bool:=ws.all fun w=>(numO w).2
def valN (ws:List (List UInt8)):List Int:=if okN ws then ws.map fun w=>(numO w).1 else []
def nbsO (ws:List (List UInt8)) (many:Int):Bool:=okN ws && (valN ws).all (fun n=>decide (0≤n)) && (decide (many < 0) || decide (((valN ws).length:Int)=many))
theorem numsO_eq (ws:List (List UInt8)):numsO ws = .tup [.slice .view (ints (valN ws)),.bool (okN ws)]:=by
 unfold numsO valN okN
 by_cases h:ws.all (fun w=>(numO w).2)=true
 ·rw [if_pos h,if_pos h,h]
 ·rw [if_neg h,if_neg h]
  have:ws.all (fun w=>(numO w).2)=false:=by simpa only [Bool.not_eq_true] using h
  rw [this];rfl
set_option maxHeartbeats 2000000 in
theorem ac124 (hG:Stable GI) (ws:List (List UInt8)) (hl:ws.length < 1000000) (hw:∀ w∈ws,w.length < 1000000) (many:Int):AC prog GI 124 [strs ws,.int .i64 many] (.ret (.tup [vI (valN ws),.bool (nbsO ws many)])):=by
 have a:=ac166 (GI:=GI) hG ws hl hw
 rw [numsO_eq] at a
 have hvl:(valN ws).length≤ws.length:=by unfold valN;split<;>simp
 unfold nbsO
 generalize valN ws=L at *
 generalize okN ws=b at *
 refine AC.of_body hG hmix func124 rfl ntmps124 (by simp) (ac:=c124) (by kernel_rfl) ?_
 refine awp_cut (fun S H=>S 0=strs ws∧S 1 = .int .i64 many) (by simp [strs]) ?_
 rintro S H ⟨s0,s1⟩
 refine awp_cut (fun S H=>S 1 = .int .i64 many∧S 6=vI L∧S 7 = .bool b) ?_ ?_
 ·have s0':S 0=strs ws:=s0
  generalize ho:strs ws=o at *
  have hov:fz H o=o:=by rw [← ho];rfl
  have hob:boxy o=false:=by rw [← ho];rfl
  subst ho
  simp [s0,s1,strs]
  refine ⟨_,by kernel_rfl,a,by simp [boxy],?_⟩
  simp [s1]
 clear s0 s1 S H
 rintro S H ⟨s1,s6,s7⟩
 refine awp_cut (fun S H=>S 1 = .int .i64 many∧S 6=vI L∧S 7 = .bool (b && L.all (fun n=>decide (0≤n)))) ?_ ?_
 ·simp [s1,s6,s7]
  refine awp_loop 8 L.length (fun i S H=>S 1 = .int .i64 many∧S 6=vI L∧S 8 = .int .i64 (i:Nat)∧S 7 = .bool (b && (L.take i).all (fun n=>decide (0≤n)))) (fun i S H h=>h.2.2.1) ⟨by simp [s1],by simp [s6],by simp,by simp [s7]⟩ ?_
  clear s1 s6 s7 S H
  rintro i hi S H ⟨s1,s6,s8,s7⟩
  by_cases hlt:i < L.length
  case neg =>
   have hil:i=L.length:=by omega
   subst hil
   rw [List.take_of_length_le (Nat.le_refl _)] at s7
   simp [s1,s6,s8,s7]
  have hwi:IntKind.i64.wrap ((i:Int)+1)=i+1:=wrapI (by omega)
  have ht:(b && (L.take (i+1)).all (fun n=>decide (0≤n)))=(b && (L.take i).all (fun n=>decide (0≤n)) && decide (0≤L[i])):=by
   rw [List.take_succ_eq_append_getElem hlt,List.all_append]
   simp [Bool.and_assoc]
  rw [ht]
  generalize (b && (L.take i).all (fun n=>decide (0≤n)))=c at *
  cases c
  ·simp [s1,s6,s8,s7,hlt,hwi]
  ·simp [s1,s6,s8,s7,hlt,hwi]
 clear s1 s6 s7 S H
 rintro S H ⟨s1,s6,s7⟩
 generalize (b && L.all (fun n=>decide (0≤n)))=c at *
 cases c
 ·simp [s1,s6,s7]
 ·by_cases hm:many < 0
  ·simp [s1,s6,s7,hm]
  ·simp [s1,s6,s7,hm]
   rfl
end Go.Proofs.Tryz
namespace Go.Proofs.Tryz
open Go Go.AL Go.RowKit Go.Proofs
theorem numO_given {w:List UInt8} (h:givenW w=true):numO w=(numV w,true):=by
 obtain ⟨h1,h2,h3,h4⟩:=givenW_iff.1 h
 have hn:=numV_range w h3 h2
 cases w with
 |nil=>exact (h1 rfl).elim
 |cons b l =>
  have hb:b≠45:=by
   rintro rfl
   have:=h3 45 List.mem_cons_self
   revert this;unfold digit;decide
  have hr:restO (b::l)=b::l:=by simp [restO,hb]
  have hs:sgO (b::l)=1:=by simp [sgO,hb]
  have hall:(b::l).all digB=true:=List.all_eq_true.2 fun c hc=>digB_iff.2 (h3 c hc)
  unfold numO
  rw [hr,hs,if_neg (by simp at h2 ⊢;omega),if_pos hall,Int.one_mul]
  have hz:decZ (numV (b::l))=b::l:=by unfold decZ;rw [if_neg (by omega)];exact h4
  rw [hz]
  simp
theorem given_numO {w:List UInt8} (h:(numO w).2=true) (h0:0≤(numO w).1):givenW w=true:=by
 unfold numO at h h0
 by_cases hl:(restO w).length < 1∨(restO w).length > 3
 ·rw [if_pos hl] at h;cases h
 rw [if_neg hl] at h h0
 by_cases ha:(restO w).all digB=true
 case neg=>rw [if_neg ha] at h;cases h
 rw [if_pos ha] at h h0
 have hd:∀ c∈restO w,digit c:=fun c hc=>digB_iff.1 (List.all_eq_true.1 ha c hc)
 have hv:=numV_range _ hd (by omega)
 have h:decZ (sgO w * numV (restO w))=w:=by simpa using h
 have h0:0≤sgO w * numV (restO w):=h0
 cases w with
 |nil=>simp [restO] at hl
 |cons b l =>
  by_cases hb:b=45
  ·subst hb
   have hr:restO (45::l)=l:=by simp [restO]
   have hs:sgO (45::l) = -1:=by simp [sgO]
   rw [hr] at hv
   rw [hr,hs] at h h0
   have hz:numV l=0:=by omega
   rw [hz] at h
   have:decZ (-1 * 0)=[48]:=by decide
   rw [this] at h
   cases h
  ·have hr:restO (b::l)=b::l:=by simp [restO,hb]
   have hs:sgO (b::l)=1:=by simp [sgO,hb]
   rw [hr] at hv hd hl
   rw [hr,hs,Int.one_mul] at h
   refine givenW_iff.2 ⟨by simp,by omega,hd,?_⟩
   unfold decZ at h
   rw [if_neg (by omega)] at h
   exact h
theorem nbs_given {ws:List (List UInt8)} {many:Int}:nbsO ws many=true↔ws.all givenW=true∧(many < 0∨(ws.length:Int)=many):=by
 constructor
 ·intro h
  unfold nbsO at h
  simp only [Bool.and_eq_true,Bool.or_eq_true,decide_eq_true_eq] at h
  obtain ⟨⟨h1,h2⟩,h3⟩:=h
  unfold valN at h2 h3
  rw [if_pos h1] at h2 h3
  refine ⟨List.all_eq_true.2 fun w hw => ?_,by simpa using h3⟩
  have a:=List.all_eq_true.1 h1 w hw
  have b:=List.all_eq_true.1 h2 _ (List.mem_map_of_mem hw)
  exact given_numO a (by simpa using b)
 ·rintro ⟨h1,h2⟩
  have hg:∀ w∈ws,numO w=(numV w,true):=fun w hw=>numO_given (List.all_eq_true.1 h1 w hw)
  have hok:okN ws=true:=List.all_eq_true.2 fun w hw=>by rw [hg w hw]
  unfold nbsO valN
  rw [if_pos hok]
  simp only [Bool.and_eq_true,Bool.or_eq_true,decide_eq_true_eq]
  refine ⟨⟨hok,List.all_eq_true.2 fun n hn => ?_⟩,by simpa using h2⟩
  obtain ⟨w,hw,rfl⟩:=List.mem_map.1 hn
  rw [hg w hw]
  have:=givenW_num (List.all_eq_true.1 h1 w hw)
  simpa using this.1
theorem valN_given {ws:List (List UInt8)} (h:ws.all givenW=true):valN ws=ws.map numV:=by
 have hg:∀ w∈ws,numO w=(numV w,true):=fun w hw=>numO_given (List.all_eq_true.1 h w hw)
 have hok:okN ws=true:=List.all_eq_true.2 fun w hw=>by rw [hg w hw]
 unfold valN
 rw [if_pos hok]
 exact List.map_congr_left fun w hw=>by rw [hg w hw]
end Go.Proofs.Tryz
namespace Go.Proofs.Tryz
open Go Go.AL Go.RowKit Go.Proofs
attribute [local simp] awp_all qs_all ops_all dops_all ops_nil dops_nil ops_call ops_callv ops_alloc ops_box dops_call dops_alloc kO_eq kD_eq awanted apure ev Eff.S Eff.H tmpOf upd putD AL.start AV.dem AV.cells AV.storable AV.scells splice scrub abin loadA HR.okB post ares aress ares1 AV.out AV.isData ints_len ints_get fz fz1 AV.vw AV.vw1 boxy vI int undefA assignQ thenQ blockQ seqQ panQ prol prolH allocOf
variable {GI:World→Prop}
theorem splitS_lens (c:UInt8):∀ s:List UInt8,(splitS c s).length≤s.length+1∧∀ p∈splitS c s,p.length≤s.length
 |[]=>⟨by simp [splitS],fun p hp=>by simp [splitS] at hp;simp [hp]⟩
 |b::l=>by
  obtain ⟨h1,h2⟩:=splitS_lens c l
  unfold splitS
  split
  ·refine ⟨by simp;omega,fun p hp => ?_⟩
   rcases List.mem_cons.1 hp with rfl | hp
   ·simp
   ·have:=h2 p hp;simp;omega
  ·split
   ·rename_i h;exact (splitS_ne c l h).elim
   ·rename_i q qs h
    rw [h] at h1 h2
    refine ⟨by simp at h1 ⊢;omega,fun p hp => ?_⟩
    rcases List.mem_cons.1 hp with rfl | hp
    ·have:=h2 q List.mem_cons_self;simp;omega
    ·have:=h2 p (List.mem_cons_of_mem _ hp);simp;omega
def lstO (w:List UInt8):List Int×Bool:=if w=[45] then ([],true) else (valN (splitS 44 w),nbsO (splitS 44 w) (-1))
theorem ac125 (hG:Stable GI) (w:List UInt8) (hw:w.length < 500000):AC prog GI 125 [.str w] (.ret (.tup [vI (lstO w).1,.bool (lstO w).2])):=by
 unfold lstO
 by_cases h:w=[45]
 ·subst h
  rw [if_pos rfl]
  refine AC.of_body hG hmix func125 rfl ntmps125 (by simp) (ac:=c125) (by kernel_rfl) ?_
  simp [c125,ints]
 rw [if_neg h]
 have hb:(w==[45])=false:=by simpa using h
 obtain ⟨l1,l2⟩:=splitS_lens 44 w
 have a:=ac123 (GI:=GI) hG w 44 (by omega)
 have b:=ac124 (GI:=GI) hG (splitS 44 w) (by omega) (fun p hp=>by have:=l2 p hp;omega) (-1)
 have e:((44:UInt8).toNat:Int)=44:=rfl
 rw [e] at a
 generalize splitS 44 w=ps at *
 generalize valN ps=L at *
 generalize nbsO ps (-1)=c at *
 have b2:AC prog GI 124 [.slice .view (ps.map .str),.int .i64 (-1)] (.ret (.tup [vI L,.bool c])):=b
 have a2:AC prog GI 123 [.str w,.int .u8 44] (.ret (.slice .view (ps.map .str))):=a
 generalize ps.map AV.str=X at *
 refine AC.of_body hG hmix func125 rfl ntmps125 (by simp) (ac:=c125) (by kernel_rfl) ?_
 simp [c125,hb]
 refine ⟨_,by kernel_rfl,a2,by simp [boxy],?_⟩
 simp
 refine ⟨_,by kernel_rfl,b2,by simp [boxy],?_⟩
 simp
theorem lst_listed {w:List UInt8}:listedR w=if (lstO w).2=true then .ok (lstO w).1 else .error []:=by
 unfold listedR lstO
 by_cases h:w=[45]
 ·rw [if_pos h,if_pos h];rfl
 ·rw [if_neg h,if_neg h]
  have hn:nbsO (splitS 44 w) (-1)=true↔(splitS 44 w).all givenW=true:=by rw [nbs_given];simp
  by_cases hg:(splitS 44 w).all givenW=true
  ·rw [if_pos hg,if_pos (hn.2 hg),valN_given hg]
  ·rw [if_neg hg,if_neg (fun e=>hg (hn.1 e))]
end Go.Proofs.Tryz
namespace Go.Proofs.Tryz
open Go Go.AL Go.RowKit Go.Proofs
attribute [local simp] awp_all qs_all ops_allN dops_allN ops_nil dops_nil ops_call ops_callv ops_alloc ops_box dops_call dops_alloc kO_eq kD_eq awanted apure ev Eff.S Eff.H tmpOf upd putD AL.start AV.cells AV.storable AV.scells splice scrub abin loadA HR.okB post ares aress ares1 AV.out AV.isData ints_len ints_get fz fz1 AV.vw boxy vI int undefA assignQ thenQ blockQ seqQ panQ prol prolH allocOf dem_s vw1_s vw1_dgrow
variable {GI:World→Prop}
theorem numsE_nbs (ws:List (List UInt8)) (m:Nat):numsE ws m=if nbsO ws m=true then .ok (valN ws) else .error []:=by
 unfold numsE
 by_cases h:nbsO ws m=true
 ·obtain ⟨h1,h2⟩:=nbs_given.1 h
  have h3:ws.length=m:=by omega
  rw [if_pos ⟨h1,h3⟩,if_pos h,valN_given h1]
 ·rw [if_neg h,if_neg]
  rintro ⟨h1,h2⟩
  exact h (nbs_given.2 ⟨h1,.inr (by omega)⟩)
def outR:Except (List UInt8) Sheet→AV
 |.ok x => .tup [sheetA x,.bool true]
 |.error _ => .tup [sheetA sheet0,.bool false]
theorem sheetW_zero:sheetW sheet0=zeroS:=by simp [sheetW,sheet0,zeroS,grow,ints]
theorem split_cons (c:UInt8) (r:List UInt8):∃ nm tl,splitS c r=nm::tl:=by
 cases hs:splitS c r with
 |nil=>exact absurd hs (splitS_ne c r)
 |cons a l=>exact ⟨a,l,rfl⟩
theorem awp_pickT {c:Opd} {x y z:ACode} {Q:AExit→Slots→Boxes→Prop} {S:Slots} {H:Boxes} (h:ev S c = .bool true) (hx:awp prog GI x (seqQ prog GI y Q) S H):awp prog GI (.seq (.cond c x z) y) Q S H:=by
 simp only [awp,h];exact hx
theorem awp_fin {x:ACode} {Q:AExit→Slots→Boxes→Prop} {S:Slots} {H:Boxes} (K:Slots→Boxes→Prop) (hx:awp prog GI x (assignQ K) S H) (hy:∀ S' H',K S' H'→Q .normal S' H'):awp prog GI x Q S H:=by
 refine awp_mono x (fun e S H h => ?_) hx
 cases e with
 |normal=>exact hy S H h
 |exit id=>exact h.elim
 |ret=>exact h.elim
 |panic v=>exact h.elim
structure I71 (t:List UInt8) (R:List (List UInt8)) (x:Sheet) (S:Slots) (H:Boxes):Prop where
 s0:S 0 = .str t
 s2:S 2 = .box 2 0
 e2:H 2=some zeroS
 s4:S 4 = .box 4 0
 e4:H 4=some (sheetW x)
 s5:S 5=strs R
set_option maxRecDepth 100000 in
set_option maxHeartbeats 8000000 in
theorem ac71 (hG:Stable GI) (hT:TB GI) (t:List UInt8) (ht:t.length≤420):AC prog GI 71 [.str t] (.ret (outR (readE t))):=by
 have hsl:=splitS_len 10 t
 have hpt:∀ p∈splitS 10 t,p.length≤420:=fun p hp=>by have:=splitS_part hp;omega
 have hsum:=splitS_sum 10 t
 have a123:=ac123 (GI:=GI) hG t 10 (by omega)
 obtain ⟨i28,hi28,hs28⟩:=info_size (P:=prog) (t:=28) (s:=10) (by kernel_rfl)
 obtain ⟨fs,hfs⟩:=under_struct (P:=prog) (t:=28) (by kernel_rfl)
 have hrE:readE t=(if (splitS 10 t).length < 4 then .error []
  else thenE (numsE (splitS 32 ((splitS 10 t)[0]?.getD [])).tail 2) fun n=>thenE (numsE (splitS 32 ((splitS 10 t)[1]?.getD [])).tail 5) fun m =>
   thenE (foldE stepR { sheet0 with wide:=at' n 0,rows:=at' n 1,olo:=at' m 0,ohi:=at' m 1,glo:=at' m 2,ghi:=at' m 3,hyphen:=at' m 4 } (((splitS 10 t).drop 2).take ((splitS 10 t).length - 4)))
    fun x=>if textT x=t then .ok x else .error []):=rfl
 rw [hrE]
 generalize splitS 10 t=R at *
 have hokR:elemsOK 1 (R.map AV.str)=true:=str_ok1 R
 refine AC.of_body hG hmix func71 rfl ntmps71 (by simp) (ac:=c71) (by kernel_rfl) ?_
 refine awp_cut (fun S H=>S 0 = .str t∧S 2 = .box 2 0∧H 2=some zeroS) (by simp [ops_ap,dops_ap,zeroS]) ?_
 rintro S H ⟨s0,s2,e2⟩
 refine awp_cut (fun S H=>S 0 = .str t∧S 2 = .box 2 0∧H 2=some zeroS∧S 4 = .box 4 0∧H 4=some (sheetW sheet0)) (by rw [sheetW_zero];simp [ops_ap,dops_ap,s0,s2,e2,zeroS]) ?_
 clear s0 s2 e2 S H
 rintro S H ⟨s0,s2,e2,s4,e4⟩
 refine awp_cut (I71 t R sheet0) ?_ ?_
 ·simp [ops_ap,dops_ap,s0]
  refine ⟨_,by kernel_rfl,by simpa using a123,by simp [boxy],?_⟩
  simp [ops_ap,dops_ap]
  exact ⟨by simp [ops_ap,dops_ap,s0],by simp [ops_ap,dops_ap,s2],by simp [ops_ap,dops_ap,e2],by simp [ops_ap,dops_ap,s4],by simp [ops_ap,dops_ap,e4],by simp [ops_ap,dops_ap,strs]⟩
 clear s0 s2 e2 s4 e4 S H
 rintro S H ⟨s0,s2,e2,s4,e4,s5⟩
 by_cases h4:R.length < 4
 ·rw [if_pos h4]
  have h4I:(R.length:Int) < 4:=by omega
  simp [ops_ap,dops_ap,s2,e2,s5,strs,h4I,fillA,hi28,hfs,hs28,aggT,zeroS,outR,sheetA,sheetL,sheet0,ints]
 rw [if_neg h4]
 have h4I:¬ (R.length:Int) < 4:=by omega
 refine awp_cut (I71 t R sheet0) (by simp [ops_ap,dops_ap,s5,strs,h4I];exact ⟨by simp [ops_ap,dops_ap,s0],by simp [ops_ap,dops_ap,s2],by simp [ops_ap,dops_ap,e2],by simp [ops_ap,dops_ap,s4],by simp [ops_ap,dops_ap,e4],by simp [ops_ap,dops_ap,s5,strs]⟩) ?_
 clear s0 s2 e2 s4 e4 s5 S H
 rintro S H ⟨s0,s2,e2,s4,e4,s5⟩
 have h0:0 < R.length:=by omega
 have h1:1 < R.length:=by omega
 have g0:R[0]?.getD []=R[0]:=by rw [List.getElem?_eq_getElem h0];rfl
 have g1:R[1]?.getD []=R[1]:=by rw [List.getElem?_eq_getElem h1];rfl
 have l0:R[0].length≤420:=hpt _ (List.getElem_mem h0)
 have l1:R[1].length≤420:=hpt _ (List.getElem_mem h1)
 rw [g0,g1]
 have b0:=ac123 (GI:=GI) hG R[0] 32 (by omega)
 have b1:=ac123 (GI:=GI) hG R[1] 32 (by omega)
 obtain ⟨n0,t0,w0⟩:=split_cons 32 R[0]
 obtain ⟨n1,t1,w1⟩:=split_cons 32 R[1]
 have c0:t0.length≤421∧∀ p∈t0,p.length < 1000000:=by
  have h1:=splitS_len 32 R[0]
  rw [w0] at h1
  refine ⟨by simp at h1;omega,fun p hp => ?_⟩
  have:=splitS_part (c:=32) (l:=R[0]) (p:=p) (by rw [w0];exact List.mem_cons_of_mem _ hp)
  omega
 have c1:t1.length≤421∧∀ p∈t1,p.length < 1000000:=by
  have h1:=splitS_len 32 R[1]
  rw [w1] at h1
  refine ⟨by simp at h1;omega,fun p hp => ?_⟩
  have:=splitS_part (c:=32) (l:=R[1]) (p:=p) (by rw [w1];exact List.mem_cons_of_mem _ hp)
  omega
 have d0:=ac124 (GI:=GI) hG t0 (by omega) c0.2 2
 have d1:=ac124 (GI:=GI) hG t1 (by omega) c1.2 5
 rw [w0] at b0 ⊢
 rw [w1] at b1 ⊢
 simp only [List.tail_cons]
 rw [numsE_nbs,numsE_nbs]
 have tk:∀ {nm:List UInt8} {tl:List (List UInt8)},elemsOK 1 (AV.str nm::tl.map AV.str)=true∧(1:Int)≤(tl.length:Int)+1∧((tl.length:Int)+1).toNat=tl.length+1∧(tl.map AV.str).take tl.length=tl.map AV.str:=fun {nm tl}=>⟨str_ok1 (nm::tl),by omega,by omega,List.take_of_length_le (by simp)⟩
 refine awp_cut (fun S H=>I71 t R sheet0 S H∧S 6=vI (valN t0)∧S 7 = .bool (nbsO t0 2)) ?_ ?_
 ·simp [ops_ap,dops_ap,s5,strs,h0]
  refine ⟨_,by kernel_rfl,by simpa using b0,by simp [boxy],?_⟩
  obtain ⟨k1,k2,k3,k4⟩:=tk (nm:=n0) (tl:=t0)
  simp [ops_ap,dops_ap,strs,bound,k1,k2,k3,k4]
  refine ⟨_,by kernel_rfl,d0,by simp [boxy],?_⟩
  simp [ops_ap,dops_ap]
  exact ⟨by simp [ops_ap,dops_ap,s0],by simp [ops_ap,dops_ap,s2],by simp [ops_ap,dops_ap,e2],by simp [ops_ap,dops_ap,s4],by simp [ops_ap,dops_ap,e4],by simp [ops_ap,dops_ap,s5,strs]⟩
 clear s0 s2 e2 s4 e4 s5 S H
 rintro S H ⟨⟨s0,s2,e2,s4,e4,s5⟩,s6,s7⟩
 refine awp_cut (fun S H=>I71 t R sheet0 S H∧S 6=vI (valN t0)∧S 7 = .bool (nbsO t0 2)∧S 8=vI (valN t1)∧S 9 = .bool (nbsO t1 5)) ?_ ?_
 ·simp [ops_ap,dops_ap,s5,strs,h1]
  refine ⟨_,by kernel_rfl,by simpa using b1,by simp [boxy],?_⟩
  obtain ⟨k1,k2,k3,k4⟩:=tk (nm:=n1) (tl:=t1)
  simp [ops_ap,dops_ap,strs,bound,k1,k2,k3,k4]
  refine ⟨_,by kernel_rfl,d1,by simp [boxy],?_⟩
  simp [ops_ap,dops_ap,s6,s7]
  exact ⟨by simp [ops_ap,dops_ap,s0],by simp [ops_ap,dops_ap,s2],by simp [ops_ap,dops_ap,e2],by simp [ops_ap,dops_ap,s4],by simp [ops_ap,dops_ap,e4],by simp [ops_ap,dops_ap,s5,strs]⟩
 clear s0 s2 e2 s4 e4 s5 s6 s7 S H
 rintro S H ⟨⟨s0,s2,e2,s4,e4,s5⟩,s6,s7,s8,s9⟩
 cases q0:nbsO t0 2 with
 |false =>
  rw [q0] at s7
  simp [ops_ap,dops_ap,s2,e2,s7,fillA,hi28,hfs,hs28,aggT,zeroS,outR,sheetA,sheetL,sheet0,ints,thenE]
 |true =>
 rw [q0] at s7
 cases q1:nbsO t1 5 with
 |false =>
  rw [q1] at s9
  simp [ops_ap,dops_ap,s2,e2,s7,s9,fillA,hi28,hfs,hs28,aggT,zeroS,outR,sheetA,sheetL,sheet0,ints,thenE]
 |true =>
 rw [q1] at s9
 have y0:=nbs_given.1 q0
 have y1:=nbs_given.1 q1
 obtain ⟨v0,v1,hv⟩:=len2 (l:=valN t0) (by rw [valN_given y0.1,List.length_map];omega)
 obtain ⟨u0,u1,u2,u3,u4,hu⟩:=len5 (l:=valN t1) (by rw [valN_given y1.1,List.length_map];omega)
 rw [hv] at s6 ⊢
 rw [hu] at s8 ⊢
 simp only [if_true,thenE]
 obtain ⟨x0,hx0⟩:∃ x0:Sheet,({ sheet0 with wide:=at' [v0,v1] 0,rows:=at' [v0,v1] 1,olo:=at' [u0,u1,u2,u3,u4] 0,ohi:=at' [u0,u1,u2,u3,u4] 1,glo:=at' [u0,u1,u2,u3,u4] 2,ghi:=at' [u0,u1,u2,u3,u4] 3,hyphen:=at' [u0,u1,u2,u3,u4] 4 }:Sheet)=x0:=⟨_,rfl⟩
 have hN0:NumS x0:=by
  have m0:Nums [v0,v1]:=by rw [← hv,valN_given y0.1];exact given_nums y0.1
  have m1:Nums [u0,u1,u2,u3,u4]:=by rw [← hu,valN_given y1.1];exact given_nums y1.1
  rw [← hx0]
  exact { sheet0_nums with wide:=num3_at m0 0,rows:=num3_at m0 1,olo:=num3_at m1 0,ohi:=num3_at m1 1,glo:=num3_at m1 2,ghi:=num3_at m1 3,hyphen:=num3_at m1 4 }
 have hG0:Grown 421 x0 0:=by rw [← hx0];exact ⟨(sheet0_grown 421).widths,(sheet0_grown 421).pairs,(sheet0_grown 421).words,(sheet0_grown 421).signs,(sheet0_grown 421).cuts⟩
 have hW0:sheetW x0=[.slice .nil [],.slice .nil [],.int .i64 u0,.int .i64 u1,.int .i64 u2,.int .i64 u3,.int .i64 u4,.slice .nil [],.int .i64 v0,.int .i64 v1]:=by
  rw [← hx0];simp [sheetW,sheet0,grow,ints,at']
 rw [hx0]
 refine awp_cut (fun S H=>I71 t R sheet0 S H∧S 6=vI [v0,v1]∧S 8=vI [u0,u1,u2,u3,u4]) ?_ ?_
 ·simp [ops_ap,dops_ap,s7,s9,s6,s8]
  exact ⟨by simp [ops_ap,dops_ap,s0],by simp [ops_ap,dops_ap,s2],by simp [ops_ap,dops_ap,e2],by simp [ops_ap,dops_ap,s4],by simp [ops_ap,dops_ap,e4],by simp [ops_ap,dops_ap,s5,strs]⟩
 clear s0 s2 e2 s4 e4 s5 s6 s7 s8 s9 S H
 rintro S H ⟨⟨s0,s2,e2,s4,e4,s5⟩,s6,s8⟩
 rw [sheetW_zero] at e4
 refine awp_cut (fun S H=>S 0 = .str t∧S 2 = .box 2 0∧H 2=some zeroS∧S 4 = .box 4 0∧H 4=some [.slice .nil [],.slice .nil [],.int .i64 0,.int .i64 0,.int .i64 0,.int .i64 0,.int .i64 0,.slice .nil [],.int .i64 v0,.int .i64 v1]∧S 5=strs R∧S 8=vI [u0,u1,u2,u3,u4]) ?_ ?_
 ·simp [ops_ap,dops_ap,s6,s8,s4,e4,zeroS,ints,s0,s2,e2,s5,strs]
 clear s0 s2 e2 s4 e4 s5 s6 s8 S H
 rintro S H ⟨s0,s2,e2,s4,e4,s5,s8⟩
 refine awp_cut (I71 t R x0) ?_ ?_
 ·simp [ops_ap,dops_ap,s8,s4,e4,ints,fillA]
  exact ⟨by simp [ops_ap,dops_ap,s0],by simp [ops_ap,dops_ap,s2],by simp [ops_ap,dops_ap,e2],by simp [ops_ap,dops_ap,s4],by simp [ops_ap,dops_ap,hW0],by simp [ops_ap,dops_ap,s5,strs]⟩
 clear s0 s2 e2 s4 e4 s5 s8 S H
 rintro S H hI
 obtain ⟨L,hL⟩:∃ L,(R.drop 2).take (R.length - 4)=L:=⟨_,rfl⟩
 have hLl:L.length=R.length - 4:=by rw [← hL];simp;omega
 rw [hL]
 have hLm:∀ p∈L,p.length≤420:=fun p hp=>hpt p (by rw [← hL] at hp;exact List.mem_of_mem_drop (List.mem_of_mem_take hp))
 have hLs:(L.map fun p=>p.length+1).sum≤421:=by
  have h2:(R.map fun p=>p.length+1).sum=((R.take 2).map fun p=>p.length+1).sum+((R.drop 2).map fun p=>p.length+1).sum:=by
   rw [← List.sum_append,← List.map_append,List.take_append_drop]
  have h1:((R.drop 2).map fun p=>p.length+1).sum=(L.map fun p=>p.length+1).sum+(((R.drop 2).drop (R.length - 4)).map fun p=>p.length+1).sum:=by
   rw [← hL,← List.sum_append,← List.map_append,List.take_append_drop]
  omega
 have hLg:∀ k (h:k < L.length) (h':k+2 < R.length),L[k]=R[k+2]:=by
  intro k h h'
  simp only [← hL,List.getElem_take,List.getElem_drop,Nat.add_comm 2 k]
 have hwN:IntKind.i64.wrap ((R.length:Int) - 2)=((L.length+2:Nat):Int):=by rw [wrapI (by omega)];omega
 refine awp_cut2 (fun S H=>I71 t R x0 S H∧S 10 = .int .i64 (2:Nat)) ?_ ?_
 ·obtain ⟨s0,s2,e2,s4,e4,s5⟩:=hI
  simp [ops_ap,dops_ap]
  exact ⟨by simp [ops_ap,dops_ap,s0],by simp [ops_ap,dops_ap,s2],by first | exact e2 | simp [ops_ap,dops_ap,e2],by simp [ops_ap,dops_ap,s4],by first | exact e4 | simp [ops_ap,dops_ap,e4],by simp [ops_ap,dops_ap,s5,strs]⟩
 clear hI S H
 rintro S H ⟨hI,s10⟩
 refine awp_in ?_
 refine awp_loopF 10 2 (L.length+2) (fun i S H=>∃ x,foldE stepR x0 (L.take (i - 2)) = .ok x∧Grown 421 x (i - 2)∧NumS x∧I71 t R x S H∧S 10 = .int .i64 (i:Nat)) (by omega) (fun i S H ⟨_,_,_,_,_,h⟩=>h) ⟨x0,rfl,hG0,hN0,hI,s10⟩ ?_
 clear hI s10 S H
 rintro i hi2 hi S H ⟨x,hf,hgr,hN,⟨s0,s2,e2,s4,e4,s5⟩,s10⟩
 refine awp_cut2 (fun S H=>I71 t R x S H∧S 10 = .int .i64 (i:Nat)∧S 83 = .bool (decide (i < L.length+2))) ?_ ?_
 ·have hdI:decide ((i:Int) < ((L.length+2:Nat):Int))=decide (i < L.length+2):=by rw [decide_eq_decide];omega
  simp only [Int.natCast_add,Int.cast_ofNat_Int] at hdI hwN
  simp [ops_ap,dops_ap,s5,s10,strs,hwN,hdI]
  exact ⟨by simp [ops_ap,dops_ap,s0],by simp [ops_ap,dops_ap,s2],by first | exact e2 | simp [ops_ap,dops_ap,e2],by simp [ops_ap,dops_ap,s4],by first | exact e4 | simp [ops_ap,dops_ap,e4],by simp [ops_ap,dops_ap,s5,strs]⟩
 clear s0 s2 e2 s4 e4 s5 s10 S H
 rintro S H ⟨⟨s0,s2,e2,s4,e4,s5⟩,s10,s83⟩
 by_cases hlt:i < L.length+2
 case neg =>
  have hil:i=L.length+2:=by omega
  rw [hil,Nat.add_sub_cancel,List.take_of_length_le (Nat.le_refl _)] at hf
  rw [hil,Nat.add_sub_cancel] at hgr
  rw [hf]
  simp only [hlt,decide_false] at s83
  obtain ⟨hgr',h3⟩:=foldR_grown (b:=421) (fun r hr=>by have:=hLm r hr;omega) hG0 hf
  have hfew:Few x:=⟨by have:=hgr'.widths;omega,by have:=hgr'.pairs;omega,by have:=hgr'.words;omega,fun w hw=>by have:=hgr'.signs w hw;omega,fun w hw=>by have:=hgr'.cuts w hw;omega⟩
  have a69:=ac69 hG x hN hfew
  have hsl':(L.map fun p=>p.length+1).sum≤421:=hLs
  simp [ops_ap,dops_ap,s83,s4,e4,sheetW]
  refine ⟨_,by kernel_rfl,a69,by simp [boxy],?_⟩
  by_cases htx:textT x=t
  ·simp only [if_pos htx]
   have hb:(textT x != t)=false:=by simpa using htx
   simp [ops_ap,dops_ap,s0,s2,e2,s4,e4,hb,sheetW,hi28,hfs,hs28,aggT,zeroS,outR,sheetA,sheetL,vI]
  ·simp only [if_neg htx]
   have hb:(textT x != t)=true:=by simpa using htx
   simp [ops_ap,dops_ap,s0,s2,e2,s4,e4,hb,fillA,hi28,hfs,hs28,aggT,zeroS,outR,sheetA,sheetL,sheet0,ints]
 have hk:i - 2 < L.length:=by omega
 have hiR:i < R.length:=by omega
 simp only [hlt,decide_true] at s83
 obtain ⟨r,hr⟩:∃ r,R[i]=r:=⟨_,rfl⟩
 have hLr:L[i - 2]=r:=by rw [hLg (i - 2) hk (by omega),← hr];congr 1;omega
 have hf':=foldE_succ hk hf
 rw [hLr,show i - 2+1=i - 1 by omega] at hf'
 have hstop:∀ e,stepR x r = .error e→foldE stepR x0 L = .error e:=fun e he=>foldE_stop hk hf (by rw [hLr];exact he)
 have hgs:∀ y,stepR x r = .ok y→Grown 421 y (i - 1)∧NumS y:=fun y hy=>by
  have h1:=(stepR_grown (b:=421) (r:=r) (by have:=hLm _ (List.getElem_mem hk);rw [hLr] at this;omega) hgr hy).1
  exact ⟨h1.mono (by omega),stepR_nums hN hy⟩
 have hrl:r.length≤420:=by have:=hLm _ (List.getElem_mem hk);rw [hLr] at this;exact this
 have b0:=ac123 (GI:=GI) hG r 32 (by omega)
 obtain ⟨nm,tl,hws⟩:=split_cons 32 r
 have c0:tl.length≤421∧∀ p∈tl,p.length≤420:=by
  have h1:=splitS_len 32 r
  rw [hws] at h1
  refine ⟨by simp at h1;omega,fun p hp => ?_⟩
  have:=splitS_part (c:=32) (l:=r) (p:=p) (by rw [hws];exact List.mem_cons_of_mem _ hp)
  omega
 have d1:=ac124 (GI:=GI) hG tl (by omega) (fun p hp=>by have:=c0.2 p hp;omega) 1
 have d4:=ac124 (GI:=GI) hG tl (by omega) (fun p hp=>by have:=c0.2 p hp;omega) 4
 rw [hws] at b0
 have hst:stepR x r=(if nm=nmW∧tl.length=3 then thenE (listedR (tl[1]?.getD [])) fun a=>thenE (listedR (tl[2]?.getD [])) fun b => .ok { x with words:=x.words++[⟨a,b,tl[0]?.getD []==[121,101,115]⟩] }
  else match numsE tl 1 with
   |.ok n => .ok { x with widths:=x.widths++[at' n 0] }
   |.error _=>thenE (numsE tl 4) fun n => .ok { x with pairs:=x.pairs++[⟨at' n 0,at' n 1,at' n 2,at' n 3⟩] }):=by
  unfold stepR
  rw [hws]
  simp only [List.headD_cons,List.tail_cons,List.length_cons,List.getElem?_cons_succ,Nat.reduceEqDiff,Nat.add_right_cancel_iff]
  rfl
 rw [numsE_nbs,numsE_nbs,show nbsO tl ((1:Nat):Int)=nbsO tl 1 from rfl,show nbsO tl ((4:Nat):Int)=nbsO tl 4 from rfl] at hst
 generalize stepR x r=st at *
 have hwI:IntKind.i64.wrap ((i:Int)+1)=i+1:=wrapI (by omega)
 have hilt:i < L.length+2:=hlt
 refine awp_go s83 (awp_in ?_)
 clear s83
 refine awp_cut (fun S H=>I71 t R x S H∧S 10 = .int .i64 (i:Nat)∧S 11=strs (nm::tl)) ?_ ?_
 ·simp [ops_ap,dops_ap,s5,s10,strs,hiR,hr]
  refine ⟨_,by kernel_rfl,by simpa using b0,by simp [boxy],?_⟩
  simp [ops_ap,dops_ap,strs,s10]
  exact ⟨by simp [ops_ap,dops_ap,s0],by simp [ops_ap,dops_ap,s2],by first | exact e2 | simp [ops_ap,dops_ap,e2],by simp [ops_ap,dops_ap,s4],by first | exact e4 | simp [ops_ap,dops_ap,e4],by simp [ops_ap,dops_ap,s5,strs]⟩
 clear s0 s2 e2 s4 e4 s5 s10 S H
 rintro S H ⟨⟨s0,s2,e2,s4,e4,s5⟩,s10,s11⟩
 refine awp_cut2 (fun S H=>I71 t R x S H∧S 10 = .int .i64 (i:Nat)∧S 11=strs (nm::tl)∧S 99 = .bool (decide (nm=nmW∧tl.length=3))) ?_ ?_
 ·have hl:((tl.length:Int)+1==4)=decide (tl.length=3):=by rw [Bool.eq_iff_iff];simp;omega
  by_cases h:nm=nmW
  ·have hb:(nm==[119,111,114,100])=true:=by rw [h];rfl
   have hdd:decide (nm=nmW∧tl.length=3)=decide (tl.length=3):=by simp [h]
   rw [hdd]
   simp [ops_ap,dops_ap,s10,s11,strs,hb,hl]
   exact ⟨by simp [ops_ap,dops_ap,s0],by simp [ops_ap,dops_ap,s2],by first | exact e2 | simp [ops_ap,dops_ap,e2],by simp [ops_ap,dops_ap,s4],by first | exact e4 | simp [ops_ap,dops_ap,e4],by simp [ops_ap,dops_ap,s5,strs]⟩
  ·have hb:(nm==[119,111,114,100])=false:=by simpa [nmW] using h
   have hdd:decide (nm=nmW∧tl.length=3)=false:=by simp [h]
   rw [hdd]
   simp [ops_ap,dops_ap,s10,s11,strs,hb]
   exact ⟨by simp [ops_ap,dops_ap,s0],by simp [ops_ap,dops_ap,s2],by first | exact e2 | simp [ops_ap,dops_ap,e2],by simp [ops_ap,dops_ap,s4],by first | exact e4 | simp [ops_ap,dops_ap,e4],by simp [ops_ap,dops_ap,s5,strs]⟩
 clear s0 s2 e2 s4 e4 s5 s10 s11 S H
 rintro S H ⟨⟨s0,s2,e2,s4,e4,s5⟩,s10,s11,s99⟩
 by_cases hw:nm=nmW∧tl.length=3
 case pos =>
  rw [if_pos hw] at hst
  simp only [hw,decide_true,and_self] at s99
  obtain ⟨w1,w2,w3,hw3⟩:=len3 hw.2
  have a2:=ac125 (GI:=GI) hG w2 (by have:=c0.2 w2 (by rw [hw3];simp);omega)
  have a3:=ac125 (GI:=GI) hG w3 (by have:=c0.2 w3 (by rw [hw3];simp);omega)
  rw [hw3] at hst s11
  simp only [List.getElem?_cons_succ,List.getElem?_cons_zero,Option.getD_some,lst_listed] at hst
  refine awp_pickT s99 ?_
  refine awp_cut (fun S H=>I71 t R x S H∧S 10 = .int .i64 (i:Nat)∧S 11=strs [nm,w1,w2,w3]∧S 12=vI (lstO w2).1∧S 13 = .bool (lstO w2).2) ?_ ?_
  ·simp [ops_ap,dops_ap,s11,strs]
   refine ⟨_,by kernel_rfl,a2,by simp [boxy],?_⟩
   simp [ops_ap,dops_ap,s10,s11,strs]
   exact ⟨by simp [ops_ap,dops_ap,s0],by simp [ops_ap,dops_ap,s2],by first | exact e2 | simp [ops_ap,dops_ap,e2],by simp [ops_ap,dops_ap,s4],by first | exact e4 | simp [ops_ap,dops_ap,e4],by simp [ops_ap,dops_ap,s5,strs]⟩
  clear s0 s2 e2 s4 e4 s5 s10 s11 s99 S H
  rintro S H ⟨⟨s0,s2,e2,s4,e4,s5⟩,s10,s11,s12,s13⟩
  refine awp_cut (fun S H=>I71 t R x S H∧S 10 = .int .i64 (i:Nat)∧S 11=strs [nm,w1,w2,w3]∧S 12=vI (lstO w2).1∧S 13 = .bool (lstO w2).2∧S 14=vI (lstO w3).1∧S 15 = .bool (lstO w3).2) ?_ ?_
  ·simp [ops_ap,dops_ap,s11,strs]
   refine ⟨_,by kernel_rfl,a3,by simp [boxy],?_⟩
   simp [ops_ap,dops_ap,s10,s11,s12,s13,strs]
   exact ⟨by simp [ops_ap,dops_ap,s0],by simp [ops_ap,dops_ap,s2],by first | exact e2 | simp [ops_ap,dops_ap,e2],by simp [ops_ap,dops_ap,s4],by first | exact e4 | simp [ops_ap,dops_ap,e4],by simp [ops_ap,dops_ap,s5,strs]⟩
  clear s0 s2 e2 s4 e4 s5 s10 s11 s12 s13 S H
  rintro S H ⟨⟨s0,s2,e2,s4,e4,s5⟩,s10,s11,s12,s13,s14,s15⟩
  generalize lstO w2=o2 at *
  generalize lstO w3=o3 at *
  obtain ⟨l2,b2⟩:=o2
  obtain ⟨l3,b3⟩:=o3
  simp only at s12 s13 s14 s15 hst
  cases b2 with
  |false =>
   rw [hstop [] (by rw [hst];rfl)]
   simp [ops_ap,dops_ap,s13,s2,e2,fillA,hi28,hfs,hs28,aggT,zeroS,outR,sheetA,sheetL,sheet0,ints]
  |true =>
  cases b3 with
  |false =>
   rw [hstop [] (by rw [hst];rfl)]
   simp [ops_ap,dops_ap,s13,s15,s2,e2,fillA,hi28,hfs,hs28,aggT,zeroS,outR,sheetA,sheetL,sheet0,ints]
  |true =>
  simp only [if_true,thenE] at hst
  have hok1:elemsOK 3 [AV.agg [.slice .view (ints l2),.slice .view (ints l3),.bool (w1==[121,101,115])]]=true:=rfl
  generalize hb1:(w1==[121,101,115])=bb at *
  refine awp_cut2 (fun S H=>I71 t R x S H∧S 10 = .int .i64 (i:Nat)∧S 11=strs [nm,w1,w2,w3]∧S 12=vI l2∧S 14=vI l3∧S 119 = .bool false) ?_ ?_
  ·simp [ops_ap,dops_ap,s10,s11,s12,s13,s14,s15,strs]
   exact ⟨by simp [ops_ap,dops_ap,s0],by simp [ops_ap,dops_ap,s2],by first | exact e2 | simp [ops_ap,dops_ap,e2],by simp [ops_ap,dops_ap,s4],by first | exact e4 | simp [ops_ap,dops_ap,e4],by simp [ops_ap,dops_ap,s5,strs]⟩
  clear s0 s2 e2 s4 e4 s5 s10 s11 s12 s13 s14 s15 S H
  rintro S H ⟨⟨s0,s2,e2,s4,e4,s5⟩,s10,s11,s12,s14,s119⟩
  refine awp_go2 s119 ?_
  refine awp_cut (fun S H=>I71 t R { x with words:=x.words++[⟨l2,l3,bb⟩] } S H∧S 10 = .int .i64 (i:Nat)) ?_ ?_
  case refine_2 =>
   clear s0 s2 e2 s4 e4 s5 s10 s11 s12 s14 s119 S H
   rintro S H ⟨⟨s0,s2,e2,s4,e4,s5⟩,s10⟩
   simp [ops_ap,dops_ap,s10,hwI]
   exact ⟨hilt,_,by rw [hf'];exact hst,(hgs _ hst).1,(hgs _ hst).2,⟨by simp [ops_ap,dops_ap,s0],by simp [ops_ap,dops_ap,s2],by first | exact e2 | simp [ops_ap,dops_ap,e2],by simp [ops_ap,dops_ap,s4],by first | exact e4 | simp [ops_ap,dops_ap,e4],by simp [ops_ap,dops_ap,s5,strs]⟩⟩
  simp [s11,s12,s14,s4,e4,strs,sheetW,fillA,hb1,hok1,ints]
  refine dops_app (x.words.map wordA) (wordA ⟨l2,l3,bb⟩) (.own 77) (by simp) (by simp [wordA,vI,ints]) rfl (words_ok x.words) (by rw [List.length_map];have:=hgr.words;omega) ?_
  intro S' sd hk'
  simp [sd,hk',s4,e4,sheetW,s10]
  exact ⟨⟨by simp [ops_ap,dops_ap,hk',s0],by simp [ops_ap,dops_ap,hk',s2],by first | exact e2 | simp [ops_ap,dops_ap,e2],by simp [ops_ap,dops_ap,hk',s4],by simp [ops_ap,dops_ap,e4,sheetW,wordA,vI,ints,grow],by simp [ops_ap,dops_ap,hk',s5,strs]⟩,by simp [ops_ap,dops_ap,hk',s10]⟩
 rw [if_neg hw] at hst
 simp only [hw,decide_false] at s99
 refine awp_go2 s99 ?_
 obtain ⟨k1,k2,k3,k4⟩:=tk (nm:=nm) (tl:=tl)
 refine awp_cut (fun S H=>I71 t R x S H∧S 10 = .int .i64 (i:Nat)∧S 11=strs (nm::tl)∧S 16=vI (valN tl)∧S 17 = .bool (nbsO tl 1)) ?_ ?_
 ·simp [ops_ap,dops_ap,s11,strs,bound,k1,k2,k3,k4]
  refine ⟨_,by kernel_rfl,d1,by simp [boxy],?_⟩
  simp [ops_ap,dops_ap,s10,s11,strs]
  exact ⟨by simp [ops_ap,dops_ap,s0],by simp [ops_ap,dops_ap,s2],by first | exact e2 | simp [ops_ap,dops_ap,e2],by simp [ops_ap,dops_ap,s4],by first | exact e4 | simp [ops_ap,dops_ap,e4],by simp [ops_ap,dops_ap,s5,strs]⟩
 clear s0 s2 e2 s4 e4 s5 s10 s11 s99 S H
 rintro S H ⟨⟨s0,s2,e2,s4,e4,s5⟩,s10,s11,s16,s17⟩
 refine awp_cut (fun S H=>I71 t R x S H∧S 10 = .int .i64 (i:Nat)∧S 16=vI (valN tl)∧S 17 = .bool (nbsO tl 1)∧S 18=vI (valN tl)∧S 19 = .bool (nbsO tl 4)) ?_ ?_
 ·simp [ops_ap,dops_ap,s11,strs,bound,k1,k2,k3,k4]
  refine ⟨_,by kernel_rfl,d4,by simp [boxy],?_⟩
  simp [ops_ap,dops_ap,s10,s16,s17]
  exact ⟨by simp [ops_ap,dops_ap,s0],by simp [ops_ap,dops_ap,s2],by first | exact e2 | simp [ops_ap,dops_ap,e2],by simp [ops_ap,dops_ap,s4],by first | exact e4 | simp [ops_ap,dops_ap,e4],by simp [ops_ap,dops_ap,s5,strs]⟩
 clear s0 s2 e2 s4 e4 s5 s10 s11 s16 s17 S H
 rintro S H ⟨⟨s0,s2,e2,s4,e4,s5⟩,s10,s16,s17,s18,s19⟩
 cases p1:nbsO tl 1 with
 |true =>
  rw [p1] at s17
  have z1:=nbs_given.1 p1
  obtain ⟨v,hv⟩:=len1 (l:=valN tl) (by rw [valN_given z1.1,List.length_map];omega)
  rw [hv] at s16 hst
  simp only [p1,if_true] at hst
  have hok1:elemsOK 1 [AV.int .i64 v]=true:=rfl
  refine awp_fin (fun S H=>I71 t R { x with widths:=x.widths++[v] } S H∧S 10 = .int .i64 (i:Nat)) ?_ ?_
  case refine_2 =>
   clear s0 s2 e2 s4 e4 s5 s10 s16 s17 s18 s19 S H
   rintro S H ⟨⟨s0,s2,e2,s4,e4,s5⟩,s10⟩
   simp [ops_ap,dops_ap,s10,hwI]
   exact ⟨hilt,_,by rw [hf'];exact hst,(hgs _ hst).1,(hgs _ hst).2,⟨by simp [ops_ap,dops_ap,s0],by simp [ops_ap,dops_ap,s2],by first | exact e2 | simp [ops_ap,dops_ap,e2],by simp [ops_ap,dops_ap,s4],by first | exact e4 | simp [ops_ap,dops_ap,e4],by simp [ops_ap,dops_ap,s5,strs]⟩⟩
  simp [s17,s16,s4,e4,sheetW,ints,hok1]
  refine dops_app (ints x.widths) (.int .i64 v) (.own 3) (by simp [ints]) (by simp [ints]) rfl (ints_okV x.widths) (by rw [ints_len];have:=hgr.widths;omega) ?_
  intro S' sd hk'
  simp [sd,hk',s4,e4,sheetW,s10]
  exact ⟨⟨by simp [ops_ap,dops_ap,hk',s0],by simp [ops_ap,dops_ap,hk',s2],by first | exact e2 | simp [ops_ap,dops_ap,e2],by simp [ops_ap,dops_ap,hk',s4],by simp [ops_ap,dops_ap,e4,sheetW,ints,grow,at'],by simp [ops_ap,dops_ap,hk',s5,strs]⟩,by simp [ops_ap,dops_ap,hk',s10]⟩
 |false =>
 rw [p1] at s17
 simp only [p1,Bool.false_eq_true,if_false] at hst
 cases p4:nbsO tl 4 with
 |false =>
  rw [p4] at s19
  simp only [p4,Bool.false_eq_true,if_false,thenE] at hst
  rw [hstop [] hst]
  simp [ops_ap,dops_ap,s17,s19,s2,e2,fillA,hi28,hfs,hs28,aggT,zeroS,outR,sheetA,sheetL,sheet0,ints]
 |true =>
 rw [p4] at s19
 have z1:=nbs_given.1 p4
 obtain ⟨a,b,c,d,hv⟩:=len4 (l:=valN tl) (by rw [valN_given z1.1,List.length_map];omega)
 rw [hv] at s18 hst
 simp only [p4,if_true,thenE] at hst
 have hok1:elemsOK 4 [AV.agg [.int .i64 a,.int .i64 b,.int .i64 c,.int .i64 d]]=true:=rfl
 refine awp_fin (fun S H=>I71 t R { x with pairs:=x.pairs++[⟨a,b,c,d⟩] } S H∧S 10 = .int .i64 (i:Nat)) ?_ ?_
 case refine_2 =>
  clear s0 s2 e2 s4 e4 s5 s10 s16 s17 s18 s19 S H
  rintro S H ⟨⟨s0,s2,e2,s4,e4,s5⟩,s10⟩
  simp [ops_ap,dops_ap,s10,hwI]
  exact ⟨hilt,_,by rw [hf'];exact hst,(hgs _ hst).1,(hgs _ hst).2,⟨by simp [ops_ap,dops_ap,s0],by simp [ops_ap,dops_ap,s2],by first | exact e2 | simp [ops_ap,dops_ap,e2],by simp [ops_ap,dops_ap,s4],by first | exact e4 | simp [ops_ap,dops_ap,e4],by simp [ops_ap,dops_ap,s5,strs]⟩⟩
 simp [s17,s19,s18,s4,e4,sheetW,ints,fillA,hok1]
 refine dops_app (x.pairs.map pairA) (.agg [.int .i64 a,.int .i64 b,.int .i64 c,.int .i64 d]) (.own 119) (by simp) (by simp) rfl (pairs_ok x.pairs) (by rw [List.length_map];have:=hgr.pairs;omega) ?_
 intro S' sd hk'
 simp [sd,hk',s4,e4,sheetW,s10]
 exact ⟨⟨by simp [ops_ap,dops_ap,hk',s0],by simp [ops_ap,dops_ap,hk',s2],by first | exact e2 | simp [ops_ap,dops_ap,e2],by simp [ops_ap,dops_ap,hk',s4],by simp [ops_ap,dops_ap,e4,sheetW,at',pairA,ints,grow],by simp [ops_ap,dops_ap,hk',s5,strs]⟩,by simp [ops_ap,dops_ap,hk',s10]⟩
end Go.Proofs.Tryz
namespace Go.Proofs.Tryz
open Go Go.AL Go.RowKit Go.Proofs
attribute [local simp] awp_all qs_all ops_all dops_all ops_nil dops_nil ops_call ops_callv ops_alloc ops_box dops_call dops_alloc kO_eq kD_eq awanted apure ev Eff.S Eff.H tmpOf upd putD AL.start AV.dem AV.cells AV.storable AV.scells splice scrub abin loadA HR.okB post ares aress ares1 AV.out AV.isData ints_len ints_get fz fz1 AV.vw AV.vw1 boxy vI int undefA assignQ thenQ blockQ seqQ panQ prol prolH allocOf
variable {GI:World→Prop}
theorem slim0:Slim sheet0:=⟨by decide,by decide,by decide,fun _ h=>(List.not_mem_nil h).elim,fun _ h=>(List.not_mem_nil h).elim⟩
theorem sheetL0:sheetL sheet0=[.slice .view [],.slice .view [],.int .i64 0,.int .i64 0,.int .i64 0,.int .i64 0,.int .i64 0,.slice .view [],.int .i64 0,.int .i64 0]:=rfl
set_option maxHeartbeats 4000000 in
theorem ac20 (hG:Stable GI) (hML:ML GI) (hT:TB GI) (t:List UInt8):AC prog GI 20 [.str t] (.ret (.bool true)):=by
  have hk:=ac24 hG hML
  by_cases hlen:420 < t.length
  · have hI:(420:Int) < t.length:=by omega
    refine AC.of_body hG hmix func20 rfl ntmps20 (by simp) (ac:=c20) (by kernel_rfl) ?_
    refine awp_cut (fun S H=>S 0 = .str t) (by simp) ?_
    intro S H s0
    simp [s0,hI]
    refine ⟨_,by kernel_rfl,hk,fun _=>rfl,?_⟩
    simp
  have hI:¬ (420:Int) < t.length:=by omega
  have a68:=ac68g hG hT hML t (by omega)
  have a71:=ac71 hG hT t (by omega)
  have z70:=ac70s hG sheet0 slim0
  unfold sheetA at z70
  rw [sheetL0] at z70
  have key:∀ (x y:Sheet) (e:Int) (b:Bool),readO t = .tup [sheetA x,.int .i64 e]→outR (readE t) = .tup [sheetA y,.bool b] →
      ((∃ want:Int,want≠0∧e=want∧x=sheet0∧((320 < t.length∧want=3)∨(¬ 320 < t.length∧b=false∧want=4)∨(¬ 320 < t.length∧b=true∧AC prog GI 33 [sheetA y] (.ret (.bool false))∧want=2))) ∨
       (¬ 320 < t.length∧b=true∧AC prog GI 33 [sheetA y] (.ret (.bool true))∧e=0∧x=y∧AC prog GI 67 [sheetA y] (.ret (.tup [.str t,.int .i64 0]))∧AC prog GI 70 [sheetA y,sheetA y] (.ret (.bool true)))) →
      AC prog GI 20 [.str t] (.ret (.bool true)):=by
    intro x y e b h1 h2 hc
    rw [h1] at a68
    rw [h2] at a71
    unfold sheetA at a68 a71
    refine AC.of_body hG hmix func20 rfl ntmps20 (by simp) (ac:=c20) (by kernel_rfl) ?_
    refine awp_cut (fun S H=>S 0 = .str t) (by simp) ?_
    intro S H s0
    refine awp_cut (fun S H=>S 0 = .str t) (by simp [s0,hI]) ?_
    clear s0 S H
    intro S H s0
    refine awp_cut (fun S H=>S 0 = .str t∧S 3 = .box 3 0∧H 3=some (sheetL x)∧S 4 = .int .i64 e) ?_ ?_
    · simp [s0]
      refine ⟨_,by kernel_rfl,a68,by simp [boxy],?_⟩
      simp [s0,sheetL]
    clear s0 S H
    rintro S H ⟨s0,s3,e3,s4⟩
    refine awp_cut (fun S H=>S 0 = .str t∧S 3 = .box 3 0∧H 3=some (sheetL x)∧S 4 = .int .i64 e∧S 5 = .box 5 0∧H 5=some (sheetL y)∧S 6 = .bool b) ?_ ?_
    · simp [s0]
      refine ⟨_,by kernel_rfl,a71,by simp [boxy],?_⟩
      simp [s0,s3,e3,s4,sheetL]
    clear s0 s3 e3 s4 S H
    rintro S H ⟨s0,s3,e3,s4,s5,e5,s6⟩
    refine awp_cut (fun S H=>S 0 = .str t∧S 3 = .box 3 0∧H 3=some (sheetL x)∧S 4 = .int .i64 e∧S 5 = .box 5 0∧H 5=some (sheetL y)∧S 6 = .bool b∧S 7 = .int .i64 0) (by simp [s0,s3,e3,s4,s5,e5,s6]) ?_
    clear s0 s3 e3 s4 s5 e5 s6 S H
    rintro S H ⟨s0,s3,e3,s4,s5,e5,s6,s7⟩
    rcases hc with ⟨want,hw0,rfl,rfl,hc⟩ | ⟨hl,rfl,a33,rfl,rfl,a67,a70⟩
    · have hne:(e != 0)=true:=by simpa using hw0
      refine awp_cut (fun S H=>S 3 = .box 3 0∧H 3=some (sheetL sheet0)∧S 4 = .int .i64 e∧S 7 = .int .i64 e) ?_ ?_
      · rcases hc with ⟨hl,rfl⟩ | ⟨hl,rfl,rfl⟩ | ⟨hl,rfl,a33,rfl⟩
        · have hlI:(320:Int) < t.length:=by omega
          simp [s0,s3,e3,s4,s5,e5,s6,s7,hlI]
        · have hlI:¬ (320:Int) < t.length:=by omega
          simp [s0,s3,e3,s4,s5,e5,s6,s7,hlI]
        · have hlI:¬ (320:Int) < t.length:=by omega
          unfold sheetA at a33
          simp [s0,s3,e3,s4,s5,e5,s6,s7,hlI,sheetL]
          refine ⟨_,by kernel_rfl,a33,by simp [boxy],?_⟩
          simp [s0,s3,e3,s4,s5,e5,s6,s7,hlI,sheetL]
      clear s0 s3 e3 s4 s5 e5 s6 s7 S H
      rintro S H ⟨s3,e3,s4,s7⟩
      rw [sheetL0] at e3
      simp [s3,e3,s4,s7,hne,hw0,fillA]
      refine ⟨_,by kernel_rfl,z70,by simp [boxy],?_⟩
      simp
      refine ⟨_,by kernel_rfl,hk,fun _=>rfl,?_⟩
      simp
    · have hlI:¬ (320:Int) < t.length:=by omega
      unfold sheetA at a33 a67 a70
      refine awp_cut (fun S H=>S 0 = .str t∧S 3 = .box 3 0∧H 3=some (sheetL x)∧S 4 = .int .i64 0∧S 5 = .box 5 0∧H 5=some (sheetL x)∧S 7 = .int .i64 0) ?_ ?_
      · simp [s0,s3,e3,s4,s5,e5,s6,s7,hlI,sheetL]
        refine ⟨_,by kernel_rfl,a33,by simp [boxy],?_⟩
        simp [s0,s3,e3,s4,s5,e5,s6,s7,hlI,sheetL]
      clear s0 s3 e3 s4 s5 e5 s6 s7 S H
      rintro S H ⟨s0,s3,e3,s4,s5,e5,s7⟩
      simp [s0,s3,e3,s4,s5,e5,s7,sheetL]
      refine ⟨_,by kernel_rfl,a67,by simp [boxy],?_⟩
      simp [s0,s3,e3,s4,s5,e5,s7,sheetL]
      refine ⟨_,by kernel_rfl,a70,by simp [boxy],?_⟩
      simp [s0,s3,e3,s4,s5,e5,s7,sheetL]
      refine ⟨_,by kernel_rfl,hk,fun _=>rfl,?_⟩
      simp
  have hro:readO t=if 320 < t.length then .tup [sheetA sheet0,.int .i64 3] else match parsedE t with
    |.error _ => .tup [sheetA sheet0,.int .i64 4]
    |.ok x=>if sheetI x then .tup [sheetA x,.int .i64 0] else .tup [sheetA sheet0,.int .i64 2]:=rfl
  by_cases hl:320 < t.length
  · rw [if_pos hl] at hro
    cases hr:readE t with
    |error er=>exact key sheet0 sheet0 3 false hro (by rw [hr];rfl) (.inl ⟨3,by decide,rfl,rfl,.inl ⟨hl,rfl⟩⟩)
    |ok y=>exact key sheet0 y 3 true hro (by rw [hr];rfl) (.inl ⟨3,by decide,rfl,rfl,.inl ⟨hl,rfl⟩⟩)
  rw [if_neg hl] at hro
  cases hp:parsedE t with
  |error er =>
    rw [hp] at hro
    cases hr:readE t with
    |error er2=>exact key sheet0 sheet0 4 false hro (by rw [hr];rfl) (.inl ⟨4,by decide,rfl,rfl,.inr (.inl ⟨hl,rfl,rfl⟩)⟩)
    |ok y =>
      have:=read_same.1 hr
      rw [hp] at this
      cases this
  |ok x =>
    rw [hp] at hro
    have hr:=read_same.2 hp
    have hs:=parsedE_slim (by omega) hp
    have a33:=ac33 hG x hs
    simp only at hro
    cases hsh:sheetI x with
    |false =>
      rw [hsh] at hro a33
      exact key sheet0 x 2 true hro (by rw [hr];rfl) (.inl ⟨2,by decide,rfl,rfl,.inr (.inr ⟨hl,rfl,a33,rfl⟩)⟩)
    |true =>
      rw [hsh] at hro a33
      have a67:=ac67_ok hG hT x hs hsh
      rw [(parsed_ok hp).1] at a67
      exact key x x 0 true hro (by rw [hr];rfl) (.inr ⟨hl,rfl,a33,rfl,rfl,a67,ac70s hG x hs⟩)
end Go.Proofs.Tryz
namespace Go.Proofs.YtjdgdinalodjfaaGreatDoor
open Go Go.AL Go.ChangeShapes Go.WideShapes Go.ChangeAt Go.RowKit Go.Proofs.Tryz
set_option maxRecDepth 100000
namespace Reads
abbrev row:OpenClaim:=Rows.letterReadsRow
abbrev spec:ChangeSpec:=Rows.letterReadsSpec
theorem call (W:World) (base:Nat) (args:Array Value) {H:Type} {enc:TypeId×Value→H} (ds:List (DataW H)) (p:List MemPlace) (hG:GT W) (hval:∀ (j:Nat) t v,Tryz.f20.params[j]? = some t→args[j]? = some v→Value.okWide Tryz.prog W .any base t v)
  (hA:DataW.TrodAll enc Tryz.prog W 0 (fun _=>true) true Tryz.f20.params.toList args.toList ds p):Calls Tryz.prog 20 args W fun e W'=>e = .returned (.bool true)∧Below W.heap.size W W':=by
 rw [Tryz.params20] at hA hval
 obtain ⟨v0,vs0,d0,ds0,p0,q0,e0,rfl,rfl,h0,hr1⟩:=trodAll_cons hA
 obtain ⟨rfl,rfl,rfl⟩:=trodAll_nil hr1
 obtain rfl:args = #[v0]:=by
  apply Array.toList_inj.1;rw [e0]
 obtain ⟨x0,g0,a0⟩:=open_str (hval 0 9 v0 rfl rfl) h0
 refine calls_of (ac20 gt_stable (fun _ h=>h.1) (fun _ h=>h.2) x0) hG rfl fun i h h' => ?_
 match i,h with
 |0,_=>exact .data _ _ a0
theorem w1 (os:Os):((World.laidAll Tryz.prog os row.laid).forCall (fun _ _=>0) ⟨#[],#[.string ⟨#[]⟩],[]⟩).Shaped Tryz.checked.prog :=
 World.shaped_of_ZipB (by kernel_rfl) (by kernel_rfl)
theorem lifted (os:Os) (started:os.Started) (H:Type) (enc:TypeId×Value→H) :
  ReturnsInHanded {} Tryz.checked os 20 .any (fun w args=>(spec.pre enc Tryz.prog Tryz.f20 row.domain false w args∧laidMetH Tryz.prog row.laid w)∧sizedMet enc Tryz.prog Tryz.f20 (OpenSpec.ofChange spec) false w args)
   (spec.post enc Tryz.prog Tryz.f20 false true false false):=by
 refine lifted_ofT 20 Tryz.f20 Tryz.func20 (by kernel_rfl) (by kernel_rfl) spec rfl ?_ ?_ os started _ 12 (w1 os) (by kernel_rfl) (by kernel_rfl) (by kernel_rfl) ?_ (fun W base args ds p=>call W base args ds p)
 ·intro ds hl
  rw [show Tryz.f20.params.size=1 by kernel_rfl] at hl
  match ds,hl with
  |[d0],_=>rfl
 ·rw [Tryz.params20]
  intro t ht
  have:t=9:=by simpa using ht
  rcases this with rfl
  all_goals exact ⟨by kernel_rfl,of_decide_eq_true (by kernel_rfl)⟩
 ·rw [MakeChecks.laidMetH_plain _ _ _ (by kernel_rfl)];exact laidMet_laidAll _ (by kernel_rfl) (by kernel_rfl)
theorem f_named:Tryz.prog.funcNamed "mahlstick/mahlsticklaw01.LetterReads" = some 20:=by kernel_rfl
theorem f_inPlace:(row.inPlace==Tryz.prog.inPlace 20)=true:=by kernel_rfl
theorem f_unfollowed:(row.unfollowed==Tryz.prog.unfollowed 20)=true:=by kernel_rfl
theorem f_recurses:(row.recurses==Tryz.prog.recurses 20)=true:=by kernel_rfl
theorem f_vars:(row.named==Tryz.prog.varsNamed 20)=true:=by kernel_rfl
theorem joined:joinedFacts Tryz.prog 20 Tryz.f20 spec row=true :=
 joined_of ⟨rfl,rfl,rfl,rfl,rfl,rfl⟩ (by kernel_rfl) (by kernel_rfl) (by kernel_rfl) f_inPlace f_unfollowed f_recurses f_vars (by kernel_rfl) (by kernel_rfl) (by kernel_rfl) (by kernel_rfl)
theorem instanceOf:Tryz.f20.isInstance Tryz.prog row.origin row.targs:=of_decide_eq_true (by kernel_rfl)
theorem wrapperOf:Tryz.f20.isWrapper Tryz.prog row.wrapper row.mainSum:=by
 unfold Func.isWrapper
 rw [if_neg (by decide +kernel)]
 exact ⟨rfl,rfl⟩
theorem holds:Rows.LetterReadsSaid :=
 OpenClaim.holds_of_wide 20 Tryz.f20 rfl rfl rfl rfl rfl rfl rfl ⟨rfl,rfl,rfl,rfl,rfl⟩ rfl rfl rfl rfl rfl f_named Tryz.func20 joined instanceOf wrapperOf (fun os started H enc _=>lifted os started H enc)
theorem f_wf:row.wfByText (OpenSpec.ofChange spec)=true:=by kernel_rfl
theorem f_goes:false=row.goesBy Tryz.prog:=by kernel_rfl
theorem f_stand:([9].all fun u => !Tryz.prog.wantsStandIn u)=true:=by kernel_rfl
theorem f_main:Tryz.prog.mainIs=some (true, "c6c35c26350f8f1001e286baba07dbfbfaca16fe3311917b4f7043a2b45b2948".toList):=by rw [p_mainIs,p_sum]
theorem card:Rows.LetterReadsCardSaid :=
 Claim7.holds_tied_plain_at .later [] [.data,.data,.data,.data,.pinned] true (true, "c6c35c26350f8f1001e286baba07dbfbfaca16fe3311917b4f7043a2b45b2948") true holds (fun _ h=>by cases h) f_wf (fun _ h=>by cases h) letterReads_row_tie rfl ⟨rfl,rfl⟩ f_main rfl
  (fun f fn hf hfn=>by
   obtain rfl:f=20:=Option.some.inj (f_named.symm.trans hf) |>.symm
   obtain rfl:fn=Tryz.f20:=(Option.some.inj (Tryz.func20.symm.trans hfn)).symm
   refine ⟨p_looks,fun j t ht => ?_⟩
   rw [Tryz.params20] at ht
   have hm:t∈[9]:=by
    simpa using Array.mem_of_getElem? ht
   exact (show Tryz.prog.wantsStandIn t=false by simpa using List.all_eq_true.1 f_stand t hm))
  f_goes
end Reads
#print axioms Reads.card
end Go.Proofs.YtjdgdinalodjfaaGreatDoor
