import Derived.Test.YtekmkgegjicjgaaGreatZBas
import Derived.Test.YtekmkgegjicjgaaGreatZCmF
namespace Go.Proofs.YtekmkgegjicjgaaGreat
open Go.Dv Go.Dv.EvL
set_option maxRecDepth 100000
set_option maxHeartbeats 16000000
attribute [local irreducible] Ok Rm Dm Om Sm Xm Cm Gm Hm Tm
theorem nm_len (ws:List Txt)(h:(nmO ws).2=true):(nmO ws).1.length=ws.length:=by
 unfold nmO at h ⊢
 split at h
 ·rename_i h2
  rw [if_pos h2]
  exact List.length_map ..
 ·cases h
theorem row_grow2 {L:List Txt}{i:Nat}{x:Txt}(h:i<L.length)(hx:L.getD i default=x):(L.take i).map PV.str++[.str x]=(L.take (i+1)).map PV.str:=by
 rw [take_snoc (d:=default) h,List.map_append,hx]
 rfl
theorem row_all2 {L:List Txt}{i:Nat}:List.take i ((L.take i).map PV.str)=(L.take i).map PV.str:=List.take_of_length_le (by rw [List.length_map,List.length_take]; omega)
theorem map_at2 {α : Type}[Inhabited α]{F:List α}{g : α → Txt}{i:Nat}(h:i<F.length):(F.map g).getD i default=g (F.getD i default):=by
 rw [List.getD_eq_getElem?_getD,List.getElem?_map,List.getElem?_eq_getElem h,List.getD_eq_getElem?_getD,List.getElem?_eq_getElem h]
 rfl
theorem fa_le2 {F:List Int}(h : ∀ a∈F,1≤a∧a≤65535) : ∀ i,i<(F.map num).length→((F.map num).getD i []).length≤20:=fun i hi=>by
 rw [List.length_map] at hi
 have h1:=h _ (getD_mem (d:=default) hi)
 have h3:(F.map num).getD i []=num (F.getD i default):=map_at2 (g:=num) hi
 rw [h3]
 exact num_le (by omega)
theorem pair_le2 {F:List Al}(h : ∀ a∈F,alB a=true) : ∀ i,i<(F.map pairT).length→((F.map pairT).getD i []).length≤41:=fun i hi=>by
 rw [List.length_map] at hi
 have h1:=al_in (h _ (getD_mem (d:=default) hi))
 have h3:(F.map pairT).getD i []=pairT (F.getD i default):=map_at2 (g:=pairT) hi
 rw [h3]
 have a1:=num_le (n:=(F.getD i default).low) (by omega)
 have a2:=num_le (n:=(F.getD i default).high) (by omega)
 unfold pairT
 simp only [List.length_append,List.length_cons,List.length_nil]
 omega
theorem k_listed0:Okv Tryz.prog 114 [.sl 1 []] (.p (.str (lsT []))):=k_listed [] 0 (by simp) (by omega) (fun i hi=>by simp at hi)
theorem k_reply_t (c:Cs)(s:Txt)(ws:List Txt)(X:Rs)(hs:s.length≤1048576)(hW:splitB 32 s=ws)(hT:Ok Tryz.prog 109 [c.dv 0 1,.p (slS ws)] c.rows (RsD c tT X)):Ok Tryz.prog 59 [c.dv 0 1,.p (.str s)] c.rows (RsD c tR X):=by
 refine ok_D hmix c_impl_Console_reply (by simp) ?_
 have h0:=k_splitP s (by omega)
 rw [hW] at h0
 rw [cs_dv,cs_rows] at hT
 cases X with
 | same r =>
  rw [cs_dv,cs_rows]
  refine sF fun dc hdc => ?_; refine sA ?_
  repeat' (first|refine sA ?_|refine sO ‹_› fun dc hdc => ?_|refine sN ?_|(refine Rm_o h0 rfl (fun r H2 hh => ?_); obtain ⟨rfl,rfl⟩:=hh)|(refine Rm_i [0,1] hT (by simp) (by simp) ⟨_,_,rfl,.inl rfl,_,_,rfl,.inr ⟨_,rfl,rfl⟩,rfl⟩ (fun r H2 hh => ?_); obtain ⟨rfl,rfl⟩:=hh; all_goals simp only [cs_dv,cs_rows,tT_eq])|refine sB ?_|refine sX ?_ ?_<;>(try intro h)<;>(try omega)|exact sP|refine rK ?_|exact sQ|refine sD ?_|exact sE|omega)
  all_goals first
   | exact ret_k (.tup (c.dv 0 1::tR r true)) (c.rows) (by kernel_rfl) (rs_same c tR r)
   | skip
 | rcv m ys r =>
  rw [cs_dv,cs_rows]
  refine sF fun dc hdc => ?_; refine sA ?_
  repeat' (first|refine sA ?_|refine sO ‹_› fun dc hdc => ?_|refine sN ?_|(refine Rm_o h0 rfl (fun r H2 hh => ?_); obtain ⟨rfl,rfl⟩:=hh)|(refine Rm_i [0,1] hT (by simp) (by simp) ⟨_,_,rfl,.inl rfl,_,_,rfl,.inr ⟨_,rfl,rfl⟩,rfl⟩ (fun r H2 hh => ?_); obtain ⟨rfl,rfl⟩:=hh; all_goals simp only [cs_dR,rowsR,tT_eq])|refine sB ?_|refine sX ?_ ?_<;>(try intro h)<;>(try omega)|exact sP|refine rK ?_|exact sQ|refine sD ?_|exact sE|omega)
  all_goals first
   | exact ret_k (.tup (c.dR m ys.length::tR r true)) (rowsR c ys) (by kernel_rfl) (rs_rcv c tR r _ _)
   | skip
 | alr ys r =>
  rw [cs_dv,cs_rows]
  refine sF fun dc hdc => ?_; refine sA ?_
  repeat' (first|refine sA ?_|refine sO ‹_› fun dc hdc => ?_|refine sN ?_|(refine Rm_o h0 rfl (fun r H2 hh => ?_); obtain ⟨rfl,rfl⟩:=hh)|(refine Rm_i [0,1] hT (by simp) (by simp) ⟨_,_,rfl,.inl rfl,_,_,rfl,.inr ⟨_,rfl,rfl⟩,rfl⟩ (fun r H2 hh => ?_); obtain ⟨rfl,rfl⟩:=hh; all_goals simp only [cs_dA,rowsA,tT_eq])|refine sB ?_|refine sX ?_ ?_<;>(try intro h)<;>(try omega)|exact sP|refine rK ?_|exact sQ|refine sD ?_|exact sE|omega)
  all_goals first
   | exact ret_k (.tup (c.dA ys.length::tR r true)) (rowsA c ys) (by kernel_rfl) (rs_alr c tR r _)
   | skip
 | bad =>
  rw [cs_dv,cs_rows]
  refine sF fun dc hdc => ?_; refine sA ?_
  repeat' (first|refine sA ?_|refine sO ‹_› fun dc hdc => ?_|refine sN ?_|(refine Rm_o h0 rfl (fun r H2 hh => ?_); obtain ⟨rfl,rfl⟩:=hh)|(refine Rm_i [0,1] hT (by simp) (by simp) ⟨_,_,rfl,.inl rfl,_,_,rfl,.inr ⟨_,rfl,rfl⟩,rfl⟩ (fun r H2 hh => ?_); obtain ⟨r0,rfl|rfl|rfl,rfl⟩:=hh; all_goals simp only [cs_dv,cs_dB,cs_dC,cs_rows,tT_eq])|refine sB ?_|refine sX ?_ ?_<;>(try intro h)<;>(try omega)|exact sP|refine rK ?_|exact sQ|refine sD ?_|exact sE|omega)
  ·exact ret_k (.tup (c.dv 0 1::tR r0 false)) (c.rows) (by kernel_rfl) (rs_bad1 c tR r0)
  ·exact ret_k (.tup (c.dB::tR r0 false)) (c.rows) (by kernel_rfl) (rs_bad2 c tR r0)
  ·exact ret_k (.tup (c.dC::tR r0 false)) (c.rows) (by kernel_rfl) (rs_bad3 c tR r0)
end Go.Proofs.YtekmkgegjicjgaaGreat
namespace Go.Proofs.YtekmkgegjicjgaaGreat
open Go.Dv Go.Dv.EvL
set_option maxRecDepth 100000
set_option maxHeartbeats 16000000
attribute [local irreducible] Ok Rm Dm Om Sm Xm Cm Gm Hm Tm
theorem k_reply1 (c:Cs)(s w:Txt)(hf:CsFits c)(hv:csB c=true)(hs:s.length≤1000)(hW:splitB 32 s=[w]):Ok Tryz.prog 59 [c.dv 0 1,.p (.str s)] c.rows (RsD c tR (runR c ([w]))):=by
 refine ok_D hmix c_impl_Console_reply (by simp) ?_
 have h0:=k_splitP s (by omega)
 have hwl : ∀ {x:Txt},x∈splitB 32 s→x.length≤1000:=fun h=>by have:=c_words_len h; omega
 rw [hW] at h0 hwl
 have ci:=cs_in hv
 have hN:=k_arguments ([]) ⟨by simp,fun x h=>by have:=hwl (List.mem_cons_of_mem _ h); omega⟩
 have hT:=k_txtN1 c w
 rw [cs_dv,cs_rows] at hT
 rw [show nmO []=([],true) from rfl] at hN
 by_cases hw_fresh:w=wFresh
 ·skip
  have q:=q8_fresh hw_fresh
  have hr:runR c [w]=freshR c:=by rw [hw_fresh]; rfl
  rw [hr]
  have a1:=k_iFreshO c.mn c.hl hf.1
  have fin:=fa_in (n:=c.mn) ci.2.2.1 (Nat.le_refl _)
  unfold freshR
  unfold faD at a1
  unfold faO at a1
  rw [if_pos (show recB2 c.mn c.hl=true by have:=hv; unfold csB at this; simp only [Bool.and_eq_true] at this; exact this.1.1)] at a1
  have fln:=faTo_len c.mn c.hl c.hl.length
  have hl6:=ci.2.1
  generalize faTo c.mn c.hl c.hl.length=F at *
  simp only [] at a1
  rw [cs_dv,cs_rows]
  refine sF fun dc hdc => ?_; refine sA ?_
  repeat' (first|refine sA ?_|refine sO ‹_› fun dc hdc => ?_|refine sN ?_|(refine Rm_o h0 rfl (fun r H2 hh => ?_); obtain ⟨rfl,rfl⟩:=hh)|simp only [q]|refine dr ?_|refine dr2 ?_|refine dr4 ?_|refine dr5 ?_|refine dr6 ?_|(refine Rm_i [0,1] hT (by simp) (by simp) ⟨_,_,rfl,.inl rfl,_,_,rfl,.inr ⟨_,rfl,rfl⟩,rfl⟩ (fun r H2 hh => ?_); obtain ⟨rfl,rfl⟩:=hh; (try simp only [cs_dv,cs_dR,cs_dA,cs_dB,cs_dC,cs_rows,rowsR,rowsA,tS_eq,tT_eq,tR_eq]))|(refine Rm_o hN rfl (fun r H2 hh => ?_); obtain ⟨rfl,rfl⟩:=hh)|(refine Rm_l a1 (by simp [viewOfs,viewOf,List.take_of_length_le]) (fun r H2 hh => ?_); obtain ⟨rfl,rfl⟩:=hh; refine ⟨by simp [flatD,flatDs,flatP],by simp [flatH,flatB,flat_ints],?_⟩)|refine sB ?_|refine sX ?_ ?_<;>(try intro h)<;>(try omega)|exact sP|refine rK ?_|exact sQ|refine sD ?_|exact sE|omega)
  have hle:=fa_le2 fin
  have a2:=k_listed (F.map num) 20 (by rw [List.length_map]; omega) (by omega) hle
  have hgr:=fun i h1 h2=>row_grow2 (L:=F.map num) (i:=i) (x:=num (F.getD i default)) h1 h2
  have hat:=fun i h=>map_at2 (F:=F) (g:=num) (i:=i) h
  have hall:=fun i=>row_all2 (L:=F.map num) (i:=i)
  have hLn:(F.map num).length=F.length:=List.length_map ..
  generalize F.map num=L at *
  refine Dm_loop [2,4,14,21,125,126,127] (fun v ds H' => ∃ i:Nat,i≤F.length∧v=F.length - i ∧
   ((i=0∧ds=[.ptr 2 0 0,.ptr 3 0 0,.nil,.p (.bool true),.own 4 0 F.length,.p (.int .i64 F.length),.p (.int .i64 i)]∧H'=[.arr 111 10 (c.hl.map Hd.pv),.arr 114 5 (c.al.map Al.pv),.box 40 [.p (.int .i64 c.mn),.own 0 0 c.hl.length,.own 1 0 c.al.length,.p (.str c.lg.dur),.p (.str c.lg.pend),.p (.int .i64 c.lg.cnt)],.box 40 [.p (.int .i64 0),.nil,.nil,.p (.str []),.p (.str []),.p (.int .i64 0)],.arr 3 1 (F.map (.int .i64))]) ∨
    (ds=[.ptr 2 0 0,.ptr 3 0 0,.own 4 0 i,.p (.bool true),.own 5 0 F.length,.p (.int .i64 F.length),.p (.int .i64 i)]∧H'=[.arr 111 10 (c.hl.map Hd.pv),.arr 114 5 (c.al.map Al.pv),.box 40 [.p (.int .i64 c.mn),.own 0 0 c.hl.length,.own 1 0 c.al.length,.p (.str c.lg.dur),.p (.str c.lg.pend),.p (.int .i64 c.lg.cnt)],.box 40 [.p (.int .i64 0),.nil,.nil,.p (.str []),.p (.str []),.p (.int .i64 0)],.arr 9 1 ((L.take i).map .str),.arr 3 1 (F.map (.int .i64))]))) F.length ⟨0,by omega,by omega,.inl ⟨rfl,by kernel_rfl,by kernel_rfl⟩⟩ ?_
  rintro v ds H' ⟨i,hi,rfl,hh⟩ -
  have hall:=hall i
  rcases Nat.lt_or_ge i F.length with hlt|hge
  ·have hgr2:=take_gr (L:=L) (by omega) (hat i hlt)
   have hgr:=hgr i (by omega) (hat i hlt)
   have f1:=fin _ (getD_mem (d:=default) hlt)
   have t1:=k_text (F.getD i default) (by omega)
   generalize num (F.getD i default)=T at *
   rcases hh with ⟨rfl,rfl,rfl⟩|⟨rfl,rfl⟩
   ·have hN1:[PV.str (T)]=(L.take (0+1)).map PV.str:=hgr
    have hN2:[(T)]=L.take (0+1):=hgr2
    clear hgr hat hle a1
    repeat' (first|refine sA ?_|refine sO ‹_› fun dc hdc => ?_|refine sN ?_|(refine Rm_o h0 rfl (fun r H2 hh => ?_); obtain ⟨rfl,rfl⟩:=hh)|simp only [q]|refine dr ?_|refine dr2 ?_|refine dr4 ?_|refine dr5 ?_|refine dr6 ?_|refine rW rfl (t1) ?_|refine rV (t1) ?_|rw [hN1]|rw [hN2]|refine sB ?_|refine sX ?_ ?_<;>(try intro h)<;>(try omega)|exact sP|refine rK ?_|exact sQ|refine sD ?_|exact sE|omega)
    all_goals first
     | exact Xm_inv_n (F.length - (0+1)) (by omega) ⟨0+1,by omega,rfl,.inr ⟨by kernel_rfl,by kernel_rfl⟩⟩
     | skip
   ·clear hat hle a1
    repeat' (first|refine sA ?_|refine sO ‹_› fun dc hdc => ?_|refine sN ?_|(refine Rm_o h0 rfl (fun r H2 hh => ?_); obtain ⟨rfl,rfl⟩:=hh)|simp only [q]|refine dr ?_|refine dr2 ?_|refine dr4 ?_|refine dr5 ?_|refine dr6 ?_|refine rW rfl (t1) ?_|refine rV (t1) ?_|rw [hall]|rw [hgr]|rw [take_tk]|rw [hgr2]|refine sB ?_|refine sX ?_ ?_<;>(try intro h)<;>(try omega)|exact sP|refine rK ?_|exact sQ|refine sD ?_|exact sE|omega)
    all_goals first
     | exact Xm_inv_n (F.length - (i+1)) (by omega) ⟨i+1,by omega,rfl,.inr ⟨by kernel_rfl,by kernel_rfl⟩⟩
     | skip
  ·obtain rfl:i=F.length:=by omega
   have hLt:L.take F.length=L:=List.take_of_length_le (by omega)
   rw [hLt] at hh
   rcases hh with ⟨h0,rfl,rfl⟩|⟨rfl,rfl⟩
   ·have hLz:L=[]:=List.eq_nil_of_length_eq_zero (by omega)
    subst hLz
    have a3:=k_listed0
    repeat' (first|refine sA ?_|refine sO ‹_› fun dc hdc => ?_|refine sN ?_|(refine Rm_o h0 rfl (fun r H2 hh => ?_); obtain ⟨rfl,rfl⟩:=hh)|simp only [q]|refine dr ?_|refine dr2 ?_|refine dr4 ?_|refine dr5 ?_|refine dr6 ?_|refine rW rfl (a3) ?_|refine rV (a3) ?_|refine sB ?_|refine sX ?_ ?_<;>(try intro h)<;>(try omega)|exact sP|refine rK ?_|exact sQ|refine sD ?_|exact sE|omega)
    all_goals first
     | exact ret_k (.tup (c.dv 0 1::tR (lsT []) true)) (c.rows) (by kernel_rfl) (rs_same c tR (lsT []))
     | skip
   ·rw [← hLn]
    repeat' (first|refine sA ?_|refine sO ‹_› fun dc hdc => ?_|refine sN ?_|(refine Rm_o h0 rfl (fun r H2 hh => ?_); obtain ⟨rfl,rfl⟩:=hh)|simp only [q]|refine dr ?_|refine dr2 ?_|refine dr4 ?_|refine dr5 ?_|refine dr6 ?_|refine rW rfl (a2) ?_|refine rV (a2) ?_|refine sB ?_|refine sX ?_ ?_<;>(try intro h)<;>(try omega)|exact sP|refine rK ?_|exact sQ|refine sD ?_|exact sE|omega)
    all_goals first
     | exact ret_k (.tup (c.dv 0 1::tR (lsT L) true)) (c.rows) (by kernel_rfl) (rs_same c tR (lsT L))
     | skip
 by_cases hw_alerts:w=wAlerts
 ·skip
  have q:=q8_alerts hw_alerts
  have hr:runR c [w]=alertsR c:=by rw [hw_alerts]; rfl
  rw [hr]
  have a1:=k_iUnseenO c.al hf.2.1
  have fin:=uo_in (xs:=c.al) ci.2.2.2.2.1 (Nat.le_refl _)
  unfold alertsR
  unfold uoD at a1
  unfold uoO at a1
  rw [if_pos (show alsB c.al=true by have:=hv; unfold csB at this; simp only [Bool.and_eq_true] at this; exact this.1.2)] at a1
  have fln:=uoTo_len c.al c.al.length
  have hl6:=ci.2.2.2.1
  generalize uoTo c.al c.al.length=F at *
  simp only [] at a1
  rw [cs_dv,cs_rows]
  refine sF fun dc hdc => ?_; refine sA ?_
  repeat' (first|refine sA ?_|refine sO ‹_› fun dc hdc => ?_|refine sN ?_|(refine Rm_o h0 rfl (fun r H2 hh => ?_); obtain ⟨rfl,rfl⟩:=hh)|simp only [q]|refine dr ?_|refine dr2 ?_|refine dr4 ?_|refine dr5 ?_|refine dr6 ?_|(refine Rm_i [0,1] hT (by simp) (by simp) ⟨_,_,rfl,.inl rfl,_,_,rfl,.inr ⟨_,rfl,rfl⟩,rfl⟩ (fun r H2 hh => ?_); obtain ⟨rfl,rfl⟩:=hh; (try simp only [cs_dv,cs_dR,cs_dA,cs_dB,cs_dC,cs_rows,rowsR,rowsA,tS_eq,tT_eq,tR_eq]))|(refine Rm_o hN rfl (fun r H2 hh => ?_); obtain ⟨rfl,rfl⟩:=hh)|(refine Rm_l a1 (by simp [viewOfs,viewOf,List.take_of_length_le]) (fun r H2 hh => ?_); obtain ⟨rfl,rfl⟩:=hh; refine ⟨by simp [flatD,flatDs,flatP],by simp [flatH,flatB,flat_pairs],?_⟩)|refine sB ?_|refine sX ?_ ?_<;>(try intro h)<;>(try omega)|exact sP|refine rK ?_|exact sQ|refine sD ?_|exact sE|omega)
  have hle:=pair_le2 fin
  have a2:=k_listed (F.map pairT) 41 (by rw [List.length_map]; omega) (by omega) hle
  have hgr:=fun i h1 h2=>row_grow2 (L:=F.map pairT) (i:=i) (x:=pairT (F.getD i default)) h1 h2
  have hat:=fun i h=>map_at2 (F:=F) (g:=pairT) (i:=i) h
  have hall:=fun i=>row_all2 (L:=F.map pairT) (i:=i)
  have hLn:(F.map pairT).length=F.length:=List.length_map ..
  generalize F.map pairT=L at *
  refine Dm_loop [2,4,14,29,201,202,203] (fun v ds H' => ∃ i:Nat,i≤F.length∧v=F.length - i ∧
   ((i=0∧ds=[.ptr 2 0 0,.ptr 3 0 0,.nil,.p (.bool true),.own 4 0 F.length,.p (.int .i64 F.length),.p (.int .i64 i)]∧H'=[.arr 111 10 (c.hl.map Hd.pv),.arr 114 5 (c.al.map Al.pv),.box 40 [.p (.int .i64 c.mn),.own 0 0 c.hl.length,.own 1 0 c.al.length,.p (.str c.lg.dur),.p (.str c.lg.pend),.p (.int .i64 c.lg.cnt)],.box 40 [.p (.int .i64 0),.nil,.nil,.p (.str []),.p (.str []),.p (.int .i64 0)],.arr 158 2 (F.map pairPV)]) ∨
    (ds=[.ptr 2 0 0,.ptr 3 0 0,.own 4 0 i,.p (.bool true),.own 5 0 F.length,.p (.int .i64 F.length),.p (.int .i64 i)]∧H'=[.arr 111 10 (c.hl.map Hd.pv),.arr 114 5 (c.al.map Al.pv),.box 40 [.p (.int .i64 c.mn),.own 0 0 c.hl.length,.own 1 0 c.al.length,.p (.str c.lg.dur),.p (.str c.lg.pend),.p (.int .i64 c.lg.cnt)],.box 40 [.p (.int .i64 0),.nil,.nil,.p (.str []),.p (.str []),.p (.int .i64 0)],.arr 9 1 ((L.take i).map .str),.arr 158 2 (F.map pairPV)]))) F.length ⟨0,by omega,by omega,.inl ⟨rfl,by kernel_rfl,by kernel_rfl⟩⟩ ?_
  rintro v ds H' ⟨i,hi,rfl,hh⟩ -
  have hall:=hall i
  rcases Nat.lt_or_ge i F.length with hlt|hge
  ·have hgr2:=take_gr (L:=L) (by omega) (hat i hlt)
   have hgr:=hgr i (by omega) (hat i hlt)
   have f1:=al_in (fin _ (getD_mem (d:=default) hlt))
   have t1:=k_text (F.getD i default).low (by omega)
   have t2:=k_text (F.getD i default).high (by omega)
   have u1:=num_le (n:=(F.getD i default).low) (by omega)
   have u2:=num_le (n:=(F.getD i default).high) (by omega)
   unfold pairT at hgr hgr2
   generalize num (F.getD i default).low=T at *
   generalize num (F.getD i default).high=T2 at *
   rcases hh with ⟨rfl,rfl,rfl⟩|⟨rfl,rfl⟩
   ·have hN1:[PV.str (T++[45]++T2)]=(L.take (0+1)).map PV.str:=hgr
    have hN2:[(T++[45]++T2)]=L.take (0+1):=hgr2
    clear hgr hat hle a1
    repeat' (first|refine sA ?_|refine sO ‹_› fun dc hdc => ?_|refine sN ?_|(refine Rm_o h0 rfl (fun r H2 hh => ?_); obtain ⟨rfl,rfl⟩:=hh)|simp only [q]|refine Dm_draw [5] (by simp) ?_|refine dr ?_|refine dr2 ?_|refine dr4 ?_|refine dr5 ?_|refine dr6 ?_|refine rW rfl (t1) ?_|refine rV (t1) ?_|refine rW rfl (t2) ?_|refine rV (t2) ?_|simp only [List.length_append,List.length_cons,List.length_nil]|rw [hN1]|rw [hN2]|refine sB ?_|refine sX ?_ ?_<;>(try intro h)<;>(try omega)|exact sP|refine rK ?_|exact sQ|refine sD ?_|exact sE|omega)
    all_goals first
     | exact Xm_inv_n (F.length - (0+1)) (by omega) ⟨0+1,by omega,rfl,.inr ⟨by kernel_rfl,by kernel_rfl⟩⟩
     | skip
   ·clear hat hle a1
    repeat' (first|refine sA ?_|refine sO ‹_› fun dc hdc => ?_|refine sN ?_|(refine Rm_o h0 rfl (fun r H2 hh => ?_); obtain ⟨rfl,rfl⟩:=hh)|simp only [q]|refine Dm_draw [6] (by simp) ?_|refine dr ?_|refine dr2 ?_|refine dr4 ?_|refine dr5 ?_|refine dr6 ?_|refine rW rfl (t1) ?_|refine rV (t1) ?_|refine rW rfl (t2) ?_|refine rV (t2) ?_|simp only [List.length_append,List.length_cons,List.length_nil]|rw [hall]|rw [hgr]|rw [take_tk]|rw [hgr2]|refine sB ?_|refine sX ?_ ?_<;>(try intro h)<;>(try omega)|exact sP|refine rK ?_|exact sQ|refine sD ?_|exact sE|omega)
    all_goals first
     | exact Xm_inv_n (F.length - (i+1)) (by omega) ⟨i+1,by omega,rfl,.inr ⟨by kernel_rfl,by kernel_rfl⟩⟩
     | skip
  ·obtain rfl:i=F.length:=by omega
   have hLt:L.take F.length=L:=List.take_of_length_le (by omega)
   rw [hLt] at hh
   rcases hh with ⟨h0,rfl,rfl⟩|⟨rfl,rfl⟩
   ·have hLz:L=[]:=List.eq_nil_of_length_eq_zero (by omega)
    subst hLz
    have a3:=k_listed0
    repeat' (first|refine sA ?_|refine sO ‹_› fun dc hdc => ?_|refine sN ?_|(refine Rm_o h0 rfl (fun r H2 hh => ?_); obtain ⟨rfl,rfl⟩:=hh)|simp only [q]|refine dr ?_|refine dr2 ?_|refine dr4 ?_|refine dr5 ?_|refine dr6 ?_|refine rW rfl (a3) ?_|refine rV (a3) ?_|refine sB ?_|refine sX ?_ ?_<;>(try intro h)<;>(try omega)|exact sP|refine rK ?_|exact sQ|refine sD ?_|exact sE|omega)
    all_goals first
     | exact ret_k (.tup (c.dv 0 1::tR (lsT []) true)) (c.rows) (by kernel_rfl) (rs_same c tR (lsT []))
     | skip
   ·rw [← hLn]
    repeat' (first|refine sA ?_|refine sO ‹_› fun dc hdc => ?_|refine sN ?_|(refine Rm_o h0 rfl (fun r H2 hh => ?_); obtain ⟨rfl,rfl⟩:=hh)|simp only [q]|refine dr ?_|refine dr2 ?_|refine dr4 ?_|refine dr5 ?_|refine dr6 ?_|refine rW rfl (a2) ?_|refine rV (a2) ?_|refine sB ?_|refine sX ?_ ?_<;>(try intro h)<;>(try omega)|exact sP|refine rK ?_|exact sQ|refine sD ?_|exact sE|omega)
    all_goals first
     | exact ret_k (.tup (c.dv 0 1::tR (lsT L) true)) (c.rows) (by kernel_rfl) (rs_same c tR (lsT L))
     | skip
 rw [r1_bad c hw_fresh hw_alerts]
 rcases g8 w with ⟨q,hw⟩|⟨q,hw⟩|⟨q,hw⟩|⟨q,hw⟩|⟨q,hw⟩|⟨q,hw⟩|⟨q,hw⟩|⟨q,hw⟩
 all_goals first|exact absurd hw hw_fresh|exact absurd hw hw_alerts|clear hw
 all_goals
  rw [cs_dv,cs_rows]
  refine sF fun dc hdc => ?_; refine sA ?_
  repeat' (first|refine sA ?_|refine sO ‹_› fun dc hdc => ?_|refine sN ?_|(refine Rm_o h0 rfl (fun r H2 hh => ?_); obtain ⟨rfl,rfl⟩:=hh)|simp only [q]|refine dr ?_|refine dr2 ?_|refine dr4 ?_|refine dr5 ?_|refine dr6 ?_|(refine Rm_i [0,1] hT (by simp) (by simp) ⟨_,_,rfl,.inl rfl,_,_,rfl,.inr ⟨_,rfl,rfl⟩,rfl⟩ (fun r H2 hh => ?_); obtain ⟨rfl,rfl⟩:=hh; (try simp only [cs_dv,cs_dR,cs_dA,cs_dB,cs_dC,cs_rows,rowsR,rowsA,tS_eq,tT_eq,tR_eq]))|(refine Rm_o hN rfl (fun r H2 hh => ?_); obtain ⟨rfl,rfl⟩:=hh)|refine sB ?_|refine sX ?_ ?_<;>(try intro h)<;>(try omega)|exact sP|refine rK ?_|exact sQ|refine sD ?_|exact sE|omega)
 all_goals first
  | exact ret_k (.tup (c.dv 0 1::tR [] false)) (c.rows) (by kernel_rfl) (rs_bad1 c tR [])
  | skip
end Go.Proofs.YtekmkgegjicjgaaGreat
