import Derived.Test.YtekmkgegjicjgaaGreatZBas
import Derived.Test.YtekmkgegjicjgaaGreatZCmE
import Derived.Test.YtekmkgegjicjgaaGreatZCmK
import Derived.Test.YtekmkgegjicjgaaGreatZLogX
namespace Go.Proofs.YtekmkgegjicjgaaGreat
open Go.Dv Go.Dv.EvL
set_option maxRecDepth 100000
set_option maxHeartbeats 16000000
attribute [local irreducible] Ok Rm Dm Om Sm Xm Cm Gm Hm Tm
def runTo (c:Cs)(ls:List Txt):Nat→Cs × List Txt
 | 0=>(c,[])
 | i+1=>((exO (runTo c ls i).1 (ls.getD i default)).1,(runTo c ls i).2++[(exO (runTo c ls i).1 (ls.getD i default)).2])
theorem runTo_len (c:Cs)(ls:List Txt) : ∀ i,(runTo c ls i).2.length=i
 | 0=>rfl
 | i+1=>by simp [runTo,runTo_len c ls i]
theorem runTo_fits {c:Cs}(hf:CsFits c)(ls:List Txt) : ∀ i,CsFits (runTo c ls i).1
 | 0=>hf
 | i+1=>ex_fits (runTo_fits hf ls i) _
def scB (c:Cs)(t:Txt):Bool:=csB c && decide (t.length≤4000) && decide ((splitB 10 t).length≤30)
def scO (c:Cs)(t:Txt):List Txt × Bool:=if scB c t=true then ((runTo c (splitB 10 t) (splitB 10 t).length).2,true) else ([],false)
def scD (c:Cs)(t:Txt)(d:DV)(H:Heap):Prop:=d = .tup [.own 0 0 (scO c t).1.length,.p (.bool (scO c t).2)]∧H=[.arr 9 1 ((scO c t).1.map .str)]
theorem k_splitN (s:Txt)(hl:s.length≤1099511627776):Okv Tryz.prog 46 [.str s,.int .u8 10] (.p (slS (splitB 10 s))):=spl_pl (k_split s 10 hl)
theorem k_l1SplitN (s:Txt)(hl:s.length≤1099511627776):Okv Tryz.prog 42 [.str s,.int .u8 10] (.p (slS (splitB 10 s))):=spl_pl (k_l1Split s 10 hl)
theorem scB_in {c:Cs}{t:Txt}(h:scB c t=true):csB c=true∧t.length≤4000∧(splitB 10 t).length≤30:=by
 unfold scB at h
 simp only [Bool.and_eq_true,decide_eq_true_eq] at h
 exact ⟨h.1.1,h.1.2,h.2⟩
theorem rp_grow {c:Cs}{ls:List Txt}{i:Nat}{T:Txt}(h:(exO (runTo c ls i).1 (ls.getD i default)).2=T):(runTo c ls i).2.map PV.str++[.str T]=(runTo c ls (i+1)).2.map PV.str:=by
 show _=((runTo c ls i).2++[_]).map PV.str
 rw [List.map_append,h]
 rfl
theorem rp_all {c:Cs}{ls:List Txt}{i:Nat}:List.take i ((runTo c ls i).2.map PV.str)=(runTo c ls i).2.map PV.str:=List.take_of_length_le (by rw [List.length_map,runTo_len]; omega)
theorem rp_grow2 {c:Cs}{ls:List Txt}{i:Nat}{T:Txt}(h:(exO (runTo c ls i).1 (ls.getD i default)).2=T):(runTo c ls i).2++[T]=(runTo c ls (i+1)).2:=by
 rw [← h]
 rfl
theorem rp_all2 {c:Cs}{ls:List Txt}{i:Nat}:List.take i (runTo c ls i).2=(runTo c ls i).2:=List.take_of_length_le (by rw [runTo_len]; omega)
theorem k_sScript (c:Cs)(t:Txt)(hf:CsFits c)(ht:t.length≤1048576):Okw Tryz.prog 10 [c.pv,.str t] (scD c t):=by
 refine ok_D hmix c_spec_RunScript (by simp) ?_
 have h0:=k_l1SplitN t (by omega)
 have h1:=k_l28Good c hf
 have hB:scB c t=(csB c && decide (t.length≤4000) && decide ((splitB 10 t).length≤30)):=rfl
 have hs:scO c t=if scB c t=true then ((runTo c (splitB 10 t) (splitB 10 t).length).2,true) else ([],false):=rfl
 have hlen:=split_len 10 t
 have hwl : ∀ {x:Txt},x∈splitB 10 t→x.length≤1048576:=fun h=>by have:=c_words_len h; omega
 unfold scD
 generalize hls:splitB 10 t=ls at *
 cases hv:scB c t
 ·rw [hv,if_neg (by decide)] at hs
  rw [hs]
  rw [hv] at hB
  clear hs hv
  rw [cs_pv] at *
  cases hc:csB c
  ·rw [hc] at h1
   refine sF fun dc hdc => ?_; refine sA ?_
   repeat' (first|refine sA ?_|refine sO ‹_› fun dc hdc => ?_|refine sN ?_|(refine Rm_o h0 rfl (fun r H2 hh => ?_); obtain ⟨rfl,rfl⟩:=hh)|refine rW rfl (h1) ?_|refine rV (h1) ?_|refine sB ?_|refine sX ?_ ?_<;>(try intro h)<;>(try omega)|exact sP|refine rK ?_|exact sQ|refine sD ?_|exact sE|omega)
   all_goals first
    | exact ret_k (.tup [.own 0 0 0,.p (.bool false)]) [.arr 9 1 []] (by kernel_rfl) ⟨rfl,rfl⟩
    | skip
  ·rw [hc] at h1 hB
   simp only [Bool.true_and] at hB
   have hB2 : ¬ (t.length≤4000∧ls.length≤30):=by
    intro h
    rw [decide_eq_true h.1,decide_eq_true h.2] at hB
    cases hB
   clear hB
   refine sF fun dc hdc => ?_; refine sA ?_
   repeat' (first|refine sA ?_|refine sO ‹_› fun dc hdc => ?_|refine sN ?_|(refine Rm_o h0 rfl (fun r H2 hh => ?_); obtain ⟨rfl,rfl⟩:=hh)|refine rW rfl (h1) ?_|refine rV (h1) ?_|refine sB ?_|refine sX ?_ ?_<;>(try intro h)<;>(try omega)|exact sP|refine rK ?_|exact sQ|refine sD ?_|exact sE|omega)
   all_goals first
    | omega
    | exact ret_k (.tup [.own 0 0 0,.p (.bool false)]) [.arr 9 1 []] (by kernel_rfl) ⟨rfl,rfl⟩
    | skip
 ·rw [hv,if_pos rfl] at hs
  rw [hs]
  obtain ⟨g1,g2,g3⟩:=scB_in hv
  rw [hls] at g3
  rw [g1] at h1
  simp only [runTo_len]
  clear hs hB
  have hstart:c.pv = .agg [.int .i64 (runTo c ls 0).1.mn,.sl 10 ((runTo c ls 0).1.hl.map Hd.pv),.sl 5 ((runTo c ls 0).1.al.map Al.pv),.str (runTo c ls 0).1.lg.dur,.str (runTo c ls 0).1.lg.pend,.int .i64 (runTo c ls 0).1.lg.cnt]:=rfl
  rw [hstart] at h1 ⊢
  refine sF fun dc hdc => ?_; refine sA ?_
  repeat' (first|refine sA ?_|refine sO ‹_› fun dc hdc => ?_|refine sN ?_|(refine Rm_o h0 rfl (fun r H2 hh => ?_); obtain ⟨rfl,rfl⟩:=hh)|refine rW rfl (h1) ?_|refine rV (h1) ?_|refine sB ?_|refine sX ?_ ?_<;>(try intro h)<;>(try omega)|exact sP|refine rK ?_|exact sQ|refine sD ?_|exact sE|omega)
  refine Dm_loop [2,6,7,9] (fun v ds H' => ∃ i:Nat,i≤ls.length∧v=ls.length - i∧ds=[.ptr 0 0 0,.own 1 0 i,.p (slS ls),.p (.int .i64 i)]∧H'=[.box 40 [.p (.int .i64 (runTo c ls i).1.mn),.p (.sl 10 ((runTo c ls i).1.hl.map Hd.pv)),.p (.sl 5 ((runTo c ls i).1.al.map Al.pv)),.p (.str (runTo c ls i).1.lg.dur),.p (.str (runTo c ls i).1.lg.pend),.p (.int .i64 (runTo c ls i).1.lg.cnt)],.arr 9 1 ((runTo c ls i).2.map .str)]) ls.length ⟨0,by omega,by omega,by kernel_rfl,by kernel_rfl⟩ ?_
  clear hstart h1 h0
  rintro v ds H' ⟨i,hi,rfl,rfl,rfl⟩ -
  have hrl:=runTo_len c ls i
  have hall:=rp_all (c:=c) (ls:=ls) (i:=i)
  rcases Nat.lt_or_ge i ls.length with hlt|hge
  ·have hn:(runTo c ls (i+1)).1=(exO (runTo c ls i).1 (ls.getD i default)).1:=rfl
   have hgr:=rp_grow (c:=c) (ls:=ls) (i:=i) rfl
   have hgr2:=rp_grow2 (c:=c) (ls:=ls) (i:=i) rfl
   have a1:=k_sExec (runTo c ls i).1 (ls.getD i default) (runTo_fits hf ls i) (hwl (getD_mem (d:=default) hlt))
   rw [← hn] at a1
   have hN1:=runTo_len c ls (i+1)
   generalize (exO (runTo c ls i).1 (ls.getD i default)).2=T at *
   clear hn
   rw [cs_pv,cs_pv] at a1
   repeat' (first|refine sA ?_|refine sO ‹_› fun dc hdc => ?_|refine sN ?_|(refine Rm_o a1 rfl (fun r H2 hh => ?_); obtain ⟨rfl,rfl⟩:=hh)|rw [hall]|rw [hgr]|rw [rp_all2]|rw [hgr2]|refine sB ?_|refine sX ?_ ?_<;>(try intro h)<;>(try omega)|exact sP|refine rK ?_|exact sQ|refine sD ?_|exact sE|omega)
   all_goals first
    | exact Xm_inv_n (ls.length - (i+1)) (by omega) ⟨i+1,by omega,rfl,by kernel_rfl,by kernel_rfl⟩
    | skip
  ·obtain rfl:i=ls.length:=by omega
   repeat' (first|refine sA ?_|refine sO ‹_› fun dc hdc => ?_|refine sN ?_|rw [hall]|refine sB ?_|refine sX ?_ ?_<;>(try intro h)<;>(try omega)|exact sP|refine rK ?_|exact sQ|refine sD ?_|exact sE|omega)
   all_goals first
    | exact ret_k (.tup [.own 0 0 ls.length,.p (.bool true)]) [.arr 9 1 ((runTo c ls ls.length).2.map .str)] (by kernel_rfl) ⟨rfl,rfl⟩
    | skip
theorem k_iScript (c:Cs)(t:Txt)(hf:CsFits c)(ht:t.length≤1048576):Okw Tryz.prog 12 [c.pv,.str t] (fun d H=>scD c t d H∨((scO c t).1=[]∧d = .tup [.nil,.p (.bool (scO c t).2)]∧H=[])):=by
 refine ok_D hmix c_impl_RunScript (by simp) ?_
 have h0:=k_splitN t (by omega)
 have h1:=k_iConsole c hf
 have hB:scB c t=(csB c && decide (t.length≤4000) && decide ((splitB 10 t).length≤30)):=rfl
 have hs:scO c t=if scB c t=true then ((runTo c (splitB 10 t) (splitB 10 t).length).2,true) else ([],false):=rfl
 have hlen:=split_len 10 t
 have hwl : ∀ {x:Txt},x∈splitB 10 t→x.length≤1048576:=fun h=>by have:=c_words_len h; omega
 unfold scD
 generalize hls:splitB 10 t=ls at *
 cases hv:scB c t
 ·rw [hv,if_neg (by decide)] at hs
  rw [hs]
  rw [hv] at hB
  clear hs hv
  rw [cs_pv] at *
  cases hc:csB c
  ·rw [hc] at h1
   refine sF fun dc hdc => ?_; refine sA ?_
   repeat' (first|refine sA ?_|refine sO ‹_› fun dc hdc => ?_|refine sN ?_|(refine Rm_o h0 rfl (fun r H2 hh => ?_); obtain ⟨rfl,rfl⟩:=hh)|refine rW rfl (h1) ?_|refine rV (h1) ?_|refine sB ?_|refine sX ?_ ?_<;>(try intro h)<;>(try omega)|exact sP|refine rK ?_|exact sQ|refine sD ?_|exact sE|omega)
   all_goals first
    | exact ret_k (.tup [.nil,.p (.bool false)]) [] (by kernel_rfl) (.inr ⟨rfl,rfl,rfl⟩)
    | exact ret_k (.tup [.nil,.p (.bool false)]) [] (by kernel_rfl) (.inr ⟨rfl,rfl⟩)
    | skip
  ·rw [hc] at h1 hB
   simp only [Bool.true_and] at hB
   have hB2 : ¬ (t.length≤4000∧ls.length≤30):=by
    intro h
    rw [decide_eq_true h.1,decide_eq_true h.2] at hB
    cases hB
   clear hB
   refine sF fun dc hdc => ?_; refine sA ?_
   repeat' (first|refine sA ?_|refine sO ‹_› fun dc hdc => ?_|refine sN ?_|(refine Rm_o h0 rfl (fun r H2 hh => ?_); obtain ⟨rfl,rfl⟩:=hh)|refine rW rfl (h1) ?_|refine rV (h1) ?_|refine sB ?_|refine sX ?_ ?_<;>(try intro h)<;>(try omega)|exact sP|refine rK ?_|exact sQ|refine sD ?_|exact sE|omega)
   all_goals first
    | omega
    | exact ret_k (.tup [.nil,.p (.bool false)]) [] (by kernel_rfl) (.inr ⟨rfl,rfl,rfl⟩)
    | exact ret_k (.tup [.nil,.p (.bool false)]) [] (by kernel_rfl) (.inr ⟨rfl,rfl⟩)
    | skip
 ·rw [hv,if_pos rfl] at hs
  rw [hs]
  obtain ⟨g1,g2,g3⟩:=scB_in hv
  rw [hls] at g3
  rw [g1] at h1
  simp only [runTo_len]
  clear hs hB
  have hstart:c.pv = .agg [.int .i64 (runTo c ls 0).1.mn,.sl 10 ((runTo c ls 0).1.hl.map Hd.pv),.sl 5 ((runTo c ls 0).1.al.map Al.pv),.str (runTo c ls 0).1.lg.dur,.str (runTo c ls 0).1.lg.pend,.int .i64 (runTo c ls 0).1.lg.cnt]:=rfl
  rw [hstart] at h1 ⊢
  refine sF fun dc hdc => ?_; refine sA ?_
  repeat' (first|refine sA ?_|refine sO ‹_› fun dc hdc => ?_|refine sN ?_|(refine Rm_o h0 rfl (fun r H2 hh => ?_); obtain ⟨rfl,rfl⟩:=hh)|refine rW rfl (h1) ?_|refine rV (h1) ?_|refine sB ?_|refine sX ?_ ?_<;>(try intro h)<;>(try omega)|exact sP|refine rK ?_|exact sQ|refine sD ?_|exact sE|omega)
  refine Dm_loop [2,7,27,28,29] (fun v ds H' => ∃ i:Nat,i≤ls.length∧v=ls.length - i∧((i=0∧ds=[.ptr 0 0 0,.nil,.p (slS ls),.p (.int .i64 ls.length),.p (.int .i64 i)]∧H'=[.box 40 [.p (.int .i64 (runTo c ls i).1.mn),.p (.sl 10 ((runTo c ls i).1.hl.map Hd.pv)),.p (.sl 5 ((runTo c ls i).1.al.map Al.pv)),.p (.str (runTo c ls i).1.lg.dur),.p (.str (runTo c ls i).1.lg.pend),.p (.int .i64 (runTo c ls i).1.lg.cnt)]]) ∨
    (ds=[.ptr 0 0 0,.own 1 0 i,.p (slS ls),.p (.int .i64 ls.length),.p (.int .i64 i)]∧H'=[.box 40 [.p (.int .i64 (runTo c ls i).1.mn),.p (.sl 10 ((runTo c ls i).1.hl.map Hd.pv)),.p (.sl 5 ((runTo c ls i).1.al.map Al.pv)),.p (.str (runTo c ls i).1.lg.dur),.p (.str (runTo c ls i).1.lg.pend),.p (.int .i64 (runTo c ls i).1.lg.cnt)],.arr 9 1 ((runTo c ls i).2.map .str)]))) ls.length ⟨0,by omega,by omega,.inl ⟨rfl,by kernel_rfl,by kernel_rfl⟩⟩ ?_
  clear hstart h1 h0
  rintro v ds H' ⟨i,hi,rfl,hh⟩ -
  have hrl:=runTo_len c ls i
  have hall:=rp_all (c:=c) (ls:=ls) (i:=i)
  rcases Nat.lt_or_ge i ls.length with hlt|hge
  ·have hn:(runTo c ls (i+1)).1=(exO (runTo c ls i).1 (ls.getD i default)).1:=rfl
   have hgr:=rp_grow (c:=c) (ls:=ls) (i:=i) rfl
   have hgr2:=rp_grow2 (c:=c) (ls:=ls) (i:=i) rfl
   have a1:=k_iExecP (runTo c ls i).1 (ls.getD i default) (runTo_fits hf ls i) (hwl (getD_mem (d:=default) hlt))
   rw [← hn] at a1
   have hN1:=runTo_len c ls (i+1)
   generalize (exO (runTo c ls i).1 (ls.getD i default)).2=T at *
   clear hn
   rw [cs_pv,cs_pv] at a1
   rcases hh with ⟨rfl,rfl,rfl⟩|⟨rfl,rfl⟩
   ·have hN0:[PV.str T]=(runTo c ls (0+1)).2.map PV.str:=hgr
    have hN2:[T]=(runTo c ls (0+1)).2:=hgr2
    repeat' (first|refine sA ?_|refine sO ‹_› fun dc hdc => ?_|refine sN ?_|(refine Rm_o a1 rfl (fun r H2 hh => ?_); obtain ⟨rfl,rfl⟩:=hh)|rw [hN0]|rw [hN2]|refine sB ?_|refine sX ?_ ?_<;>(try intro h)<;>(try omega)|exact sP|refine rK ?_|exact sQ|refine sD ?_|exact sE|omega)
    all_goals first
     | exact Xm_inv_n (ls.length - (0+1)) (by omega) ⟨0+1,by omega,rfl,.inr ⟨by kernel_rfl,by kernel_rfl⟩⟩
     | skip
   ·repeat' (first|refine sA ?_|refine sO ‹_› fun dc hdc => ?_|refine sN ?_|(refine Rm_o a1 rfl (fun r H2 hh => ?_); obtain ⟨rfl,rfl⟩:=hh)|rw [hall]|rw [hgr]|rw [rp_all2]|rw [hgr2]|refine sB ?_|refine sX ?_ ?_<;>(try intro h)<;>(try omega)|exact sP|refine rK ?_|exact sQ|refine sD ?_|exact sE|omega)
    all_goals first
     | exact Xm_inv_n (ls.length - (i+1)) (by omega) ⟨i+1,by omega,rfl,.inr ⟨by kernel_rfl,by kernel_rfl⟩⟩
     | skip
  ·obtain rfl:i=ls.length:=by omega
   rcases hh with ⟨h0,rfl,rfl⟩|⟨rfl,rfl⟩
   ·exact absurd h0 (by omega)
   ·repeat' (first|refine sA ?_|refine sO ‹_› fun dc hdc => ?_|refine sN ?_|rw [hall]|refine sB ?_|refine sX ?_ ?_<;>(try intro h)<;>(try omega)|exact sP|refine rK ?_|exact sQ|refine sD ?_|exact sE|omega)
    all_goals first
     | exact ret_k (.tup [.own 0 0 ls.length,.p (.bool true)]) [.arr 9 1 ((runTo c ls ls.length).2.map .str)] (by kernel_rfl) (.inl ⟨rfl,rfl⟩)
     | skip
theorem sc_pl {f:FuncId}{ps:List PV}{c:Cs}{t:Txt}(h:Okw Tryz.prog f ps (scD c t)):Okv Tryz.prog f ps (.tup [.p (slS (scO c t).1),.p (.bool (scO c t).2)]):=by
 refine ok_frz h fun d H h=>⟨fun ob ho=>by simp at ho,_,?_,rfl,by simp⟩
 obtain ⟨rfl,rfl⟩:=h
 refine .inr ⟨_,[slS (scO c t).1,.bool (scO c t).2],rfl,?_,rfl⟩
 simp [hid,viewOf,viewOfs,List.take_of_length_le]
theorem k_iScriptO (c:Cs)(t:Txt)(hf:CsFits c)(ht:t.length≤1048576):Okw Tryz.prog 12 [c.pv,.str t] (scD c t):=by
 refine nil_own 9 1 (by decide) (k_iScript c t hf ht) fun d H hh => ?_
 rcases hh with hh|⟨h1,rfl,rfl⟩
 ·exact .inl hh
 ·refine .inr ⟨[.bool (scO c t).2],⟨trivial,trivial⟩,rfl,rfl,?_⟩
  unfold scD
  rw [h1]
  exact ⟨rfl,rfl⟩
theorem k_sScriptP (c:Cs)(t:Txt)(hf:CsFits c)(ht:t.length≤1048576):Okv Tryz.prog 10 [c.pv,.str t] (.tup [.p (slS (scO c t).1),.p (.bool (scO c t).2)]):=sc_pl (k_sScript c t hf ht)
theorem k_iScriptP (c:Cs)(t:Txt)(hf:CsFits c)(ht:t.length≤1048576):Okv Tryz.prog 12 [c.pv,.str t] (.tup [.p (slS (scO c t).1),.p (.bool (scO c t).2)]):=sc_pl (k_iScriptO c t hf ht)
end Go.Proofs.YtekmkgegjicjgaaGreat
