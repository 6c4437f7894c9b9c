import Derived.Test.YtekmkgegjicjgaaGreatZBas
import Derived.Test.YtekmkgegjicjgaaGreatZCDrawB
import Derived.Test.YtekmkgegjicjgaaGreatZCVs
import Derived.Test.YtekmkgegjicjgaaGreatZConH
namespace Go.Proofs.YtekmkgegjicjgaaGreat
open Go.Dv Go.Dv.EvL
set_option maxRecDepth 100000
set_option maxHeartbeats 16000000
attribute [local irreducible] Ok Rm Dm Om Sm Xm Cm Gm Hm Tm
theorem split_no {b:UInt8} : ∀ (s:List UInt8),∀ w∈splitB b s,b ∉ w
 | [],w,h=>by
  simp [splitB] at h
  subst h
  simp
 | c::s,w,h=>by
  have ih:=split_no (b:=b) s
  rw [splitB] at h
  split at h
  ·rcases List.mem_cons.1 h with rfl|h
   ·simp
   ·exact ih w h
  ·rename_i hc
   cases hX:splitB b s with
   | nil=>exact absurd hX (split_ne b s)
   | cons x xs =>
    rw [hX] at h ih
    simp only [glue,List.mem_cons] at h
    rcases h with rfl|h
    ·simp only [List.cons_append,List.nil_append,List.mem_cons,not_or]
     exact ⟨fun e=>hc e.symm,ih x List.mem_cons_self⟩
    ·exact ih w (List.mem_cons_of_mem _ h)
theorem runTo_first (c:Cs)(ls:List Txt) : ∀ n,0<n → ∃ L,(runTo c ls n).2=(exO c (ls.getD 0 default)).2::L
 | 0,h=>by omega
 | 1,_=>⟨[],rfl⟩
 | n+2,_=>by
  obtain ⟨L,hL⟩:=runTo_first c ls (n+1) (by omega)
  refine ⟨L++[(exO (runTo c ls (n+1)).1 (ls.getD (n+1) default)).2],?_⟩
  show (runTo c ls (n+1)).2++[_]=_
  rw [hL]
  rfl
theorem sc_first {c:Cs}{t:Txt}(h:(scO c t).2=true):t.length≤4000 ∧ ∃ r L,(scO c t).1=r::L∧(scO c ((splitB 10 t).getD 0 default))=([r],true):=by
 unfold scO at h ⊢
 split at h
 ·rename_i h1
  obtain ⟨g1,g2,g3⟩:=scB_in h1
  have h0:=(split_len 10 t).2
  rw [if_pos h1]
  obtain ⟨L,hL⟩:=runTo_first c (splitB 10 t) _ h0
  refine ⟨g2,_,L,hL,?_⟩
  have hm:(splitB 10 t).getD 0 default∈splitB 10 t:=getD_mem h0
  generalize (splitB 10 t).getD 0 default=w at *
  have hw:=split_none (split_no (b:=10) t w hm)
  have hl:=c_words_len hm
  have hb:scB c w=true:=by
   unfold scB
   rw [hw,g1,decide_eq_true (show w.length≤4000 by omega)]
   rfl
  rw [if_pos hb,hw]
  rfl
 ·cases h
theorem sc_none {c:Cs}{t:Txt}(h:(scO c t).2=false):(scO c t).1=[]:=by
 unfold scO at h ⊢
 split at h
 ·cases h
 ·rename_i h1
  rw [if_neg h1]
theorem fmt_eq (c:Cs) : ∃ (t:Txt) (b:Bool),fmtO c = .tup [.p (.str t),.p (.bool b)]:=by
 unfold fmtO
 split
 ·exact ⟨_,_,rfl⟩
 ·exact ⟨_,_,rfl⟩
theorem sc_len (c:Cs)(t:Txt):(scO c t).1.length≤30:=by
 unfold scO
 split
 ·rename_i h
  rw [runTo_len]
  exact (scB_in h).2.2
 ·simp
theorem k_FnScript (code:List UInt8)(hc:code.length≤9223372036854775807):Okv Tryz.prog 8 [codeP code] (.p (.bool true)):=by
 refine ok_D hmix c_laws_FnScript (by simp) ?_
 have hbig:=k_vBig code hc
 by_cases hb:65536<code.length
 ·rw [decide_eq_true hb] at hbig
  refine sF fun dc hdc => ?_; refine sA ?_
  repeat' (first|refine sA ?_|refine sO ‹_› fun dc hdc => ?_|refine sN ?_|refine rW rfl (hbig) ?_|refine rV (hbig) ?_|refine sB ?_|refine sX ?_ ?_<;>(try intro h)<;>(try omega)|exact sP|refine rK ?_|exact sQ|refine sD ?_|exact sE|omega)
  all_goals skip
 ·rw [decide_eq_false hb] at hbig
  have hd:=k_DrawRunScript code (by omega)
  refine sF fun dc hdc => ?_; refine sA ?_
  repeat' (first|refine sA ?_|refine sO ‹_› fun dc hdc => ?_|refine sN ?_|refine rW rfl (hbig) ?_|refine rV (hbig) ?_|refine sB ?_|refine sX ?_ ?_<;>(try intro h)<;>(try omega)|exact sP|refine rK ?_|exact sQ|refine sD ?_|exact sE|omega)
  refine Rm_o hd rfl ?_
  rintro r H2 ⟨c,t,rfl,hcd,ht,rfl⟩
  have hf:=cd_fits hcd
  have hS:=k_sScriptP c t hf (by omega)
  have hI:=k_iScriptP c t hf (by omega)
  have hF1:=k_iFormat c hf
  have hF2:=k_sFormat c hf
  have hP:=k_sSplitString t (by omega)
  obtain ⟨T,B,hT⟩:=fmt_eq c
  rw [hT] at hF1 hF2
  have hfst:=sc_first (c:=c) (t:=t)
  have hnon:=sc_none (c:=c) (t:=t)
  have hlen:=sc_len c t
  have hw:((splitB 10 t).getD 0 default).length≤1048576:=by
   have:=c_words_len (getD_mem (d:=default) (split_len 10 t).2)
   omega
  have hI1:=k_iScriptP c ((splitB 10 t).getD 0 default) hf hw
  generalize scO c t=o at *
  obtain ⟨L,b⟩:=o
  simp only [] at hfst hnon hS hI hlen
  unfold spO at hP
  simp only [cs_pv] at *
  cases b
  ·obtain rfl:=hnon rfl
   generalize (if t.length≤4000 then (splitB 10 t,true) else ([],false):List Txt × Bool)=w at *
   repeat' (first|refine sA ?_|refine sO ‹_› fun dc hdc => ?_|refine sN ?_|(refine Rm_o hI rfl (fun r H2 hh => ?_); obtain ⟨rfl,rfl⟩:=hh)|(refine Rm_o hS rfl (fun r H2 hh => ?_); obtain ⟨rfl,rfl⟩:=hh)|(refine Rm_o hP rfl (fun r H2 hh => ?_); obtain ⟨rfl,rfl⟩:=hh)|refine sB ?_|refine sX ?_ ?_<;>(try intro h)<;>(try omega)|exact sP|refine rK ?_|exact sQ|refine sD ?_|exact sE|omega)
   refine Dm_loop [3,4,5,6,7,9] (fun m ds H'=>m=0∧ds=[.ptr 0 0 0,.p (.str t),.p (slS []),.p (.bool false),.p (slS []),.p (.int .i64 0)]∧H'=[.box 40 [.p (.int .i64 c.mn),.p (.sl 10 (c.hl.map Hd.pv)),.p (.sl 5 (c.al.map Al.pv)),.p (.str c.lg.dur),.p (.str c.lg.pend),.p (.int .i64 c.lg.cnt)]]) 0 ⟨rfl,rfl,rfl⟩ ?_
   rintro m ds H' ⟨rfl,rfl,rfl⟩ -
   repeat' (first|refine sA ?_|refine sO ‹_› fun dc hdc => ?_|refine sN ?_|(refine Rm_o hP rfl (fun r H2 hh => ?_); obtain ⟨rfl,rfl⟩:=hh)|refine sB ?_|refine sX ?_ ?_<;>(try intro h)<;>(try omega)|exact sP|refine rK ?_|exact sQ|refine sD ?_|exact sE|omega)
  ·obtain ⟨h4,r,L0,rfl,hO⟩:=hfst rfl
   rw [if_pos h4] at hP
   rw [hO] at hI1
   clear hnon hfst hO
   have hL0:(r::L0).getD 0 default=r:=rfl
   have hL1:0<(r::L0).length:=by simp
   generalize r::L0=L at *
   generalize splitB 10 t=W at *
   generalize hw0:W.getD 0 default=w0 at *
   simp only [] at hP hI1
   have hr:([r]:List Txt).getD 0 default=r:=rfl
   repeat' (first|refine sA ?_|refine sO ‹_› fun dc hdc => ?_|refine sN ?_|(refine Rm_o hI rfl (fun r H2 hh => ?_); obtain ⟨rfl,rfl⟩:=hh)|(refine Rm_o hS rfl (fun r H2 hh => ?_); obtain ⟨rfl,rfl⟩:=hh)|refine sB ?_|refine sX ?_ ?_<;>(try intro h)<;>(try omega)|exact sP|refine rK ?_|exact sQ|refine sD ?_|exact sE|omega)
   refine Dm_loop [3,4,5,6,7,9] (fun m ds H' => ∃ i:Nat,i≤L.length∧m=L.length - i∧ds=[.ptr 0 0 0,.p (.str t),.p (slS L),.p (.bool true),.p (slS L),.p (.int .i64 i)]∧H'=[.box 40 [.p (.int .i64 c.mn),.p (.sl 10 (c.hl.map Hd.pv)),.p (.sl 5 (c.al.map Al.pv)),.p (.str c.lg.dur),.p (.str c.lg.pend),.p (.int .i64 c.lg.cnt)]]) L.length ⟨0,by omega,by omega,rfl,rfl⟩ ?_
   rintro m ds H' ⟨i,hi,rfl,rfl,rfl⟩ -
   repeat' (first|refine sA ?_|refine sO ‹_› fun dc hdc => ?_|refine sN ?_|(refine Rm_o hP rfl (fun r H2 hh => ?_); obtain ⟨rfl,rfl⟩:=hh)|(refine Rm_o hI1 rfl (fun r H2 hh => ?_); obtain ⟨rfl,rfl⟩:=hh)|refine rW rfl (hF1) ?_|refine rV (hF1) ?_|refine rW rfl (hF2) ?_|refine rV (hF2) ?_|refine dr ?_|refine dr0 ?_|rw [hw0]|rw [hL0]|refine sB ?_|refine sX ?_ ?_<;>(try intro h)<;>(try omega)|exact sP|refine rK ?_|exact sQ|refine sD ?_|exact sE|omega)
   all_goals first
    | exact Xm_inv_n (L.length - (i+1)) (by omega) ⟨i+1,by omega,rfl,rfl,rfl⟩
    | skip
end Go.Proofs.YtekmkgegjicjgaaGreat
