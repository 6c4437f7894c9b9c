import Derived.Test.YtekmkgegjicjgaaGreatZBas
import Derived.Test.YtekmkgegjicjgaaGreatZCmd5
import Derived.Test.YtekmkgegjicjgaaGreatZCmD
import Derived.Test.YtekmkgegjicjgaaGreatZCmB
namespace Go.Proofs.YtekmkgegjicjgaaGreat
open Go.Dv Go.Dv.EvL
set_option maxRecDepth 100000
set_option maxHeartbeats 16000000
attribute [local irreducible] Ok Rm Dm Om Sm Xm Cm Gm Hm Tm
theorem k_l28Run (c:Cs)(s:Txt)(hf:CsFits c)(hv:csB c=true)(hs:s.length≤1000):Okv Tryz.prog 55 [c.pv,.str s] (.tup [.p ((runR c (splitB 32 s)).cs c).pv,.p (.str (runR c (splitB 32 s)).rep)]):=by
 have hne:=split_ne 32 s
 rcases hW:splitB 32 s with _|⟨w,_|⟨w1,_|⟨w2,_|⟨w3,_|⟨w4,ws⟩⟩⟩⟩⟩
 ·exact absurd hW hne
 ·exact k_run1 c s w hf hv hs hW
 ·exact k_run2 c s w w1 hf hv hs hW
 ·exact k_run3 c s w w1 w2 hf hv hs hW
 ·exact k_run4 c s w w1 w2 w3 hf hv hs hW
 ·exact k_run5 c s w w1 w2 w3 w4 ws hf hv hs hW
end Go.Proofs.YtekmkgegjicjgaaGreat
namespace Go.Proofs.YtekmkgegjicjgaaGreat
open Go.Dv Go.Dv.EvL
set_option maxRecDepth 100000
set_option maxHeartbeats 16000000
attribute [local irreducible] Ok Rm Dm Om Sm Xm Cm Gm Hm Tm
theorem k_sExec (c:Cs)(s:Txt)(hf:CsFits c)(hs:s.length≤1048576):Okv Tryz.prog 18 [c.pv,.str s] (.tup [.p (exO c s).1.pv,.p (.str (exO c s).2)]):=by
 refine cs_pl2 (ok_D hmix c_spec_ExecuteCommand (by simp) ?_)
 have a0:=k_l28Own0 c hf
 have a0p:=k_l28Own c hf
 rw [cs_dv,cs_rows] at a0
 have a1:=k_l28Good c hf
 have a2:=k_l27Good ⟨s,[]⟩ (by simp only []; omega) (by simp)
 have he:exO c s=if csB c=true then (if recB ⟨s,[]⟩=true then (if c.lg.cnt=60 then (c,wFull) else (stepC c s,repO (runR c (splitB 32 s)).rep)) else (c,wBad)) else (c,wNo):=rfl
 rw [rec_pv] at a2
 cases hv:csB c
 ·rw [hv,if_neg (by decide)] at he
  rw [he]
  rw [hv] at a1
  skip
  clear he hv
  rw [cs_pv] at *
  refine sF fun dc hdc => ?_; refine sA ?_
  repeat' (first|refine sA ?_|refine sO ‹_› fun dc hdc => ?_|refine sN ?_|(refine Rm_o a0 rfl (fun r H2 hh => ?_); obtain ⟨rfl,rfl⟩:=hh)|refine rW rfl (a1) ?_|refine rV (a1) ?_|refine sB ?_|refine sX ?_ ?_<;>(try intro h)<;>(try omega)|exact sP|refine rK ?_|exact sQ|refine sD ?_|exact sE|omega)
  all_goals first
   | exact ret_k (.tup [c.dv 0 1,.p (.str wNo)]) c.rows (by kernel_rfl) ⟨rfl,rfl⟩
   | skip
 ·rw [hv,if_pos rfl] at he
  rw [hv] at a1
  cases hr:recB ⟨s,[]⟩
  ·rw [hr,if_neg (by decide)] at he
   rw [he]
   rw [hr] at a2
   skip
   clear he hv
   rw [cs_pv] at *
   refine sF fun dc hdc => ?_; refine sA ?_
   repeat' (first|refine sA ?_|refine sO ‹_› fun dc hdc => ?_|refine sN ?_|(refine Rm_o a0 rfl (fun r H2 hh => ?_); obtain ⟨rfl,rfl⟩:=hh)|refine rW rfl (a1) ?_|refine rV (a1) ?_|refine rW rfl (a2) ?_|refine rV (a2) ?_|refine sB ?_|refine sX ?_ ?_<;>(try intro h)<;>(try omega)|exact sP|refine rK ?_|exact sQ|refine sD ?_|exact sE|omega)
   all_goals first
    | exact ret_k (.tup [c.dv 0 1,.p (.str wBad)]) c.rows (by kernel_rfl) ⟨rfl,rfl⟩
    | skip
  ·rw [hr,if_pos rfl] at he
   rw [hr] at a2
   obtain ⟨h1,h2,h3,h4,h5⟩:=cs_small hv
   by_cases hc:c.lg.cnt=60
   ·rw [if_pos hc] at he
    rw [he]
    skip
    clear he hv
    rw [cs_pv] at *
    refine sF fun dc hdc => ?_; refine sA ?_
    repeat' (first|refine sA ?_|refine sO ‹_› fun dc hdc => ?_|refine sN ?_|(refine Rm_o a0 rfl (fun r H2 hh => ?_); obtain ⟨rfl,rfl⟩:=hh)|refine rW rfl (a1) ?_|refine rV (a1) ?_|refine rW rfl (a2) ?_|refine rV (a2) ?_|refine sB ?_|refine sX ?_ ?_<;>(try intro h)<;>(try omega)|exact sP|refine rK ?_|exact sQ|refine sD ?_|exact sE|omega)
    all_goals first
     | exact ret_k (.tup [c.dv 0 1,.p (.str wFull)]) c.rows (by kernel_rfl) ⟨rfl,rfl⟩
     | skip
   ·rw [if_neg hc] at he
    rw [he]
    have hl:=(recB_len hr).2.1
    have a3:=k_l28Run c s hf hv (by simp only [] at hl; omega)
    have a4:=k_l28Own0 ((runR c (splitB 32 s)).cs c) (run_fits hv _)
    have hT:=rep_len (runR c (splitB 32 s)).rep
    have a5:=k_sAppend c.lg ⟨s,repO (runR c (splitB 32 s)).rep⟩ (by omega) (by omega) (by simp only []; omega) (by simp only []; omega)
    unfold stepC repO at *
    generalize (runR c (splitB 32 s)).cs c=V at *
    generalize (runR c (splitB 32 s)).rep=T at *
    clear he hv
    rw [lg_pv c.lg] at a5
    rw [rec_pv] at a5
    by_cases h200:200<T.length
    ·rw [if_pos h200] at *
     unfold wLong at *
     generalize (appendO c.lg ⟨s,[108,111,110,103]⟩).1=L at *
     generalize (appendO c.lg ⟨s,[108,111,110,103]⟩).2=E at *
     rw [lg_pv L] at a5
     rw [cs_pv c] at *
     rw [cs_pv V] at *
     rw [cs_dv V,cs_rows V] at a4
     refine sF fun dc hdc => ?_; refine sA ?_
     repeat' (first|refine sA ?_|refine sO ‹_› fun dc hdc => ?_|refine sN ?_|(refine Rm_o a0p rfl (fun r H2 hh => ?_); obtain ⟨rfl,rfl⟩:=hh)|refine rW rfl (a1) ?_|refine rV (a1) ?_|refine rW rfl (a2) ?_|refine rV (a2) ?_|(refine Rm_o a3 rfl (fun r H2 hh => ?_); obtain ⟨rfl,rfl⟩:=hh)|(refine Rm_o a4 rfl (fun r H2 hh => ?_); obtain ⟨rfl,rfl⟩:=hh)|refine rW rfl (a5) ?_|refine rV (a5) ?_|refine sB ?_|refine sX ?_ ?_<;>(try intro h)<;>(try omega)|exact sP|refine rK ?_|exact sQ|refine sD ?_|exact sE|omega)
     all_goals first
      | exact ret_k (.tup [Cs.dv ⟨V.mn,V.hl,V.al,L⟩ 0 1,.p (.str [108,111,110,103])]) (Cs.rows ⟨V.mn,V.hl,V.al,L⟩) (by kernel_rfl) ⟨rfl,rfl⟩
      | skip
    ·rw [if_neg h200] at *
     generalize (appendO c.lg ⟨s,T⟩).1=L at *
     generalize (appendO c.lg ⟨s,T⟩).2=E at *
     rw [lg_pv L] at a5
     rw [cs_pv c] at *
     rw [cs_pv V] at *
     rw [cs_dv V,cs_rows V] at a4
     refine sF fun dc hdc => ?_; refine sA ?_
     repeat' (first|refine sA ?_|refine sO ‹_› fun dc hdc => ?_|refine sN ?_|(refine Rm_o a0p rfl (fun r H2 hh => ?_); obtain ⟨rfl,rfl⟩:=hh)|refine rW rfl (a1) ?_|refine rV (a1) ?_|refine rW rfl (a2) ?_|refine rV (a2) ?_|(refine Rm_o a3 rfl (fun r H2 hh => ?_); obtain ⟨rfl,rfl⟩:=hh)|(refine Rm_o a4 rfl (fun r H2 hh => ?_); obtain ⟨rfl,rfl⟩:=hh)|refine rW rfl (a5) ?_|refine rV (a5) ?_|refine sB ?_|refine sX ?_ ?_<;>(try intro h)<;>(try omega)|exact sP|refine rK ?_|exact sQ|refine sD ?_|exact sE|omega)
     all_goals first
      | exact ret_k (.tup [Cs.dv ⟨V.mn,V.hl,V.al,L⟩ 0 1,.p (.str T)]) (Cs.rows ⟨V.mn,V.hl,V.al,L⟩) (by kernel_rfl) ⟨rfl,rfl⟩
      | skip
end Go.Proofs.YtekmkgegjicjgaaGreat
