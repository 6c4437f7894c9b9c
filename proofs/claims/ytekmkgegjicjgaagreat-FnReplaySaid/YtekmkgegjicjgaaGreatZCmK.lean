import Derived.Test.YtekmkgegjicjgaaGreatZBas
import Derived.Test.YtekmkgegjicjgaaGreatZCmG
import Derived.Test.YtekmkgegjicjgaaGreatZCmH
import Derived.Test.YtekmkgegjicjgaaGreatZCmI
import Derived.Test.YtekmkgegjicjgaaGreatZCmJ
namespace Go.Proofs.YtekmkgegjicjgaaGreat
end Go.Proofs.YtekmkgegjicjgaaGreat
namespace Go.Proofs.YtekmkgegjicjgaaGreat
open Go.Dv Go.Dv.EvL
set_option maxRecDepth 100000
set_option maxHeartbeats 16000000
attribute [local irreducible] Ok Rm Dm Om Sm Xm Cm Gm Hm Tm
theorem k_reply (c:Cs)(s:Txt)(hf:CsFits c)(hv:csB c=true)(hs:s.length≤1000):Ok Tryz.prog 59 [c.dv 0 1,.p (.str s)] c.rows (RsD c tR (runR c (splitB 32 s))):=by
 have hne:=split_ne 32 s
 have hwl : ∀ {x:Txt},x∈splitB 32 s→x.length≤1000:=fun h=>by have:=c_words_len h; omega
 have hal:=(cs_in hv).2.2.2.1
 rcases hW:splitB 32 s with _|⟨w,_|⟨w1,_|⟨w2,_|⟨w3,_|⟨w4,ws⟩⟩⟩⟩⟩
 ·exact absurd hW hne
 ·exact k_reply1 c s w hf hv hs hW
 ·rw [hW] at hwl
  have e1:w1.length≤1000:=hwl (by simp)
  by_cases h1:w=wDec
  ·have hr:runR c [w,w1]=dcR w1:=by show run2 c w w1=_; unfold run2; rw [if_pos h1]
   rw [hr]
   exact k_reply_t c s _ _ (by omega) hW (k_txt_dec c w w1 h1 (by omega))
  ·exact k_reply2 c s w w1 hf hv hs hW h1
 ·rw [hW] at hwl
  have e1:w1.length≤1000:=hwl (by simp)
  have e2:w2.length≤1000:=hwl (by simp)
  by_cases h1:w=wHear
  ·have hr:runR c [w,w1,w2]=hearX c w1 w2:=by show run3 c w w1 w2=_; unfold run3; rw [if_pos h1]; rfl
   rw [hr]
   exact k_reply_t c s _ _ (by omega) hW (k_txt_hear c w w1 w2 hf h1 (by omega) (by omega))
  ·exact k_reply3 c s w w1 w2 hf hv hs hW h1
 ·rw [hW] at hwl
  have e1:w1.length≤1000:=hwl (by simp)
  have e2:w2.length≤1000:=hwl (by simp)
  have e3:w3.length≤1000:=hwl (by simp)
  by_cases h1:w=wEnc
  ·have hr:runR c [w,w1,w2,w3]=encR (w1++32::(w2++32::w3)):=by show run4 c w w1 w2 w3=_; unfold run4; rw [if_pos h1]
   rw [hr]
   exact k_reply_t c s _ _ (by omega) hW (k_txt_enc c w w1 w2 w3 h1 (by omega) (by omega) (by omega))
  ·by_cases h2:w=wSet
   ·have hr:runR c [w,w1,w2,w3]=setX c w1 w2 w3:=by show run4 c w w1 w2 w3=_; unfold run4; rw [if_neg h1,if_pos h2]; rfl
    rw [hr]
    exact k_reply_t c s _ _ (by omega) hW (k_txt_set c w w1 w2 w3 (by omega) h2 (by omega) (by omega))
   ·exact k_reply4 c s w w1 w2 w3 hf hv hs hW h1 h2
 ·exact k_reply5 c s w w1 w2 w3 w4 ws hf hv hs hW
theorem k_iExec (c:Cs)(s:Txt)(hf:CsFits c)(hs:s.length≤1048576):Okw Tryz.prog 19 [c.pv,.str s] fun d H=>d = .tup [(exO c s).1.dv 0 1,.p (.str (exO c s).2)]∧H=(exO c s).1.rows:=by
 refine ok_D hmix c_impl_ExecuteCommand (by simp) ?_
 have a0:=k_own c hf
 have a1:=k_iConsole c hf
 have a2:=k_iValidRec ⟨s,[]⟩ (by simp only []; omega) (by simp)
 have he:exO c s=if csB c=true then (if recB ⟨s,[]⟩=true then (if c.lg.cnt=60 then (c,wFull) else (stepC c s,repO (runR c (splitB 32 s)).rep)) else (c,wBad)) else (c,wNo):=rfl
 rw [rec_pv] at a2
 rw [cs_dv,cs_rows] at a0
 cases hv:csB c
 ·rw [hv,if_neg (by decide)] at he
  rw [he]
  rw [hv] at a1
  clear he hv
  rw [cs_pv] at *
  refine sF fun dc hdc => ?_; refine sA ?_
  repeat' (first|refine sA ?_|refine sO ‹_› fun dc hdc => ?_|refine sN ?_|(refine Rm_o a0 rfl (fun r H2 hh => ?_); obtain ⟨rfl,rfl⟩:=hh)|refine rW rfl (a1) ?_|refine rV (a1) ?_|refine sB ?_|refine sX ?_ ?_<;>(try intro h)<;>(try omega)|exact sP|refine rK ?_|exact sQ|refine sD ?_|exact sE|omega)
  all_goals first
   | exact ret_k (.tup [c.dv 0 1,.p (.str wNo)]) c.rows (by kernel_rfl) ⟨rfl,rfl⟩
   | skip
 ·rw [hv,if_pos rfl] at he
  rw [hv] at a1
  cases hr:recB ⟨s,[]⟩
  ·rw [hr,if_neg (by decide)] at he
   rw [he]
   rw [hr] at a2
   clear he hv
   rw [cs_pv] at *
   refine sF fun dc hdc => ?_; refine sA ?_
   repeat' (first|refine sA ?_|refine sO ‹_› fun dc hdc => ?_|refine sN ?_|(refine Rm_o a0 rfl (fun r H2 hh => ?_); obtain ⟨rfl,rfl⟩:=hh)|refine rW rfl (a1) ?_|refine rV (a1) ?_|refine rW rfl (a2) ?_|refine rV (a2) ?_|refine sB ?_|refine sX ?_ ?_<;>(try intro h)<;>(try omega)|exact sP|refine rK ?_|exact sQ|refine sD ?_|exact sE|omega)
   all_goals first
    | exact ret_k (.tup [c.dv 0 1,.p (.str wBad)]) c.rows (by kernel_rfl) ⟨rfl,rfl⟩
    | skip
  ·rw [hr,if_pos rfl] at he
   rw [hr] at a2
   obtain ⟨h1,h2,h3,h4,h5⟩:=cs_small hv
   by_cases hc:c.lg.cnt=60
   ·rw [if_pos hc] at he
    rw [he]
    clear he hv
    rw [cs_pv] at *
    refine sF fun dc hdc => ?_; refine sA ?_
    repeat' (first|refine sA ?_|refine sO ‹_› fun dc hdc => ?_|refine sN ?_|(refine Rm_o a0 rfl (fun r H2 hh => ?_); obtain ⟨rfl,rfl⟩:=hh)|refine rW rfl (a1) ?_|refine rV (a1) ?_|refine rW rfl (a2) ?_|refine rV (a2) ?_|refine sB ?_|refine sX ?_ ?_<;>(try intro h)<;>(try omega)|exact sP|refine rK ?_|exact sQ|refine sD ?_|exact sE|omega)
    all_goals first
     | exact ret_k (.tup [c.dv 0 1,.p (.str wFull)]) c.rows (by kernel_rfl) ⟨rfl,rfl⟩
     | skip
   ·rw [if_neg hc] at he
    rw [he]
    have hl:=(recB_len hr).2.1
    have a3:=k_reply c s hf hv (by simp only [] at hl; omega)
    have a5:=fun (T:Txt) (hT:T.length≤200)=>k_iAppend c.lg ⟨s,T⟩ (by omega) (by omega) (by simp only []; omega) (by simp only []; omega)
    simp only [lg_pv,rec_pv] at a5
    clear he
    rw [cs_dv,cs_rows] at a3
    obtain ⟨X,hX⟩ : ∃ X,runR c (splitB 32 s)=X:=⟨_,rfl⟩
    rw [hX] at a3
    rw [cs_pv] at *
    cases X with
    | bad =>
     have a5:=a5 [63] (by decide)
     have hst:stepC c s=⟨c.mn,c.hl,c.al,(appendO c.lg ⟨s,[63]⟩).1⟩:=by unfold stepC; rw [hX]; rfl
     have hrp:repO (runR c (splitB 32 s)).rep=[63]:=by rw [hX]; rfl
     rw [hst,hrp]
     clear hst hrp hX hv
     generalize (appendO c.lg ⟨s,[63]⟩).1=L at *
     generalize (appendO c.lg ⟨s,[63]⟩).2=E at *
     refine sF fun dc hdc => ?_; refine sA ?_
     repeat' (first|refine sA ?_|refine sO ‹_› fun dc hdc => ?_|refine sN ?_|(refine Rm_o a0 rfl (fun r H2 hh => ?_); obtain ⟨rfl,rfl⟩:=hh)|refine rW rfl (a1) ?_|refine rV (a1) ?_|refine rW rfl (a2) ?_|refine rV (a2) ?_|refine rW rfl (a5) ?_|refine rV (a5) ?_|(refine Rm_i [2,3] a3 (by simp) (by simp) ⟨_,_,rfl,.inl rfl,_,_,rfl,.inr ⟨_,rfl,rfl⟩,rfl⟩ (fun r H2 hh => ?_); obtain ⟨r0,rfl|rfl|rfl,rfl⟩:=hh; all_goals simp only [cs_dv,cs_dB,cs_dC,cs_rows,tR_eq])|refine sB ?_|refine sX ?_ ?_<;>(try intro h)<;>(try omega)|exact sP|refine rK ?_|exact sQ|refine sD ?_|exact sE|omega)
     all_goals first
      | exact ret_k (.tup [Cs.dv ⟨c.mn,c.hl,c.al,L⟩ 0 1,.p (.str [63])]) (Cs.rows ⟨c.mn,c.hl,c.al,L⟩) (by kernel_rfl) ⟨rfl,rfl⟩
      | skip
    | same r =>
     have hT:=rep_len r
     have a5:=a5 (repO r) hT
     have hst:stepC c s=⟨c.mn,c.hl,c.al,(appendO c.lg ⟨s,repO r⟩).1⟩:=by unfold stepC; rw [hX]; rfl
     have hrp:repO (runR c (splitB 32 s)).rep=repO r:=by rw [hX]; rfl
     rw [hst,hrp]
     clear hst hrp hX hv
     by_cases h200:200<r.length
     ·have hR:repO r=[108,111,110,103]:=by unfold repO; rw [if_pos h200]; rfl
      rw [hR] at a5 ⊢
      clear hR hT
      generalize (appendO c.lg ⟨s,[108,111,110,103]⟩).1=L at *
      generalize (appendO c.lg ⟨s,[108,111,110,103]⟩).2=E at *
      refine sF fun dc hdc => ?_; refine sA ?_
      repeat' (first|refine sA ?_|refine sO ‹_› fun dc hdc => ?_|refine sN ?_|(refine Rm_o a0 rfl (fun r H2 hh => ?_); obtain ⟨rfl,rfl⟩:=hh)|refine rW rfl (a1) ?_|refine rV (a1) ?_|refine rW rfl (a2) ?_|refine rV (a2) ?_|refine rW rfl (a5) ?_|refine rV (a5) ?_|(refine Rm_i [2,3] a3 (by simp) (by simp) ⟨_,_,rfl,.inl rfl,_,_,rfl,.inr ⟨_,rfl,rfl⟩,rfl⟩ (fun r H2 hh => ?_); obtain ⟨rfl,rfl⟩:=hh; all_goals simp only [cs_dv,cs_rows,tR_eq])|refine sB ?_|refine sX ?_ ?_<;>(try intro h)<;>(try omega)|exact sP|refine rK ?_|exact sQ|refine sD ?_|exact sE|omega)
      all_goals first
       | exact ret_k (.tup [Cs.dv ⟨c.mn,c.hl,c.al,L⟩ 0 1,.p (.str [108,111,110,103])]) (Cs.rows ⟨c.mn,c.hl,c.al,L⟩) (by kernel_rfl) ⟨rfl,rfl⟩
       | skip
     ·have hR:repO r=r:=by unfold repO; rw [if_neg h200]
      rw [hR] at a5 ⊢
      clear hR hT
      generalize (appendO c.lg ⟨s,r⟩).1=L at *
      generalize (appendO c.lg ⟨s,r⟩).2=E at *
      refine sF fun dc hdc => ?_; refine sA ?_
      repeat' (first|refine sA ?_|refine sO ‹_› fun dc hdc => ?_|refine sN ?_|(refine Rm_o a0 rfl (fun r H2 hh => ?_); obtain ⟨rfl,rfl⟩:=hh)|refine rW rfl (a1) ?_|refine rV (a1) ?_|refine rW rfl (a2) ?_|refine rV (a2) ?_|refine rW rfl (a5) ?_|refine rV (a5) ?_|(refine Rm_i [2,3] a3 (by simp) (by simp) ⟨_,_,rfl,.inl rfl,_,_,rfl,.inr ⟨_,rfl,rfl⟩,rfl⟩ (fun r H2 hh => ?_); obtain ⟨rfl,rfl⟩:=hh; all_goals simp only [cs_dv,cs_rows,tR_eq])|refine sB ?_|refine sX ?_ ?_<;>(try intro h)<;>(try omega)|exact sP|refine rK ?_|exact sQ|refine sD ?_|exact sE|omega)
      all_goals first
       | exact ret_k (.tup [Cs.dv ⟨c.mn,c.hl,c.al,L⟩ 0 1,.p (.str r)]) (Cs.rows ⟨c.mn,c.hl,c.al,L⟩) (by kernel_rfl) ⟨rfl,rfl⟩
       | skip
    | rcv m ys r =>
     have hT:=rep_len r
     have a5:=a5 (repO r) hT
     have hst:stepC c s=⟨m,ys,c.al,(appendO c.lg ⟨s,repO r⟩).1⟩:=by unfold stepC; rw [hX]; rfl
     have hrp:repO (runR c (splitB 32 s)).rep=repO r:=by rw [hX]; rfl
     rw [hst,hrp]
     clear hst hrp hX hv
     by_cases h200:200<r.length
     ·have hR:repO r=[108,111,110,103]:=by unfold repO; rw [if_pos h200]; rfl
      rw [hR] at a5 ⊢
      clear hR hT
      generalize (appendO c.lg ⟨s,[108,111,110,103]⟩).1=L at *
      generalize (appendO c.lg ⟨s,[108,111,110,103]⟩).2=E at *
      refine sF fun dc hdc => ?_; refine sA ?_
      repeat' (first|refine sA ?_|refine sO ‹_› fun dc hdc => ?_|refine sN ?_|(refine Rm_o a0 rfl (fun r H2 hh => ?_); obtain ⟨rfl,rfl⟩:=hh)|refine rW rfl (a1) ?_|refine rV (a1) ?_|refine rW rfl (a2) ?_|refine rV (a2) ?_|refine rW rfl (a5) ?_|refine rV (a5) ?_|(refine Rm_i [2,3] a3 (by simp) (by simp) ⟨_,_,rfl,.inl rfl,_,_,rfl,.inr ⟨_,rfl,rfl⟩,rfl⟩ (fun r H2 hh => ?_); obtain ⟨rfl,rfl⟩:=hh; all_goals simp only [cs_dv,cs_dR,cs_rows,rowsR,tR_eq])|refine sB ?_|refine sX ?_ ?_<;>(try intro h)<;>(try omega)|exact sP|refine rK ?_|exact sQ|refine sD ?_|exact sE|omega)
      all_goals first
       | exact ret_k (.tup [Cs.dv ⟨m,ys,c.al,L⟩ 0 1,.p (.str [108,111,110,103])]) (Cs.rows ⟨m,ys,c.al,L⟩) (by kernel_rfl) ⟨rfl,rfl⟩
       | skip
     ·have hR:repO r=r:=by unfold repO; rw [if_neg h200]
      rw [hR] at a5 ⊢
      clear hR hT
      generalize (appendO c.lg ⟨s,r⟩).1=L at *
      generalize (appendO c.lg ⟨s,r⟩).2=E at *
      refine sF fun dc hdc => ?_; refine sA ?_
      repeat' (first|refine sA ?_|refine sO ‹_› fun dc hdc => ?_|refine sN ?_|(refine Rm_o a0 rfl (fun r H2 hh => ?_); obtain ⟨rfl,rfl⟩:=hh)|refine rW rfl (a1) ?_|refine rV (a1) ?_|refine rW rfl (a2) ?_|refine rV (a2) ?_|refine rW rfl (a5) ?_|refine rV (a5) ?_|(refine Rm_i [2,3] a3 (by simp) (by simp) ⟨_,_,rfl,.inl rfl,_,_,rfl,.inr ⟨_,rfl,rfl⟩,rfl⟩ (fun r H2 hh => ?_); obtain ⟨rfl,rfl⟩:=hh; all_goals simp only [cs_dv,cs_dR,cs_rows,rowsR,tR_eq])|refine sB ?_|refine sX ?_ ?_<;>(try intro h)<;>(try omega)|exact sP|refine rK ?_|exact sQ|refine sD ?_|exact sE|omega)
      all_goals first
       | exact ret_k (.tup [Cs.dv ⟨m,ys,c.al,L⟩ 0 1,.p (.str r)]) (Cs.rows ⟨m,ys,c.al,L⟩) (by kernel_rfl) ⟨rfl,rfl⟩
       | skip
    | alr ys r =>
     have hT:=rep_len r
     have a5:=a5 (repO r) hT
     have hst:stepC c s=⟨c.mn,c.hl,ys,(appendO c.lg ⟨s,repO r⟩).1⟩:=by unfold stepC; rw [hX]; rfl
     have hrp:repO (runR c (splitB 32 s)).rep=repO r:=by rw [hX]; rfl
     rw [hst,hrp]
     clear hst hrp hX hv
     by_cases h200:200<r.length
     ·have hR:repO r=[108,111,110,103]:=by unfold repO; rw [if_pos h200]; rfl
      rw [hR] at a5 ⊢
      clear hR hT
      generalize (appendO c.lg ⟨s,[108,111,110,103]⟩).1=L at *
      generalize (appendO c.lg ⟨s,[108,111,110,103]⟩).2=E at *
      refine sF fun dc hdc => ?_; refine sA ?_
      repeat' (first|refine sA ?_|refine sO ‹_› fun dc hdc => ?_|refine sN ?_|(refine Rm_o a0 rfl (fun r H2 hh => ?_); obtain ⟨rfl,rfl⟩:=hh)|refine rW rfl (a1) ?_|refine rV (a1) ?_|refine rW rfl (a2) ?_|refine rV (a2) ?_|refine rW rfl (a5) ?_|refine rV (a5) ?_|(refine Rm_i [2,3] a3 (by simp) (by simp) ⟨_,_,rfl,.inl rfl,_,_,rfl,.inr ⟨_,rfl,rfl⟩,rfl⟩ (fun r H2 hh => ?_); obtain ⟨rfl,rfl⟩:=hh; all_goals simp only [cs_dv,cs_dA,cs_rows,rowsA,tR_eq])|refine sB ?_|refine sX ?_ ?_<;>(try intro h)<;>(try omega)|exact sP|refine rK ?_|exact sQ|refine sD ?_|exact sE|omega)
      all_goals first
       | exact ret_k (.tup [Cs.dv ⟨c.mn,c.hl,ys,L⟩ 0 1,.p (.str [108,111,110,103])]) (Cs.rows ⟨c.mn,c.hl,ys,L⟩) (by kernel_rfl) ⟨rfl,rfl⟩
       | skip
     ·have hR:repO r=r:=by unfold repO; rw [if_neg h200]
      rw [hR] at a5 ⊢
      clear hR hT
      generalize (appendO c.lg ⟨s,r⟩).1=L at *
      generalize (appendO c.lg ⟨s,r⟩).2=E at *
      refine sF fun dc hdc => ?_; refine sA ?_
      repeat' (first|refine sA ?_|refine sO ‹_› fun dc hdc => ?_|refine sN ?_|(refine Rm_o a0 rfl (fun r H2 hh => ?_); obtain ⟨rfl,rfl⟩:=hh)|refine rW rfl (a1) ?_|refine rV (a1) ?_|refine rW rfl (a2) ?_|refine rV (a2) ?_|refine rW rfl (a5) ?_|refine rV (a5) ?_|(refine Rm_i [2,3] a3 (by simp) (by simp) ⟨_,_,rfl,.inl rfl,_,_,rfl,.inr ⟨_,rfl,rfl⟩,rfl⟩ (fun r H2 hh => ?_); obtain ⟨rfl,rfl⟩:=hh; all_goals simp only [cs_dv,cs_dA,cs_rows,rowsA,tR_eq])|refine sB ?_|refine sX ?_ ?_<;>(try intro h)<;>(try omega)|exact sP|refine rK ?_|exact sQ|refine sD ?_|exact sE|omega)
      all_goals first
       | exact ret_k (.tup [Cs.dv ⟨c.mn,c.hl,ys,L⟩ 0 1,.p (.str r)]) (Cs.rows ⟨c.mn,c.hl,ys,L⟩) (by kernel_rfl) ⟨rfl,rfl⟩
       | skip
theorem k_iExecP (c:Cs)(s:Txt)(hf:CsFits c)(hs:s.length≤1048576):Okv Tryz.prog 19 [c.pv,.str s] (.tup [.p (exO c s).1.pv,.p (.str (exO c s).2)]):=cs_pl2 (k_iExec c s hf hs)
end Go.Proofs.YtekmkgegjicjgaaGreat
