import Derived.Test.YtekmkgegjicjgaaGreatZBas
import Derived.Test.YtekmkgegjicjgaaGreatZCDrawA
import Derived.Test.YtekmkgegjicjgaaGreatZCVs
import Derived.Test.YtekmkgegjicjgaaGreatZCmK
namespace Go.Proofs.YtekmkgegjicjgaaGreat
open Go.Dv Go.Dv.EvL
set_option maxRecDepth 100000
set_option maxHeartbeats 16000000
attribute [local irreducible] Ok Rm Dm Om Sm Xm Cm Gm Hm Tm
theorem k_FnConsole (code:List UInt8)(hc:code.length≤9223372036854775807):Okv Tryz.prog 7 [codeP code] (.p (.bool true)):=by
 refine ok_D hmix c_laws_FnConsole (by simp) ?_
 have hbig:=k_vBig code hc
 by_cases hb:65536<code.length
 ·rw [decide_eq_true hb] at hbig
  refine sF fun dc hdc => ?_; refine sA ?_
  repeat' (first|refine sA ?_|refine sO ‹_› fun dc hdc => ?_|refine sN ?_|refine rW rfl (hbig) ?_|refine rV (hbig) ?_|refine sB ?_|refine sX ?_ ?_<;>(try intro h)<;>(try omega)|exact sP|refine rK ?_|exact sQ|refine sD ?_|exact sE|omega)
  all_goals skip
 ·rw [decide_eq_false hb] at hbig
  have hd:=k_DrawExecuteCommand code (by omega)
  refine sF fun dc hdc => ?_; refine sA ?_
  repeat' (first|refine sA ?_|refine sO ‹_› fun dc hdc => ?_|refine sN ?_|refine rW rfl (hbig) ?_|refine rV (hbig) ?_|refine sB ?_|refine sX ?_ ?_<;>(try intro h)<;>(try omega)|exact sP|refine rK ?_|exact sQ|refine sD ?_|exact sE|omega)
  refine Rm_o hd rfl ?_
  rintro r H2 ⟨c,t,rfl,hcd,ht,rfl⟩
  have hf:=cd_fits hcd
  have hS:=k_sExec c t hf (by omega)
  have hI:=k_iExecP c t hf (by omega)
  have hV1:=k_iConsole c hf
  have hV2:=k_sConsole c hf
  have hf2:=ex_fits hf t
  have hE1:=k_vConsole c hf
  have hcs:=ex_cases c t
  generalize exO c t=o at *
  obtain ⟨v,rp⟩:=o
  simp only [] at hf2 hS hI hcs
  rcases hcs with ⟨rfl,h2⟩|⟨h1,h2,h3,h4,h5⟩
  ·rcases h2 with rfl|rfl|rfl
   all_goals
    simp only [cs_pv] at *
    generalize csB v=bv at *
    repeat' (first|refine sA ?_|refine sO ‹_› fun dc hdc => ?_|refine sN ?_|simp only [beq_self_eq_true,Bool.and_self]|(refine Rm_o hI rfl (fun r H2 hh => ?_); obtain ⟨rfl,rfl⟩:=hh)|(refine Rm_o hS rfl (fun r H2 hh => ?_); obtain ⟨rfl,rfl⟩:=hh)|refine dr ?_|refine dr0 ?_|refine rW rfl (hE1) ?_|refine rV (hE1) ?_|refine rW rfl (hV1) ?_|refine rV (hV1) ?_|refine rW rfl (hV2) ?_|refine rV (hV2) ?_|refine sB ?_|refine sX ?_ ?_<;>(try intro h)<;>(try omega)|exact sP|refine rK ?_|exact sQ|refine sD ?_|exact sE|omega)
   all_goals first
    | exact absurd (rfl:wNo=[110,111]) (by assumption)
    | exact absurd (rfl:wBad=[98,97,100]) (by assumption)
    | skip
  ·have hE:=k_vConsole v hf2
   have hL:=k_iLogRecsP v.lg (by have:=hf2.2.2.1; omega) (by have:=hf2.2.2.2; omega)
   have hW:=k_iConsole v hf2
   have hn:=recs_cnt (cs_okV h1).2.2
   rw [h2] at hW
   have hlast:(recsO v.lg).getD (recsO c.lg).length default=⟨t,rp⟩:=by rw [h3,getD_app_r (Nat.le_refl _),Nat.sub_self]; rfl
   have hlen:(recsO v.lg).length=(recsO c.lg).length+1:=by rw [h3,List.length_append]; rfl
   have hq:=recsO_len c.lg
   rw [(cs_okV h2).2.2] at hL
   clear h3
   generalize recsO v.lg=R at *
   generalize recsO c.lg=Q at *
   have hi:(R.length:Int) - 1=((Q.length:Nat):Int):=by omega
   have hne:(v.lg.cnt == c.lg.cnt)=false:=beq_eq_false_iff_ne.2 (by omega)
   rw [h1] at hV1 hV2
   rw [lg_pv] at hL
   simp only [cs_pv] at *
   repeat' (first|refine sA ?_|refine sO ‹_› fun dc hdc => ?_|refine sN ?_|(refine Rm_o hI rfl (fun r H2 hh => ?_); obtain ⟨rfl,rfl⟩:=hh)|(refine Rm_o hS rfl (fun r H2 hh => ?_); obtain ⟨rfl,rfl⟩:=hh)|refine dr ?_|refine dr0 ?_|refine rW rfl (hE) ?_|refine rV (hE) ?_|refine rW rfl (hV1) ?_|refine rV (hV1) ?_|refine rW rfl (hV2) ?_|refine rV (hV2) ?_|refine rW rfl (hW) ?_|refine rV (hW) ?_|(refine Rm_o hL rfl (fun r H2 hh => ?_); obtain ⟨rfl,rfl⟩:=hh)|simp only [hne,Bool.and_false]|rw [hi]|rw [hlast]|rw [rec_pv]|refine sB ?_|refine sX ?_ ?_<;>(try intro h)<;>(try omega)|exact sP|refine rK ?_|exact sQ|refine sD ?_|exact sE|omega)
   ·rw [show R.length - 1=Q.length from by omega,hlast]
    simp
end Go.Proofs.YtekmkgegjicjgaaGreat
