import Derived.Test.YtekmkgegjicjgaaGreatZBas
import Derived.Test.YtekmkgegjicjgaaGreatZCDrawB
import Derived.Test.YtekmkgegjicjgaaGreatZCDrawC
import Derived.Test.YtekmkgegjicjgaaGreatZCVs
import Derived.Test.YtekmkgegjicjgaaGreatZRpP
import Derived.Test.YtekmkgegjicjgaaGreatZCrashC
namespace Go.Proofs.YtekmkgegjicjgaaGreat
open Go.Dv Go.Dv.EvL
set_option maxRecDepth 100000
set_option maxHeartbeats 16000000
attribute [local irreducible] Ok Rm Dm Om Sm Xm Cm Gm Hm Tm
theorem tmod7 (n:Nat):(n:Int).tmod 7=((n % 7:Nat):Int):=tmod_nat n 7
theorem rl_le (m:Int)(l:Lg):(rlO m l).1≤60:=by
 unfold rlO
 split
 ·have : ∀ k,rlK (newC m) (recsO l) k≤(recsO l).length:=by
   intro k
   induction k with
   | zero=>exact Nat.le_refl _
   | succ k ih =>
    unfold rlK
    split
    ·exact ih
    ·omega
  exact Nat.le_trans (this _) (recsO_len l)
 ·simp
theorem k_FnReplay (code:List UInt8)(hc:code.length≤9223372036854775807):Okv Tryz.prog 6 [codeP code] (.p (.bool true)):=by
 refine ok_D hmix c_laws_FnReplay (by simp) ?_
 have hbig:=k_vBig code hc
 by_cases hb:65536<code.length
 ·rw [decide_eq_true hb] at hbig
  refine sF fun dc hdc => ?_; refine sA ?_
  repeat' (first|refine sA ?_|refine sO ‹_› fun dc hdc => ?_|refine sN ?_|refine rW rfl (hbig) ?_|refine rV (hbig) ?_|refine sB ?_|refine sX ?_ ?_<;>(try intro h)<;>(try omega)|exact sP|refine rK ?_|exact sQ|refine sD ?_|exact sE|omega)
  all_goals skip
 ·rw [decide_eq_false hb] at hbig
  have hd:=k_DrawReplayLog code (by omega)
  have hd2:=k_DrawRunScript code (by omega)
  refine sF fun dc hdc => ?_; refine sA ?_
  repeat' (first|refine sA ?_|refine sO ‹_› fun dc hdc => ?_|refine sN ?_|refine rW rfl (hbig) ?_|refine rV (hbig) ?_|refine sB ?_|refine sX ?_ ?_<;>(try intro h)<;>(try omega)|exact sP|refine rK ?_|exact sQ|refine sD ?_|exact sE|omega)
  refine Rm_o hd rfl ?_
  rintro r H2 ⟨m,l,rfl,m1,m2,hl,rfl⟩
  have hI:=k_iReplay m l (by omega) (by omega)
  have hS:=k_sReplay m l (by omega) (by omega)
  generalize rlO m l=o at *
  obtain ⟨n,ok⟩:=o
  simp only [lg_pv] at *
  repeat' (first|refine sA ?_|refine sO ‹_› fun dc hdc => ?_|refine sN ?_|refine rW rfl (hI) ?_|refine rV (hI) ?_|refine rW rfl (hS) ?_|refine rV (hS) ?_|refine sB ?_|refine sX ?_ ?_<;>(try intro h)<;>(try omega)|exact sP|refine rK ?_|exact sQ|refine sD ?_|exact sE|omega)
  refine Rm_o hd2 rfl ?_
  rintro r H2 ⟨c,t,rfl,hcd,ht,rfl⟩
  have hN1:=k_iNew m
  have hN2:=k_sNew m
  have hV:=k_vConsole (newC (newM m)) (new_fits _)
  have hP:=k_sSplitString t (by omega)
  have hld:=leads_new (m:=m)
  have hmm:=new_ok (m:=m)
  cases hm:minB m
  ·rw [hm] at hN1 hN2
   generalize newC (newM m)=c0 at *
   simp only [cs_pv] at *
   repeat' (first|refine sA ?_|refine sO ‹_› fun dc hdc => ?_|refine sN ?_|(refine Rm_o hN1 rfl (fun r H2 hh => ?_); obtain ⟨rfl,rfl⟩:=hh)|(refine Rm_o hN2 rfl (fun r H2 hh => ?_); obtain ⟨rfl,rfl⟩:=hh)|refine rW rfl (hV) ?_|refine rV (hV) ?_|refine sB ?_|refine sX ?_ ?_<;>(try intro h)<;>(try omega)|exact sP|refine rK ?_|exact sQ|refine sD ?_|exact sE|omega)
   all_goals skip
  ·have hld:=hld hm
   rw [hmm hm] at hN1 hN2 hV
   rw [hm] at hN1 hN2
   generalize hc0:newC m=c0 at *
   have hW:(spO t).1.length≤10001:=by
    unfold spO
    split
    ·have:=(split_len 10 t).1
     simp only []
     omega
    ·simp
   have hWl : ∀ x∈(spO t).1,x.length≤1048576:=by
    unfold spO
    split
    ·intro x hx
     have:=c_words_len hx
     omega
    ·simp
   generalize spO t=o at *
   obtain ⟨W,bw⟩:=o
   simp only [] at hW hWl hP
   simp only [cs_pv] at hN1 hN2 hV
   rw [cs_pv]
   repeat' (first|refine sA ?_|refine sO ‹_› fun dc hdc => ?_|refine sN ?_|(refine Rm_o hN1 rfl (fun r H2 hh => ?_); obtain ⟨rfl,rfl⟩:=hh)|(refine Rm_o hN2 rfl (fun r H2 hh => ?_); obtain ⟨rfl,rfl⟩:=hh)|refine rW rfl (hV) ?_|refine rV (hV) ?_|(refine Rm_o hP rfl (fun r H2 hh => ?_); obtain ⟨rfl,rfl⟩:=hh)|refine sB ?_|refine sX ?_ ?_<;>(try intro h)<;>(try omega)|exact sP|refine rK ?_|exact sQ|refine sD ?_|exact sE|omega)
   refine Dm_loop [3,11,15,17] (fun k ds H' => ∃ (i:Nat) (c:Cs),i≤W.length∧k=W.length - i∧Leads c0 c∧ds=[.p (.int .i64 m),.ptr 0 0 0,.p (slS W),.p (.int .i64 i)]∧H'=[.box 40 [.p (.int .i64 c.mn),.p (.sl 10 (c.hl.map Hd.pv)),.p (.sl 5 (c.al.map Al.pv)),.p (.str c.lg.dur),.p (.str c.lg.pend),.p (.int .i64 c.lg.cnt)]]) W.length ⟨0,c0,by omega,by omega,hld,rfl,rfl⟩ ?_
   clear hld hN1 hN2 hV hP
   rintro k ds H' ⟨i,c,i1,rfl,hld,rfl,rfl⟩ -
   rcases Nat.lt_or_ge i W.length with hi|hi
   ·have hx:=k_iExecP c (W.getD i default) (leads_fits hld).1 (hWl _ (getD_mem hi))
    have hv:=leads_step hld (W.getD i default)
    rw [cs_pv] at hx
    generalize hS:W.getD i default=S at *
    rw [cs_pv] at hx
    generalize (exO c S).1=c2 at *
    generalize (exO c S).2=rr at *
    repeat' (first|refine sA ?_|refine sO ‹_› fun dc hdc => ?_|refine sN ?_|refine dr ?_|refine dr0 ?_|rw [hS]|(refine Rm_o hx rfl (fun r H2 hh => ?_); obtain ⟨rfl,rfl⟩:=hh)|(refine Tm_fin (by simp only [hideOK,newsE]; simp []) ?_)|refine sB ?_|refine sX ?_ ?_<;>(try intro h)<;>(try omega)|exact sP|refine rK ?_|exact sQ|refine sD ?_|exact sE|omega)
    all_goals exact Xm_inv_n (W.length - (i+1)) (by omega) ⟨i+1,c2,by omega,rfl,hv,rfl,rfl⟩
   ·obtain rfl:i=W.length:=by omega
    have h7:=tmod7 c.lg.pend.length
    subst hc0
    obtain ⟨s,l2,n2,e1,e2,e3,e4,e5,e6,e7,e8,e9⟩:=leads_end hm hld (k:=(c.lg.pend.length:Int) - ((c.lg.pend.length % 7:Nat):Int)) (by omega) (by omega)
    obtain ⟨f1,f2,f3⟩:=leads_fits hld
    have r1:=k_iReplay m c.lg (by omega) (by omega)
    have r2:=k_iCrash0 c.lg ((c.lg.pend.length:Int) - ((c.lg.pend.length % 7:Nat):Int)) (by omega) (by omega) f3 (by omega) (by omega)
    have r3:=k_iRecover s (by omega)
    have r4:=k_iReplay m l2 (by omega) (by omega)
    rw [e1] at r1
    rw [e3] at r2
    rw [e5] at r3
    rw [e6] at r4
    simp only [] at r1 r2 r3 r4
    rw [e2] at r1
    rw [e7] at r4
    simp only [lg_pv] at *
    repeat' (first|refine sA ?_|refine sO ‹_› fun dc hdc => ?_|refine sN ?_|refine rW rfl (r1) ?_|refine rV (r1) ?_|refine rW rfl (r2) ?_|refine rV (r2) ?_|refine rW rfl (r3) ?_|refine rV (r3) ?_|refine rW rfl (r4) ?_|refine rV (r4) ?_|rw [h7]|refine dr ?_|refine dr0 ?_|refine sB ?_|refine sX ?_ ?_<;>(try intro h)<;>(try omega)|exact sP|refine rK ?_|exact sQ|refine sD ?_|exact sE|omega)
    all_goals skip
end Go.Proofs.YtekmkgegjicjgaaGreat
