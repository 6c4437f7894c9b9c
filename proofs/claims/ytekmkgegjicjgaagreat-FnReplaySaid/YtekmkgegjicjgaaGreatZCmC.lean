import Derived.Test.YtekmkgegjicjgaaGreatZBas
import Derived.Test.YtekmkgegjicjgaaGreatZCmB
import Derived.Test.YtekmkgegjicjgaaGreatZWrd
namespace Go.Proofs.YtekmkgegjicjgaaGreat
open Go.Dv Go.Dv.EvL
set_option maxRecDepth 100000
set_option maxHeartbeats 16000000
attribute [local irreducible] Ok Rm Dm Om Sm Xm Cm Gm Hm Tm
theorem nm1 (w1:Txt):nmO [w1]=if (readO w1).2=true then ([(readO w1).1],true) else ([],false):=by
 unfold nmO nmB
 simp only [List.all_cons,List.all_nil,Bool.and_true]
 rfl
theorem nm2 (w1 w2:Txt):nmO [w1,w2]=if ((readO w1).2 && (readO w2).2)=true then ([(readO w1).1,(readO w2).1],true) else ([],false):=by
 unfold nmO nmB
 simp only [List.all_cons,List.all_nil,Bool.and_true]
 rfl
theorem enc_cut {s w:Txt}{ws:List Txt}(hW:splitB 32 s=w::ws)(hw:w=wEnc)(hne:ws≠[]):7≤s.length∧cutL s 7 s.length=joinB 32 ws∧splitB 32 (joinB 32 ws)=ws:=by
 obtain ⟨h1,h2⟩:=first_word hW hne (by rw [hw]; decide)
 refine ⟨?_,?_,h2⟩
 ·rw [h1,hw,List.length_append,List.length_cons]
  have:wEnc.length=6:=rfl
  omega
 ·have hd:s.drop 7=joinB 32 ws:=by rw [h1,hw]; rfl
  unfold cutL
  rw [hd]
  refine List.take_of_length_le ?_
  rw [← hd,List.length_drop]
  omega
end Go.Proofs.YtekmkgegjicjgaaGreat
namespace Go.Proofs.YtekmkgegjicjgaaGreat
open Go.Dv Go.Dv.EvL
set_option maxRecDepth 100000
set_option maxHeartbeats 16000000
attribute [local irreducible] Ok Rm Dm Om Sm Xm Cm Gm Hm Tm
theorem k_run1 (c:Cs)(s w:Txt)(hf:CsFits c)(hv:csB c=true)(hs:s.length≤1000)(hW:splitB 32 s=[w]):Okv Tryz.prog 55 [c.pv,.str s] (.tup [.p ((runR c ([w])).cs c).pv,.p (.str (runR c ([w])).rep)]):=by
 refine ok_D hmix c_spec_l28Run (by simp) ?_
 have h0:=k_l1SplitP s (by omega)
 have hwl : ∀ {x:Txt},x∈splitB 32 s→x.length≤1000:=fun h=>by have:=c_words_len h; omega
 rw [hW] at h0 hwl
 have hcs:(run1 c w).cs c=c:=by unfold run1; split; rfl; split<;>rfl
 obtain rfl:=one_word hW
 have a1:=k_l28Word c s hf hv
 have hr:runR c [s]=run1 c s:=rfl
 rw [hr,hcs]
 generalize (run1 c s).rep=TT at *
 rw [cs_pv] at *
 refine sF fun dc hdc => ?_; refine sA ?_
 repeat' (first|refine sA ?_|refine sO ‹_› fun dc hdc => ?_|refine sN ?_|(refine Rm_o h0 rfl (fun r H2 hh => ?_); obtain ⟨rfl,rfl⟩:=hh)|refine rW rfl (a1) ?_|refine rV (a1) ?_|refine sB ?_|refine sX ?_ ?_<;>(try intro h)<;>(try omega)|exact sP|refine rK ?_|exact sQ|refine sD ?_|exact sE|omega)
 all_goals skip
theorem k_run2_d (c:Cs)(s w w1:Txt)(_hf:CsFits c)(_hv:csB c=true)(hs:s.length≤1000)(hW:splitB 32 s=[w,w1])(hw:w=wDec):Okv Tryz.prog 55 [c.pv,.str s] (.tup [.p ((runR c ([w,w1])).cs c).pv,.p (.str (runR c ([w,w1])).rep)]):=by
 refine ok_D hmix c_spec_l28Run (by simp) ?_
 have h0:=k_l1SplitP s (by omega)
 have hwl : ∀ {x:Txt},x∈splitB 32 s→x.length≤1000:=fun h=>by have:=c_words_len h; omega
 rw [hW] at h0 hwl
 have e1:w1.length≤1000:=hwl (by simp)
 have q:=q5_decode hw
 have hr:runR c [w,w1]=dcR w1:=by rw [hw]; rfl
 rw [hr]
 have a1:=k_l28Decode w1 (by omega)
 have hcs:(dcR w1).cs c=c:=by rw [dcR_eq]; split<;>rfl
 rw [hcs]
 generalize (dcR w1).rep=TT at *
 rw [cs_pv] at *
 refine sF fun dc hdc => ?_; refine sA ?_
 repeat' (first|refine sA ?_|refine sO ‹_› fun dc hdc => ?_|refine sN ?_|(refine Rm_o h0 rfl (fun r H2 hh => ?_); obtain ⟨rfl,rfl⟩:=hh)|simp only [q]|refine rW rfl (a1) ?_|refine rV (a1) ?_|refine dr ?_|refine dr0 ?_|refine sB ?_|refine sX ?_ ?_<;>(try intro h)<;>(try omega)|exact sP|refine rK ?_|exact sQ|refine sD ?_|exact sE|omega)
 all_goals skip
theorem k_run2_e (c:Cs)(s w w1:Txt)(_hf:CsFits c)(_hv:csB c=true)(hs:s.length≤1000)(hW:splitB 32 s=[w,w1])(hw:w=wEnc):Okv Tryz.prog 55 [c.pv,.str s] (.tup [.p ((runR c ([w,w1])).cs c).pv,.p (.str (runR c ([w,w1])).rep)]):=by
 refine ok_D hmix c_spec_l28Run (by simp) ?_
 have h0:=k_l1SplitP s (by omega)
 have hwl : ∀ {x:Txt},x∈splitB 32 s→x.length≤1000:=fun h=>by have:=c_words_len h; omega
 rw [hW] at h0 hwl
 have e1:w1.length≤1000:=hwl (by simp)
 have q:=q5_encode hw
 obtain ⟨g1,g2,g3⟩:=enc_cut hW hw (by simp)
 have hr:runR c ([w,w1]) = .bad:=by rw [hw]; exact r2_enc c w1
 rw [hr]
 have a1:=k_l5Parse (joinB 32 ([w1])) (by rw [← g2]; unfold cutL; rw [List.length_take]; omega)
 rw [c_pf_no (s:=joinB 32 ([w1])) (by rw [g3]; simp)] at a1
 unfold frD at a1
 simp only [Rs.cs,Rs.rep]
 generalize joinB 32 ([w1])=G at *
 rw [cs_pv] at *
 refine sF fun dc hdc => ?_; refine sA ?_
 repeat' (first|refine sA ?_|refine sO ‹_› fun dc hdc => ?_|refine sN ?_|(refine Rm_o h0 rfl (fun r H2 hh => ?_); obtain ⟨rfl,rfl⟩:=hh)|simp only [q]|rw [g2]|refine rW rfl (a1) ?_|refine rV (a1) ?_|refine dr ?_|refine dr0 ?_|refine sB ?_|refine sX ?_ ?_<;>(try intro h)<;>(try omega)|exact sP|refine rK ?_|exact sQ|refine sD ?_|exact sE|omega)
 all_goals skip
theorem k_run2_p (c:Cs)(s w w1:Txt)(hf:CsFits c)(_hv:csB c=true)(hs:s.length≤1000)(hW:splitB 32 s=[w,w1])(hw:w=wPass):Okv Tryz.prog 55 [c.pv,.str s] (.tup [.p ((runR c ([w,w1])).cs c).pv,.p (.str (runR c ([w,w1])).rep)]):=by
 refine ok_D hmix c_spec_l28Run (by simp) ?_
 have h0:=k_l1SplitP s (by omega)
 have hwl : ∀ {x:Txt},x∈splitB 32 s→x.length≤1000:=fun h=>by have:=c_words_len h; omega
 rw [hW] at h0 hwl
 have e1:w1.length≤1000:=hwl (by simp)
 have hN:=k_l28Numbers ([w1]) ⟨by simp,fun x h=>by have:=hwl (List.mem_cons_of_mem _ h); omega⟩
 have q:=q5_pass hw
 rw [nm1] at hN
 have hr:runR c [w,w1]=if (readO w1).2=true then passR c (readO w1).1 else .bad:=by rw [hw]; rfl
 rw [hr]
 have a1:=k_l28Pass c (readO w1).1 hf
 generalize (readO w1).1=n1 at *
 generalize (readO w1).2=b1 at *
 cases b1<;>simp only [Bool.false_eq_true,if_true,if_false] at hN ⊢
 ·clear a1
  simp only [Rs.cs,Rs.rep]
  rw [cs_pv] at *
  refine sF fun dc hdc => ?_; refine sA ?_
  repeat' (first|refine sA ?_|refine sO ‹_› fun dc hdc => ?_|refine sN ?_|(refine Rm_o h0 rfl (fun r H2 hh => ?_); obtain ⟨rfl,rfl⟩:=hh)|simp only [q]|(refine Rm_o hN rfl (fun r H2 hh => ?_); obtain ⟨rfl,rfl⟩:=hh)|refine dr ?_|refine dr0 ?_|refine sB ?_|refine sX ?_ ?_<;>(try intro h)<;>(try omega)|exact sP|refine rK ?_|exact sQ|refine sD ?_|exact sE|omega)
  all_goals skip
 ·generalize (passR c n1).cs c=V at *
  generalize (passR c n1).rep=TT at *
  rw [cs_pv V] at *
  rw [cs_pv] at *
  refine sF fun dc hdc => ?_; refine sA ?_
  repeat' (first|refine sA ?_|refine sO ‹_› fun dc hdc => ?_|refine sN ?_|(refine Rm_o h0 rfl (fun r H2 hh => ?_); obtain ⟨rfl,rfl⟩:=hh)|simp only [q]|(refine Rm_o hN rfl (fun r H2 hh => ?_); obtain ⟨rfl,rfl⟩:=hh)|(refine Rm_o a1 rfl (fun r H2 hh => ?_); obtain ⟨rfl,rfl⟩:=hh)|refine dr ?_|refine dr0 ?_|refine sB ?_|refine sX ?_ ?_<;>(try intro h)<;>(try omega)|exact sP|refine rK ?_|exact sQ|refine sD ?_|exact sE|omega)
  all_goals skip
theorem k_run2_o (c:Cs)(s w w1:Txt)(hf:CsFits c)(_hv:csB c=true)(hs:s.length≤1000)(hW:splitB 32 s=[w,w1])(h1:w≠wDec)(h2:w≠wEnc)(h3:w≠wPass):Okv Tryz.prog 55 [c.pv,.str s] (.tup [.p ((runR c ([w,w1])).cs c).pv,.p (.str (runR c ([w,w1])).rep)]):=by
 refine ok_D hmix c_spec_l28Run (by simp) ?_
 have h0:=k_l1SplitP s (by omega)
 have hwl : ∀ {x:Txt},x∈splitB 32 s→x.length≤1000:=fun h=>by have:=c_words_len h; omega
 rw [hW] at h0 hwl
 have e1:w1.length≤1000:=hwl (by simp)
 have hN:=k_l28Numbers ([w1]) ⟨by simp,fun x h=>by have:=hwl (List.mem_cons_of_mem _ h); omega⟩
 rw [nm1] at hN
 have hr:runR c [w,w1]=if (readO w1).2=true then oneW c w (readO w1).1 else .bad:=r2_one c w1 h1 h3
 rw [hr]
 have a1:=k_l28One c w (readO w1).1 hf
 have hcs:(oneW c w (readO w1).1).cs c=c:=by unfold oneW; split; rw [where_eq]; split<;>rfl; split; rw [frames_eq]; split<;>rfl; rfl
 generalize (readO w1).1=n1 at *
 generalize (readO w1).2=b1 at *
 rcases g5 w with ⟨q,hw⟩|⟨q,hw⟩|⟨q,hw⟩|⟨q,hw⟩|⟨q,hw⟩|⟨q,hw⟩|⟨q,hw⟩|⟨q,hw⟩
 all_goals first|exact absurd hw h1|exact absurd hw h2|exact absurd hw h3|clear hw
 all_goals
  cases b1<;>simp only [Bool.false_eq_true,if_true,if_false] at hN ⊢
  ·clear a1
   simp only [Rs.cs,Rs.rep]
   rw [cs_pv] at *
   refine sF fun dc hdc => ?_; refine sA ?_
   repeat' (first|refine sA ?_|refine sO ‹_› fun dc hdc => ?_|refine sN ?_|(refine Rm_o h0 rfl (fun r H2 hh => ?_); obtain ⟨rfl,rfl⟩:=hh)|simp only [q]|(refine Rm_o hN rfl (fun r H2 hh => ?_); obtain ⟨rfl,rfl⟩:=hh)|refine dr ?_|refine dr0 ?_|refine sB ?_|refine sX ?_ ?_<;>(try intro h)<;>(try omega)|exact sP|refine rK ?_|exact sQ|refine sD ?_|exact sE|omega)
   all_goals skip
  ·rw [hcs]
   generalize (oneW c w n1).rep=TT at *
   rw [cs_pv] at *
   refine sF fun dc hdc => ?_; refine sA ?_
   repeat' (first|refine sA ?_|refine sO ‹_› fun dc hdc => ?_|refine sN ?_|(refine Rm_o h0 rfl (fun r H2 hh => ?_); obtain ⟨rfl,rfl⟩:=hh)|simp only [q]|(refine Rm_o hN rfl (fun r H2 hh => ?_); obtain ⟨rfl,rfl⟩:=hh)|refine rW rfl (a1) ?_|refine rV (a1) ?_|refine dr ?_|refine dr0 ?_|refine sB ?_|refine sX ?_ ?_<;>(try intro h)<;>(try omega)|exact sP|refine rK ?_|exact sQ|refine sD ?_|exact sE|omega)
   all_goals skip
theorem k_run2 (c:Cs)(s w w1:Txt)(hf:CsFits c)(hv:csB c=true)(hs:s.length≤1000)(hW:splitB 32 s=[w,w1]):Okv Tryz.prog 55 [c.pv,.str s] (.tup [.p ((runR c ([w,w1])).cs c).pv,.p (.str (runR c ([w,w1])).rep)]):=by
 by_cases h1:w=wDec
 ·exact k_run2_d c s w w1 hf hv hs hW h1
 by_cases h2:w=wEnc
 ·exact k_run2_e c s w w1 hf hv hs hW h2
 by_cases h3:w=wPass
 ·exact k_run2_p c s w w1 hf hv hs hW h3
 exact k_run2_o c s w w1 hf hv hs hW h1 h2 h3
end Go.Proofs.YtekmkgegjicjgaaGreat
