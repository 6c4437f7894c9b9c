import Derived.Test.YtekmkgegjicjgaaGreatZBas
import Derived.Test.YtekmkgegjicjgaaGreatZCmC
namespace Go.Proofs.YtekmkgegjicjgaaGreat
open Go.Dv Go.Dv.EvL
set_option maxRecDepth 100000
set_option maxHeartbeats 16000000
attribute [local irreducible] Ok Rm Dm Om Sm Xm Cm Gm Hm Tm
theorem k_run3_h (c:Cs)(s w w1 w2:Txt)(hf:CsFits c)(_hv:csB c=true)(hs:s.length≤1000)(hW:splitB 32 s=[w,w1,w2])(hw:w=wHear):Okv Tryz.prog 55 [c.pv,.str s] (.tup [.p ((runR c ([w,w1,w2])).cs c).pv,.p (.str (runR c ([w,w1,w2])).rep)]):=by
 refine ok_D hmix c_spec_l28Run (by simp) ?_
 have h0:=k_l1SplitP s (by omega)
 have hwl : ∀ {x:Txt},x∈splitB 32 s→x.length≤1000:=fun h=>by have:=c_words_len h; omega
 rw [hW] at h0 hwl
 have e1:w1.length≤1000:=hwl (by simp)
 have e2:w2.length≤1000:=hwl (by simp)
 have q:=q5_hear hw
 have hr:runR c [w,w1,w2]=hearW c w1 w2:=by rw [hw]; rfl
 rw [hr]
 have a1:=k_l28Hear c w w1 w2 hf (by omega) (by omega)
 generalize (hearW c w1 w2).cs c=V at *
 generalize (hearW c w1 w2).rep=TT at *
 rw [cs_pv V] at *
 rw [cs_pv] at *
 refine sF fun dc hdc => ?_; refine sA ?_
 repeat' (first|refine sA ?_|refine sO ‹_› fun dc hdc => ?_|refine sN ?_|(refine Rm_o h0 rfl (fun r H2 hh => ?_); obtain ⟨rfl,rfl⟩:=hh)|simp only [q]|(refine Rm_o a1 rfl (fun r H2 hh => ?_); obtain ⟨rfl,rfl⟩:=hh)|refine dr ?_|refine dr0 ?_|refine sB ?_|refine sX ?_ ?_<;>(try intro h)<;>(try omega)|exact sP|refine rK ?_|exact sQ|refine sD ?_|exact sE|omega)
 all_goals skip
theorem k_run3_e (c:Cs)(s w w1 w2:Txt)(_hf:CsFits c)(_hv:csB c=true)(hs:s.length≤1000)(hW:splitB 32 s=[w,w1,w2])(hw:w=wEnc):Okv Tryz.prog 55 [c.pv,.str s] (.tup [.p ((runR c ([w,w1,w2])).cs c).pv,.p (.str (runR c ([w,w1,w2])).rep)]):=by
 refine ok_D hmix c_spec_l28Run (by simp) ?_
 have h0:=k_l1SplitP s (by omega)
 have hwl : ∀ {x:Txt},x∈splitB 32 s→x.length≤1000:=fun h=>by have:=c_words_len h; omega
 rw [hW] at h0 hwl
 have e1:w1.length≤1000:=hwl (by simp)
 have e2:w2.length≤1000:=hwl (by simp)
 have q:=q5_encode hw
 obtain ⟨g1,g2,g3⟩:=enc_cut hW hw (by simp)
 have hr:runR c ([w,w1,w2]) = .bad:=r3_bad c w1 w2 (by rw [hw]; decide) (by rw [hw]; decide) (by rw [hw]; decide)
 rw [hr]
 have a1:=k_l5Parse (joinB 32 ([w1,w2])) (by rw [← g2]; unfold cutL; rw [List.length_take]; omega)
 rw [c_pf_no (s:=joinB 32 ([w1,w2])) (by rw [g3]; simp)] at a1
 unfold frD at a1
 simp only [Rs.cs,Rs.rep]
 generalize joinB 32 ([w1,w2])=G at *
 rw [cs_pv] at *
 refine sF fun dc hdc => ?_; refine sA ?_
 repeat' (first|refine sA ?_|refine sO ‹_› fun dc hdc => ?_|refine sN ?_|(refine Rm_o h0 rfl (fun r H2 hh => ?_); obtain ⟨rfl,rfl⟩:=hh)|simp only [q]|rw [g2]|refine rW rfl (a1) ?_|refine rV (a1) ?_|refine dr ?_|refine dr0 ?_|refine sB ?_|refine sX ?_ ?_<;>(try intro h)<;>(try omega)|exact sP|refine rK ?_|exact sQ|refine sD ?_|exact sE|omega)
 all_goals skip
theorem k_run3_t (c:Cs)(s w w1 w2:Txt)(hf:CsFits c)(hv:csB c=true)(hs:s.length≤1000)(hW:splitB 32 s=[w,w1,w2])(hw:w=wSee∨w=wShow):Okv Tryz.prog 55 [c.pv,.str s] (.tup [.p ((runR c ([w,w1,w2])).cs c).pv,.p (.str (runR c ([w,w1,w2])).rep)]):=by
 refine ok_D hmix c_spec_l28Run (by simp) ?_
 have h0:=k_l1SplitP s (by omega)
 have hwl : ∀ {x:Txt},x∈splitB 32 s→x.length≤1000:=fun h=>by have:=c_words_len h; omega
 rw [hW] at h0 hwl
 have e1:w1.length≤1000:=hwl (by simp)
 have e2:w2.length≤1000:=hwl (by simp)
 have hN:=k_l28Numbers ([w1,w2]) ⟨by simp,fun x h=>by have:=hwl (List.mem_cons_of_mem _ h); omega⟩
 have hr:runR c [w,w1,w2]=if (readO w1).2=true∧(readO w2).2=true then twoW c w (readO w1).1 (readO w2).1 else .bad:=by rcases hw with hw|hw<;>rw [hw]<;>rfl
 rw [hr]
 rw [nm2] at hN
 have a1:=k_l28Two c w (readO w1).1 (readO w2).1 hf (cs_in hv).2.2.2.2.1 hw
 generalize (readO w1).1=n1 at *
 generalize (readO w1).2=b1 at *
 generalize (readO w2).1=n2 at *
 generalize (readO w2).2=b2 at *
 generalize hV:(twoW c w n1 n2).cs c=V at *
 generalize hT:(twoW c w n1 n2).rep=TT at *
 rw [cs_pv V] at a1
 rcases hw with hw|hw
 ·have q:=q5_see hw
  cases b1<;>cases b2<;>simp only [Bool.false_eq_true,Bool.and_true,Bool.and_false,if_true,if_false,and_true,and_false,hV,hT] at hN ⊢
  all_goals
   (try simp only [Rs.cs,Rs.rep])
   (try simp only [cs_pv] at a1)
   simp only [cs_pv]
   refine sF fun dc hdc => ?_; refine sA ?_
   repeat' (first|refine sA ?_|refine sO ‹_› fun dc hdc => ?_|refine sN ?_|(refine Rm_o h0 rfl (fun r H2 hh => ?_); obtain ⟨rfl,rfl⟩:=hh)|simp only [q]|(refine Rm_o hN rfl (fun r H2 hh => ?_); obtain ⟨rfl,rfl⟩:=hh)|(refine Rm_o a1 rfl (fun r H2 hh => ?_); obtain ⟨rfl,rfl⟩:=hh)|refine dr ?_|refine dr0 ?_|refine sB ?_|refine sX ?_ ?_<;>(try intro h)<;>(try omega)|exact sP|refine rK ?_|exact sQ|refine sD ?_|exact sE|omega)
   all_goals skip
 ·have q:=q5_show hw
  cases b1<;>cases b2<;>simp only [Bool.false_eq_true,Bool.and_true,Bool.and_false,if_true,if_false,and_true,and_false,hV,hT] at hN ⊢
  all_goals
   (try simp only [Rs.cs,Rs.rep])
   (try simp only [cs_pv] at a1)
   simp only [cs_pv]
   refine sF fun dc hdc => ?_; refine sA ?_
   repeat' (first|refine sA ?_|refine sO ‹_› fun dc hdc => ?_|refine sN ?_|(refine Rm_o h0 rfl (fun r H2 hh => ?_); obtain ⟨rfl,rfl⟩:=hh)|simp only [q]|(refine Rm_o hN rfl (fun r H2 hh => ?_); obtain ⟨rfl,rfl⟩:=hh)|(refine Rm_o a1 rfl (fun r H2 hh => ?_); obtain ⟨rfl,rfl⟩:=hh)|refine dr ?_|refine dr0 ?_|refine sB ?_|refine sX ?_ ?_<;>(try intro h)<;>(try omega)|exact sP|refine rK ?_|exact sQ|refine sD ?_|exact sE|omega)
   all_goals skip
theorem k_run3_o (c:Cs)(s w w1 w2:Txt)(_hf:CsFits c)(_hv:csB c=true)(hs:s.length≤1000)(hW:splitB 32 s=[w,w1,w2])(h1:w≠wHear)(h2:w≠wEnc)(h3:w≠wSee)(h4:w≠wShow):Okv Tryz.prog 55 [c.pv,.str s] (.tup [.p ((runR c ([w,w1,w2])).cs c).pv,.p (.str (runR c ([w,w1,w2])).rep)]):=by
 refine ok_D hmix c_spec_l28Run (by simp) ?_
 have h0:=k_l1SplitP s (by omega)
 have hwl : ∀ {x:Txt},x∈splitB 32 s→x.length≤1000:=fun h=>by have:=c_words_len h; omega
 rw [hW] at h0 hwl
 have e1:w1.length≤1000:=hwl (by simp)
 have e2:w2.length≤1000:=hwl (by simp)
 have hN:=k_l28Numbers ([w1,w2]) ⟨by simp,fun x h=>by have:=hwl (List.mem_cons_of_mem _ h); omega⟩
 rw [r3_bad c w1 w2 h1 h3 h4]
 rw [nm2] at hN
 simp only [Rs.cs,Rs.rep]
 generalize (readO w1).1=n1 at *
 generalize (readO w1).2=b1 at *
 generalize (readO w2).1=n2 at *
 generalize (readO w2).2=b2 at *
 rcases g5 w with ⟨q,hw⟩|⟨q,hw⟩|⟨q,hw⟩|⟨q,hw⟩|⟨q,hw⟩|⟨q,hw⟩|⟨q,hw⟩|⟨q,hw⟩
 all_goals first|exact absurd hw h1|exact absurd hw h2|exact absurd hw h3|exact absurd hw h4|clear hw
 all_goals
  cases b1<;>cases b2<;>simp only [Bool.false_eq_true,Bool.and_true,Bool.and_false,if_true,if_false] at hN
 all_goals
  rw [cs_pv] at *
  refine sF fun dc hdc => ?_; refine sA ?_
  repeat' (first|refine sA ?_|refine sO ‹_› fun dc hdc => ?_|refine sN ?_|(refine Rm_o h0 rfl (fun r H2 hh => ?_); obtain ⟨rfl,rfl⟩:=hh)|simp only [q]|(refine Rm_o hN rfl (fun r H2 hh => ?_); obtain ⟨rfl,rfl⟩:=hh)|refine dr ?_|refine dr0 ?_|refine sB ?_|refine sX ?_ ?_<;>(try intro h)<;>(try omega)|exact sP|refine rK ?_|exact sQ|refine sD ?_|exact sE|omega)
  all_goals skip
theorem k_run3 (c:Cs)(s w w1 w2:Txt)(hf:CsFits c)(hv:csB c=true)(hs:s.length≤1000)(hW:splitB 32 s=[w,w1,w2]):Okv Tryz.prog 55 [c.pv,.str s] (.tup [.p ((runR c ([w,w1,w2])).cs c).pv,.p (.str (runR c ([w,w1,w2])).rep)]):=by
 by_cases h1:w=wHear
 ·exact k_run3_h c s w w1 w2 hf hv hs hW h1
 by_cases h2:w=wEnc
 ·exact k_run3_e c s w w1 w2 hf hv hs hW h2
 by_cases h3:w=wSee
 ·exact k_run3_t c s w w1 w2 hf hv hs hW (.inl h3)
 by_cases h4:w=wShow
 ·exact k_run3_t c s w w1 w2 hf hv hs hW (.inr h4)
 exact k_run3_o c s w w1 w2 hf hv hs hW h1 h2 h3 h4
end Go.Proofs.YtekmkgegjicjgaaGreat
