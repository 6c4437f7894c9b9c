import Derived.Test.YtekmkgegjicjgaaGreatZBas
import Derived.Test.YtekmkgegjicjgaaGreatZCmC
namespace Go.Proofs.YtekmkgegjicjgaaGreat
open Go.Dv Go.Dv.EvL
set_option maxRecDepth 100000
set_option maxHeartbeats 16000000
attribute [local irreducible] Ok Rm Dm Om Sm Xm Cm Gm Hm Tm
theorem k_run4_s (c:Cs)(s w w1 w2 w3:Txt)(_hf:CsFits c)(hv:csB c=true)(hs:s.length≤1000)(hW:splitB 32 s=[w,w1,w2,w3])(hw:w=wSet):Okv Tryz.prog 55 [c.pv,.str s] (.tup [.p ((runR c ([w,w1,w2,w3])).cs c).pv,.p (.str (runR c ([w,w1,w2,w3])).rep)]):=by
 refine ok_D hmix c_spec_l28Run (by simp) ?_
 have h0:=k_l1SplitP s (by omega)
 have hwl : ∀ {x:Txt},x∈splitB 32 s→x.length≤1000:=fun h=>by have:=c_words_len h; omega
 rw [hW] at h0 hwl
 have e1:w1.length≤1000:=hwl (by simp)
 have e2:w2.length≤1000:=hwl (by simp)
 have e3:w3.length≤1000:=hwl (by simp)
 have q:=q5_set hw
 have ci:=cs_in hv
 have hr:runR c [w,w1,w2,w3]=setW c w1 w2 w3:=by rw [hw]; rfl
 rw [hr]
 have a1:=k_l28Set c w w1 w2 w3 (by omega) (by omega) (by omega)
 generalize (setW c w1 w2 w3).cs c=V at *
 generalize (setW c w1 w2 w3).rep=TT at *
 rw [cs_pv V] at *
 rw [cs_pv] at *
 refine sF fun dc hdc => ?_; refine sA ?_
 repeat' (first|refine sA ?_|refine sO ‹_› fun dc hdc => ?_|refine sN ?_|(refine Rm_o h0 rfl (fun r H2 hh => ?_); obtain ⟨rfl,rfl⟩:=hh)|simp only [q]|(refine Rm_o a1 rfl (fun r H2 hh => ?_); obtain ⟨rfl,rfl⟩:=hh)|refine dr ?_|refine dr0 ?_|refine sB ?_|refine sX ?_ ?_<;>(try intro h)<;>(try omega)|exact sP|refine rK ?_|exact sQ|refine sD ?_|exact sE|omega)
 all_goals skip
theorem k_run4_e (c:Cs)(s w w1 w2 w3:Txt)(_hf:CsFits c)(_hv:csB c=true)(hs:s.length≤1000)(hW:splitB 32 s=[w,w1,w2,w3])(hw:w=wEnc):Okv Tryz.prog 55 [c.pv,.str s] (.tup [.p ((runR c ([w,w1,w2,w3])).cs c).pv,.p (.str (runR c ([w,w1,w2,w3])).rep)]):=by
 refine ok_D hmix c_spec_l28Run (by simp) ?_
 have h0:=k_l1SplitP s (by omega)
 have hwl : ∀ {x:Txt},x∈splitB 32 s→x.length≤1000:=fun h=>by have:=c_words_len h; omega
 rw [hW] at h0 hwl
 have e1:w1.length≤1000:=hwl (by simp)
 have e2:w2.length≤1000:=hwl (by simp)
 have e3:w3.length≤1000:=hwl (by simp)
 have q:=q5_encode hw
 obtain ⟨g1,g2,g3⟩:=enc_cut hW hw (by simp)
 have hr:runR c [w,w1,w2,w3]=encR (w1++32::(w2++32::w3)):=by rw [hw]; rfl
 rw [hr]
 have hJ:joinB 32 [w1,w2,w3]=w1++32::(w2++32::w3):=rfl
 rw [hJ] at g2
 generalize hG:w1++32::(w2++32::w3)=G at *
 have hGl:G.length≤s.length:=by rw [← g2]; unfold cutL; rw [List.length_take]; omega
 have a1:=k_l5Parse G (by omega)
 have a2:=fun h=>k_l5Hex (pfO G).1 h
 have hff:=fun h=>pf_ok (s:=G) h
 unfold encR
 unfold frD at a1
 generalize (pfO G).2=ok at *
 generalize (pfO G).1=f at *
 generalize fhT f=FT at *
 cases ok<;>simp only [Bool.false_eq_true,if_true,if_false,Rs.cs,Rs.rep]
 all_goals
  rw [cs_pv] at *
  refine sF fun dc hdc => ?_; refine sA ?_
  repeat' (first|refine sA ?_|refine sO ‹_› fun dc hdc => ?_|refine sN ?_|(refine Rm_o h0 rfl (fun r H2 hh => ?_); obtain ⟨rfl,rfl⟩:=hh)|simp only [q]|rw [g2]|refine rW rfl (a1) ?_|refine rV (a1) ?_|refine rW rfl (a2 (hff rfl)) ?_|refine rV (a2 (hff rfl)) ?_|refine dr ?_|refine dr0 ?_|refine sB ?_|refine sX ?_ ?_<;>(try intro h)<;>(try omega)|exact sP|refine rK ?_|exact sQ|refine sD ?_|exact sE|omega)
  all_goals skip
theorem k_run4_o (c:Cs)(s w w1 w2 w3:Txt)(_hf:CsFits c)(_hv:csB c=true)(hs:s.length≤1000)(hW:splitB 32 s=[w,w1,w2,w3])(h1:w≠wSet)(h2:w≠wEnc):Okv Tryz.prog 55 [c.pv,.str s] (.tup [.p ((runR c ([w,w1,w2,w3])).cs c).pv,.p (.str (runR c ([w,w1,w2,w3])).rep)]):=by
 refine ok_D hmix c_spec_l28Run (by simp) ?_
 have h0:=k_l1SplitP s (by omega)
 have hwl : ∀ {x:Txt},x∈splitB 32 s→x.length≤1000:=fun h=>by have:=c_words_len h; omega
 rw [hW] at h0 hwl
 have e1:w1.length≤1000:=hwl (by simp)
 have e2:w2.length≤1000:=hwl (by simp)
 have e3:w3.length≤1000:=hwl (by simp)
 have hN:=k_l28Numbers ([w1,w2,w3]) ⟨by simp,fun x h=>by have:=hwl (List.mem_cons_of_mem _ h); omega⟩
 rw [r4_bad c w1 w2 w3 h2 h1]
 simp only [Rs.cs,Rs.rep]
 generalize (nmO [w1,w2,w3]).1=nn at *
 generalize (nmO [w1,w2,w3]).2=bn at *
 rcases g5 w with ⟨q,hw⟩|⟨q,hw⟩|⟨q,hw⟩|⟨q,hw⟩|⟨q,hw⟩|⟨q,hw⟩|⟨q,hw⟩|⟨q,hw⟩
 all_goals first|exact absurd hw h1|exact absurd hw h2|clear hw
 all_goals
  cases bn
 all_goals
  rw [cs_pv] at *
  refine sF fun dc hdc => ?_; refine sA ?_
  repeat' (first|refine sA ?_|refine sO ‹_› fun dc hdc => ?_|refine sN ?_|(refine Rm_o h0 rfl (fun r H2 hh => ?_); obtain ⟨rfl,rfl⟩:=hh)|simp only [q]|(refine Rm_o hN rfl (fun r H2 hh => ?_); obtain ⟨rfl,rfl⟩:=hh)|refine dr ?_|refine dr0 ?_|refine sB ?_|refine sX ?_ ?_<;>(try intro h)<;>(try omega)|exact sP|refine rK ?_|exact sQ|refine sD ?_|exact sE|omega)
  all_goals skip
theorem k_run4 (c:Cs)(s w w1 w2 w3:Txt)(hf:CsFits c)(hv:csB c=true)(hs:s.length≤1000)(hW:splitB 32 s=[w,w1,w2,w3]):Okv Tryz.prog 55 [c.pv,.str s] (.tup [.p ((runR c ([w,w1,w2,w3])).cs c).pv,.p (.str (runR c ([w,w1,w2,w3])).rep)]):=by
 by_cases h1:w=wSet
 ·exact k_run4_s c s w w1 w2 w3 hf hv hs hW h1
 by_cases h2:w=wEnc
 ·exact k_run4_e c s w w1 w2 w3 hf hv hs hW h2
 exact k_run4_o c s w w1 w2 w3 hf hv hs hW h1 h2
theorem k_run5_e (c:Cs)(s w w1 w2 w3 w4:Txt)(ws:List Txt)(_hf:CsFits c)(_hv:csB c=true)(hs:s.length≤1000)(hW:splitB 32 s=w::w1::w2::w3::w4::ws)(hw:w=wEnc):Okv Tryz.prog 55 [c.pv,.str s] (.tup [.p ((runR c (w::w1::w2::w3::w4::ws)).cs c).pv,.p (.str (runR c (w::w1::w2::w3::w4::ws)).rep)]):=by
 refine ok_D hmix c_spec_l28Run (by simp) ?_
 have h0:=k_l1SplitP s (by omega)
 have hwl : ∀ {x:Txt},x∈splitB 32 s→x.length≤1000:=fun h=>by have:=c_words_len h; omega
 rw [hW] at h0 hwl
 have hwn:=(split_len 32 s).1
 rw [hW] at hwn
 simp only [List.length_cons] at hwn
 have e1:w1.length≤1000:=hwl (by simp)
 have e2:w2.length≤1000:=hwl (by simp)
 have e3:w3.length≤1000:=hwl (by simp)
 have q:=q5_encode hw
 obtain ⟨g1,g2,g3⟩:=enc_cut hW hw (by simp)
 have hr:runR c (w::w1::w2::w3::w4::ws) = .bad:=rfl
 rw [hr]
 have a1:=k_l5Parse (joinB 32 (w1::w2::w3::w4::ws)) (by rw [← g2]; unfold cutL; rw [List.length_take]; omega)
 rw [c_pf_no (s:=joinB 32 (w1::w2::w3::w4::ws)) (by rw [g3]; simp)] at a1
 unfold frD at a1
 simp only [Rs.cs,Rs.rep]
 generalize joinB 32 (w1::w2::w3::w4::ws)=G at *
 rw [cs_pv] at *
 refine sF fun dc hdc => ?_; refine sA ?_
 repeat' (first|refine sA ?_|refine sO ‹_› fun dc hdc => ?_|refine sN ?_|(refine Rm_o h0 rfl (fun r H2 hh => ?_); obtain ⟨rfl,rfl⟩:=hh)|simp only [q]|rw [g2]|refine rW rfl (a1) ?_|refine rV (a1) ?_|refine dr ?_|refine dr0 ?_|refine sB ?_|refine sX ?_ ?_<;>(try intro h)<;>(try omega)|exact sP|refine rK ?_|exact sQ|refine sD ?_|exact sE|omega)
 all_goals skip
theorem k_run5_o (c:Cs)(s w w1 w2 w3 w4:Txt)(ws:List Txt)(_hf:CsFits c)(_hv:csB c=true)(hs:s.length≤1000)(hW:splitB 32 s=w::w1::w2::w3::w4::ws)(h2:w≠wEnc):Okv Tryz.prog 55 [c.pv,.str s] (.tup [.p ((runR c (w::w1::w2::w3::w4::ws)).cs c).pv,.p (.str (runR c (w::w1::w2::w3::w4::ws)).rep)]):=by
 refine ok_D hmix c_spec_l28Run (by simp) ?_
 have h0:=k_l1SplitP s (by omega)
 have hwl : ∀ {x:Txt},x∈splitB 32 s→x.length≤1000:=fun h=>by have:=c_words_len h; omega
 rw [hW] at h0 hwl
 have hwn:=(split_len 32 s).1
 rw [hW] at hwn
 simp only [List.length_cons] at hwn
 have e1:w1.length≤1000:=hwl (by simp)
 have e2:w2.length≤1000:=hwl (by simp)
 have e3:w3.length≤1000:=hwl (by simp)
 have hN:=k_l28Numbers (w1::w2::w3::w4::ws) ⟨by simp; omega,fun x h=>by have:=hwl (List.mem_cons_of_mem _ h); omega⟩
 have hr:runR c (w::w1::w2::w3::w4::ws) = .bad:=rfl
 rw [hr]
 simp only [Rs.cs,Rs.rep]
 generalize (nmO (w1::w2::w3::w4::ws)).1=nn at *
 generalize (nmO (w1::w2::w3::w4::ws)).2=bn at *
 rcases g5 w with ⟨q,hw⟩|⟨q,hw⟩|⟨q,hw⟩|⟨q,hw⟩|⟨q,hw⟩|⟨q,hw⟩|⟨q,hw⟩|⟨q,hw⟩
 all_goals first|exact absurd hw h2|clear hw
 all_goals
  cases bn
 all_goals
  rw [cs_pv] at *
  refine sF fun dc hdc => ?_; refine sA ?_
  repeat' (first|refine sA ?_|refine sO ‹_› fun dc hdc => ?_|refine sN ?_|(refine Rm_o h0 rfl (fun r H2 hh => ?_); obtain ⟨rfl,rfl⟩:=hh)|simp only [q]|(refine Rm_o hN (by simp [pvOfs,pvOf,cutL,List.take_of_length_le]) (fun r H2 hh => ?_); obtain ⟨rfl,rfl⟩:=hh)|refine dr ?_|refine dr0 ?_|refine sB ?_|refine sX ?_ ?_<;>(try intro h)<;>(try omega)|exact sP|refine rK ?_|exact sQ|refine sD ?_|exact sE|omega)
  all_goals skip
theorem k_run5 (c:Cs)(s w w1 w2 w3 w4:Txt)(ws:List Txt)(hf:CsFits c)(hv:csB c=true)(hs:s.length≤1000)(hW:splitB 32 s=w::w1::w2::w3::w4::ws):Okv Tryz.prog 55 [c.pv,.str s] (.tup [.p ((runR c (w::w1::w2::w3::w4::ws)).cs c).pv,.p (.str (runR c (w::w1::w2::w3::w4::ws)).rep)]):=by
 by_cases h2:w=wEnc
 ·exact k_run5_e c s w w1 w2 w3 w4 ws hf hv hs hW h2
 exact k_run5_o c s w w1 w2 w3 w4 ws hf hv hs hW h2
end Go.Proofs.YtekmkgegjicjgaaGreat
