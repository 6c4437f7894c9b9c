import Derived.Test.YtekmkgegjicjgaaGreatZBas
import Derived.Test.YtekmkgegjicjgaaGreatZCmG
namespace Go.Proofs.YtekmkgegjicjgaaGreat
open Go.Dv Go.Dv.EvL
set_option maxRecDepth 100000
set_option maxHeartbeats 16000000
attribute [local irreducible] Ok Rm Dm Om Sm Xm Cm Gm Hm Tm
theorem k_reply3 (c:Cs)(s w w1 w2:Txt)(hf:CsFits c)(hv:csB c=true)(hs:s.length≤1000)(hW:splitB 32 s=[w,w1,w2])(hn0:w≠wHear):Ok Tryz.prog 59 [c.dv 0 1,.p (.str s)] c.rows (RsD c tR (runR c ([w,w1,w2]))):=by
 refine ok_D hmix c_impl_Console_reply (by simp) ?_
 have h0:=k_splitP s (by omega)
 have hwl : ∀ {x:Txt},x∈splitB 32 s→x.length≤1000:=fun h=>by have:=c_words_len h; omega
 rw [hW] at h0 hwl
 have ci:=cs_in hv
 have hN:=k_arguments ([w1,w2]) ⟨by simp,fun x h=>by have:=hwl (List.mem_cons_of_mem _ h); omega⟩
 have hT:=k_txtN3 c w w1 w2 hn0
 rw [cs_dv,cs_rows] at hT
 have m0:(w=wHear)=False:=eq_false hn0
 rw [nm2i] at hN
 by_cases hb:(readO w1).2=true∧(readO w2).2=true
 ·rw [hb.1,hb.2,if_pos (by decide)] at hN
  have hr0:runR c [w,w1,w2]=if w=wSee then seeR c (readO w1).1 (readO w2).1 else if w=wShow then showR c (readO w1).1 (readO w2).1 else .bad:=by show run3 c w w1 w2=_; unfold run3; rw [if_neg hn0,if_pos hb]
  rw [hr0]
  clear hr0
  generalize (readO w1).1=n1 at *
  generalize (readO w2).1=n2 at *
  by_cases hw_see:w=wSee
  ·skip
   have q:=q8_see hw_see
   rw [if_pos hw_see]
   have a1:=k_iSee c.al n1 n2 hf.2.1
   unfold seeR
   generalize seeL c.al n1 n2=R at *
   generalize seeB c.al n1 n2=b at *
   cases b<;>simp only [Bool.false_eq_true,if_true,if_false]
   all_goals
    rw [cs_dv,cs_rows]
    refine sF fun dc hdc => ?_; refine sA ?_
    repeat' (first|refine sA ?_|refine sO ‹_› fun dc hdc => ?_|refine sN ?_|(refine Rm_o h0 rfl (fun r H2 hh => ?_); obtain ⟨rfl,rfl⟩:=hh)|simp only [q]|refine dr ?_|refine dr2 ?_|refine dr4 ?_|refine dr5 ?_|refine dr6 ?_|(refine Rm_i [0,1] hT (by simp) (by simp) ⟨_,_,rfl,.inl rfl,_,_,rfl,.inr ⟨_,rfl,rfl⟩,rfl⟩ (fun r H2 hh => ?_); obtain ⟨rfl,rfl⟩:=hh; (try simp only [cs_dv,cs_dR,cs_dA,cs_dB,cs_dC,cs_rows,rowsR,rowsA,tS_eq,tT_eq,tR_eq]))|(refine Rm_o hN rfl (fun r H2 hh => ?_); obtain ⟨rfl,rfl⟩:=hh)|(refine Rm_l a1 (by simp [viewOfs,viewOf,List.take_of_length_le]) (fun r H2 hh => ?_); obtain ⟨rfl,rfl⟩:=hh; refine ⟨by simp [flatD,flatDs,flatP],by simp [flatH,flatB,flat_als],?_⟩)|refine sB ?_|refine sX ?_ ?_<;>(try intro h)<;>(try omega)|exact sP|refine rK ?_|exact sQ|refine sD ?_|exact sE|omega)
   all_goals first
    | exact ret_k (.tup (c.dC::tR wOk false)) (c.rows) (by kernel_rfl) (rs_bad3 c tR wOk)
    | exact ret_k (.tup (c.dA R.length::tR wOk true)) (rowsA c R) (by kernel_rfl) (rs_alr c tR wOk _)
    | skip
  by_cases hw_show:w=wShow
  ·skip
   have q:=q8_show hw_show
   rw [if_neg (by rw [hw_show]; decide),if_pos hw_show]
   have a1:=k_alertAt c.al n1 n2 hf.2.1
   have a2:=k_isPair n1 n2
   have hal:alsB c.al=true:=by have:=hv; unfold csB at this; simp only [Bool.and_eq_true] at this; exact this.1.2
   have hd:seeB c.al n1 n2=(alsB c.al && pairB n1 n2 && isA (prA n1 n2 0 0) c.al):=rfl
   rw [hal,Bool.true_and] at hd
   rw [sorted_aat (als_to hal).1] at a1
   have hlt:=fun h=>isA_in (x:=prA n1 n2 0 0) (xs:=c.al) h
   have a3:=fun h=>k_alertLine (c.al.getD (posA (prA n1 n2 0 0) c.al) default) (ci.2.2.2.2.1 _ (hlt h))
   unfold showR
   rw [hd]
   generalize isA (prA n1 n2 0 0) c.al=q1 at *
   generalize pairB n1 n2=q2 at *
   generalize posA (prA n1 n2 0 0) c.al=P at *
   generalize hLT:lineT (c.al.getD P default)=LT at *
   rw [al_pv] at a3
   cases q1
   ·cases q2<;>simp only [Bool.and_false,Bool.false_eq_true,if_false] at a1 ⊢
    all_goals
     rw [cs_dv,cs_rows]
     refine sF fun dc hdc => ?_; refine sA ?_
     repeat' (first|refine sA ?_|refine sO ‹_› fun dc hdc => ?_|refine sN ?_|(refine Rm_o h0 rfl (fun r H2 hh => ?_); obtain ⟨rfl,rfl⟩:=hh)|simp only [q]|refine dr ?_|refine dr2 ?_|refine dr4 ?_|refine dr5 ?_|refine dr6 ?_|(refine Rm_i [0,1] hT (by simp) (by simp) ⟨_,_,rfl,.inl rfl,_,_,rfl,.inr ⟨_,rfl,rfl⟩,rfl⟩ (fun r H2 hh => ?_); obtain ⟨rfl,rfl⟩:=hh; (try simp only [cs_dv,cs_dR,cs_dA,cs_dB,cs_dC,cs_rows,rowsR,rowsA,tS_eq,tT_eq,tR_eq]))|(refine Rm_o hN rfl (fun r H2 hh => ?_); obtain ⟨rfl,rfl⟩:=hh)|refine rW rfl (a1) ?_|refine rV (a1) ?_|refine rW rfl (a2) ?_|refine rV (a2) ?_|refine sB ?_|refine sX ?_ ?_<;>(try intro h)<;>(try omega)|exact sP|refine rK ?_|exact sQ|refine sD ?_|exact sE|omega)
    all_goals first
     | exact ret_k (.tup (c.dv 0 1::tR [] false)) (c.rows) (by kernel_rfl) (rs_bad1 c tR [])
     | skip
   ·have hlt:=hlt rfl
    have a3:=a3 rfl
    cases q2<;>simp only [Bool.and_true,Bool.false_eq_true,if_true,if_false] at a1 ⊢
    all_goals
     rw [cs_dv,cs_rows]
     refine sF fun dc hdc => ?_; refine sA ?_
     repeat' (first|refine sA ?_|refine sO ‹_› fun dc hdc => ?_|refine sN ?_|(refine Rm_o h0 rfl (fun r H2 hh => ?_); obtain ⟨rfl,rfl⟩:=hh)|simp only [q]|refine dr ?_|refine dr2 ?_|refine dr4 ?_|refine dr5 ?_|refine dr6 ?_|(refine Rm_i [0,1] hT (by simp) (by simp) ⟨_,_,rfl,.inl rfl,_,_,rfl,.inr ⟨_,rfl,rfl⟩,rfl⟩ (fun r H2 hh => ?_); obtain ⟨rfl,rfl⟩:=hh; (try simp only [cs_dv,cs_dR,cs_dA,cs_dB,cs_dC,cs_rows,rowsR,rowsA,tS_eq,tT_eq,tR_eq]))|(refine Rm_o hN rfl (fun r H2 hh => ?_); obtain ⟨rfl,rfl⟩:=hh)|refine rW rfl (a1) ?_|refine rV (a1) ?_|refine rW rfl (a2) ?_|refine rV (a2) ?_|refine rW rfl (a3) ?_|refine rV (a3) ?_|refine sB ?_|refine sX ?_ ?_<;>(try intro h)<;>(try omega)|exact sP|refine rK ?_|exact sQ|refine sD ?_|exact sE|omega)
    all_goals first
     | exact ret_k (.tup (c.dv 0 1::tR [] false)) (c.rows) (by kernel_rfl) (rs_bad1 c tR [])
     | exact ret_k (.tup (c.dv 0 1::tR LT true)) (c.rows) (by kernel_rfl) (rs_same c tR LT)
     | skip
  rw [if_neg hw_see,if_neg hw_show]
  rcases g8 w with ⟨q,hw⟩|⟨q,hw⟩|⟨q,hw⟩|⟨q,hw⟩|⟨q,hw⟩|⟨q,hw⟩|⟨q,hw⟩|⟨q,hw⟩
  all_goals first|exact absurd hw hw_see|exact absurd hw hw_show|clear hw
  all_goals
   rw [cs_dv,cs_rows]
   refine sF fun dc hdc => ?_; refine sA ?_
   repeat' (first|refine sA ?_|refine sO ‹_› fun dc hdc => ?_|refine sN ?_|(refine Rm_o h0 rfl (fun r H2 hh => ?_); obtain ⟨rfl,rfl⟩:=hh)|simp only [q]|refine dr ?_|refine dr2 ?_|refine dr4 ?_|refine dr5 ?_|refine dr6 ?_|(refine Rm_i [0,1] hT (by simp) (by simp) ⟨_,_,rfl,.inl rfl,_,_,rfl,.inr ⟨_,rfl,rfl⟩,rfl⟩ (fun r H2 hh => ?_); obtain ⟨rfl,rfl⟩:=hh; (try simp only [cs_dv,cs_dR,cs_dA,cs_dB,cs_dC,cs_rows,rowsR,rowsA,tS_eq,tT_eq,tR_eq]))|(refine Rm_o hN rfl (fun r H2 hh => ?_); obtain ⟨rfl,rfl⟩:=hh)|refine sB ?_|refine sX ?_ ?_<;>(try intro h)<;>(try omega)|exact sP|refine rK ?_|exact sQ|refine sD ?_|exact sE|omega)
  all_goals first
   | exact ret_k (.tup (c.dv 0 1::tR [] false)) (c.rows) (by kernel_rfl) (rs_bad1 c tR [])
   | skip
 ·have hr:runR c [w,w1,w2] = .bad:=by show run3 c w w1 w2 = .bad; unfold run3; rw [if_neg hn0,if_neg hb]
  rw [hr]
  have hb2:((readO w1).2 && (readO w2).2)=false:=by
   rw [Bool.eq_false_iff]
   intro h
   simp only [Bool.and_eq_true] at h
   exact hb h
  rw [hb2,if_neg (by decide)] at hN
  rw [cs_dv,cs_rows]
  refine sF fun dc hdc => ?_; refine sA ?_
  repeat' (first|refine sA ?_|refine sO ‹_› fun dc hdc => ?_|refine sN ?_|(refine Rm_o h0 rfl (fun r H2 hh => ?_); obtain ⟨rfl,rfl⟩:=hh)|simp only [q]|refine dr ?_|refine dr2 ?_|refine dr4 ?_|refine dr5 ?_|refine dr6 ?_|(refine Rm_i [0,1] hT (by simp) (by simp) ⟨_,_,rfl,.inl rfl,_,_,rfl,.inr ⟨_,rfl,rfl⟩,rfl⟩ (fun r H2 hh => ?_); obtain ⟨rfl,rfl⟩:=hh; (try simp only [cs_dv,cs_dR,cs_dA,cs_dB,cs_dC,cs_rows,rowsR,rowsA,tS_eq,tT_eq,tR_eq]))|(refine Rm_o hN rfl (fun r H2 hh => ?_); obtain ⟨rfl,rfl⟩:=hh)|refine sB ?_|refine sX ?_ ?_<;>(try intro h)<;>(try omega)|exact sP|refine rK ?_|exact sQ|refine sD ?_|exact sE|omega)
  all_goals first
   | exact ret_k (.tup (c.dv 0 1::tR [] false)) (c.rows) (by kernel_rfl) (rs_bad1 c tR [])
   | skip
end Go.Proofs.YtekmkgegjicjgaaGreat
