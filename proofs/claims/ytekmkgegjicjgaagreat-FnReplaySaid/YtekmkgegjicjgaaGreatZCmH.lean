import Derived.Test.YtekmkgegjicjgaaGreatZBas
import Derived.Test.YtekmkgegjicjgaaGreatZCmG
namespace Go.Proofs.YtekmkgegjicjgaaGreat
open Go.Dv Go.Dv.EvL
set_option maxRecDepth 100000
set_option maxHeartbeats 16000000
attribute [local irreducible] Ok Rm Dm Om Sm Xm Cm Gm Hm Tm
theorem k_reply2 (c:Cs)(s w w1:Txt)(hf:CsFits c)(hv:csB c=true)(hs:s.length≤1000)(hW:splitB 32 s=[w,w1])(hn0:w≠wDec):Ok Tryz.prog 59 [c.dv 0 1,.p (.str s)] c.rows (RsD c tR (runR c ([w,w1]))):=by
 refine ok_D hmix c_impl_Console_reply (by simp) ?_
 have h0:=k_splitP s (by omega)
 have hwl : ∀ {x:Txt},x∈splitB 32 s→x.length≤1000:=fun h=>by have:=c_words_len h; omega
 rw [hW] at h0 hwl
 have ci:=cs_in hv
 have hN:=k_arguments ([w1]) ⟨by simp,fun x h=>by have:=hwl (List.mem_cons_of_mem _ h); omega⟩
 have hT:=k_txtN2 c w w1 hn0
 rw [cs_dv,cs_rows] at hT
 have m0:(w=wDec)=False:=eq_false hn0
 rw [nm1i] at hN
 cases hb:(readO w1).2
 ·rw [hb] at hN
  simp only [Bool.false_eq_true,if_false] at hN
  have hr:runR c [w,w1] = .bad:=by show run2 c w w1 = .bad; unfold run2; rw [if_neg hn0,if_neg (by rw [hb]; decide)]
  rw [hr]
  rw [cs_dv,cs_rows]
  refine sF fun dc hdc => ?_; refine sA ?_
  repeat' (first|refine sA ?_|refine sO ‹_› fun dc hdc => ?_|refine sN ?_|(refine Rm_o h0 rfl (fun r H2 hh => ?_); obtain ⟨rfl,rfl⟩:=hh)|simp only [q]|refine dr ?_|refine dr2 ?_|refine dr4 ?_|refine dr5 ?_|refine dr6 ?_|(refine Rm_i [0,1] hT (by simp) (by simp) ⟨_,_,rfl,.inl rfl,_,_,rfl,.inr ⟨_,rfl,rfl⟩,rfl⟩ (fun r H2 hh => ?_); obtain ⟨rfl,rfl⟩:=hh; (try simp only [cs_dv,cs_dR,cs_dA,cs_dB,cs_dC,cs_rows,rowsR,rowsA,tS_eq,tT_eq,tR_eq]))|(refine Rm_o hN rfl (fun r H2 hh => ?_); obtain ⟨rfl,rfl⟩:=hh)|refine sB ?_|refine sX ?_ ?_<;>(try intro h)<;>(try omega)|exact sP|refine rK ?_|exact sQ|refine sD ?_|exact sE|omega)
  all_goals first
   | exact ret_k (.tup (c.dv 0 1::tR [] false)) (c.rows) (by kernel_rfl) (rs_bad1 c tR [])
   | skip
 rw [hb] at hN
 simp only [if_true] at hN
 have hr0:runR c [w,w1]=if w=wPass then passR c (readO w1).1 else if w=wWhere then whereR c (readO w1).1 else if w=wFrames then framesR c (readO w1).1 else .bad:=by show run2 c w w1=_; unfold run2; rw [if_neg hn0,if_pos hb]
 rw [hr0]
 clear hr0
 generalize (readO w1).1=n1 at *
 by_cases hw_pass:w=wPass
 ·skip
  have q:=q8_pass hw_pass
  rw [if_pos hw_pass]
  have a1:=k_iPass c.mn c.hl n1 hf.1
  have hln:=ptTo_len n1 c.hl c.hl.length
  have hf1:=hf.1
  unfold passR
  generalize ptTo n1 c.hl c.hl.length=R at *
  have t0:=k_text 0 (by omega)
  have t1:=k_text (R.length:Int) (by omega)
  generalize num (R.length:Int)=T at *
  generalize num 0=T0 at *
  generalize ptB c.mn c.hl n1=b at *
  cases b<;>simp only [Bool.false_eq_true,if_true,if_false]
  all_goals
   rw [cs_dv,cs_rows]
   refine sF fun dc hdc => ?_; refine sA ?_
   repeat' (first|refine sA ?_|refine sO ‹_› fun dc hdc => ?_|refine sN ?_|(refine Rm_o h0 rfl (fun r H2 hh => ?_); obtain ⟨rfl,rfl⟩:=hh)|simp only [q]|refine dr ?_|refine dr2 ?_|refine dr4 ?_|refine dr5 ?_|refine dr6 ?_|(refine Rm_i [0,1] hT (by simp) (by simp) ⟨_,_,rfl,.inl rfl,_,_,rfl,.inr ⟨_,rfl,rfl⟩,rfl⟩ (fun r H2 hh => ?_); obtain ⟨rfl,rfl⟩:=hh; (try simp only [cs_dv,cs_dR,cs_dA,cs_dB,cs_dC,cs_rows,rowsR,rowsA,tS_eq,tT_eq,tR_eq]))|(refine Rm_o hN rfl (fun r H2 hh => ?_); obtain ⟨rfl,rfl⟩:=hh)|(refine Rm_l a1 (by simp [viewOfs,viewOf,List.take_of_length_le]) (fun r H2 hh => ?_); obtain ⟨rfl,rfl⟩:=hh; refine ⟨by simp [flatD,flatDs,flatP,flatPs],by simp [flatH,flatB,flat_hds],?_⟩)|refine rW rfl (t0) ?_|refine rV (t0) ?_|refine rW rfl (t1) ?_|refine rV (t1) ?_|refine sB ?_|refine sX ?_ ?_<;>(try intro h)<;>(try omega)|exact sP|refine rK ?_|exact sQ|refine sD ?_|exact sE|omega)
  all_goals first
   | exact ret_k (.tup (c.dB::tR T0 false)) (c.rows) (by kernel_rfl) (rs_bad2 c tR T0)
   | exact ret_k (.tup (c.dR n1 R.length::tR T true)) (rowsR c R) (by kernel_rfl) (rs_rcv c tR T _ _)
   | skip
 by_cases hw_where:w=wWhere
 ·skip
  have q:=q8_where hw_where
  rw [if_neg (by rw [hw_where]; decide),if_pos hw_where]
  have a1:=k_iPosNow c.mn c.hl n1 hf.1
  obtain ⟨b1,b2⟩:=pw_in c.mn c.hl n1
  have t1:=k_text (pwO c.mn c.hl n1).1.1 (by omega)
  have t2:=k_text (pwO c.mn c.hl n1).1.2 (by omega)
  have l1:=num_le (n:=(pwO c.mn c.hl n1).1.1) (by omega)
  have l2:=num_le (n:=(pwO c.mn c.hl n1).1.2) (by omega)
  rw [where_eq]
  generalize (pwO c.mn c.hl n1).1.1=X at *
  generalize (pwO c.mn c.hl n1).1.2=Y at *
  generalize (pwO c.mn c.hl n1).2=ok1 at *
  generalize num X=TX at *
  generalize num Y=TY at *
  cases ok1<;>simp only [Bool.false_eq_true,if_true,if_false]
  all_goals
   rw [cs_dv,cs_rows]
   refine sF fun dc hdc => ?_; refine sA ?_
   repeat' (first|refine sA ?_|refine sO ‹_› fun dc hdc => ?_|refine sN ?_|(refine Rm_o h0 rfl (fun r H2 hh => ?_); obtain ⟨rfl,rfl⟩:=hh)|simp only [q]|refine dr ?_|refine dr2 ?_|refine dr4 ?_|refine dr5 ?_|refine dr6 ?_|(refine Rm_i [0,1] hT (by simp) (by simp) ⟨_,_,rfl,.inl rfl,_,_,rfl,.inr ⟨_,rfl,rfl⟩,rfl⟩ (fun r H2 hh => ?_); obtain ⟨rfl,rfl⟩:=hh; (try simp only [cs_dv,cs_dR,cs_dA,cs_dB,cs_dC,cs_rows,rowsR,rowsA,tS_eq,tT_eq,tR_eq]))|(refine Rm_o hN rfl (fun r H2 hh => ?_); obtain ⟨rfl,rfl⟩:=hh)|refine rW rfl (a1) ?_|refine rV (a1) ?_|refine rW rfl (t1) ?_|refine rV (t1) ?_|refine rW rfl (t2) ?_|refine rV (t2) ?_|simp only [List.length_append,List.length_cons,List.length_nil]|refine sB ?_|refine sX ?_ ?_<;>(try intro h)<;>(try omega)|exact sP|refine rK ?_|exact sQ|refine sD ?_|exact sE|omega)
  all_goals first
   | exact ret_k (.tup (c.dv 0 1::tR (TX++[44]++TY) false)) (c.rows) (by kernel_rfl) (rs_bad1 c tR (TX++[44]++TY))
   | exact ret_k (.tup (c.dv 0 1::tR (TX++[44]++TY) true)) (c.rows) (by kernel_rfl) (rs_same c tR (TX++[44]++TY))
   | skip
 by_cases hw_frames:w=wFrames
 ·skip
  have q:=q8_frames hw_frames
  rw [if_neg (by rw [hw_frames]; decide),if_neg (by rw [hw_frames]; decide),if_pos hw_frames]
  have a1:=k_iHeardFrom c.mn c.hl n1 hf.1
  have b1:=hf_in c.mn c.hl n1
  have t1:=k_text (hfO c.mn c.hl n1).1.fr (by omega)
  rw [frames_eq]
  rw [hd_pv] at a1
  generalize (hfO c.mn c.hl n1).2=ok1 at *
  generalize (hfO c.mn c.hl n1).1=h at *
  generalize num h.fr=TF at *
  cases ok1<;>simp only [Bool.false_eq_true,if_true,if_false]
  all_goals
   rw [cs_dv,cs_rows]
   refine sF fun dc hdc => ?_; refine sA ?_
   repeat' (first|refine sA ?_|refine sO ‹_› fun dc hdc => ?_|refine sN ?_|(refine Rm_o h0 rfl (fun r H2 hh => ?_); obtain ⟨rfl,rfl⟩:=hh)|simp only [q]|refine dr ?_|refine dr2 ?_|refine dr4 ?_|refine dr5 ?_|refine dr6 ?_|(refine Rm_i [0,1] hT (by simp) (by simp) ⟨_,_,rfl,.inl rfl,_,_,rfl,.inr ⟨_,rfl,rfl⟩,rfl⟩ (fun r H2 hh => ?_); obtain ⟨rfl,rfl⟩:=hh; (try simp only [cs_dv,cs_dR,cs_dA,cs_dB,cs_dC,cs_rows,rowsR,rowsA,tS_eq,tT_eq,tR_eq]))|(refine Rm_o hN rfl (fun r H2 hh => ?_); obtain ⟨rfl,rfl⟩:=hh)|refine rW rfl (a1) ?_|refine rV (a1) ?_|refine rW rfl (t1) ?_|refine rV (t1) ?_|refine sB ?_|refine sX ?_ ?_<;>(try intro h)<;>(try omega)|exact sP|refine rK ?_|exact sQ|refine sD ?_|exact sE|omega)
  all_goals first
   | exact ret_k (.tup (c.dv 0 1::tR TF false)) (c.rows) (by kernel_rfl) (rs_bad1 c tR TF)
   | exact ret_k (.tup (c.dv 0 1::tR TF true)) (c.rows) (by kernel_rfl) (rs_same c tR TF)
   | skip
 rw [if_neg hw_pass,if_neg hw_where,if_neg hw_frames]
 rcases g8 w with ⟨q,hw⟩|⟨q,hw⟩|⟨q,hw⟩|⟨q,hw⟩|⟨q,hw⟩|⟨q,hw⟩|⟨q,hw⟩|⟨q,hw⟩
 all_goals first|exact absurd hw hw_pass|exact absurd hw hw_where|exact absurd hw hw_frames|clear hw
 all_goals
  rw [cs_dv,cs_rows]
  refine sF fun dc hdc => ?_; refine sA ?_
  repeat' (first|refine sA ?_|refine sO ‹_› fun dc hdc => ?_|refine sN ?_|(refine Rm_o h0 rfl (fun r H2 hh => ?_); obtain ⟨rfl,rfl⟩:=hh)|simp only [q]|refine dr ?_|refine dr2 ?_|refine dr4 ?_|refine dr5 ?_|refine dr6 ?_|(refine Rm_i [0,1] hT (by simp) (by simp) ⟨_,_,rfl,.inl rfl,_,_,rfl,.inr ⟨_,rfl,rfl⟩,rfl⟩ (fun r H2 hh => ?_); obtain ⟨rfl,rfl⟩:=hh; (try simp only [cs_dv,cs_dR,cs_dA,cs_dB,cs_dC,cs_rows,rowsR,rowsA,tS_eq,tT_eq,tR_eq]))|(refine Rm_o hN rfl (fun r H2 hh => ?_); obtain ⟨rfl,rfl⟩:=hh)|refine sB ?_|refine sX ?_ ?_<;>(try intro h)<;>(try omega)|exact sP|refine rK ?_|exact sQ|refine sD ?_|exact sE|omega)
 all_goals first
  | exact ret_k (.tup (c.dv 0 1::tR [] false)) (c.rows) (by kernel_rfl) (rs_bad1 c tR [])
  | skip
end Go.Proofs.YtekmkgegjicjgaaGreat
