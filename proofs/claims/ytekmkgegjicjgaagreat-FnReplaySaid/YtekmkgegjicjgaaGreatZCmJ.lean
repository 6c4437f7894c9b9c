import Derived.Test.YtekmkgegjicjgaaGreatZBas
import Derived.Test.YtekmkgegjicjgaaGreatZCmG
namespace Go.Proofs.YtekmkgegjicjgaaGreat
open Go.Dv Go.Dv.EvL
set_option maxRecDepth 100000
set_option maxHeartbeats 16000000
attribute [local irreducible] Ok Rm Dm Om Sm Xm Cm Gm Hm Tm
theorem k_reply4 (c:Cs)(s w w1 w2 w3:Txt)(_hf:CsFits c)(hv:csB c=true)(hs:s.length≤1000)(hW:splitB 32 s=[w,w1,w2,w3])(hn0:w≠wEnc)(hn1:w≠wSet):Ok Tryz.prog 59 [c.dv 0 1,.p (.str s)] c.rows (RsD c tR (runR c ([w,w1,w2,w3]))):=by
 refine ok_D hmix c_impl_Console_reply (by simp) ?_
 have h0:=k_splitP s (by omega)
 have hwl : ∀ {x:Txt},x∈splitB 32 s→x.length≤1000:=fun h=>by have:=c_words_len h; omega
 rw [hW] at h0 hwl
 have ci:=cs_in hv
 have hN:=k_arguments ([w1,w2,w3]) ⟨by simp,fun x h=>by have:=hwl (List.mem_cons_of_mem _ h); omega⟩
 have hT:=k_txtN4 c w w1 w2 w3 hn0 hn1
 rw [cs_dv,cs_rows] at hT
 have m0:(w=wEnc)=False:=eq_false hn0
 have m1:(w=wSet)=False:=eq_false hn1
 have hr:runR c [w,w1,w2,w3] = .bad:=by show run4 c w w1 w2 w3 = .bad; unfold run4; rw [if_neg hn0,if_neg hn1]
 rw [hr]
 have hnl:=nm_len ([w1,w2,w3])
 simp only [List.length_cons,List.length_nil] at hnl
 generalize (nmO ([w1,w2,w3])).1=nn at *
 generalize (nmO ([w1,w2,w3])).2=bn at *
 cases bn
 ·skip
  rw [cs_dv,cs_rows]
  refine sF fun dc hdc => ?_; refine sA ?_
  repeat' (first|refine sA ?_|refine sO ‹_› fun dc hdc => ?_|refine sN ?_|(refine Rm_o h0 rfl (fun r H2 hh => ?_); obtain ⟨rfl,rfl⟩:=hh)|simp only [q]|refine dr ?_|refine dr2 ?_|refine dr4 ?_|refine dr5 ?_|refine dr6 ?_|(refine Rm_i [0,1] hT (by simp) (by simp) ⟨_,_,rfl,.inl rfl,_,_,rfl,.inr ⟨_,rfl,rfl⟩,rfl⟩ (fun r H2 hh => ?_); obtain ⟨rfl,rfl⟩:=hh; (try simp only [cs_dv,cs_dR,cs_dA,cs_dB,cs_dC,cs_rows,rowsR,rowsA,tS_eq,tT_eq,tR_eq]))|(refine Rm_o hN rfl (fun r H2 hh => ?_); obtain ⟨rfl,rfl⟩:=hh)|refine sB ?_|refine sX ?_ ?_<;>(try intro h)<;>(try omega)|exact sP|refine rK ?_|exact sQ|refine sD ?_|exact sE|omega)
  all_goals first
   | exact ret_k (.tup (c.dv 0 1::tR [] false)) (c.rows) (by kernel_rfl) (rs_bad1 c tR [])
   | skip
 have hnl:=hnl rfl
 rcases g8 w with ⟨q,hw⟩|⟨q,hw⟩|⟨q,hw⟩|⟨q,hw⟩|⟨q,hw⟩|⟨q,hw⟩|⟨q,hw⟩|⟨q,hw⟩
 all_goals first|clear hw
 all_goals
  rw [cs_dv,cs_rows]
  refine sF fun dc hdc => ?_; refine sA ?_
  repeat' (first|refine sA ?_|refine sO ‹_› fun dc hdc => ?_|refine sN ?_|(refine Rm_o h0 rfl (fun r H2 hh => ?_); obtain ⟨rfl,rfl⟩:=hh)|simp only [q]|refine dr ?_|refine dr2 ?_|refine dr4 ?_|refine dr5 ?_|refine dr6 ?_|(refine Rm_i [0,1] hT (by simp) (by simp) ⟨_,_,rfl,.inl rfl,_,_,rfl,.inr ⟨_,rfl,rfl⟩,rfl⟩ (fun r H2 hh => ?_); obtain ⟨rfl,rfl⟩:=hh; (try simp only [cs_dv,cs_dR,cs_dA,cs_dB,cs_dC,cs_rows,rowsR,rowsA,tS_eq,tT_eq,tR_eq]))|(refine Rm_o hN rfl (fun r H2 hh => ?_); obtain ⟨rfl,rfl⟩:=hh)|refine sB ?_|refine sX ?_ ?_<;>(try intro h)<;>(try omega)|exact sP|refine rK ?_|exact sQ|refine sD ?_|exact sE|omega)
 all_goals first
  | exact ret_k (.tup (c.dv 0 1::tR [] false)) (c.rows) (by kernel_rfl) (rs_bad1 c tR [])
  | skip
theorem k_reply5 (c:Cs)(s w w1 w2 w3 w4:Txt)(ws:List Txt)(_hf:CsFits c)(hv:csB c=true)(hs:s.length≤1000)(hW:splitB 32 s=w::w1::w2::w3::w4::ws):Ok Tryz.prog 59 [c.dv 0 1,.p (.str s)] c.rows (RsD c tR (runR c (w::w1::w2::w3::w4::ws))):=by
 refine ok_D hmix c_impl_Console_reply (by simp) ?_
 have h0:=k_splitP s (by omega)
 have hwl : ∀ {x:Txt},x∈splitB 32 s→x.length≤1000:=fun h=>by have:=c_words_len h; omega
 rw [hW] at h0 hwl
 have ci:=cs_in hv
 have hwn:ws.length+5≤1001:=by
  have:=(split_len 32 s).1
  rw [hW] at this
  simp only [List.length_cons] at this
  omega
 have hN:=k_arguments (w1::w2::w3::w4::ws) ⟨by simp; omega,fun x h=>by have:=hwl (List.mem_cons_of_mem _ h); omega⟩
 have hT:=k_txtN5 c w w1 w2 w3 w4 ws (by omega)
 rw [cs_dv,cs_rows] at hT
 have hr:runR c (w::w1::w2::w3::w4::ws) = .bad:=rfl
 rw [hr]
 have hnl:=nm_len (w1::w2::w3::w4::ws)
 simp only [List.length_cons] at hnl
 generalize (nmO (w1::w2::w3::w4::ws)).1=nn at *
 generalize (nmO (w1::w2::w3::w4::ws)).2=bn at *
 cases bn
 ·skip
  rw [cs_dv,cs_rows]
  refine sF fun dc hdc => ?_; refine sA ?_
  repeat' (first|refine sA ?_|refine sO ‹_› fun dc hdc => ?_|refine sN ?_|(refine Rm_o h0 rfl (fun r H2 hh => ?_); obtain ⟨rfl,rfl⟩:=hh)|simp only [q]|refine dr ?_|refine dr2 ?_|refine dr4 ?_|refine dr5 ?_|refine dr6 ?_|(refine Rm_i [0,1] hT (by simp) (by simp) ⟨_,_,rfl,.inl rfl,_,_,rfl,.inr ⟨_,rfl,rfl⟩,rfl⟩ (fun r H2 hh => ?_); obtain ⟨rfl,rfl⟩:=hh; (try simp only [cs_dv,cs_dR,cs_dA,cs_dB,cs_dC,cs_rows,rowsR,rowsA,tS_eq,tT_eq,tR_eq]))|(refine Rm_o hN (by simp [pvOfs,pvOf,cutL,List.take_of_length_le]) (fun r H2 hh => ?_); obtain ⟨rfl,rfl⟩:=hh)|refine sB ?_|refine sX ?_ ?_<;>(try intro h)<;>(try omega)|exact sP|refine rK ?_|exact sQ|refine sD ?_|exact sE|omega)
  all_goals first
   | exact ret_k (.tup (c.dv 0 1::tR [] false)) (c.rows) (by kernel_rfl) (rs_bad1 c tR [])
   | skip
 have hnl:=hnl rfl
 rcases g8 w with ⟨q,hw⟩|⟨q,hw⟩|⟨q,hw⟩|⟨q,hw⟩|⟨q,hw⟩|⟨q,hw⟩|⟨q,hw⟩|⟨q,hw⟩
 all_goals first|clear hw
 all_goals
  rw [cs_dv,cs_rows]
  refine sF fun dc hdc => ?_; refine sA ?_
  repeat' (first|refine sA ?_|refine sO ‹_› fun dc hdc => ?_|refine sN ?_|(refine Rm_o h0 rfl (fun r H2 hh => ?_); obtain ⟨rfl,rfl⟩:=hh)|simp only [q]|refine dr ?_|refine dr2 ?_|refine dr4 ?_|refine dr5 ?_|refine dr6 ?_|(refine Rm_i [0,1] hT (by simp) (by simp) ⟨_,_,rfl,.inl rfl,_,_,rfl,.inr ⟨_,rfl,rfl⟩,rfl⟩ (fun r H2 hh => ?_); obtain ⟨rfl,rfl⟩:=hh; (try simp only [cs_dv,cs_dR,cs_dA,cs_dB,cs_dC,cs_rows,rowsR,rowsA,tS_eq,tT_eq,tR_eq]))|(refine Rm_o hN (by simp [pvOfs,pvOf,cutL,List.take_of_length_le]) (fun r H2 hh => ?_); obtain ⟨rfl,rfl⟩:=hh)|refine sB ?_|refine sX ?_ ?_<;>(try intro h)<;>(try omega)|exact sP|refine rK ?_|exact sQ|refine sD ?_|exact sE|omega)
 all_goals first
  | exact ret_k (.tup (c.dv 0 1::tR [] false)) (c.rows) (by kernel_rfl) (rs_bad1 c tR [])
  | skip
end Go.Proofs.YtekmkgegjicjgaaGreat
