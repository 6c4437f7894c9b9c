import Derived.Test.YtekmkgegjicjgaaGreatZBas
import Derived.Test.YtekmkgegjicjgaaGreatZCmE
import Derived.Test.YtekmkgegjicjgaaGreatZCmK
import Derived.Test.YtekmkgegjicjgaaGreatZConM
namespace Go.Proofs.YtekmkgegjicjgaaGreat
open Go.Dv Go.Dv.EvL
set_option maxRecDepth 100000
set_option maxHeartbeats 16000000
attribute [local irreducible] Ok Rm Dm Om Sm Xm Cm Gm Hm Tm
theorem k_FnExactExecuteCommand (c:Cs)(hr:c.bds)(s:Txt)(hs:s.length≤9223372036854775807):Okv Tryz.prog 4 [c.pv,.str s] (.p (.bool true)):=by
 refine ok_D hmix c_laws_FnExactExecuteCommand (by simp) ?_
 have h1:=k_szConsole c 1048576 (by omega) hr
 by_cases hp:1048576<s.length
 ·rw [cs_pv] at *
  refine sF fun dc hdc => ?_; refine sA ?_
  repeat' (first|refine sA ?_|refine sO ‹_› fun dc hdc => ?_|refine sN ?_|refine sB ?_|refine sX ?_ ?_<;>(try intro h)<;>(try omega)|exact sP|refine rK ?_|exact sQ|refine sD ?_|exact sE|omega)
  all_goals skip
 by_cases hb:szO 1048576 c.size<0
 ·generalize szO 1048576 c.size=z at *
  rw [cs_pv] at *
  refine sF fun dc hdc => ?_; refine sA ?_
  repeat' (first|refine sA ?_|refine sO ‹_› fun dc hdc => ?_|refine sN ?_|refine rW rfl (h1) ?_|refine rV (h1) ?_|refine sB ?_|refine sX ?_ ?_<;>(try intro h)<;>(try omega)|exact sP|refine rK ?_|exact sQ|refine sD ?_|exact sE|omega)
  all_goals skip
 ·have hf:=cs_fits (by omega) (szO_ok hb).1
  generalize szO 1048576 c.size=z at *
  have hT:=k_toConsole c hf
  have hP:=cs_pl hT
  have hS:=k_sExec c s hf (by omega)
  have hI:=k_iExec c s hf (by omega)
  have hIP:=k_iExecP c s hf (by omega)
  have hE:=k_eqConsole c hf
  have hf2:=ex_fits hf s
  have hM:=k_markConsole c 1 hf.1 hf.2.1 (by omega)
  generalize exO c s=o at *
  obtain ⟨v,T⟩:=o
  simp only [] at hf2 hS hI hIP
  have hE2:=k_eqConsole v hf2
  have hM2:=k_markConsole v 1 hf2.1 hf2.2.1 (by omega)
  have hH2:=k_heldConsole v 1 hf2.1 hf2.2.1 (by omega)
  have q1:=flat_hds v.hl
  have q2:=flat_als v.al
  have hq:(csM c 1).rows=[.arr 111 10 ((mksHd 1 c.hl.length).map Hd.pv),.arr 114 5 ((mksAl (1+10 * c.hl.length) c.al.length).map Al.pv)]:=rfl
  have hq2:(csM v 1).rows=[.arr 111 10 ((mksHd 1 v.hl.length).map Hd.pv),.arr 114 5 ((mksAl (1+10 * v.hl.length) v.al.length).map Al.pv)]:=rfl
  have hq3:(csM v 1).pv = .agg [.int .i64 v.mn,.sl 10 ((mksHd 1 v.hl.length).map Hd.pv),.sl 5 ((mksAl (1+10 * v.hl.length) v.al.length).map Al.pv),.str v.lg.dur,.str v.lg.pend,.int .i64 v.lg.cnt]:=rfl
  have l1:(mksHd 1 v.hl.length).length=v.hl.length:=mksHd_len
  have l2:(mksAl (1+10 * v.hl.length) v.al.length).length=v.al.length:=mksAl_len
  have l3:(mksHd 1 c.hl.length).length=c.hl.length:=mksHd_len
  have l4:(mksAl (1+10 * c.hl.length) c.al.length).length=c.al.length:=mksAl_len
  rw [hq] at hM
  rw [hq2] at hM2
  rw [hq3] at hH2
  clear hq hq2 hq3
  obtain ⟨f1,f2,f3,f4⟩:=hf
  obtain ⟨g1,g2,g3,g4⟩:=hf2
  generalize mksHd 1 v.hl.length=A1 at *
  generalize mksAl (1+10 * v.hl.length) v.al.length=A2 at *
  generalize mksHd 1 c.hl.length=B1 at *
  generalize mksAl (1+10 * c.hl.length) c.al.length=B2 at *
  simp only [cs_pv,cs_dv,cs_rows] at *
  refine sF fun dc hdc => ?_; refine sA ?_
  repeat' (first|refine sA ?_|refine sO ‹_› fun dc hdc => ?_|refine sN ?_|refine rW rfl (h1) ?_|refine rV (h1) ?_|refine sB ?_|refine sX ?_ ?_<;>(try intro h)<;>(try omega)|exact sP|refine rK ?_|exact sQ|refine sD ?_|exact sE|omega)
  refine Rm_o hP rfl ?_
  rintro r H2 ⟨rfl,rfl⟩
  repeat' (first|refine sA ?_|refine sO ‹_› fun dc hdc => ?_|refine sN ?_|(refine Rm_o hS rfl (fun r H2 hh => ?_); obtain ⟨rfl,rfl⟩:=hh)|refine sB ?_|refine sX ?_ ?_<;>(try intro h)<;>(try omega)|exact sP|refine rK ?_|exact sQ|refine sD ?_|exact sE|omega)
  refine Rm_o hT rfl ?_
  rintro r H2 ⟨rfl,rfl⟩
  repeat' (first|refine sA ?_|refine sO ‹_› fun dc hdc => ?_|refine sN ?_|(refine Rm_l hI (by simp [viewOfs,viewOf,List.take_of_length_le]) (fun r H2 hh => ?_); obtain ⟨rfl,rfl⟩:=hh; refine ⟨by simp [flatD,flatDs,flatP],by simp [flatH,flatB,q1,q2],?_⟩)|refine sB ?_|refine sX ?_ ?_<;>(try intro h)<;>(try omega)|exact sP|refine rK ?_|exact sQ|refine sD ?_|exact sE|omega)
  repeat' (first|refine sA ?_|refine sO ‹_› fun dc hdc => ?_|refine sN ?_|(refine Rm_o hP rfl (fun r H2 hh => ?_); obtain ⟨rfl,rfl⟩:=hh)|refine rW rfl (hE) ?_|refine rV (hE) ?_|refine rW rfl (hE2) ?_|refine rV (hE2) ?_|simp only [bne_self_eq_false]|refine dr ?_|refine dr04 ?_|(refine Rm_i [2,3] hM (by simp) (by simp) ⟨_,_,rfl,.inl rfl,_,_,rfl,.inl rfl,rfl⟩ (fun r H2 hh => ?_); obtain ⟨rfl,rfl⟩:=hh)|(refine Rm_i [5,6] hM2 (by simp) (by simp) ⟨_,_,rfl,.inl rfl,_,_,rfl,.inl rfl,rfl⟩ (fun r H2 hh => ?_); obtain ⟨rfl,rfl⟩:=hh)|(refine Rm_w ?_ hH2 (by trivial) ?_; · (simp [viewOfs,viewOf,List.take_of_length_le,l1,l2]; done))|(refine Rm_o hIP rfl (fun r H2 hh => ?_); obtain ⟨rfl,rfl⟩:=hh)|refine sB ?_|refine sX ?_ ?_<;>(try intro h)<;>(try omega)|exact sP|refine rK ?_|exact sQ|refine sD ?_|exact sE|omega)
  all_goals skip
end Go.Proofs.YtekmkgegjicjgaaGreat
