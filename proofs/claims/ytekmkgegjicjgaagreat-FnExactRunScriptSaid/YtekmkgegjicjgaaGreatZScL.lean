import Derived.Test.YtekmkgegjicjgaaGreatZBas
import Derived.Test.YtekmkgegjicjgaaGreatZRun
import Derived.Test.YtekmkgegjicjgaaGreatZConM
namespace Go.Proofs.YtekmkgegjicjgaaGreat
open Go.Dv Go.Dv.EvL
set_option maxRecDepth 100000
set_option maxHeartbeats 16000000
attribute [local irreducible] Ok Rm Dm Om Sm Xm Cm Gm Hm Tm
theorem flat_txts : ∀ xs:List Txt,flatPs (xs.map .str)
 | []=>trivial
 | _x::xs=>⟨trivial,flat_txts xs⟩
theorem k_FnExactRunScript (c:Cs)(hr:c.bds)(s:Txt)(hs:s.length≤9223372036854775807):Okv Tryz.prog 3 [c.pv,.str s] (.p (.bool true)):=by
 refine ok_D hmix c_laws_FnExactRunScript (by simp) ?_
 have h1:=k_szConsole c 1048576 (by omega) hr
 by_cases hp:1048576<s.length
 ·rw [cs_pv] at *
  refine sF fun dc hdc => ?_; refine sA ?_
  repeat' (first|refine sA ?_|refine sO ‹_› fun dc hdc => ?_|refine sN ?_|refine sB ?_|refine sX ?_ ?_<;>(try intro h)<;>(try omega)|exact sP|refine rK ?_|exact sQ|refine sD ?_|exact sE|omega)
  all_goals skip
 by_cases hb:szO 1048576 c.size<0
 ·generalize szO 1048576 c.size=z at *
  rw [cs_pv] at *
  refine sF fun dc hdc => ?_; refine sA ?_
  repeat' (first|refine sA ?_|refine sO ‹_› fun dc hdc => ?_|refine sN ?_|refine rW rfl (h1) ?_|refine rV (h1) ?_|refine sB ?_|refine sX ?_ ?_<;>(try intro h)<;>(try omega)|exact sP|refine rK ?_|exact sQ|refine sD ?_|exact sE|omega)
  all_goals skip
 ·have hf:=cs_fits (by omega) (szO_ok hb).1
  generalize szO 1048576 c.size=z at *
  have hT:=k_toConsole c hf
  have hP:=cs_pl hT
  have hS:=k_sScriptP c s hf (by omega)
  have hI:=k_iScriptO c s hf (by omega)
  have hIP:=k_iScriptP c s hf (by omega)
  have hE:=k_eqConsole c hf
  have hM:=k_markConsole c 1 hf.1 hf.2.1 (by omega)
  have hlen:(scO c s).1.length≤30:=by
   unfold scO
   split
   ·rename_i h
    rw [runTo_len]
    exact (scB_in h).2.2
   ·simp
  unfold scD at hI
  generalize scO c s=o at *
  obtain ⟨L,b⟩:=o
  simp only [] at hlen hS hI hIP
  have hE2:=k_eqStringS L L (by omega)
  rw [decide_eq_true rfl] at hE2
  have hM2:=k_markStringS L 1 (by omega) (by omega)
  have hH2:=k_heldStringS L.length 1 (by omega) (by omega)
  have q1:=flat_txts L
  have hq:(csM c 1).rows=[.arr 111 10 ((mksHd 1 c.hl.length).map Hd.pv),.arr 114 5 ((mksAl (1+10 * c.hl.length) c.al.length).map Al.pv)]:=rfl
  have l1:(mts 1 L.length).length=L.length:=mts_len
  rw [hq] at hM
  clear hq
  obtain ⟨f1,f2,f3,f4⟩:=hf
  generalize mts 1 L.length=A1 at *
  generalize mksHd 1 c.hl.length=B1 at *
  generalize mksAl (1+10 * c.hl.length) c.al.length=B2 at *
  simp only [cs_pv,cs_dv,cs_rows] at *
  cases b
  all_goals
   refine sF fun dc hdc => ?_; refine sA ?_
   repeat' (first|refine sA ?_|refine sO ‹_› fun dc hdc => ?_|refine sN ?_|refine rW rfl (h1) ?_|refine rV (h1) ?_|refine sB ?_|refine sX ?_ ?_<;>(try intro h)<;>(try omega)|exact sP|refine rK ?_|exact sQ|refine sD ?_|exact sE|omega)
   refine Rm_o hP rfl ?_
   rintro r H2 ⟨rfl,rfl⟩
   repeat' (first|refine sA ?_|refine sO ‹_› fun dc hdc => ?_|refine sN ?_|(refine Rm_o hS rfl (fun r H2 hh => ?_); obtain ⟨rfl,rfl⟩:=hh)|refine sB ?_|refine sX ?_ ?_<;>(try intro h)<;>(try omega)|exact sP|refine rK ?_|exact sQ|refine sD ?_|exact sE|omega)
   refine Rm_o hT rfl ?_
   rintro r H2 ⟨rfl,rfl⟩
   repeat' (first|refine sA ?_|refine sO ‹_› fun dc hdc => ?_|refine sN ?_|(refine Rm_l hI (by simp [viewOfs,viewOf,List.take_of_length_le]) (fun r H2 hh => ?_); obtain ⟨rfl,rfl⟩:=hh; refine ⟨by simp [flatD,flatDs,flatP],by simp [flatH,flatB,q1],?_⟩)|refine sB ?_|refine sX ?_ ?_<;>(try intro h)<;>(try omega)|exact sP|refine rK ?_|exact sQ|refine sD ?_|exact sE|omega)
   repeat' (first|refine sA ?_|refine sO ‹_› fun dc hdc => ?_|refine sN ?_|(refine Rm_o hP rfl (fun r H2 hh => ?_); obtain ⟨rfl,rfl⟩:=hh)|refine rW rfl (hE) ?_|refine rV (hE) ?_|refine rW rfl (hE2) ?_|refine rV (hE2) ?_|(refine Rm_i [1,2] hM (by simp) (by simp) ⟨_,_,rfl,.inl rfl,_,_,rfl,.inl rfl,rfl⟩ (fun r H2 hh => ?_); obtain ⟨rfl,rfl⟩:=hh)|simp only [bne_self_eq_false]|refine dr ?_|refine dr03 ?_|(refine Rm_i [4] hM2 (by simp) (by simp) ⟨_,_,rfl,.inl rfl,_,_,rfl,.inl rfl,rfl⟩ (fun r H2 hh => ?_); obtain ⟨rfl,rfl⟩:=hh)|(refine Rm_w ?_ hH2 (by trivial) ?_; · (simp [viewOfs,viewOf,List.take_of_length_le,l1]; done))|(refine Rm_o hIP rfl (fun r H2 hh => ?_); obtain ⟨rfl,rfl⟩:=hh)|refine sB ?_|refine sX ?_ ?_<;>(try intro h)<;>(try omega)|exact sP|refine rK ?_|exact sQ|refine sD ?_|exact sE|omega)
  all_goals skip
end Go.Proofs.YtekmkgegjicjgaaGreat
