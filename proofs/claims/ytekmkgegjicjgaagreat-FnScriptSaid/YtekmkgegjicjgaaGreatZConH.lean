import Derived.Test.YtekmkgegjicjgaaGreatZIr6
import Derived.Test.YtekmkgegjicjgaaGreatZBas
import Derived.Test.YtekmkgegjicjgaaGreatZConT
namespace Go.Proofs.YtekmkgegjicjgaaGreat
open Go.Dv Go.Dv.EvL
set_option maxRecDepth 100000
set_option maxHeartbeats 16000000
attribute [local irreducible] Ok Rm Dm Om Sm Xm Cm Gm Hm Tm
theorem k_iFormat (c:Cs)(hf:CsFits c):Okv Tryz.prog 38 [c.pv] (fmtO c):=by
 refine ok_D hmix c_impl_FormatConsole (by simp) ?_
 have hv:=k_iConsole c hf
 have hd:fmtO c=if csB c=true then .tup [.p (.str (conT c)),.p (.bool true)] else .tup [.p (.str []),.p (.bool false)]:=rfl
 rw [hd]
 clear hd
 cases hb:csB c
 ·rw [hb] at hv
  rw [if_neg (by decide)]
  simp only [cs_pv] at *
  refine sA ?_
  repeat' (first|refine sA ?_|refine sN ?_|refine rW rfl (hv) ?_|refine rV (hv) ?_|refine sB ?_|refine sX ?_ ?_<;>(try intro h)<;>(try omega)|exact sP|refine rK ?_|exact sQ|refine sD ?_|rfl|exact sE|omega)
 ·rw [hb] at hv
  rw [if_pos rfl]
  obtain ⟨b1,b2,b3,b4,b5,b6⟩:=cs_in hb
  have b7:=cnt_in b6
  have hct:conT c=bodyTo (topT c) c.al c.al.length:=rfl
  have htop:topT c=headTo c.mn c.hl c.hl.length++[32]++num c.lg.cnt++[10]:=rfl
  have hwl:=fun i=>words_len (mn:=c.mn) (xs:=c.hl) (i:=i)
  have hj:=k_join (wordsTo c.mn c.hl c.hl.length++[num c.lg.cnt]) [32] 20 (by decide) (by rw [List.length_append,hwl]; simp only [List.length_cons,List.length_nil]; omega) (by omega) (fun i hi=>full_le b1 b7 b3 hi)
  rw [show (wordsTo c.mn c.hl c.hl.length++[num c.lg.cnt]).length=c.hl.length+2 from by rw [List.length_append,hwl]; rfl,join_full] at hj
  have h1:=head_le b1 b3 (i:=c.hl.length) (Nat.le_refl _)
  have h2:=num_le (n:=c.lg.cnt) (by omega)
  have hbl:=fun i (h:i≤c.al.length)=>body_le (w:=topT c) b5 h
  have htl:(topT c).length≤200:=by
   rw [htop]
   simp only [List.length_append,List.length_cons,List.length_nil]
   omega
  rw [hct]
  generalize headTo c.mn c.hl c.hl.length=W at *
  clear hb b6 hf hct
  obtain ⟨mn,hl,al,⟨dur,pend,cnt⟩⟩:=c
  simp only [cs_pv] at *
  refine sA ?_
  repeat' (first|refine sA ?_|refine sN ?_|refine rW rfl (hv) ?_|refine rV (hv) ?_|refine rW rfl (k_text _ (by omega)) ?_|refine rV (k_text _ (by omega)) ?_|refine sB ?_|refine sX ?_ ?_<;>(try intro h)<;>(try omega)|exact sP|refine rK ?_|exact sQ|refine sD ?_|rfl|exact sE|omega)
  refine Dm_loop [1,4,20,21,22] (fun m ds H' => ∃ i:Nat,i≤hl.length∧m=hl.length - i∧ds=[.ptr 0 0 0,.own 1 0 (wordsTo mn hl i).length,.p (.sl 10 (hl.map Hd.pv)),.p (.int .i64 hl.length),.p (.int .i64 i)] ∧
   H'=[.box 40 [.p (.int .i64 mn),.p (.sl 10 (hl.map Hd.pv)),.p (.sl 5 (al.map Al.pv)),.p (.str dur),.p (.str pend),.p (.int .i64 cnt)],.arr 9 1 ((wordsTo mn hl i).map .str)]) hl.length ⟨0,by omega,by omega,rfl,rfl⟩ ?_
  rintro m ds H' ⟨i,hi,rfl,rfl,rfl⟩ -
  have hs:wordsTo mn hl (i+1)=wordsTo mn hl i++[num (hl.getD i default).addr]:=rfl
  have hwi:=hwl i
  have b3i:=b3 i
  rcases Nat.lt_or_ge i hl.length with hlt|hge
  ·have b3i:=b3i hlt
   generalize wordsTo mn hl i=Z at *
   generalize hh:hl.getD i default=h at *
   repeat' (first|refine sA ?_|refine sN ?_|refine rW rfl (k_text _ (by omega)) ?_|refine rV (k_text _ (by omega)) ?_|rw [hh]|rw [hd_pv]|refine sB ?_|refine sX ?_ ?_<;>(try intro h)<;>(try omega)|exact sP|refine rK ?_|exact sQ|refine sD ?_|rfl|exact sE|omega)
   all_goals first
    | (refine Xm_inv_n (hl.length - (i+1)) (by omega) ⟨i+1,by omega,rfl,?_,?_⟩
       ·rw [hs]; simp only [List.length_append]; rfl
       ·rw [hs]; rfl)
    | skip
  ·obtain rfl:i=hl.length:=by omega
   generalize wordsTo mn hl hl.length=Z at *
   repeat' (first|refine sA ?_|refine sN ?_|refine rW rfl (k_text _ (by omega)) ?_|refine rV (k_text _ (by omega)) ?_|refine rW rfl (hj) ?_|refine rV (hj) ?_|refine sB ?_|refine sX ?_ ?_<;>(try intro h)<;>(try omega)|exact sP|refine rK ?_|exact sQ|refine sD ?_|rfl|exact sE|omega)
   rw [← htop]
   refine Dm_loop [7,43,44,45] (fun m ds H' => ∃ i:Nat,i≤al.length∧m=al.length - i∧ds=[.p (.str (bodyTo (topT ⟨mn,hl,al,⟨dur,pend,cnt⟩⟩) al i)),.p (.sl 5 (al.map Al.pv)),.p (.int .i64 al.length),.p (.int .i64 i)]∧H'=[]) al.length ⟨0,by omega,by omega,rfl,rfl⟩ ?_
   rintro m ds H' ⟨i,hi,rfl,rfl,rfl⟩ -
   have hs2:bodyTo (topT ⟨mn,hl,al,⟨dur,pend,cnt⟩⟩) al (i+1)=bodyTo (topT ⟨mn,hl,al,⟨dur,pend,cnt⟩⟩) al i++(lineT (al.getD i default)++[10]):=rfl
   have hbi:=hbl i hi
   have b5i:=b5 i
   rcases Nat.lt_or_ge i al.length with hlt|hge
   ·have b5i:=b5i hlt
    have hk:=k_alertLine (al.getD i default) b5i
    have hll:=line_le b5i
    generalize bodyTo (topT ⟨mn,hl,al,⟨dur,pend,cnt⟩⟩) al i=Y at *
    generalize lineT (al.getD i default)=L at *
    generalize hh:al.getD i default=h at *
    simp only [al_pv] at hk
    repeat' (first|refine sA ?_|refine sN ?_|refine rW rfl (hk) ?_|refine rV (hk) ?_|rw [hh]|rw [al_pv]|simp only [List.length_append,List.length_cons,List.length_nil]|refine sB ?_|refine sX ?_ ?_<;>(try intro h)<;>(try omega)|exact sP|refine rK ?_|exact sQ|refine sD ?_|rfl|exact sE|omega)
    all_goals first
     | (refine Xm_inv_n (al.length - (i+1)) (by omega) ⟨i+1,by omega,rfl,?_,rfl⟩
        rw [hs2]; rfl)
     | skip
   ·obtain rfl:i=al.length:=by omega
    repeat' (first|refine sA ?_|refine sN ?_|refine sB ?_|refine sX ?_ ?_<;>(try intro h)<;>(try omega)|exact sP|refine rK ?_|exact sQ|refine sD ?_|rfl|exact sE|omega)
theorem k_sFormat (c:Cs)(hf:CsFits c):Okv Tryz.prog 39 [c.pv] (fmtO c):=by
 refine ok_D hmix c_spec_FormatConsole (by simp) ?_
 have hv:=k_l28Good c hf
 have hd:fmtO c=if csB c=true then .tup [.p (.str (conT c)),.p (.bool true)] else .tup [.p (.str []),.p (.bool false)]:=rfl
 rw [hd]
 clear hd
 cases hb:csB c
 ·rw [hb] at hv
  rw [if_neg (by decide)]
  simp only [cs_pv] at *
  refine sA ?_
  repeat' (first|refine sA ?_|refine sN ?_|refine rW rfl (hv) ?_|refine rV (hv) ?_|refine sB ?_|refine sX ?_ ?_<;>(try intro h)<;>(try omega)|exact sP|refine rK ?_|exact sQ|refine sD ?_|rfl|exact sE|omega)
 ·rw [hb] at hv
  rw [if_pos rfl]
  obtain ⟨b1,b2,b3,b4,b5,b6⟩:=cs_in hb
  have b7:=cnt_in b6
  have hct:conT c=bodyTo (topT c) c.al c.al.length:=rfl
  have htop:topT c=headTo c.mn c.hl c.hl.length++[32]++num c.lg.cnt++[10]:=rfl
  have h1:=fun i (h:i≤c.hl.length)=>head_le b1 b3 (i:=i) h
  have h2:=num_le (n:=c.lg.cnt) (by omega)
  have h3:=num_le (n:=c.mn) (by omega)
  have hbl:=fun i (h:i≤c.al.length)=>body_le (w:=topT c) b5 h
  have htl:(topT c).length≤200:=by
   have h1:=h1 _ (Nat.le_refl _)
   rw [htop]
   simp only [List.length_append,List.length_cons,List.length_nil]
   omega
  rw [hct]
  clear hb b6 hf hct
  obtain ⟨mn,hl,al,⟨dur,pend,cnt⟩⟩:=c
  simp only [cs_pv] at *
  refine sA ?_
  repeat' (first|refine sA ?_|refine sN ?_|refine rW rfl (hv) ?_|refine rV (hv) ?_|refine rW rfl (k_l1Num _ (by omega)) ?_|refine rV (k_l1Num _ (by omega)) ?_|refine sB ?_|refine sX ?_ ?_<;>(try intro h)<;>(try omega)|exact sP|refine rK ?_|exact sQ|refine sD ?_|rfl|exact sE|omega)
  refine Dm_loop [1,4,5] (fun m ds H' => ∃ i:Nat,i≤hl.length∧m=hl.length - i∧ds=[.ptr 0 0 0,.p (.str (headTo mn hl i)),.p (.int .i64 i)] ∧
   H'=[.box 40 [.p (.int .i64 mn),.p (.sl 10 (hl.map Hd.pv)),.p (.sl 5 (al.map Al.pv)),.p (.str dur),.p (.str pend),.p (.int .i64 cnt)]]) hl.length ⟨0,by omega,by omega,rfl,rfl⟩ ?_
  rintro m ds H' ⟨i,hi,rfl,rfl,rfl⟩ -
  have hs:headTo mn hl (i+1)=headTo mn hl i++[32]++num (hl.getD i default).addr:=rfl
  have h1i:=h1 i hi
  have b3i:=b3 i
  rcases Nat.lt_or_ge i hl.length with hlt|hge
  ·have b3i:=b3i hlt
   have h4:=num_le (n:=(hl.getD i default).addr) (by omega)
   generalize headTo mn hl i=Z at *
   generalize hh:hl.getD i default=h at *
   repeat' (first|refine sA ?_|refine sN ?_|refine rW rfl (k_l1Num _ (by omega)) ?_|refine rV (k_l1Num _ (by omega)) ?_|rw [hh]|rw [hd_pv]|simp only [List.length_append,List.length_cons,List.length_nil]|refine sB ?_|refine sX ?_ ?_<;>(try intro h)<;>(try omega)|exact sP|refine rK ?_|exact sQ|refine sD ?_|rfl|exact sE|omega)
   all_goals first
    | (refine Xm_inv_n (hl.length - (i+1)) (by omega) ⟨i+1,by omega,rfl,?_,rfl⟩
       rw [hs]; rfl)
    | skip
  ·obtain rfl:i=hl.length:=by omega
   generalize headTo mn hl hl.length=Z at *
   repeat' (first|refine sA ?_|refine sN ?_|refine rW rfl (k_l1Num _ (by omega)) ?_|refine rV (k_l1Num _ (by omega)) ?_|simp only [List.length_append,List.length_cons,List.length_nil]|refine sB ?_|refine sX ?_ ?_<;>(try intro h)<;>(try omega)|exact sP|refine rK ?_|exact sQ|refine sD ?_|rfl|exact sE|omega)
   rw [← htop]
   refine Dm_loop [1,4,6] (fun m ds H' => ∃ i:Nat,i≤al.length∧m=al.length - i∧ds=[.ptr 0 0 0,.p (.str (bodyTo (topT ⟨mn,hl,al,⟨dur,pend,cnt⟩⟩) al i)),.p (.int .i64 i)] ∧
    H'=[.box 40 [.p (.int .i64 mn),.p (.sl 10 (hl.map Hd.pv)),.p (.sl 5 (al.map Al.pv)),.p (.str dur),.p (.str pend),.p (.int .i64 cnt)]]) al.length ⟨0,by omega,by omega,rfl,rfl⟩ ?_
   rintro m ds H' ⟨i,hi,rfl,rfl,rfl⟩ -
   have hs2:bodyTo (topT ⟨mn,hl,al,⟨dur,pend,cnt⟩⟩) al (i+1)=bodyTo (topT ⟨mn,hl,al,⟨dur,pend,cnt⟩⟩) al i++(lineT (al.getD i default)++[10]):=rfl
   have hbi:=hbl i hi
   have b5i:=b5 i
   rcases Nat.lt_or_ge i al.length with hlt|hge
   ·have b5i:=b5i hlt
    have hk:=k_l20Line (al.getD i default) b5i
    have hll:=line_le b5i
    generalize bodyTo (topT ⟨mn,hl,al,⟨dur,pend,cnt⟩⟩) al i=Y at *
    generalize lineT (al.getD i default)=L at *
    generalize hh:al.getD i default=h at *
    simp only [al_pv] at hk
    repeat' (first|refine sA ?_|refine sN ?_|refine rW rfl (hk) ?_|refine rV (hk) ?_|rw [hh]|rw [al_pv]|simp only [List.length_append,List.length_cons,List.length_nil]|refine sB ?_|refine sX ?_ ?_<;>(try intro h)<;>(try omega)|exact sP|refine rK ?_|exact sQ|refine sD ?_|rfl|exact sE|omega)
    all_goals first
     | (refine Xm_inv_n (al.length - (i+1)) (by omega) ⟨i+1,by omega,rfl,?_,rfl⟩
        rw [hs2]; rfl)
     | (refine Xm_inv_n (al.length - (i+1)) (by omega) ⟨i+1,by omega,rfl,?_,rfl⟩
        rw [hs2,← List.append_assoc]; rfl)
     | skip
   ·obtain rfl:i=al.length:=by omega
    repeat' (first|refine sA ?_|refine sN ?_|refine sB ?_|refine sX ?_ ?_<;>(try intro h)<;>(try omega)|exact sP|refine rK ?_|exact sQ|refine sD ?_|rfl|exact sE|omega)
end Go.Proofs.YtekmkgegjicjgaaGreat
