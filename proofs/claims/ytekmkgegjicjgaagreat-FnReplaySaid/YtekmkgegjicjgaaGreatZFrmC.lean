import Derived.Test.YtekmkgegjicjgaaGreatZBas
import Derived.Test.YtekmkgegjicjgaaGreatZFrmB
namespace Go.Proofs.YtekmkgegjicjgaaGreat
open Go.Dv Go.Dv.EvL
set_option maxRecDepth 100000
set_option maxHeartbeats 16000000
attribute [local irreducible] Ok Rm Dm Om Sm Xm Cm Gm Hm Tm
theorem pf_hit {w0:List UInt8}{i:Nat}{a d:Int}(hi:i<5)(h1:KW.getD i default=w0)(h2:frB i a d=true):kwI w0=i:=by
 unfold frB at h2
 simp only [Bool.and_eq_true,decide_eq_true_eq] at h2
 rw [← h1]
 exact kwI_of i hi (by omega)
theorem pf_end {w0:List UInt8}{a d:Int}(h : ∀ j,j<5 → ¬ (KW.getD j default=w0∧frB j a d=true)):frB (kwI w0) a d=false:=by
 rw [Bool.eq_false_iff]
 intro h2
 rcases kwI_at w0 with h3|h3
 ·rw [h3] at h2
  unfold frB at h2
  simp only [Bool.and_eq_true,decide_eq_true_eq] at h2
  omega
 ·exact h _ h3.2 ⟨h3.1,h2⟩
theorem hxO_no {w:List UInt8}{k:Nat}(hk:k≤16)(h:(hxO w).2=false) : ¬ (w.length=k∧w.all hexP=true):=by
 intro h2
 unfold hxO at h
 rw [if_pos ⟨by omega,h2.2⟩] at h
 cases h
theorem hxO_yes {w:List UInt8}(h:(hxO w).2=true):w.all hexP=true∧(hxO w).1=hx4 w∧(hx4 w).length=4 * w.length:=by
 unfold hxO at h ⊢
 split at h
 ·rename_i h2
  rw [if_pos h2]
  exact ⟨h2.2,rfl,hx4_len w⟩
 ·cases h
theorem k_ParseFrameText (s:List UInt8)(hl:s.length≤1099511627776):Okv Tryz.prog 167 [.str s] (.tup [frD (pfO s).1,.p (.bool (pfO s).2)]):=by
 refine ok_D hmix c_impl_ParseFrameText (by simp) ?_
 have h0:=k_split s 32 (by omega)
 by_cases h3:(splitB 32 s).length=3
 ·obtain ⟨w0,w1,w2,hW⟩:=three_of h3
  have hp:=pf_of hW
  have hcap:w1.length≤1099511627776∧w2.length≤1099511627776:=by
   have h8:=join_split 32 s
   rw [hW] at h8
   rw [← h8] at hl
   simp [joinB] at hl
   omega
  rw [hW] at h0
  clear hW h3
  have h1:=k_BitsFromHex w1 hcap.1
  have h2:=k_BitsFromHex w2 hcap.2
  by_cases hw:w1.length=4∧w2.length=6
  ·obtain ⟨hw1,hw2⟩:=hw
   cases e1:(hxO w1).2
   ·have:=hxO_no (k:=4) (by omega) e1
    rw [if_neg (fun h=>this ⟨hw1,h.2.1.1⟩)] at hp
    rw [hp]
    unfold frD
    rw [e1] at h1
    refine sA ?_
    repeat' (first|refine sA ?_|refine sN ?_|(refine Rm_o h0 rfl (fun r H2 hh => ?_); obtain ⟨rfl,rfl⟩:=hh)|refine rW rfl (h1) ?_|refine rV (h1) ?_|refine rW rfl (h2) ?_|refine rV (h2) ?_|refine sB ?_|refine sX ?_ ?_<;>(try intro h)<;>(try omega)|exact sP|refine rK ?_|exact sQ|refine sD ?_|rfl|exact sE|omega)
    all_goals skip
   ·cases e2:(hxO w2).2
    ·have:=hxO_no (k:=6) (by omega) e2
     rw [if_neg (fun h=>this ⟨hw2,h.2.1.2⟩)] at hp
     rw [hp]
     unfold frD
     rw [e1] at h1
     rw [e2] at h2
     refine sA ?_
     repeat' (first|refine sA ?_|refine sN ?_|(refine Rm_o h0 rfl (fun r H2 hh => ?_); obtain ⟨rfl,rfl⟩:=hh)|refine rW rfl (h1) ?_|refine rV (h1) ?_|refine rW rfl (h2) ?_|refine rV (h2) ?_|refine sB ?_|refine sX ?_ ?_<;>(try intro h)<;>(try omega)|exact sP|refine rK ?_|exact sQ|refine sD ?_|rfl|exact sE|omega)
     all_goals skip
    ·obtain ⟨g1,g2,g3⟩:=hxO_yes e1
     obtain ⟨g4,g5,g6⟩:=hxO_yes e2
     rw [e1,g2] at h1
     rw [e2,g5] at h2
     have n1:=k_numberOf (hx4 w1) (hx4_bits w1) (by omega)
     have n2:=k_numberOf (hx4 w2) (hx4_bits w2) (by omega)
     have hh1:=fun (i:Nat) (a d:Int)=>pf_hit (w0:=w0) (i:=i) (a:=a) (d:=d)
     have hh2:=fun (a d:Int)=>pf_end (w0:=w0) (a:=a) (d:=d)
     have hk:=k_kindWords
     have hKl:=KW_len
     unfold frD
     have hB:pfO s=if frB (kwI w0) (valB (hx4 w1)) (valB (hx4 w2))=true then ((kwI w0,valB (hx4 w1),valB (hx4 w2)),true) else ((0,0,0),false):=by
      rw [hp]
      by_cases hq:frB (kwI w0) (valB (hx4 w1)) (valB (hx4 w2))=true
      ·rw [if_pos ⟨⟨hw1,hw2⟩,⟨g1,g4⟩,hq⟩,if_pos hq]
      ·rw [if_neg (fun h=>hq h.2.2),if_neg hq]
     clear hp e1 e2 g1 g2 g3 g4 g5 g6
     generalize hx4 w1=A at *
     generalize hx4 w2=D at *
     generalize valB A=a at *
     generalize valB D=d at *
     have hv:=fun k:Int=>k_IsValidFrame k a d
     generalize hP:pfO s=p at *
     generalize KW=X at *
     refine sA ?_
     repeat' (first|refine sA ?_|refine sN ?_|(refine Rm_o h0 rfl (fun r H2 hh => ?_); obtain ⟨rfl,rfl⟩:=hh)|refine rW rfl (h1) ?_|refine rV (h1) ?_|refine rW rfl (h2) ?_|refine rV (h2) ?_|(refine Rm_o hk rfl (fun r H2 hh => ?_); obtain ⟨rfl,rfl⟩:=hh)|refine sB ?_|refine sX ?_ ?_<;>(try intro h)<;>(try omega)|exact sP|refine rK ?_|exact sQ|refine sD ?_|rfl|exact sE|omega)
     refine Dm_loop [2,4,5,7,53,54,55] (fun m ds H' => ∃ i:Nat,i≤5∧m=5 - i∧(∀ j,j<i → ¬ (X.getD j default=w0∧frB j a d=true))∧ds=[.ptr 0 0 0,.own 1 0 3,.p (.str A),.p (.str D),.own 2 0 5,.p (.int .i64 5),.p (.int .i64 i)] ∧
      H'=[.box 130 [.p (.int .i64 0),.p (.int .i64 0),.p (.int .i64 0)],.arr 9 1 [.str w0,.str w1,.str w2],.arr 9 1 (X.map .str)]) 5 ⟨0,by omega,by omega,fun j hj=>by omega,rfl,rfl⟩ ?_
     rintro m ds H' ⟨i,hi,rfl,hno,rfl,rfl⟩ -
     have hh1:=hh1 i a d
     have hh2:=hh2 a d
     by_cases hlt:i<5
     ·have hnx : ¬ (X.getD i default=w0∧frB i a d=true) → ∀ j,j<i+1 → ¬ (X.getD j default=w0∧frB j a d=true):=fun h j hj=>by
       by_cases hji:j=i
       ·rw [hji]; exact h
       ·exact hno j (by omega)
      have hvi:=hv i
      by_cases hw:X.getD i default=w0
      ·cases hf:frB i a d
       ·rw [hf] at hvi
        have hnx:=hnx (fun h=>by rw [hf] at h; cases h.2)
        repeat' (first|refine sA ?_|refine sN ?_|refine rW rfl (n1) ?_|refine rV (n1) ?_|refine rW rfl (n2) ?_|refine rV (n2) ?_|refine rW rfl (hvi) ?_|refine rV (hvi) ?_|rw [hw]|refine sB ?_|refine sX ?_ ?_<;>(try intro h)<;>(try omega)|exact sP|refine rK ?_|exact sQ|refine sD ?_|rfl|exact sE|omega)
        all_goals first
         | exact Xm_inv_n (5 - (i+1)) (by omega) ⟨i+1,by omega,rfl,hnx,rfl,rfl⟩
         | skip
       ·have hkw:=hh1 hlt hw hf
        rw [hkw,hf,if_pos rfl] at hB
        rw [hf] at hvi
        subst hB
        repeat' (first|refine sA ?_|refine sN ?_|refine rW rfl (n1) ?_|refine rV (n1) ?_|refine rW rfl (n2) ?_|refine rV (n2) ?_|refine rW rfl (hvi) ?_|refine rV (hvi) ?_|rw [hw]|refine sB ?_|refine sX ?_ ?_<;>(try intro h)<;>(try omega)|exact sP|refine rK ?_|exact sQ|refine sD ?_|rfl|exact sE|omega)
        all_goals skip
      ·have hnx:=hnx (fun h=>hw h.1)
       repeat' (first|refine sA ?_|refine sN ?_|refine rW rfl (n1) ?_|refine rV (n1) ?_|refine rW rfl (n2) ?_|refine rV (n2) ?_|refine sB ?_|refine sX ?_ ?_<;>(try intro h)<;>(try omega)|exact sP|refine rK ?_|exact sQ|refine sD ?_|rfl|exact sE|omega)
       all_goals first
        | exact Xm_inv_n (5 - (i+1)) (by omega) ⟨i+1,by omega,rfl,hnx,rfl,rfl⟩
        | (exfalso; exact hw (by assumption))
        | skip
     ·obtain rfl:i=5:=by omega
      rw [hh2 hno,if_neg (by decide)] at hB
      subst hB
      repeat' (first|refine sA ?_|refine sN ?_|refine sB ?_|refine sX ?_ ?_<;>(try intro h)<;>(try omega)|exact sP|refine rK ?_|exact sQ|refine sD ?_|rfl|exact sE|omega)
      all_goals skip
  ·rw [if_neg (fun h=>hw h.1)] at hp
   rw [hp]
   unfold frD
   refine sA ?_
   repeat' (first|refine sA ?_|refine sN ?_|(refine Rm_o h0 rfl (fun r H2 hh => ?_); obtain ⟨rfl,rfl⟩:=hh)|refine sB ?_|refine sX ?_ ?_<;>(try intro h)<;>(try omega)|exact sP|refine rK ?_|exact sQ|refine sD ?_|rfl|exact sE|omega)
   all_goals skip
 ·rw [pf_no h3]
  unfold frD
  generalize splitB 32 s=W at *
  refine sA ?_
  repeat' (first|refine sA ?_|refine sN ?_|(refine Rm_o h0 rfl (fun r H2 hh => ?_); obtain ⟨rfl,rfl⟩:=hh)|refine sB ?_|refine sX ?_ ?_<;>(try intro h)<;>(try omega)|exact sP|refine rK ?_|exact sQ|refine sD ?_|rfl|exact sE|omega)
  all_goals skip
end Go.Proofs.YtekmkgegjicjgaaGreat
namespace Go.Proofs.YtekmkgegjicjgaaGreat
open Go.Dv Go.Dv.EvL
set_option maxRecDepth 100000
set_option maxHeartbeats 16000000
attribute [local irreducible] Ok Rm Dm Om Sm Xm Cm Gm Hm Tm
theorem k_l5Parse (s:List UInt8)(hl:s.length≤1099511627776):Okv Tryz.prog 101 [.str s] (.tup [frD (pfO s).1,.p (.bool (pfO s).2)]):=by
 refine ok_D hmix c_spec_l5Parse (by simp) ?_
 have h0:=k_l1Split s 32 (by omega)
 by_cases h3:(splitB 32 s).length=3
 ·obtain ⟨w0,w1,w2,hW⟩:=three_of h3
  have hp:=pf_of hW
  have hback:=ft_back hW
  have hcap:w1.length≤1099511627776∧w2.length≤1099511627776:=by
   have h8:=join_split 32 s
   rw [hW] at h8
   rw [← h8] at hl
   simp [joinB] at hl
   omega
  rw [hW] at h0
  clear hW h3
  have h1:=k_l2FromHex w1 hcap.1
  have h2:=k_l2FromHex w2 hcap.2
  by_cases hG:(w1.length=4∧w2.length=6)∧(w1.all hexP=true∧w2.all hexP=true)∧frB (kwI w0) (valB (hx4 w1)) (valB (hx4 w2))=true
  ·obtain ⟨⟨hw1,hw2⟩,⟨g1,g4⟩,hf⟩:=hG
   obtain ⟨hT,hs30⟩:=hback hw1 hw2 g1 g4 hf
   rw [if_pos ⟨⟨hw1,hw2⟩,⟨g1,g4⟩,hf⟩] at hp
   have q1:hxO w1=(hx4 w1,true):=if_pos ⟨by omega,g1⟩
   have q2:hxO w2=(hx4 w2,true):=if_pos ⟨by omega,g4⟩
   rw [q1] at h1
   rw [q2] at h2
   have l1:=hx4_len w1
   have l2:=hx4_len w2
   have n1:=k_l2Number (hx4 w1) (hx4_bits w1) (by omega)
   have n2:=k_l2Number (hx4 w2) (hx4_bits w2) (by omega)
   have hk:=k_l5Words
   have hix:=k_l5Index KW w0 ⟨by rw [KW_len]; omega,by rw [KW_len]; omega⟩
   rw [show ixK KW w0 (KW.length - 1)=kwI w0 from rfl] at hix
   have hKl:=KW_len
   have hv:=k_l5Good (kwI w0) (valB (hx4 w1)) (valB (hx4 w2))
   have ht:=k_l5Text (kwI w0,valB (hx4 w1),valB (hx4 w2)) hf
   rw [hf] at hv
   rw [hT] at ht
   simp only [] at ht
   clear hback hf hT q1 q2
   generalize hx4 w1=A at *
   generalize hx4 w2=D at *
   generalize valB A=a at *
   generalize valB D=d at *
   generalize kwI w0=i at *
   generalize pfO s=p at *
   generalize KW=X at *
   subst hp
   unfold frD
   refine sA ?_
   repeat' (first|refine sA ?_|refine sN ?_|(refine Rm_o h0 rfl (fun r H2 hh => ?_); obtain ⟨rfl,rfl⟩:=hh)|refine rW rfl (h1) ?_|refine rV (h1) ?_|refine rW rfl (h2) ?_|refine rV (h2) ?_|(refine Rm_o hk rfl (fun r H2 hh => ?_); obtain ⟨rfl,rfl⟩:=hh)|(refine Rm_v hix ?_ trivial ?_; · (simp [viewOfs,viewOf,List.take_of_length_le,hKl]; done))|refine rW rfl (n1) ?_|refine rV (n1) ?_|refine rW rfl (n2) ?_|refine rV (n2) ?_|refine rW rfl (hv) ?_|refine rV (hv) ?_|refine rW rfl (ht) ?_|refine rV (ht) ?_|(refine Dm_draw [1] ?_ ?_; · (simp; done))|refine sB ?_|refine sX ?_ ?_<;>(try intro h)<;>(try omega)|exact sP|refine rK ?_|exact sQ|refine sD ?_|rfl|exact sE|omega)
   all_goals skip
  ·rw [if_neg hG] at hp
   rw [hp]
   cases e1:(hxO w1).2
   ·rw [e1] at h1
    unfold frD
    cases e2:(hxO w2).2
    all_goals
     rw [e2] at h2
     refine sA ?_
     repeat' (first|refine sA ?_|refine sN ?_|(refine Rm_o h0 rfl (fun r H2 hh => ?_); obtain ⟨rfl,rfl⟩:=hh)|refine rW rfl (h1) ?_|refine rV (h1) ?_|refine rW rfl (h2) ?_|refine rV (h2) ?_|refine sB ?_|refine sX ?_ ?_<;>(try intro h)<;>(try omega)|exact sP|refine rK ?_|exact sQ|refine sD ?_|rfl|exact sE|omega)
    all_goals skip
   ·cases e2:(hxO w2).2
    ·rw [e1] at h1
     rw [e2] at h2
     unfold frD
     refine sA ?_
     repeat' (first|refine sA ?_|refine sN ?_|(refine Rm_o h0 rfl (fun r H2 hh => ?_); obtain ⟨rfl,rfl⟩:=hh)|refine rW rfl (h1) ?_|refine rV (h1) ?_|refine rW rfl (h2) ?_|refine rV (h2) ?_|refine sB ?_|refine sX ?_ ?_<;>(try intro h)<;>(try omega)|exact sP|refine rK ?_|exact sQ|refine sD ?_|rfl|exact sE|omega)
     all_goals skip
    ·obtain ⟨g1,g2,g3⟩:=hxO_yes e1
     obtain ⟨g4,g5,g6⟩:=hxO_yes e2
     rw [e1,g2] at h1
     rw [e2,g5] at h2
     by_cases hw:w1.length=4∧w2.length=6
     ·have hf:frB (kwI w0) (valB (hx4 w1)) (valB (hx4 w2))=false:=by
       rw [Bool.eq_false_iff]
       exact fun h=>hG ⟨hw,⟨g1,g4⟩,h⟩
      obtain ⟨hw1,hw2⟩:=hw
      have n1:=k_l2Number (hx4 w1) (hx4_bits w1) (by omega)
      have n2:=k_l2Number (hx4 w2) (hx4_bits w2) (by omega)
      have hk:=k_l5Words
      have hix:=k_l5Index KW w0 ⟨by rw [KW_len]; omega,by rw [KW_len]; omega⟩
      rw [show ixK KW w0 (KW.length - 1)=kwI w0 from rfl] at hix
      have hKl:=KW_len
      have hv:=k_l5Good (kwI w0) (valB (hx4 w1)) (valB (hx4 w2))
      rw [hf] at hv
      clear hback hf hp hG e1 e2 g2 g5
      generalize hx4 w1=A at *
      generalize hx4 w2=D at *
      generalize valB A=a at *
      generalize valB D=d at *
      generalize kwI w0=i at *
      generalize KW=X at *
      unfold frD
      refine sA ?_
      repeat' (first|refine sA ?_|refine sN ?_|(refine Rm_o h0 rfl (fun r H2 hh => ?_); obtain ⟨rfl,rfl⟩:=hh)|refine rW rfl (h1) ?_|refine rV (h1) ?_|refine rW rfl (h2) ?_|refine rV (h2) ?_|(refine Rm_o hk rfl (fun r H2 hh => ?_); obtain ⟨rfl,rfl⟩:=hh)|(refine Rm_v hix ?_ trivial ?_; · (simp [viewOfs,viewOf,List.take_of_length_le,hKl]; done))|refine rW rfl (n1) ?_|refine rV (n1) ?_|refine rW rfl (n2) ?_|refine rV (n2) ?_|refine rW rfl (hv) ?_|refine rV (hv) ?_|(refine Dm_draw [1] ?_ ?_; · (simp; done))|refine sB ?_|refine sX ?_ ?_<;>(try intro h)<;>(try omega)|exact sP|refine rK ?_|exact sQ|refine sD ?_|rfl|exact sE|omega)
      all_goals skip
     ·clear hback hp hG e1 e2 g2 g5
      generalize hx4 w1=A at *
      generalize hx4 w2=D at *
      unfold frD
      refine sA ?_
      repeat' (first|refine sA ?_|refine sN ?_|(refine Rm_o h0 rfl (fun r H2 hh => ?_); obtain ⟨rfl,rfl⟩:=hh)|refine rW rfl (h1) ?_|refine rV (h1) ?_|refine rW rfl (h2) ?_|refine rV (h2) ?_|refine sB ?_|refine sX ?_ ?_<;>(try intro h)<;>(try omega)|exact sP|refine rK ?_|exact sQ|refine sD ?_|rfl|exact sE|omega)
      all_goals first
       | (exfalso; exact hw ⟨by omega,by omega⟩)
       | skip
 ·rw [pf_no h3]
  unfold frD
  generalize splitB 32 s=W at *
  refine sA ?_
  repeat' (first|refine sA ?_|refine sN ?_|(refine Rm_o h0 rfl (fun r H2 hh => ?_); obtain ⟨rfl,rfl⟩:=hh)|refine sB ?_|refine sX ?_ ?_<;>(try intro h)<;>(try omega)|exact sP|refine rK ?_|exact sQ|refine sD ?_|rfl|exact sE|omega)
  all_goals skip
end Go.Proofs.YtekmkgegjicjgaaGreat
