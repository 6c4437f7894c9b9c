import Derived.Test.YtekmkgegjicjgaaGreatZBas
import Derived.Test.YtekmkgegjicjgaaGreatZBts
import Derived.Test.YtekmkgegjicjgaaGreatZCon
namespace Go.Proofs.YtekmkgegjicjgaaGreat
open Go.Dv Go.Dv.EvL
set_option maxRecDepth 100000
set_option maxHeartbeats 16000000
attribute [local irreducible] Ok Rm Dm Om Sm Xm Cm Gm Hm Tm
def frB (k a d:Int):Bool:=decide (1≤k∧k≤4) && addrB a && decide (0≤d∧d≤16777215)
theorem k_IsValidFrame (k a d:Int):Okv Tryz.prog 204 [.agg [.int .i64 k,.int .i64 a,.int .i64 d]] (.p (.bool (frB k a d))):=by
 refine ok_D hmix c_impl_IsValidFrame (by simp) ?_
 unfold frB
 refine sA ?_
 repeat' (first|refine sA ?_|refine sN ?_|refine rW rfl (k_within _ _ _) ?_|refine rV (k_within _ _ _) ?_|refine rW rfl (k_isAddress _) ?_|refine rV (k_isAddress _) ?_|refine sB ?_|refine sX ?_ ?_<;>(try intro h)<;>(try omega)|exact sP|refine rK ?_|exact sQ|refine sD ?_|rfl|exact sE|omega)
 all_goals grind
theorem k_l5Good (k a d:Int):Okv Tryz.prog 156 [.agg [.int .i64 k,.int .i64 a,.int .i64 d]] (.p (.bool (frB k a d))):=by
 refine ok_D hmix c_spec_l5Good (by simp) ?_
 unfold frB
 refine sA ?_
 repeat' (first|refine sA ?_|refine sN ?_|refine rW rfl (k_l1In _ _ _) ?_|refine rV (k_l1In _ _ _) ?_|refine rW rfl (k_l5Address _) ?_|refine rV (k_l5Address _) ?_|refine sB ?_|refine sX ?_ ?_<;>(try intro h)<;>(try omega)|exact sP|refine rK ?_|exact sQ|refine sD ?_|rfl|exact sE|omega)
 all_goals grind
def frO (s:List UInt8):(Nat × Nat × Nat) × Bool :=
 if frB (valB (s.take 4)) (valB ((s.drop 4).take 16)) (valB ((s.drop 20).take 24))=true then ((valB (s.take 4),valB ((s.drop 4).take 16),valB ((s.drop 20).take 24)),true) else ((0,0,0),false)
def frD (f:Nat × Nat × Nat):DV := .p (.agg [.int .i64 f.1,.int .i64 f.2.1,.int .i64 f.2.2])
theorem k_frameOf (s:List UInt8)(hb:s.all bitP=true)(hl:s.length=56):Okv Tryz.prog 224 [.str s] (.tup [frD (frO s).1,.p (.bool (frO s).2)]):=by
 refine ok_D hmix c_impl_frameOf (by simp) ?_
 have h1:=k_numberOf (s.take 4) (take_bits hb) (by rw [List.length_take]; omega)
 have h2:=k_numberOf ((s.drop 4).take 16) (take_bits (drop_bits hb)) (by rw [List.length_take]; omega)
 have h3:=k_numberOf ((s.drop 20).take 24) (take_bits (drop_bits hb)) (by rw [List.length_take]; omega)
 have hf:=k_IsValidFrame (valB (s.take 4)) (valB ((s.drop 4).take 16)) (valB ((s.drop 20).take 24))
 have hs:frO s=if frB (valB (s.take 4)) (valB ((s.drop 4).take 16)) (valB ((s.drop 20).take 24))=true then ((valB (s.take 4),valB ((s.drop 4).take 16),valB ((s.drop 20).take 24)),true) else ((0,0,0),false):=rfl
 generalize frB (valB (s.take 4)) (valB ((s.drop 4).take 16)) (valB ((s.drop 20).take 24))=B at *
 unfold frD
 cases B
 ·rw [if_neg (by decide)] at hs
  rw [hs]
  refine sA ?_
  repeat' (first|refine sA ?_|refine sN ?_|refine rW rfl (h1) ?_|refine rV (h1) ?_|refine rW rfl (h2) ?_|refine rV (h2) ?_|refine rW rfl (h3) ?_|refine rV (h3) ?_|refine rW rfl (hf) ?_|refine rV (hf) ?_|refine sB ?_|refine sX ?_ ?_<;>(try intro h)<;>(try omega)|exact sP|refine rK ?_|exact sQ|refine sD ?_|rfl|exact sE|omega)
  all_goals skip
 ·rw [if_pos rfl] at hs
  rw [hs]
  refine sA ?_
  repeat' (first|refine sA ?_|refine sN ?_|refine rW rfl (h1) ?_|refine rV (h1) ?_|refine rW rfl (h2) ?_|refine rV (h2) ?_|refine rW rfl (h3) ?_|refine rV (h3) ?_|refine rW rfl (hf) ?_|refine rV (hf) ?_|refine sB ?_|refine sX ?_ ?_<;>(try intro h)<;>(try omega)|exact sP|refine rK ?_|exact sQ|refine sD ?_|rfl|exact sE|omega)
  all_goals skip
end Go.Proofs.YtekmkgegjicjgaaGreat
namespace Go.Proofs.YtekmkgegjicjgaaGreat
open Go.Dv Go.Dv.EvL
set_option maxRecDepth 100000
set_option maxHeartbeats 16000000
attribute [local irreducible] Ok Rm Dm Om Sm Xm Cm Gm Hm Tm
theorem k_l5Decode (s:List UInt8)(hb:s.all bitP=true)(hl:s.length=56):Okv Tryz.prog 193 [.str s] (.tup [frD (frO s).1,.p (.bool (frO s).2)]):=by
 refine ok_D hmix c_spec_l5Decode (by simp) ?_
 have h1:=k_l2Number (s.take 4) (take_bits hb) (by rw [List.length_take]; omega)
 have h2:=k_l2Number ((s.drop 4).take 16) (take_bits (drop_bits hb)) (by rw [List.length_take]; omega)
 have h3:=k_l2Number ((s.drop 20).take 24) (take_bits (drop_bits hb)) (by rw [List.length_take]; omega)
 have hf:=k_l5Good (valB (s.take 4)) (valB ((s.drop 4).take 16)) (valB ((s.drop 20).take 24))
 have hs:frO s=if frB (valB (s.take 4)) (valB ((s.drop 4).take 16)) (valB ((s.drop 20).take 24))=true then ((valB (s.take 4),valB ((s.drop 4).take 16),valB ((s.drop 20).take 24)),true) else ((0,0,0),false):=rfl
 generalize frB (valB (s.take 4)) (valB ((s.drop 4).take 16)) (valB ((s.drop 20).take 24))=B at *
 unfold frD
 cases B
 ·rw [if_neg (by decide)] at hs
  rw [hs]
  refine sA ?_
  repeat' (first|refine sA ?_|refine sN ?_|refine rW rfl (h1) ?_|refine rV (h1) ?_|refine rW rfl (h2) ?_|refine rV (h2) ?_|refine rW rfl (h3) ?_|refine rV (h3) ?_|refine rW rfl (hf) ?_|refine rV (hf) ?_|refine sB ?_|refine sX ?_ ?_<;>(try intro h)<;>(try omega)|exact sP|refine rK ?_|exact sQ|refine sD ?_|rfl|exact sE|omega)
  all_goals skip
 ·rw [if_pos rfl] at hs
  rw [hs]
  refine sA ?_
  repeat' (first|refine sA ?_|refine sN ?_|refine rW rfl (h1) ?_|refine rV (h1) ?_|refine rW rfl (h2) ?_|refine rV (h2) ?_|refine rW rfl (h3) ?_|refine rV (h3) ?_|refine rW rfl (hf) ?_|refine rV (hf) ?_|refine sB ?_|refine sX ?_ ?_<;>(try intro h)<;>(try omega)|exact sP|refine rK ?_|exact sQ|refine sD ?_|rfl|exact sE|omega)
  all_goals skip
def hx4 (s:List UInt8):List UInt8:=s.flatMap fun c=>bitsN (hexN c).toNat 4
def hxO (s:List UInt8):List UInt8 × Bool:=if s.length≤16∧s.all hexP=true then (hx4 s,true) else ([],false)
theorem hx4_len : ∀ s,(hx4 s).length=4 * s.length
 | []=>rfl
 | c::s=>by
  have ih:=hx4_len s
  unfold hx4 at ih ⊢
  rw [List.flatMap_cons,List.length_append,ih,bits_len,List.length_cons]
  omega
theorem hx4_bits : ∀ s,(hx4 s).all bitP=true
 | []=>rfl
 | c::s=>by
  have ih:=hx4_bits s
  unfold hx4 at ih ⊢
  rw [List.flatMap_cons,List.all_append,ih,bitsN_bits]
  rfl
theorem hx4_step {s:List UInt8}{i:Nat}(h:i<s.length):hx4 (s.take (i+1))=hx4 (s.take i)++bitsN (hexN (s.getD i default)).toNat 4:=by
 unfold hx4
 rw [take_snoc (d:=default) h,List.flatMap_append]
 simp
theorem hex_lt (c:UInt8):hexN c<16:=by
 rcases hex_at c with h|h
 ·omega
 ·exact h.2.1
theorem hexP_neg {c:UInt8}(h:hexP c=false):hexN c<0:=by
 unfold hexP at h
 simpa using h
theorem hexP_pos {c:UInt8}(h:hexP c=true):0≤hexN c:=by
 unfold hexP at h
 simpa using h
theorem k_BitsFromHex (s:List UInt8)(hl:s.length≤1099511627776):Okv Tryz.prog 201 [.str s] (.tup [.p (.str (hxO s).1),.p (.bool (hxO s).2)]):=by
 refine ok_D hmix c_impl_BitsFromHex (by simp) ?_
 have hs:hxO s=if s.length≤16∧s.all hexP=true then (hx4 s,true) else ([],false):=rfl
 by_cases hle:s.length≤16
 ·refine sA ?_
  repeat' (first|refine sA ?_|refine sN ?_|refine sB ?_|refine sX ?_ ?_<;>(try intro h)<;>(try omega)|exact sP|refine rK ?_|exact sQ|refine sD ?_|rfl|exact sE|omega)
  refine Dm_loop [0,4,5] (fun m ds H' => ∃ i:Nat,i≤s.length∧m=s.length - i∧(s.take i).all hexP=true∧ds=[.p (.str s),.p (.str (hx4 (s.take i))),.p (.int .i64 i)]∧H'=[]) s.length ⟨0,by omega,by omega,rfl,rfl,rfl⟩ ?_
  rintro m ds H' ⟨i,hi,rfl,hp,rfl,rfl⟩ -
  rcases Nat.lt_or_ge i s.length with hlt|hge
  ·have h1:=all_snoc (d:=default) hlt hp
   have h2:=all_no (p:=hexP) (d:=default) hlt
   have h3:=hx4_step hlt
   have h4:=k_hexDigit (s.getD i default)
   have e0:s.getD i 0=s.getD i default:=rfl
   have hlx:=hx4_len (s.take i)
   have hlt2:(s.take i).length=i:=by rw [List.length_take]; omega
   have h16:=hex_lt (s.getD i default)
   cases hx:hexP (s.getD i default)
   ·have hneg:=hexP_neg hx
    rw [if_neg (by rw [h2 hx]; simp)] at hs
    rw [hs]
    repeat' (first|refine sA ?_|refine sN ?_|rw [e0]|refine rW rfl (h4) ?_|refine rV (h4) ?_|refine sB ?_|refine sX ?_ ?_<;>(try intro h)<;>(try omega)|exact sP|refine rK ?_|exact sQ|refine sD ?_|rfl|exact sE|omega)
    all_goals skip
   ·have hpos:=hexP_pos hx
    obtain ⟨n,hn⟩ : ∃ n:Nat,hexN (s.getD i default)=n:=⟨(hexN (s.getD i default)).toNat,by omega⟩
    rw [hn] at h4 h3
    rw [Int.toNat_natCast] at h3
    have h5:=k_bitsOf n 4 (by omega) (by decide)
    have hb4:=bits_len n 4
    obtain ⟨k,hk⟩ : ∃ k,s.length - i=k+1:=⟨s.length - i - 1,by omega⟩
    rw [hk]
    generalize hx4 (s.take i)=Y at *
    repeat' (first|refine sA ?_|refine sN ?_|rw [e0]|refine rW rfl (h4) ?_|refine rV (h4) ?_|refine rW rfl (h5) ?_|refine rV (h5) ?_|refine sB ?_|refine sX ?_ ?_<;>(try intro h)<;>(try omega)|exact sP|refine rK ?_|exact sQ|refine sD ?_|rfl|exact sE|omega)
    refine Xm_inv_n (s.length - (i+1)) (by omega) ⟨i+1,by omega,rfl,by rw [h1,hx],?_,rfl⟩
    rw [h3]
    rfl
  ·obtain rfl:i=s.length:=by omega
   rw [List.take_length] at *
   rw [if_pos ⟨hle,hp⟩] at hs
   rw [hs]
   repeat' (first|refine sA ?_|refine sN ?_|refine sB ?_|refine sX ?_ ?_<;>(try intro h)<;>(try omega)|exact sP|refine rK ?_|exact sQ|refine sD ?_|rfl|exact sE|omega)
   all_goals skip
 ·rw [if_neg (fun h=>hle h.1)] at hs
  rw [hs]
  refine sA ?_
  repeat' (first|refine sA ?_|refine sN ?_|refine sB ?_|refine sX ?_ ?_<;>(try intro h)<;>(try omega)|exact sP|refine rK ?_|exact sQ|refine sD ?_|rfl|exact sE|omega)
  all_goals skip
end Go.Proofs.YtekmkgegjicjgaaGreat
namespace Go.Proofs.YtekmkgegjicjgaaGreat
open Go.Dv Go.Dv.EvL
set_option maxRecDepth 100000
set_option maxHeartbeats 16000000
attribute [local irreducible] Ok Rm Dm Om Sm Xm Cm Gm Hm Tm
def lastT (c:UInt8)(j:Nat):Int:=if 0≤hexN c∧hexN c<j then hexN c else -1
theorem lastT_zero (c:UInt8):lastT c 0 = -1:=by
 unfold lastT
 rw [if_neg (by omega)]
theorem lastT_all (c:UInt8):lastT c 16=hexN c:=by
 unfold lastT
 rcases hex_at c with h|h
 ·rw [h,if_neg (by omega)]
 ·rw [if_pos ⟨h.1,h.2.1⟩]
theorem lastT_hit {c:UInt8}{j:Nat}(hj:j<16)(h:HX.getD j 0=c):lastT c (j+1)=j:=by
 have:=hex_of j hj
 rw [h] at this
 unfold lastT
 rw [this,if_pos ⟨by omega,by omega⟩]
theorem lastT_miss {c:UInt8}{j:Nat}(h:HX.getD j 0≠c):lastT c (j+1)=lastT c j:=by
 unfold lastT
 rcases hex_at c with h1|⟨h1,h2,h3⟩
 ·rw [h1,if_neg (by omega),if_neg (by omega)]
 ·have:hexN c≠j:=fun e=>h (by rw [e] at h3; exact h3)
  by_cases h4:hexN c<j
  ·rw [if_pos ⟨h1,by omega⟩,if_pos ⟨h1,h4⟩]
  ·rw [if_neg (by omega),if_neg (by omega)]
theorem k_l2FromHex (s:List UInt8)(hl:s.length≤1099511627776):Okv Tryz.prog 153 [.str s] (.tup [.p (.str (hxO s).1),.p (.bool (hxO s).2)]):=by
 refine ok_D hmix c_spec_l2FromHex (by simp) ?_
 have hs:hxO s=if s.length≤16∧s.all hexP=true then (hx4 s,true) else ([],false):=rfl
 have hXl:HX.length=16:=rfl
 by_cases hle:s.length≤16
 ·refine sA ?_
  repeat' (first|refine sA ?_|refine sN ?_|refine sB ?_|refine sX ?_ ?_<;>(try intro h)<;>(try omega)|exact sP|refine rK ?_|exact sQ|refine sD ?_|rfl|exact sE|omega)
  refine Dm_loop [0,4,5] (fun m ds H' => ∃ i:Nat,i≤s.length∧m=s.length - i∧(s.take i).all hexP=true∧ds=[.p (.str s),.p (.str (hx4 (s.take i))),.p (.int .i64 i)]∧H'=[]) s.length ⟨0,by omega,by omega,rfl,rfl,rfl⟩ ?_
  rintro m ds H' ⟨i,hi,rfl,hp,rfl,rfl⟩ -
  rcases Nat.lt_or_ge i s.length with hlt|hge
  ·have h1:=all_snoc (d:=default) hlt hp
   have h2:=all_no (p:=hexP) (d:=default) hlt
   have h3:=hx4_step hlt
   have e0:s.getD i 0=s.getD i default:=rfl
   have hlx:=hx4_len (s.take i)
   have hlt2:(s.take i).length=i:=by rw [List.length_take]; omega
   have h16:=hex_lt (s.getD i default)
   obtain ⟨k,hk⟩ : ∃ k,s.length - i=k+1:=⟨s.length - i - 1,by omega⟩
   rw [hk]
   generalize hY:hx4 (s.take i)=Y at *
   repeat' (first|refine sA ?_|refine sN ?_|refine sB ?_|refine sX ?_ ?_<;>(try intro h)<;>(try omega)|exact sP|refine rK ?_|exact sQ|refine sD ?_|rfl|exact sE|omega)
   refine Dm_loop [0,4,5,6,7] (fun m ds H' => ∃ j:Nat,j≤16∧m=16 - j∧ds=[.p (.str s),.p (.str Y),.p (.int .i64 i),.p (.int .i64 (lastT (s.getD i default) j)),.p (.int .i64 j)]∧H'=[]) 16 ⟨0,by omega,by omega,by rw [lastT_zero]; rfl,rfl⟩ ?_
   rintro m ds H' ⟨j,hj,rfl,rfl,rfl⟩ -
   rw [show ([48,49,50,51,52,53,54,55,56,57,65,66,67,68,69,70]:List UInt8)=HX from rfl]
   have h7:=fun h:j<16=>lastT_hit (c:=s.getD i default) h
   have h8:=lastT_miss (c:=s.getD i default) (j:=j)
   have h9:=lastT_all (s.getD i default)
   have e1:HX.getD j 0=HX.getD j default:=rfl
   rcases Nat.lt_or_ge j 16 with hj2|hj2
   ·obtain ⟨k2,hk2⟩ : ∃ k2,16 - j=k2+1:=⟨16 - j - 1,by omega⟩
    rw [hk2]
    generalize hX:HX=X at *
    repeat' (first|refine sA ?_|refine sN ?_|rw [e0]|rw [e1]|refine sB ?_|refine sX ?_ ?_<;>(try intro h)<;>(try omega)|exact sP|refine rK ?_|exact sQ|refine sD ?_|rfl|exact sE|omega)
    ·refine Xm_inv_n (16 - (j+1)) (by omega) ⟨j+1,by omega,rfl,?_,rfl⟩
     rw [h7 hj2 (u8_eq.1 h)]
     rfl
    ·refine Xm_inv_n (16 - (j+1)) (by omega) ⟨j+1,by omega,rfl,?_,rfl⟩
     rw [h8 (fun e=>h (u8_eq.2 e))]
     rfl
   ·obtain rfl:j=16:=by omega
    rw [h9]
    cases hx:hexP (s.getD i default)
    ·have hneg:=hexP_neg hx
     rw [if_neg (by rw [h2 hx]; simp)] at hs
     rw [hs]
     repeat' (first|refine sA ?_|refine sN ?_|rw [e0]|refine sB ?_|refine sX ?_ ?_<;>(try intro h)<;>(try omega)|exact sP|refine rK ?_|exact sQ|refine sD ?_|rfl|exact sE|omega)
     all_goals skip
    ·have hpos:=hexP_pos hx
     obtain ⟨n,hn⟩ : ∃ n:Nat,hexN (s.getD i default)=n:=⟨(hexN (s.getD i default)).toNat,by omega⟩
     rw [hn] at h3 ⊢
     rw [Int.toNat_natCast] at h3
     have h5:=k_l2Of n 4 (by omega) (by decide)
     have hb4:=bits_len n 4
     repeat' (first|refine sA ?_|refine sN ?_|rw [e0]|refine rW rfl (h5) ?_|refine rV (h5) ?_|refine sB ?_|refine sX ?_ ?_<;>(try intro h)<;>(try omega)|exact sP|refine rK ?_|exact sQ|refine sD ?_|rfl|exact sE|omega)
     refine Xm_inv_n (s.length - (i+1)) (by omega) ⟨i+1,by omega,rfl,by rw [h1,hx],?_,rfl⟩
     rw [h3]
     rfl
  ·obtain rfl:i=s.length:=by omega
   rw [List.take_length] at *
   rw [if_pos ⟨hle,hp⟩] at hs
   rw [hs]
   repeat' (first|refine sA ?_|refine sN ?_|refine sB ?_|refine sX ?_ ?_<;>(try intro h)<;>(try omega)|exact sP|refine rK ?_|exact sQ|refine sD ?_|rfl|exact sE|omega)
   all_goals skip
 ·rw [if_neg (fun h=>hle h.1)] at hs
  rw [hs]
  refine sA ?_
  repeat' (first|refine sA ?_|refine sN ?_|refine sB ?_|refine sX ?_ ?_<;>(try intro h)<;>(try omega)|exact sP|refine rK ?_|exact sQ|refine sD ?_|rfl|exact sE|omega)
  all_goals skip
end Go.Proofs.YtekmkgegjicjgaaGreat
namespace Go.Proofs.YtekmkgegjicjgaaGreat
open Go.Dv Go.Dv.EvL
set_option maxRecDepth 100000
set_option maxHeartbeats 16000000
attribute [local irreducible] Ok Rm Dm Om Sm Xm Cm Gm Hm Tm
theorem repK_ok {s:List UInt8}(hb:s.all bitP=true) : ∀ k,k≤s.length→(repK s k).2.2=true→0≤(repK s k).2.1∧(repK s k).1.all bitP=true∧(repK s k).1.length=s.length
 | 0,_,h=>by cases h
 | k+1,hk,h=>by
  unfold repK at h ⊢
  by_cases hf:sndB (flipL s (s.length - (k+1)))=true
  ·rw [if_pos hf]
   exact ⟨Int.natCast_nonneg _,flip_bits hb (by omega),flip_len⟩
  ·rw [if_neg hf] at h ⊢
   exact repK_ok hb k (by omega) h
theorem repB_ok {s:List UInt8}(hb:s.all bitP=true)(h:(repB s).2.2=true):(repB s).1.all bitP=true∧(repB s).1.length=s.length:=by
 unfold repB at h ⊢
 by_cases hf:sndB s=true
 ·rw [if_pos hf]
  exact ⟨hb,rfl⟩
 ·rw [if_neg hf] at h ⊢
  exact (repK_ok hb _ (Nat.le_refl _) h).2
theorem frO_no {s:List UInt8}(h:(frO s).2=false):frO s=((0,0,0),false):=by
 unfold frO at h ⊢
 by_cases hf:frB (valB (s.take 4)) (valB ((s.drop 4).take 16)) (valB ((s.drop 20).take 24))=true
 ·rw [if_pos hf] at h
  cases h
 ·rw [if_neg hf]
theorem hxO_bits (s:List UInt8):(hxO s).1.all bitP=true:=by
 unfold hxO
 by_cases h:s.length≤16∧s.all hexP=true
 ·rw [if_pos h]
  exact hx4_bits s
 ·rw [if_neg h]
  rfl
def rpfO (s:List UInt8):(Nat × Nat × Nat) × Int × Bool :=
 if ((hxO s).2=true∧(hxO s).1.length=56)∧(repB (hxO s).1).2.2=true∧(frO (repB (hxO s).1).1).2=true then ((frO (repB (hxO s).1).1).1,(repB (hxO s).1).2.1,true) else ((0,0,0),0,false)
def decO (s:List UInt8):(Nat × Nat × Nat) × Bool :=
 if ((hxO s).2=true∧(hxO s).1.length=56)∧sndB (hxO s).1=true then frO (hxO s).1 else ((0,0,0),false)
theorem dec_rpf (s:List UInt8):decO s=if (rpfO s).2.2=true∧(rpfO s).2.1<0 then ((rpfO s).1,true) else ((0,0,0),false):=by
 have hb:=hxO_bits s
 have hp:rpfO s=if ((hxO s).2=true∧(hxO s).1.length=56)∧(repB (hxO s).1).2.2=true∧(frO (repB (hxO s).1).1).2=true then ((frO (repB (hxO s).1).1).1,(repB (hxO s).1).2.1,true) else ((0,0,0),0,false):=rfl
 unfold decO
 generalize (hxO s).1=b at *
 by_cases h1:(hxO s).2=true∧b.length=56
 ·by_cases h2:sndB b=true
  ·have hr:repB b=(b,-1,true):=by unfold repB; rw [if_pos h2]
   rw [hr] at hp
   rw [if_pos ⟨h1,h2⟩]
   cases h3:(frO b).2
   ·rw [if_neg (by simp [h3])] at hp
    rw [hp,frO_no h3,if_neg (by simp)]
   ·rw [if_pos ⟨h1,rfl,h3⟩] at hp
    rw [hp,if_pos ⟨rfl,by show (-1:Int)<0; omega⟩,← h3]
  ·rw [if_neg (fun h=>h2 h.2)]
   have hr:repB b=repK b b.length:=by unfold repB; rw [if_neg h2]
   rw [hr] at hp
   by_cases h3:((hxO s).2=true∧b.length=56)∧(repK b b.length).2.2=true∧(frO (repK b b.length).1).2=true
   ·have h4:=(repK_ok hb b.length (Nat.le_refl _) h3.2.1).1
    rw [if_pos h3] at hp
    rw [hp,if_neg (fun h=>by have h5:(repK b b.length).2.1<0:=h.2; omega)]
   ·rw [if_neg h3] at hp
    rw [hp,if_neg (by simp)]
 ·rw [if_neg (fun h=>h1 h.1)] at hp
  rw [if_neg (fun h=>h1 h.1),hp,if_neg (by simp)]
theorem k_RepairFrame (s:List UInt8)(hl:s.length≤1099511627776):Okv Tryz.prog 207 [.str s] (.tup [frD (rpfO s).1,.p (.int .i64 (rpfO s).2.1),.p (.bool (rpfO s).2.2)]):=by
 refine ok_D hmix c_impl_RepairFrame (by simp) ?_
 have h1:=k_BitsFromHex s hl
 have hb:=hxO_bits s
 have hs:rpfO s=if ((hxO s).2=true∧(hxO s).1.length=56)∧(repB (hxO s).1).2.2=true∧(frO (repB (hxO s).1).1).2=true then ((frO (repB (hxO s).1).1).1,(repB (hxO s).1).2.1,true) else ((0,0,0),0,false):=rfl
 generalize (hxO s).1=b at *
 cases h2:(hxO s).2
 ·rw [if_neg (by rw [h2]; simp)] at hs
  rw [h2] at h1
  rw [hs]
  unfold frD
  refine sA ?_
  repeat' (first|refine sA ?_|refine sN ?_|refine rW rfl (h1) ?_|refine rV (h1) ?_|refine sB ?_|refine sX ?_ ?_<;>(try intro h)<;>(try omega)|exact sP|refine rK ?_|exact sQ|refine sD ?_|rfl|exact sE|omega)
  all_goals skip
 ·rw [h2] at h1
  by_cases h3:b.length=56
  ·have h4:=k_RepairBit b hb (by omega) (by omega)
   have hok:=repB_ok hb
   cases h5:(repB b).2.2
   ·rw [if_neg (by rw [h5]; simp)] at hs
    rw [h5] at h4
    rw [hs]
    unfold frD
    refine sA ?_
    repeat' (first|refine sA ?_|refine sN ?_|refine rW rfl (h1) ?_|refine rV (h1) ?_|refine rW rfl (h4) ?_|refine rV (h4) ?_|refine sB ?_|refine sX ?_ ?_<;>(try intro h)<;>(try omega)|exact sP|refine rK ?_|exact sQ|refine sD ?_|rfl|exact sE|omega)
    all_goals skip
   ·obtain ⟨hc,hcl⟩:=hok h5
    rw [h5] at h4
    have h6:=k_frameOf (repB b).1 hc (by omega)
    generalize (repB b).1=c at *
    generalize hj:(repB b).2.1=j at *
    cases h7:(frO c).2
    ·rw [if_neg (by rw [h7]; simp)] at hs
     rw [h7] at h6
     rw [hs]
     unfold frD at *
     refine sA ?_
     repeat' (first|refine sA ?_|refine sN ?_|refine rW rfl (h1) ?_|refine rV (h1) ?_|refine rW rfl (h4) ?_|refine rV (h4) ?_|refine rW rfl (h6) ?_|refine rV (h6) ?_|refine sB ?_|refine sX ?_ ?_<;>(try intro h)<;>(try omega)|exact sP|refine rK ?_|exact sQ|refine sD ?_|rfl|exact sE|omega)
     all_goals skip
    ·rw [if_pos ⟨⟨h2,h3⟩,h5,h7⟩] at hs
     rw [h7] at h6
     rw [hs]
     unfold frD at *
     refine sA ?_
     repeat' (first|refine sA ?_|refine sN ?_|refine rW rfl (h1) ?_|refine rV (h1) ?_|refine rW rfl (h4) ?_|refine rV (h4) ?_|refine rW rfl (h6) ?_|refine rV (h6) ?_|refine sB ?_|refine sX ?_ ?_<;>(try intro h)<;>(try omega)|exact sP|refine rK ?_|exact sQ|refine sD ?_|rfl|exact sE|omega)
     all_goals skip
  ·rw [if_neg (fun h=>h3 h.1.2)] at hs
   rw [hs]
   unfold frD
   refine sA ?_
   repeat' (first|refine sA ?_|refine sN ?_|refine rW rfl (h1) ?_|refine rV (h1) ?_|refine sB ?_|refine sX ?_ ?_<;>(try intro h)<;>(try omega)|exact sP|refine rK ?_|exact sQ|refine sD ?_|rfl|exact sE|omega)
   all_goals skip
end Go.Proofs.YtekmkgegjicjgaaGreat
