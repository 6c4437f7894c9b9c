import Derived.Test.YtekmkgegjicjgaaGreatZBas
import Derived.Test.YtekmkgegjicjgaaGreatZFrmA
import Derived.Test.YtekmkgegjicjgaaGreatZNms
namespace Go.Proofs.YtekmkgegjicjgaaGreat
open Go.Dv Go.Dv.EvL
set_option maxRecDepth 100000
set_option maxHeartbeats 16000000
attribute [local irreducible] Ok Rm Dm Om Sm Xm Cm Gm Hm Tm
theorem flip_cut {s:List UInt8}{i:Nat}(hb:s.all bitP=true)(hi:i<s.length):flipL s i=s.take i++[if s.getD i default=49 then 48 else 49]++s.drop (i+1):=by
 unfold flipL
 have h1:=List.all_eq_true.1 hb _ (getD_mem (d:=default) hi)
 have h2:(97 - s.getD i default)=if s.getD i default=49 then 48 else 49:=by
  generalize s.getD i default=c at *
  unfold bitP at h1
  simp only [Bool.or_eq_true,decide_eq_true_eq] at h1
  rcases h1 with rfl|rfl<;>decide
 rw [h2,List.set_eq_take_append_cons_drop,if_pos hi]
 simp
theorem cut00 {s:List UInt8}{n:Nat}:cutL s 0 n=s.take n:=by simp [cutL]
theorem cutE {s:List UInt8}{n:Nat}:cutL s n s.length=s.drop n:=List.take_of_length_le (by simp)
theorem k_l2Flip (s:List UInt8)(i:Nat)(hb:s.all bitP=true)(hi:i<s.length)(hl:s.length≤900):Okv Tryz.prog 179 [.str s,.int .i64 i] (.p (.str (flipL s i))):=by
 refine ok_D hmix c_spec_l2Flip (by simp) ?_
 have h49 : ∀ c:UInt8,(c.toNat:Int)=49↔c=49:=fun c=>u8_lit (n:=49) (by omega)
 have hc:=flip_cut hb hi
 have e0:s.getD i 0=s.getD i default:=rfl
 have hd:(s.drop (i+1)).take (s.length - (i+1))=s.drop (i+1):=List.take_of_length_le (by rw [List.length_drop]; omega)
 rw [hc]
 by_cases h:s.getD i default=49
 ·have h2:=(h49 _).2 h
  rw [if_pos h]
  refine sA ?_
  repeat' (first|refine sA ?_|refine sN ?_|rw [e0]|rw [h2]|rw [cutE]|rw [cut00]|refine sB ?_|refine sX ?_ ?_<;>(try intro h)<;>(try omega)|exact sP|refine rK ?_|exact sQ|refine sD ?_|rfl|exact sE|omega)
  all_goals skip
 ·have h2 : ¬ ((s.getD i default).toNat:Int)=49:=fun e=>h ((h49 _).1 e)
  rw [if_neg h]
  refine sA ?_
  repeat' (first|refine sA ?_|refine sN ?_|rw [e0]|rw [cutE]|rw [cut00]|refine sB ?_|refine sX ?_ ?_<;>(try intro h)<;>(try omega)|exact sP|refine rK ?_|exact sQ|refine sD ?_|rfl|exact sE|omega)
  all_goals skip
theorem k_l4Repair (s:List UInt8)(hb:s.all bitP=true)(h1:12≤s.length)(hl:s.length≤64):Okv Tryz.prog 192 [.str s] (.tup [.p (.str (repB s).1),.p (.int .i64 (repB s).2.1),.p (.bool (repB s).2.2)]):=by
 refine ok_D hmix c_spec_l4Repair (by simp) ?_
 have h3:=k_l4Syndrome s hb h1 (by omega)
 have hs:repB s=if sndB s=true then (s,-1,true) else repK s s.length:=rfl
 by_cases h0:synN s=0
 ·rw [if_pos (by simp [sndB,h0])] at hs
  rw [h0] at h3
  rw [hs]
  refine sA ?_
  repeat' (first|refine sA ?_|refine sN ?_|refine rW rfl (h3) ?_|refine rV (h3) ?_|refine sB ?_|refine sX ?_ ?_<;>(try intro h)<;>(try omega)|exact sP|refine rK ?_|exact sQ|refine sD ?_|rfl|exact sE|omega)
  all_goals skip
 ·rw [if_neg (by simp [sndB,h0])] at hs
  rw [hs]
  refine sA ?_
  repeat' (first|refine sA ?_|refine sN ?_|refine rW rfl (h3) ?_|refine rV (h3) ?_|refine sB ?_|refine sX ?_ ?_<;>(try intro h)<;>(try omega)|exact sP|refine rK ?_|exact sQ|refine sD ?_|rfl|exact sE|omega)
  refine Dm_loop [0,5] (fun m ds H' => ∃ i:Nat,i≤s.length∧m=s.length - i∧repK s s.length=repK s (s.length - i)∧ds=[.p (.str s),.p (.int .i64 i)]∧H'=[]) s.length ⟨0,by omega,by omega,rfl,rfl,rfl⟩ ?_
  rintro m ds H' ⟨i,hi,rfl,he,rfl,rfl⟩ -
  rcases Nat.lt_or_ge i s.length with hlt|hge
  ·have h4:=k_l2Flip s i hb hlt (by omega)
   have h5:=k_l4Syndrome (flipL s i) (flip_bits hb hlt) (by rw [flip_len]; omega) (by rw [flip_len]; omega)
   obtain ⟨k,hk⟩ : ∃ k,s.length - i=k+1:=⟨s.length - i - 1,by omega⟩
   have hr:repK s (k+1)=if sndB (flipL s i)=true then (flipL s i,(i:Int),true) else repK s k:=by
    rw [repK,show s.length - (k+1)=i from by omega]
   rw [hk] at he ⊢
   rw [hr] at he
   by_cases hf:synN (flipL s i)=0
   ·rw [if_pos (by simp [sndB,hf])] at he
    rw [hf] at h5
    rw [he]
    repeat' (first|refine sA ?_|refine sN ?_|refine rW rfl (h4) ?_|refine rV (h4) ?_|refine rW rfl (h5) ?_|refine rV (h5) ?_|refine sB ?_|refine sX ?_ ?_<;>(try intro h)<;>(try omega)|exact sP|refine rK ?_|exact sQ|refine sD ?_|rfl|exact sE|omega)
    all_goals skip
   ·rw [if_neg (by simp [sndB,hf])] at he
    repeat' (first|refine sA ?_|refine sN ?_|refine rW rfl (h4) ?_|refine rV (h4) ?_|refine rW rfl (h5) ?_|refine rV (h5) ?_|refine sB ?_|refine sX ?_ ?_<;>(try intro h)<;>(try omega)|exact sP|refine rK ?_|exact sQ|refine sD ?_|rfl|exact sE|omega)
    refine Xm_inv_n (s.length - (i+1)) (by omega) ⟨i+1,by omega,rfl,?_,rfl,rfl⟩
    rw [he,show s.length - (i+1)=k from by omega]
  ·obtain rfl:i=s.length:=by omega
   rw [Nat.sub_self,repK] at he
   rw [he]
   repeat' (first|refine sA ?_|refine sN ?_|refine sB ?_|refine sX ?_ ?_<;>(try intro h)<;>(try omega)|exact sP|refine rK ?_|exact sQ|refine sD ?_|rfl|exact sE|omega)
   all_goals skip
theorem k_l5Repair (s:List UInt8)(hl:s.length≤1099511627776):Okv Tryz.prog 152 [.str s] (.tup [frD (rpfO s).1,.p (.int .i64 (rpfO s).2.1),.p (.bool (rpfO s).2.2)]):=by
 refine ok_D hmix c_spec_l5Repair (by simp) ?_
 have h1:=k_l2FromHex s hl
 have hb:=hxO_bits s
 have hs:rpfO s=if ((hxO s).2=true∧(hxO s).1.length=56)∧(repB (hxO s).1).2.2=true∧(frO (repB (hxO s).1).1).2=true then ((frO (repB (hxO s).1).1).1,(repB (hxO s).1).2.1,true) else ((0,0,0),0,false):=rfl
 generalize (hxO s).1=b at *
 cases h2:(hxO s).2
 ·rw [if_neg (by rw [h2]; simp)] at hs
  rw [h2] at h1
  rw [hs]
  unfold frD
  refine sA ?_
  repeat' (first|refine sA ?_|refine sN ?_|refine rW rfl (h1) ?_|refine rV (h1) ?_|refine sB ?_|refine sX ?_ ?_<;>(try intro h)<;>(try omega)|exact sP|refine rK ?_|exact sQ|refine sD ?_|rfl|exact sE|omega)
  all_goals skip
 ·rw [h2] at h1
  by_cases h3:b.length=56
  ·have h4:=k_l4Repair b hb (by omega) (by omega)
   have hok:=repB_ok hb
   cases h5:(repB b).2.2
   ·rw [if_neg (by rw [h5]; simp)] at hs
    rw [h5] at h4
    rw [hs]
    unfold frD
    refine sA ?_
    repeat' (first|refine sA ?_|refine sN ?_|refine rW rfl (h1) ?_|refine rV (h1) ?_|refine rW rfl (h4) ?_|refine rV (h4) ?_|refine sB ?_|refine sX ?_ ?_<;>(try intro h)<;>(try omega)|exact sP|refine rK ?_|exact sQ|refine sD ?_|rfl|exact sE|omega)
    all_goals skip
   ·obtain ⟨hc,hcl⟩:=hok h5
    rw [h5] at h4
    have h6:=k_l5Decode (repB b).1 hc (by omega)
    generalize (repB b).1=c at *
    generalize hj:(repB b).2.1=j at *
    cases h7:(frO c).2
    ·rw [if_neg (by rw [h7]; simp)] at hs
     rw [h7] at h6
     rw [hs]
     unfold frD at *
     refine sA ?_
     repeat' (first|refine sA ?_|refine sN ?_|refine rW rfl (h1) ?_|refine rV (h1) ?_|refine rW rfl (h4) ?_|refine rV (h4) ?_|refine rW rfl (h6) ?_|refine rV (h6) ?_|refine sB ?_|refine sX ?_ ?_<;>(try intro h)<;>(try omega)|exact sP|refine rK ?_|exact sQ|refine sD ?_|rfl|exact sE|omega)
     all_goals skip
    ·rw [if_pos ⟨⟨h2,h3⟩,h5,h7⟩] at hs
     rw [h7] at h6
     rw [hs]
     unfold frD at *
     refine sA ?_
     repeat' (first|refine sA ?_|refine sN ?_|refine rW rfl (h1) ?_|refine rV (h1) ?_|refine rW rfl (h4) ?_|refine rV (h4) ?_|refine rW rfl (h6) ?_|refine rV (h6) ?_|refine sB ?_|refine sX ?_ ?_<;>(try intro h)<;>(try omega)|exact sP|refine rK ?_|exact sQ|refine sD ?_|rfl|exact sE|omega)
     all_goals skip
  ·rw [if_neg (fun h=>h3 h.1.2)] at hs
   rw [hs]
   unfold frD
   refine sA ?_
   repeat' (first|refine sA ?_|refine sN ?_|refine rW rfl (h1) ?_|refine rV (h1) ?_|refine sB ?_|refine sX ?_ ?_<;>(try intro h)<;>(try omega)|exact sP|refine rK ?_|exact sQ|refine sD ?_|rfl|exact sE|omega)
   all_goals skip
end Go.Proofs.YtekmkgegjicjgaaGreat
namespace Go.Proofs.YtekmkgegjicjgaaGreat
open Go.Dv Go.Dv.EvL
set_option maxRecDepth 100000
set_option maxHeartbeats 16000000
attribute [local irreducible] Ok Rm Dm Om Sm Xm Cm Gm Hm Tm
def hxTo (s:List UInt8):Nat→List UInt8
 | 0=>[]
 | i+1=>hxTo s i++[HX.getD (valB ((s.drop (4 * i)).take 4)) 0]
theorem hxTo_len (s:List UInt8) : ∀ i,(hxTo s i).length=i
 | 0=>rfl
 | i+1=>by rw [hxTo,List.length_append,hxTo_len s i]; rfl
theorem hex_cut : ∀ n:Nat,n<16→cutL HX n (n+1)=[HX.getD n 0]:=by decide +kernel
theorem valB_bits4 : ∀ n:Nat,n<16→valB (bitsN n 4)=n:=by decide +kernel
theorem k_hexOf (s:List UInt8)(k:Nat)(hb:s.all bitP=true)(hk:s.length=4 * k)(hl:s.length≤900):Okv Tryz.prog 205 [.str s] (.p (.str (hxTo s k))):=by
 refine ok_D hmix c_impl_hexOf (by simp) ?_
 refine sA ?_
 refine Dm_loop [0,3,4] (fun m ds H' => ∃ i:Nat,i≤k∧m=k - i∧ds=[.p (.str s),.p (.str (hxTo s i)),.p (.int .i64 (4 * i:Nat))]∧H'=[]) k ⟨0,by omega,by omega,rfl,rfl⟩ ?_
 rintro m ds H' ⟨i,hi,rfl,rfl,rfl⟩ -
 have hn:=hxTo_len s i
 have hst:hxTo s (i+1)=hxTo s i++[HX.getD (valB ((s.drop (4 * i)).take 4)) 0]:=rfl
 have h1:=k_numberOf ((s.drop (4 * i)).take 4) (take_bits (drop_bits hb)) (by rw [List.length_take]; omega)
 rcases Nat.lt_or_ge i k with hlt|hge
 ·have h2:=valB_lt 4 ((s.drop (4 * i)).take 4) (by rw [List.length_take,List.length_drop]; omega) (take_bits (drop_bits hb))
  have h3:=hex_cut _ h2
  rw [show ([48,49,50,51,52,53,54,55,56,57,65,66,67,68,69,70]:List UInt8)=HX from rfl]
  have hX:HX.length=16:=rfl
  have h4:((4 * i:Nat):Int)+4=((4 * (i+1):Nat):Int):=by omega
  have h5:cutL s (4 * i) (((4 * i:Nat):Int)+4).toNat=(s.drop (4 * i)).take 4:=by rw [show (((4 * i:Nat):Int)+4).toNat=4 * i+4 from by omega]; unfold cutL; rw [show 4 * i+4 - 4 * i=4 from by omega]
  generalize valB ((s.drop (4 * i)).take 4)=v at *
  generalize HX=X at *
  generalize hxTo s i=Y at *
  repeat' (first|refine sA ?_|refine sN ?_|refine rW rfl (h1) ?_|refine rV (h1) ?_|rw [h3]|rw [h5]|refine sB ?_|refine sX ?_ ?_<;>(try intro h)<;>(try omega)|exact sP|refine rK ?_|exact sQ|refine sD ?_|rfl|exact sE|omega)
  all_goals first
   | (refine Xm_inv_n (k - (i+1)) (by omega) ⟨i+1,by omega,rfl,?_,rfl⟩
      rw [hst,← h4]; rfl)
   | skip
 ·obtain rfl:i=k:=by omega
  generalize hxTo s i=Y at *
  repeat' (first|refine sA ?_|refine sN ?_|refine sB ?_|refine sX ?_ ?_<;>(try intro h)<;>(try omega)|exact sP|refine rK ?_|exact sQ|refine sD ?_|rfl|exact sE|omega)
  all_goals skip
theorem k_l2Hex (s:List UInt8)(k:Nat)(hb:s.all bitP=true)(hk:s.length=4 * k)(hl:s.length≤900):Okv Tryz.prog 157 [.str s] (.p (.str (hxTo s k))):=by
 refine ok_D hmix c_spec_l2Hex (by simp) ?_
 refine sA ?_
 refine Dm_loop [0,3,4] (fun m ds H' => ∃ i:Nat,i≤k∧m=k - i∧ds=[.p (.str s),.p (.str (hxTo s i)),.p (.int .i64 (4 * i:Nat))]∧H'=[]) k ⟨0,by omega,by omega,rfl,rfl⟩ ?_
 rintro m ds H' ⟨i,hi,rfl,rfl,rfl⟩ -
 have hn:=hxTo_len s i
 have hst:hxTo s (i+1)=hxTo s i++[HX.getD (valB ((s.drop (4 * i)).take 4)) 0]:=rfl
 have h1:=k_l2Number ((s.drop (4 * i)).take 4) (take_bits (drop_bits hb)) (by rw [List.length_take]; omega)
 rcases Nat.lt_or_ge i k with hlt|hge
 ·have h2:=valB_lt 4 ((s.drop (4 * i)).take 4) (by rw [List.length_take,List.length_drop]; omega) (take_bits (drop_bits hb))
  have h3:=hex_cut _ h2
  rw [show ([48,49,50,51,52,53,54,55,56,57,65,66,67,68,69,70]:List UInt8)=HX from rfl]
  have hX:HX.length=16:=rfl
  have h4:((4 * i:Nat):Int)+4=((4 * (i+1):Nat):Int):=by omega
  have h5:cutL s (4 * i) (((4 * i:Nat):Int)+4).toNat=(s.drop (4 * i)).take 4:=by rw [show (((4 * i:Nat):Int)+4).toNat=4 * i+4 from by omega]; unfold cutL; rw [show 4 * i+4 - 4 * i=4 from by omega]
  generalize valB ((s.drop (4 * i)).take 4)=v at *
  generalize HX=X at *
  generalize hxTo s i=Y at *
  repeat' (first|refine sA ?_|refine sN ?_|refine rW rfl (h1) ?_|refine rV (h1) ?_|rw [h3]|rw [h5]|refine sB ?_|refine sX ?_ ?_<;>(try intro h)<;>(try omega)|exact sP|refine rK ?_|exact sQ|refine sD ?_|rfl|exact sE|omega)
  all_goals first
   | (refine Xm_inv_n (k - (i+1)) (by omega) ⟨i+1,by omega,rfl,?_,rfl⟩
      rw [hst,← h4]; rfl)
   | skip
 ·obtain rfl:i=k:=by omega
  generalize hxTo s i=Y at *
  repeat' (first|refine sA ?_|refine sN ?_|refine sB ?_|refine sX ?_ ?_<;>(try intro h)<;>(try omega)|exact sP|refine rK ?_|exact sQ|refine sD ?_|rfl|exact sE|omega)
  all_goals skip
def fbS (f:Nat × Nat × Nat):List UInt8:=bitsN f.1 4++bitsN f.2.1 16++bitsN f.2.2 24
def fbT (f:Nat × Nat × Nat):List UInt8:=fbS f++bitsN (parN (fbS f)) 12
theorem fbS_len (f:Nat × Nat × Nat):(fbS f).length=44:=by simp [fbS,bits_len]
theorem fbS_bits (f:Nat × Nat × Nat):(fbS f).all bitP=true:=by simp only [fbS,List.all_append,bitsN_bits,Bool.and_self]
theorem fbT_len (f:Nat × Nat × Nat):(fbT f).length=56:=by simp [fbT,fbS_len,bits_len]
theorem fbT_bits (f:Nat × Nat × Nat):(fbT f).all bitP=true:=by simp only [fbT,List.all_append,fbS_bits,bitsN_bits,Bool.and_self]
def frF (f:Nat × Nat × Nat):Bool:=frB f.1 f.2.1 f.2.2
theorem frF_in {f:Nat × Nat × Nat}(h:frF f=true):(1≤f.1∧f.1≤4)∧(1≤f.2.1∧f.2.1≤65535)∧f.2.2≤16777215:=by
 unfold frF frB addrB at h
 simp only [Bool.and_eq_true,decide_eq_true_eq] at h
 omega
theorem k_frameBits (f:Nat × Nat × Nat)(h:frF f=true):Okv Tryz.prog 206 [.agg [.int .i64 f.1,.int .i64 f.2.1,.int .i64 f.2.2]] (.p (.str (fbT f))):=by
 refine ok_D hmix c_impl_frameBits (by simp) ?_
 obtain ⟨h1,h2,h3⟩:=frF_in h
 have a1:=k_bitsOf f.1 4 (by omega) (by omega)
 have a2:=k_bitsOf f.2.1 16 (by omega) (by omega)
 have a3:=k_bitsOf f.2.2 24 (by omega) (by omega)
 have b1:=bits_len f.1 4
 have b2:=bits_len f.2.1 16
 have b3:=bits_len f.2.2 24
 have a4:=k_parityOf (fbS f) (fbS_bits f) (by rw [fbS_len]; omega)
 have b4:=bits_len (parN (fbS f)) 12
 have hT:fbT f=fbS f++bitsN (parN (fbS f)) 12:=rfl
 rw [hT]
 generalize bitsN (parN (fbS f)) 12=Z at *
 have hS:fbS f=bitsN f.1 4++bitsN f.2.1 16++bitsN f.2.2 24:=rfl
 rw [hS] at a4 ⊢
 generalize bitsN f.1 4=X1 at *
 generalize bitsN f.2.1 16=X2 at *
 generalize bitsN f.2.2 24=X3 at *
 refine sA ?_
 repeat' (first|refine sA ?_|refine sN ?_|refine rW rfl (a1) ?_|refine rV (a1) ?_|refine rW rfl (a2) ?_|refine rV (a2) ?_|refine rW rfl (a3) ?_|refine rV (a3) ?_|refine rW rfl (a4) ?_|refine rV (a4) ?_|refine sB ?_|refine sX ?_ ?_<;>(try intro h)<;>(try omega)|exact sP|refine rK ?_|exact sQ|refine sD ?_|rfl|exact sE|omega)
 all_goals skip
theorem k_l4Add (s:List UInt8)(hl:s.length≤900):Okv Tryz.prog 194 [.str s] (.p (.str (s++bitsN (parN s) 12))):=by
 refine ok_D hmix c_spec_l4Add (by simp) ?_
 have h1:=k_l4Parity s (by omega)
 have h2:=k_l2Of (parN s) 12 (by have:=parN_lt s; omega) (by omega)
 have h3:=bits_len (parN s) 12
 generalize bitsN (parN s) 12=Z at *
 refine sA ?_
 repeat' (first|refine sA ?_|refine sN ?_|refine rW rfl (h1) ?_|refine rV (h1) ?_|refine rW rfl (h2) ?_|refine rV (h2) ?_|refine sB ?_|refine sX ?_ ?_<;>(try intro h)<;>(try omega)|exact sP|refine rK ?_|exact sQ|refine sD ?_|rfl|exact sE|omega)
 all_goals skip
theorem k_l5Bits (f:Nat × Nat × Nat)(h:frF f=true):Okv Tryz.prog 158 [.agg [.int .i64 f.1,.int .i64 f.2.1,.int .i64 f.2.2]] (.p (.str (fbT f))):=by
 refine ok_D hmix c_spec_l5Bits (by simp) ?_
 obtain ⟨h1,h2,h3⟩:=frF_in h
 have a1:=k_l2Of f.1 4 (by omega) (by omega)
 have a2:=k_l2Of f.2.1 16 (by omega) (by omega)
 have a3:=k_l2Of f.2.2 24 (by omega) (by omega)
 have b1:=bits_len f.1 4
 have b2:=bits_len f.2.1 16
 have b3:=bits_len f.2.2 24
 have a4:=k_l4Add (fbS f) (by rw [fbS_len]; omega)
 have hT:fbT f=fbS f++bitsN (parN (fbS f)) 12:=rfl
 rw [← hT] at a4
 generalize fbT f=Z at *
 have hS:fbS f=bitsN f.1 4++bitsN f.2.1 16++bitsN f.2.2 24:=rfl
 rw [hS] at a4
 generalize bitsN f.1 4=X1 at *
 generalize bitsN f.2.1 16=X2 at *
 generalize bitsN f.2.2 24=X3 at *
 refine sA ?_
 repeat' (first|refine sA ?_|refine sN ?_|refine rW rfl (a1) ?_|refine rV (a1) ?_|refine rW rfl (a2) ?_|refine rV (a2) ?_|refine rW rfl (a3) ?_|refine rV (a3) ?_|refine rW rfl (a4) ?_|refine rV (a4) ?_|refine sB ?_|refine sX ?_ ?_<;>(try intro h)<;>(try omega)|exact sP|refine rK ?_|exact sQ|refine sD ?_|rfl|exact sE|omega)
 all_goals skip
def fhT (f:Nat × Nat × Nat):List UInt8:=hxTo (fbT f) 14
theorem fhT_len (f:Nat × Nat × Nat):(fhT f).length=14:=hxTo_len _ _
theorem k_l5Hex (f:Nat × Nat × Nat)(h:frF f=true):Okv Tryz.prog 102 [.agg [.int .i64 f.1,.int .i64 f.2.1,.int .i64 f.2.2]] (.p (.str (fhT f))):=by
 refine ok_D hmix c_spec_l5Hex (by simp) ?_
 have a1:=k_l5Bits f h
 have a2:=k_l2Hex (fbT f) 14 (fbT_bits f) (fbT_len f) (by rw [fbT_len]; omega)
 have e:hxTo (fbT f) 14=fhT f:=rfl
 rw [e] at a2
 generalize fhT f=Z at *
 generalize fbT f=Y at *
 refine sA ?_
 repeat' (first|refine sA ?_|refine sN ?_|refine rW rfl (a1) ?_|refine rV (a1) ?_|refine rW rfl (a2) ?_|refine rV (a2) ?_|refine sB ?_|refine sX ?_ ?_<;>(try intro h)<;>(try omega)|exact sP|refine rK ?_|exact sQ|refine sD ?_|rfl|exact sE|omega)
 all_goals skip
theorem k_EncodeFrame (f:Nat × Nat × Nat)(h:frF f=true):Okv Tryz.prog 168 [.agg [.int .i64 f.1,.int .i64 f.2.1,.int .i64 f.2.2]] (.tup [.p (.str (fhT f)),.p (.bool true)]):=by
 refine ok_D hmix c_impl_EncodeFrame (by simp) ?_
 have a0:=k_IsValidFrame f.1 f.2.1 f.2.2
 rw [show frB f.1 f.2.1 f.2.2=true from h] at a0
 have a1:=k_frameBits f h
 have a2:=k_hexOf (fbT f) 14 (fbT_bits f) (fbT_len f) (by rw [fbT_len]; omega)
 have e:hxTo (fbT f) 14=fhT f:=rfl
 rw [e] at a2
 generalize fhT f=Z at *
 generalize fbT f=Y at *
 refine sA ?_
 repeat' (first|refine sA ?_|refine sN ?_|refine rW rfl (a0) ?_|refine rV (a0) ?_|refine rW rfl (a1) ?_|refine rV (a1) ?_|refine rW rfl (a2) ?_|refine rV (a2) ?_|refine sB ?_|refine sX ?_ ?_<;>(try intro h)<;>(try omega)|exact sP|refine rK ?_|exact sQ|refine sD ?_|rfl|exact sE|omega)
 all_goals skip
end Go.Proofs.YtekmkgegjicjgaaGreat
namespace Go.Proofs.YtekmkgegjicjgaaGreat
open Go.Dv Go.Dv.EvL
set_option maxRecDepth 100000
set_option maxHeartbeats 16000000
attribute [local irreducible] Ok Rm Dm Om Sm Xm Cm Gm Hm Tm
def KW:List (List UInt8):=[[],[110,97,109,101],[112,111,115,105,116,105,111,110],[104,101,105,103,104,116],[115,112,101,101,100]]
theorem KW_len:KW.length=5:=rfl
theorem KW_le : ∀ i,i<5→(KW.getD i []).length≤8:=by decide
def ftT (f:Nat × Nat × Nat):List UInt8:=KW.getD f.1 []++[32]++hxTo (bitsN f.2.1 16) 4++[32]++hxTo (bitsN f.2.2 24) 6
theorem k_kindWords:Okw Tryz.prog 202 [] fun d H=>d = .own 0 0 5∧H=[.arr 9 1 (KW.map .str)]:=by
 refine ok_D hmix c_impl_kindWords (by simp) ?_
 refine sA ?_
 repeat' (first|refine sA ?_|refine sN ?_|exact ret_gen _ _ _ rfl rfl rfl ⟨rfl,rfl⟩|refine sB ?_|refine sX ?_ ?_<;>(try intro h)<;>(try omega)|exact sP|refine rK ?_|exact sQ|refine sD ?_|rfl|exact sE|omega)
theorem k_l5Words:Okw Tryz.prog 154 [] fun d H=>d = .own 0 0 5∧H=[.arr 9 1 (KW.map .str)]:=by
 refine ok_D hmix c_spec_l5Words (by simp) ?_
 refine sA ?_
 repeat' (first|refine sA ?_|refine sN ?_|exact ret_gen _ _ _ rfl rfl rfl ⟨rfl,rfl⟩|refine sB ?_|refine sX ?_ ?_<;>(try intro h)<;>(try omega)|exact sP|refine rK ?_|exact sQ|refine sD ?_|rfl|exact sE|omega)
theorem k_frameText (f:Nat × Nat × Nat)(h:frF f=true):Okv Tryz.prog 208 [.agg [.int .i64 f.1,.int .i64 f.2.1,.int .i64 f.2.2]] (.p (.str (ftT f))):=by
 refine ok_D hmix c_impl_frameText (by simp) ?_
 obtain ⟨h1,h2,h3⟩:=frF_in h
 have a1:=k_bitsOf f.2.1 16 (by omega) (by omega)
 have a2:=k_bitsOf f.2.2 24 (by omega) (by omega)
 have a3:=k_hexOf (bitsN f.2.1 16) 4 (bitsN_bits _ _) (bits_len _ _) (by rw [bits_len]; omega)
 have a4:=k_hexOf (bitsN f.2.2 24) 6 (bitsN_bits _ _) (bits_len _ _) (by rw [bits_len]; omega)
 have b1:=hxTo_len (bitsN f.2.1 16) 4
 have b2:=hxTo_len (bitsN f.2.2 24) 6
 have b3:=KW_le f.1 (by omega)
 have b4:=k_kindWords
 have hX:=KW_len
 have hT:ftT f=KW.getD f.1 default++[32]++hxTo (bitsN f.2.1 16) 4++[32]++hxTo (bitsN f.2.2 24) 6:=rfl
 have e0:KW.getD f.1 []=KW.getD f.1 default:=rfl
 rw [e0] at b3
 rw [hT]
 generalize hxTo (bitsN f.2.1 16) 4=Y1 at *
 generalize hxTo (bitsN f.2.2 24) 6=Y2 at *
 generalize bitsN f.2.1 16=Z1 at *
 generalize bitsN f.2.2 24=Z2 at *
 generalize KW=X at *
 refine sA ?_
 repeat' (first|refine sA ?_|refine sN ?_|(refine Rm_o b4 rfl (fun r H2 hh => ?_); obtain ⟨rfl,rfl⟩:=hh)|refine rW rfl (a1) ?_|refine rV (a1) ?_|refine rW rfl (a2) ?_|refine rV (a2) ?_|refine rW rfl (a3) ?_|refine rV (a3) ?_|refine rW rfl (a4) ?_|refine rV (a4) ?_|simp only [List.length_append,List.length_cons,List.length_nil]|(refine Dm_draw [0] ?_ ?_; · (simp; done))|refine sB ?_|refine sX ?_ ?_<;>(try intro h)<;>(try omega)|exact sP|refine rK ?_|exact sQ|refine sD ?_|rfl|exact sE|omega)
 all_goals skip
theorem k_l5Text (f:Nat × Nat × Nat)(h:frF f=true):Okv Tryz.prog 126 [.agg [.int .i64 f.1,.int .i64 f.2.1,.int .i64 f.2.2]] (.p (.str (ftT f))):=by
 refine ok_D hmix c_spec_l5Text (by simp) ?_
 obtain ⟨h1,h2,h3⟩:=frF_in h
 have a1:=k_l2Of f.2.1 16 (by omega) (by omega)
 have a2:=k_l2Of f.2.2 24 (by omega) (by omega)
 have a3:=k_l2Hex (bitsN f.2.1 16) 4 (bitsN_bits _ _) (bits_len _ _) (by rw [bits_len]; omega)
 have a4:=k_l2Hex (bitsN f.2.2 24) 6 (bitsN_bits _ _) (bits_len _ _) (by rw [bits_len]; omega)
 have b1:=hxTo_len (bitsN f.2.1 16) 4
 have b2:=hxTo_len (bitsN f.2.2 24) 6
 have b3:=KW_le f.1 (by omega)
 have b4:=k_l5Words
 have hX:=KW_len
 have hT:ftT f=KW.getD f.1 default++[32]++hxTo (bitsN f.2.1 16) 4++[32]++hxTo (bitsN f.2.2 24) 6:=rfl
 have e0:KW.getD f.1 []=KW.getD f.1 default:=rfl
 rw [e0] at b3
 rw [hT]
 generalize hxTo (bitsN f.2.1 16) 4=Y1 at *
 generalize hxTo (bitsN f.2.2 24) 6=Y2 at *
 generalize bitsN f.2.1 16=Z1 at *
 generalize bitsN f.2.2 24=Z2 at *
 generalize KW=X at *
 refine sA ?_
 repeat' (first|refine sA ?_|refine sN ?_|(refine Rm_o b4 rfl (fun r H2 hh => ?_); obtain ⟨rfl,rfl⟩:=hh)|refine rW rfl (a1) ?_|refine rV (a1) ?_|refine rW rfl (a2) ?_|refine rV (a2) ?_|refine rW rfl (a3) ?_|refine rV (a3) ?_|refine rW rfl (a4) ?_|refine rV (a4) ?_|simp only [List.length_append,List.length_cons,List.length_nil]|(refine Dm_draw [0] ?_ ?_; · (simp; done))|refine sB ?_|refine sX ?_ ?_<;>(try intro h)<;>(try omega)|exact sP|refine rK ?_|exact sQ|refine sD ?_|rfl|exact sE|omega)
 all_goals skip
def ixK (xs:List (List UInt8))(w:List UInt8):Nat→Nat
 | 0=>0
 | k+1=>if xs.getD (xs.length - (k+1)) []=w then xs.length - (k+1) else ixK xs w k
def kwI (w:List UInt8):Nat:=ixK KW w 4
theorem kwI_of : ∀ i,i<5→1≤i→kwI (KW.getD i [])=i:=by decide
theorem ixK_at (xs:List (List UInt8))(w:List UInt8) : ∀ k,k<xs.length→ixK xs w k=0∨(xs.getD (ixK xs w k) []=w∧ixK xs w k<xs.length)
 | 0,_ => .inl rfl
 | k+1,h=>by
  unfold ixK
  split
  ·exact .inr ⟨by assumption,by omega⟩
  ·exact ixK_at xs w k (by omega)
theorem kwI_at (w:List UInt8):kwI w=0∨(KW.getD (kwI w) []=w∧kwI w<5):=ixK_at KW w 4 (by decide)
theorem k_l5Index (xs:List (List UInt8))(w:List UInt8)(h:1≤xs.length∧xs.length≤1048576):Okv Tryz.prog 150 [.sl 1 (xs.map .str),.str w] (.p (.int .i64 (ixK xs w (xs.length - 1):Nat))):=by
 refine ok_D hmix c_spec_l5Index (by simp) ?_
 refine sA ?_
 refine Dm_loop [0,1,5] (fun m ds H' => ∃ i:Nat,1≤i∧i≤xs.length∧m=xs.length - i∧ixK xs w (xs.length - 1)=ixK xs w (xs.length - i)∧ds=[.p (.sl 1 (xs.map .str)),.p (.str w),.p (.int .i64 i)]∧H'=[]) (xs.length - 1) ⟨1,by omega,by omega,by omega,rfl,rfl,rfl⟩ ?_
 rintro m ds H' ⟨i,hi0,hi,rfl,he,rfl,rfl⟩ -
 rcases Nat.lt_or_ge i xs.length with hlt|hge
 ·obtain ⟨k,hk⟩ : ∃ k,xs.length - i=k+1:=⟨xs.length - i - 1,by omega⟩
  have hr:ixK xs w (k+1)=if xs.getD i default=w then i else ixK xs w k:=by
   rw [ixK,show xs.length - (k+1)=i from by omega]
   rfl
  rw [hk] at he ⊢
  rw [hr] at he
  generalize ixK xs w (xs.length - 1)=Z at *
  by_cases hf:xs.getD i default=w
  ·rw [if_pos hf] at he
   subst he
   repeat' (first|refine sA ?_|refine sN ?_|rw [hf]|refine sB ?_|refine sX ?_ ?_<;>(try intro h)<;>(try omega)|exact sP|refine rK ?_|exact sQ|refine sD ?_|rfl|exact sE|omega)
   all_goals skip
  ·rw [if_neg hf] at he
   repeat' (first|refine sA ?_|refine sN ?_|refine sB ?_|refine sX ?_ ?_<;>(try intro h)<;>(try omega)|exact sP|refine rK ?_|exact sQ|refine sD ?_|rfl|exact sE|omega)
   all_goals first
    | (exact absurd (by assumption) hf)
    | (refine Xm_inv_n (xs.length - (i+1)) (by omega) ⟨i+1,by omega,by omega,rfl,?_,rfl,rfl⟩
       rw [he,show xs.length - (i+1)=k from by omega])
    | skip
 ·obtain rfl:i=xs.length:=by omega
  rw [Nat.sub_self,ixK] at he
  rw [he]
  repeat' (first|refine sA ?_|refine sN ?_|refine sB ?_|refine sX ?_ ?_<;>(try intro h)<;>(try omega)|exact sP|refine rK ?_|exact sQ|refine sD ?_|rfl|exact sE|omega)
  all_goals skip
def pfB (s w0 w1 w2:List UInt8):Bool:=decide (splitB 32 s=[w0,w1,w2]) && decide (w1.length=4) && decide (w2.length=6) && w1.all hexP && w2.all hexP && frB (kwI w0) (valB (hx4 w1)) (valB (hx4 w2))
def pfO (s:List UInt8):(Nat × Nat × Nat) × Bool :=
 if pfB s ((splitB 32 s).getD 0 []) ((splitB 32 s).getD 1 []) ((splitB 32 s).getD 2 [])=true then ((kwI ((splitB 32 s).getD 0 []),valB (hx4 ((splitB 32 s).getD 1 [])),valB (hx4 ((splitB 32 s).getD 2 []))),true) else ((0,0,0),false)
theorem pf_no {s:List UInt8}(h:(splitB 32 s).length≠3):pfO s=((0,0,0),false):=by
 unfold pfO pfB
 rw [if_neg]
 intro h2
 simp only [Bool.and_eq_true,decide_eq_true_eq] at h2
 rw [h2.1.1.1.1.1] at h
 exact h rfl
theorem three_of {α : Type}{X:List α}(h:X.length=3) : ∃ a b c,X=[a,b,c]:=by
 match X,h with
 | [a,b,c],_=>exact ⟨a,b,c,rfl⟩
theorem pf_of {s w0 w1 w2:List UInt8}(h:splitB 32 s=[w0,w1,w2]):pfO s=if (w1.length=4∧w2.length=6)∧(w1.all hexP=true∧w2.all hexP=true)∧frB (kwI w0) (valB (hx4 w1)) (valB (hx4 w2))=true then ((kwI w0,valB (hx4 w1),valB (hx4 w2)),true) else ((0,0,0),false):=by
 unfold pfO pfB
 rw [h]
 simp only [List.getD_cons_zero,List.getD_cons_succ,decide_true,Bool.true_and,Bool.and_eq_true,decide_eq_true_eq,and_assoc]
theorem hx4_app (s t:List UInt8):hx4 (s++t)=hx4 s++hx4 t:=by simp [hx4]
theorem hx4_at {w:List UInt8}{i:Nat}(h:i<w.length):((hx4 w).drop (4 * i)).take 4=bitsN (hexN (w.getD i default)).toNat 4:=by
 have e:hx4 w=hx4 (w.take i)++hx4 (w.drop i):=by rw [← hx4_app,List.take_append_drop]
 have hl:(hx4 (w.take i)).length=4 * i:=by rw [hx4_len,List.length_take]; omega
 rw [e,List.drop_append_of_le_length (by omega),List.drop_of_length_le (by omega),List.nil_append,drop_cons (d:=default) h]
 have e2:hx4 (w.getD i default::w.drop (i+1))=bitsN (hexN (w.getD i default)).toNat 4++hx4 (w.drop (i+1)):=by simp [hx4]
 rw [e2,List.take_append_of_le_length (by rw [bits_len]; omega),List.take_of_length_le (by rw [bits_len]; omega)]
theorem hx_back {w:List UInt8}(h:w.all hexP=true) : ∀ i,i≤w.length→hxTo (hx4 w) i=w.take i
 | 0,_=>by simp [hxTo]
 | i+1,hi=>by
  have h1:=hexP_pos (List.all_eq_true.1 h _ (getD_mem (d:=default) (show i<w.length from hi)))
  have h2:=hex_at (w.getD i default)
  have h3:HX.getD (hexN (w.getD i default)).toNat 0=w.getD i default:=by
   rcases h2 with h2|h2
   ·omega
   ·exact h2.2.2
  rw [hxTo,hx_back h i (by omega),hx4_at (by omega),valB_bits4 _ (by rcases h2 with h2|h2<;>omega),h3,take_snoc (d:=default) (by omega)]
theorem hx_full {w:List UInt8}{k:Nat}(h:w.all hexP=true)(hk:w.length=k):hxTo (bitsN (valB (hx4 w)) (4 * k)) k=w:=by
 rw [bitsN_val (4 * k) (hx4 w) (by rw [hx4_len,hk]) (hx4_bits w),hx_back h k (by omega),← hk,List.take_length]
theorem ft_back {s w0 w1 w2:List UInt8}(h:splitB 32 s=[w0,w1,w2])(h1:w1.length=4)(h2:w2.length=6)(h3:w1.all hexP=true)(h4:w2.all hexP=true)(h5:frB (kwI w0) (valB (hx4 w1)) (valB (hx4 w2))=true):ftT (kwI w0,valB (hx4 w1),valB (hx4 w2))=s∧s.length≤30:=by
 have h6:=(frF_in (f:=(kwI w0,valB (hx4 w1),valB (hx4 w2))) h5).1
 have h7:KW.getD (kwI w0) []=w0∧kwI w0<5:=by
  rcases kwI_at w0 with h8|h8
  ·simp only [] at h6; omega
  ·exact h8
 have h8:=join_split 32 s
 rw [h] at h8
 have e1:=hx_full h3 h1
 have e2:=hx_full h4 h2
 have hl:=KW_le _ h7.2
 rw [h7.1] at hl
 constructor
 ·unfold ftT
  simp only []
  rw [h7.1,e1,e2,← h8]
  simp [joinB]
 ·rw [← h8]
  simp [joinB,h1,h2]
  omega
end Go.Proofs.YtekmkgegjicjgaaGreat
