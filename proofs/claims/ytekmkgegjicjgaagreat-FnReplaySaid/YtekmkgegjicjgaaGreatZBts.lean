import Derived.Test.YtekmkgegjicjgaaGreatZBas
namespace Go.Proofs.YtekmkgegjicjgaaGreat
open Go.Dv Go.Dv.EvL
set_option maxRecDepth 100000
set_option maxHeartbeats 16000000
attribute [local irreducible] Ok Rm Dm Om Sm Xm Cm Gm Hm Tm
def bitC (b:Bool):UInt8:=if b=true then 49 else 48
def bitsN (n:Nat):Nat→List UInt8
 | 0=>[]
 | d+1=>bitC (n.testBit d)::bitsN n d
theorem bits_len (n:Nat) : ∀ d,(bitsN n d).length=d
 | 0=>rfl
 | d+1=>by simp [bitsN,bits_len n d]
theorem bitC_val (b:Bool):(bitC b).toNat=48+b.toNat:=by cases b<;>rfl
theorem bit_mod (n d:Nat):n / 2 ^ d % 2=(n.testBit d).toNat:=by
 rw [Nat.testBit_eq_decide_div_mod_eq]
 rcases Nat.mod_two_eq_zero_or_one (n / 2 ^ d) with h|h<;>simp [h]
theorem div_next (n d:Nat):n / 2 ^ d / 2=n / 2 ^ (d+1):=by rw [Nat.div_div_eq_div_mul,Nat.pow_succ]
theorem tmod2 {m:Nat}:(m:Int).tmod 2=((m % 2:Nat):Int):=tmod_nat m 2
theorem tdivb2 {m:Nat}:(m:Int).tdiv 2=((m / 2:Nat):Int):=tdiv_nat m 2
theorem bytesOf_ints {s:List UInt8}:bytesOf ((s.map fun c:UInt8=>(c.toNat:Int)).map (PV.int .u8))=some s:=by
 rw [List.map_map]
 exact bytesOf_map
theorem set_rep {k:Nat}{v:Int}{t:List Int}:(List.replicate (k+1) (0:Int)++t).set k v=List.replicate k 0++v::t:=by
 rw [List.replicate_succ',List.append_assoc,List.set_append_right _ _ (by simp)]
 simp
theorem k_bitsOf (n w:Nat)(hn:n≤9223372036854775807)(hw:w≤1000):Okv Tryz.prog 221 [.int .i64 n,.int .i64 w] (.p (.str (bitsN n w))):=by
 refine ok_D hmix c_impl_bitsOf (by simp) ?_
 refine sA ?_
 repeat' (first|refine sA ?_|refine sN ?_|refine sB ?_|refine sX ?_ ?_<;>(try intro h)<;>(try omega)|exact sP|refine rK ?_|exact sQ|refine sD ?_|rfl|exact sE|omega)
 refine Dm_loop [0,5,6] (fun m ds H' => ∃ d:Nat,d≤w∧m=w - d∧ds=[.p (.int .i64 (n / 2 ^ d:Nat)),.own 0 0 w,.p (.int .i64 ((w:Int) - ((d+1:Nat):Int)))] ∧
  H'=[.arr 5 1 ((List.replicate (w - d) (0:Int)++(bitsN n d).map fun c:UInt8=>(c.toNat:Int)).map (.int .u8))]) w ⟨0,by omega,by omega,by rw [Nat.pow_zero,Nat.div_one]; rfl,by simp [bitsN]; rfl⟩ ?_
 rintro m ds H' ⟨d,hd,rfl,rfl,rfl⟩ -
 have hb:=bit_mod n d
 have hq:=div_next n d
 have hbs:bitsN n (d+1)=bitC (n.testBit d)::bitsN n d:=rfl
 have hv:=bitC_val (n.testBit d)
 have hlen:=bits_len n d
 have hql:n / 2 ^ d≤n:=Nat.div_le_self _ _
 have hbt:(n.testBit d).toNat≤1:=by cases n.testBit d<;>decide
 rw [hb.symm] at hv hbt
 generalize n / 2 ^ d=q at *
 rcases Nat.lt_or_ge d w with hlt|hge
 ·obtain ⟨k,hk⟩ : ∃ k,w - d=k+1:=⟨w - d - 1,by omega⟩
  rw [hk,show ((w:Int) - ((d+1:Nat):Int))=(k:Int) from by omega]
  have hrow:(List.replicate (k+1) (0:Int)++(bitsN n d).map fun c:UInt8=>(c.toNat:Int)).length=w:=by simp [hlen]; omega
  have hset:=set_rep (k:=k) (v:=((48+q % 2:Nat):Int)) (t:=(bitsN n d).map fun c:UInt8=>(c.toNat:Int))
  generalize hR:(List.replicate (k+1) (0:Int)++(bitsN n d).map fun c:UInt8=>(c.toNat:Int))=R at *
  have h48:((48:Int)+((q % 2:Nat):Int))=((48+q % 2:Nat):Int):=by omega
  repeat' (first|refine sA ?_|refine sN ?_|rw [tmod2]|rw [tdivb2]|rw [h48]|refine Rm_puti (by omega) rfl ?_|refine sB ?_|refine sX ?_ ?_<;>(try intro h)<;>(try omega)|exact sP|refine rK ?_|exact sQ|refine sD ?_|rfl|exact sE|omega)
  all_goals first
   | (refine Xm_inv_n (w - (d+1)) (by omega) ⟨d+1,by omega,rfl,?_,?_⟩
      ·rw [← hq,show ((w:Int) - ((d+1+1:Nat):Int))=(k:Int) - 1 from by omega]; rfl
      ·rw [hset,hbs,show w - (d+1)=k from by omega,List.map_cons,hv]; rfl)
   | skip
 ·obtain rfl:d=w:=by omega
  rw [Nat.sub_self,List.replicate_zero,List.nil_append]
  have hbo:=bytesOf_ints (s:=bitsN n d)
  have hrow:((bitsN n d).map fun c:UInt8=>(c.toNat:Int)).length=d:=by simp [hlen]
  generalize hR:((bitsN n d).map fun c:UInt8=>(c.toNat:Int))=R at *
  have htk:R.take d=R:=List.take_of_length_le (by omega)
  repeat' (first|refine sA ?_|refine sN ?_|rw [htk]|rw [hbo]|refine sB ?_|refine sX ?_ ?_<;>(try intro h)<;>(try omega)|exact sP|refine rK ?_|exact sQ|refine sD ?_|rfl|exact sE|omega)
  all_goals skip
theorem two_cut : ∀ {b:Nat},b≤1→cutL [48,49] b (b+1)=[UInt8.ofNat (48+b)]
 | 0,_=>rfl
 | 1,_=>rfl
 | b+2,h=>by omega
theorem bitC_of (b:Bool):UInt8.ofNat (48+b.toNat)=bitC b:=by cases b<;>rfl
theorem k_l2Of (n w:Nat)(hn:n≤9223372036854775807)(hw:w≤1000):Okv Tryz.prog 180 [.int .i64 n,.int .i64 w] (.p (.str (bitsN n w))):=by
 refine ok_D hmix c_spec_l2Of (by simp) ?_
 refine sA ?_
 refine Dm_loop [0,1,5,6] (fun m ds H' => ∃ d:Nat,d≤w∧m=w - d∧ds=[.p (.int .i64 (n / 2 ^ d:Nat)),.p (.int .i64 w),.p (.str (bitsN n d)),.p (.int .i64 d)]∧H'=[]) w ⟨0,by omega,by omega,by simp [bitsN]; rfl,rfl⟩ ?_
 rintro m ds H' ⟨d,hd,rfl,rfl,rfl⟩ -
 have hb:=bit_mod n d
 have hq:=div_next n d
 have hbs:bitsN n (d+1)=bitC (n.testBit d)::bitsN n d:=rfl
 have hv:=bitC_of (n.testBit d)
 have hlen:=bits_len n d
 have hql:n / 2 ^ d≤n:=Nat.div_le_self _ _
 have hbt:(n.testBit d).toNat≤1:=by cases n.testBit d<;>decide
 rw [hb.symm] at hv hbt
 have hcut:=two_cut hbt
 rw [hv] at hcut
 generalize n / 2 ^ d=q at *
 repeat' (first|refine sA ?_|refine sN ?_|rw [tmod2]|rw [tdivb2]|rw [hcut]|refine sB ?_|refine sX ?_ ?_<;>(try intro h)<;>(try omega)|exact sP|refine rK ?_|exact sQ|refine sD ?_|rfl|exact sE|omega)
 all_goals first
  | (refine Xm_inv_n (w - (d+1)) (by omega) ⟨d+1,by omega,rfl,?_,rfl⟩
     rw [← hq,hbs]; rfl)
  | (rw [show w=d from by omega])
  | skip
end Go.Proofs.YtekmkgegjicjgaaGreat
namespace Go.Proofs.YtekmkgegjicjgaaGreat
open Go.Dv Go.Dv.EvL
set_option maxRecDepth 100000
set_option maxHeartbeats 16000000
attribute [local irreducible] Ok Rm Dm Om Sm Xm Cm Gm Hm Tm
def bitP (c:UInt8):Bool:=decide (c=48) || decide (c=49)
def valB (s:List UInt8):Nat:=s.foldl (fun n c=>2 * n+(c.toNat - 48)) 0
theorem valB_snoc (s:List UInt8)(c:UInt8):valB (s++[c])=2 * valB s+(c.toNat - 48):=by
 unfold valB
 rw [List.foldl_append]
 rfl
theorem valB_step {s:List UInt8}{i:Nat}(h:i<s.length):valB (s.take (i+1))=2 * valB (s.take i)+((s.getD i default).toNat - 48):=by
 rw [take_snoc (d:=default) h,valB_snoc]
theorem bitP_in {c:UInt8}(h:bitP c=true):48≤c.toNat∧c.toNat≤49:=by
 unfold bitP at h
 simp only [Bool.or_eq_true,decide_eq_true_eq] at h
 rcases h with rfl|rfl<;>decide
theorem bits_at {s:List UInt8}{i:Nat}(h:s.all bitP=true)(hi:i<s.length):48≤(s.getD i default).toNat∧(s.getD i default).toNat≤49:=bitP_in (List.all_eq_true.1 h _ (getD_mem hi))
theorem valB_lt : ∀ (k:Nat) (s:List UInt8),s.length=k→s.all bitP=true→valB s<2 ^ k
 | 0,s,hl,_=>by
  rw [List.eq_nil_of_length_eq_zero hl]
  simp [valB]
 | k+1,s,hl,hd=>by
  obtain ⟨t,c,rfl⟩ : ∃ t c,s=t++[c]:=by
   rcases List.eq_nil_or_concat s with rfl|⟨t,c,e⟩
   ·simp at hl
   ·exact ⟨t,c,by simpa using e⟩
  rw [List.all_append] at hd
  simp only [List.all_cons,List.all_nil,Bool.and_true,Bool.and_eq_true] at hd
  have hc:=bitP_in hd.2
  simp only [List.length_append,List.length_cons,List.length_nil] at hl
  have ih:=valB_lt k t (by omega) hd.1
  rw [valB_snoc,Nat.pow_succ]
  omega
theorem bitsN_bits (n:Nat) : ∀ d,(bitsN n d).all bitP=true
 | 0=>rfl
 | d+1=>by
  rw [bitsN,List.all_cons,bitsN_bits n d]
  cases n.testBit d<;>decide
theorem w8sub48 {c:UInt8}(h:48≤c.toNat):IntKind.wrap .u8 ((c.toNat:Int) - 48)=((c.toNat - 48:Nat):Int):=by
 have:=c.toNat_lt
 rw [w8 (by omega)]
 omega
theorem take_bits {s:List UInt8}{i:Nat}(h:s.all bitP=true):(s.take i).all bitP=true:=by
 rw [List.all_eq_true] at h ⊢
 exact fun c hc=>h c (List.mem_of_mem_take hc)
theorem drop_bits {s:List UInt8}{i:Nat}(h:s.all bitP=true):(s.drop i).all bitP=true:=by
 rw [List.all_eq_true] at h ⊢
 exact fun c hc=>h c (List.mem_of_mem_drop hc)
theorem valB_small {s:List UInt8}{i:Nat}(h:s.all bitP=true)(hl:s.length≤60):valB (s.take i)<1152921504606846976:=by
 have h1:=valB_lt _ (s.take i) rfl (take_bits h)
 have h2:(s.take i).length≤60:=by rw [List.length_take]; omega
 exact Nat.lt_of_lt_of_le h1 (Nat.le_trans (Nat.pow_le_pow_right (by omega) h2) (by decide))
theorem k_numberOf (s:List UInt8)(hb:s.all bitP=true)(hl:s.length≤60):Okv Tryz.prog 203 [.str s] (.p (.int .i64 (valB s))):=by
 refine ok_D hmix c_impl_numberOf (by simp) ?_
 refine sA ?_
 refine Dm_loop [0,3,4] (fun m ds H' => ∃ i:Nat,i≤s.length∧m=s.length - i∧ds=[.p (.str s),.p (.int .i64 (valB (s.take i))),.p (.int .i64 i)]∧H'=[]) s.length ⟨0,by omega,by omega,rfl,rfl⟩ ?_
 rintro m ds H' ⟨i,hi,rfl,rfl,rfl⟩ -
 have h1:=fun h:i<s.length=>valB_step h
 have h2:=valB_small (i:=i) hb hl
 have e0:s.getD i 0=s.getD i default:=rfl
 rcases Nat.lt_or_ge i s.length with hlt|hge
 ·have h1:=h1 hlt
  have h3:=bits_at hb hlt
  repeat' (first|refine sA ?_|refine sN ?_|rw [e0]|refine sB ?_|refine sX ?_ ?_<;>(try intro h)<;>(try omega)|exact sP|refine rK ?_|exact sQ|refine sD ?_|rfl|exact sE|omega)
  all_goals first
   | (refine Xm_inv_n (s.length - (i+1)) (by omega) ⟨i+1,by omega,rfl,?_,rfl⟩
      rw [h1,show ((2 * valB (s.take i)+((s.getD i default).toNat - 48):Nat):Int)=2 * (valB (s.take i):Int)+(((s.getD i default).toNat:Int) - 48) from by omega]; rfl)
   | skip
 ·rw [List.take_of_length_le hge]
  repeat' (first|refine sA ?_|refine sN ?_|refine sB ?_|refine sX ?_ ?_<;>(try intro h)<;>(try omega)|exact sP|refine rK ?_|exact sQ|refine sD ?_|rfl|exact sE|omega)
theorem k_l2Number (s:List UInt8)(hb:s.all bitP=true)(hl:s.length≤60):Okv Tryz.prog 155 [.str s] (.p (.int .i64 (valB s))):=by
 refine ok_D hmix c_spec_l2Number (by simp) ?_
 refine sA ?_
 refine Dm_loop [0,3,4] (fun m ds H' => ∃ i:Nat,i≤s.length∧m=s.length - i∧ds=[.p (.str s),.p (.int .i64 (valB (s.take i))),.p (.int .i64 i)]∧H'=[]) s.length ⟨0,by omega,by omega,rfl,rfl⟩ ?_
 rintro m ds H' ⟨i,hi,rfl,rfl,rfl⟩ -
 have h1:=fun h:i<s.length=>valB_step h
 have h2:=valB_small (i:=i) hb hl
 have e0:s.getD i 0=s.getD i default:=rfl
 rcases Nat.lt_or_ge i s.length with hlt|hge
 ·have h1:=h1 hlt
  have h3:=bits_at hb hlt
  repeat' (first|refine sA ?_|refine sN ?_|rw [e0]|refine sB ?_|refine sX ?_ ?_<;>(try intro h)<;>(try omega)|exact sP|refine rK ?_|exact sQ|refine sD ?_|rfl|exact sE|omega)
  all_goals first
   | (refine Xm_inv_n (s.length - (i+1)) (by omega) ⟨i+1,by omega,rfl,?_,rfl⟩
      rw [h1,show ((2 * valB (s.take i)+((s.getD i default).toNat - 48):Nat):Int)=2 * (valB (s.take i):Int)+((s.getD i default).toNat:Int) - 48 from by omega]; rfl)
   | skip
 ·rw [List.take_of_length_le hge]
  repeat' (first|refine sA ?_|refine sN ?_|refine sB ?_|refine sX ?_ ?_<;>(try intro h)<;>(try omega)|exact sP|refine rK ?_|exact sQ|refine sD ?_|rfl|exact sE|omega)
def xorB (a b:List UInt8):List UInt8:=List.zipWith (fun x y=>if x=y then 48 else 49) a b
theorem xorB_step {a b:List UInt8}{i:Nat}(ha:i<a.length)(hb:i<b.length):xorB (a.take (i+1)) (b.take (i+1))=xorB (a.take i) (b.take i)++[if a.getD i default=b.getD i default then 48 else 49]:=by
 unfold xorB
 rw [take_snoc (d:=default) ha,take_snoc (d:=default) hb,List.zipWith_append (by simp; omega)]
 rfl
theorem xorB_len (a b:List UInt8)(h:a.length=b.length):(xorB a b).length=a.length:=by simp [xorB,h]
theorem k_ones (s:List UInt8)(hl:s.length≤1099511627776):Okv Tryz.prog 232 [.str s] (.p (.int .i64 (s.count 49:Nat))):=by
 refine ok_D hmix c_impl_ones (by simp) ?_
 have h49 : ∀ c:UInt8,(c.toNat:Int)=49↔c=49:=fun c=>u8_lit (n:=49) (by omega)
 refine sA ?_
 refine Dm_loop [0,3,4] (fun m ds H' => ∃ i:Nat,i≤s.length∧m=s.length - i∧ds=[.p (.str s),.p (.int .i64 ((s.take i).count 49:Nat)),.p (.int .i64 i)]∧H'=[]) s.length ⟨0,by omega,by omega,rfl,rfl⟩ ?_
 rintro m ds H' ⟨i,hi,rfl,rfl,rfl⟩ -
 have h1:i<s.length→(s.take (i+1)).count 49=(s.take i).count 49+(if s.getD i default=49 then 1 else 0):=fun h=>by
  rw [take_snoc (d:=default) h,List.count_append,List.count_singleton]
  simp only [beq_iff_eq]
 have h2:=List.count_le_length (a:=(49:UInt8)) (l:=s.take i)
 have h3:(s.take i).length≤s.length:=by rw [List.length_take]; omega
 repeat' (first|refine sA ?_|refine sN ?_|refine sB ?_|refine sX ?_ ?_<;>(try intro h)<;>(try omega)|exact sP|refine rK ?_|exact sQ|refine sD ?_|rfl|exact sE|omega)
 all_goals first
  | (refine Xm_inv_n (s.length - (i+1)) (by omega) ⟨i+1,by omega,rfl,?_,rfl⟩
     rw [h1 (by omega),if_pos ((h49 _).1 (by assumption))]; rfl)
  | (refine Xm_inv_n (s.length - (i+1)) (by omega) ⟨i+1,by omega,rfl,?_,rfl⟩
     rw [h1 (by omega),if_neg (fun e=>(by assumption : ¬ ((s.getD i default).toNat:Int)=49) ((h49 _).2 e))]; rfl)
  | (rw [List.take_of_length_le (by omega)])
  | skip
def stepP (r:Nat)(b:Bool):Nat:=if 2 * r+b.toNat ≥ 4096 then (2 * r+b.toNat) ^^^ 6159 else 2 * r+b.toNat
def parTo (s:List UInt8):Nat→Nat
 | 0=>0
 | i+1=>stepP (parTo s i) (decide (i<s.length∧s.getD i default=49))
def parN (s:List UInt8):Nat:=parTo s (s.length+12)
theorem xor_top (v:Nat)(h:v<4096):(4096+v) ^^^ 6159<4096:=by
 refine Nat.lt_pow_two_of_testBit (n:=12) _ fun i hi => ?_
 rw [Nat.testBit_xor]
 by_cases h12:i=12
 ·subst h12
  have e1:(4096+v).testBit 12=true:=by
   rw [Nat.testBit_eq_decide_div_mod_eq]
   simp only [decide_eq_true_eq]
   omega
  have e2:(6159:Nat).testBit 12=true:=by decide
  rw [e1,e2]
  rfl
 ·have hp:(2:Nat) ^ 13≤2 ^ i:=Nat.pow_le_pow_right (by omega) (by omega)
  rw [Nat.testBit_lt_two_pow (by omega),Nat.testBit_lt_two_pow (by omega)]
  rfl
theorem stepP_lt {r:Nat}(h:r<4096)(b:Bool):stepP r b<4096:=by
 unfold stepP
 have hb:b.toNat≤1:=by cases b<;>decide
 split
 ·have:=xor_top (2 * r+b.toNat - 4096) (by omega)
  rwa [show 4096+(2 * r+b.toNat - 4096)=2 * r+b.toNat from by omega] at this
 ·omega
theorem parTo_lt (s:List UInt8) : ∀ i,parTo s i<4096
 | 0=>by show 0<4096; decide
 | i+1=>stepP_lt (parTo_lt s i) _
theorem xor_nat {a b:Nat}(ha:a<9223372036854775808)(hb:b<9223372036854775808):bitsV .xor .i64 (a:Int) (b:Int)=((a ^^^ b:Nat):Int):=by
 have h1:(BitVec.ofInt 64 (a:Int) ^^^ BitVec.ofInt 64 (b:Int)).toNat=a ^^^ b:=by
  rw [BitVec.ofInt_natCast,BitVec.ofInt_natCast,BitVec.toNat_xor,BitVec.toNat_ofNat,BitVec.toNat_ofNat,Nat.mod_eq_of_lt (by omega),Nat.mod_eq_of_lt (by omega)]
 have h2:a ^^^ b<2 ^ 63:=Nat.xor_lt_two_pow (by omega) (by omega)
 show IntKind.wrap .i64 ((BitVec.ofInt 64 (a:Int) ^^^ BitVec.ofInt 64 (b:Int)).toNat:Int)=_
 rw [h1,w64 (by omega)]
theorem xor_lit {a:Nat}(ha:a<9223372036854775808):bitsV .xor .i64 (a:Int) 6159=((a ^^^ 6159:Nat):Int):=xor_nat (b:=6159) ha (by decide)
theorem k_l4Parity (s:List UInt8)(hl:s.length≤1099511627776):Okv Tryz.prog 218 [.str s] (.p (.int .i64 (parN s:Nat))):=by
 refine ok_D hmix c_spec_l4Parity (by simp) ?_
 have h49 : ∀ c:UInt8,(c.toNat:Int)=49↔c=49:=fun c=>u8_lit (n:=49) (by omega)
 refine sA ?_
 refine Dm_loop [0,3,4] (fun m ds H' => ∃ i:Nat,i≤s.length+12∧m=s.length+12 - i∧ds=[.p (.str s),.p (.int .i64 (parTo s i:Nat)),.p (.int .i64 i)]∧H'=[]) (s.length+12) ⟨0,by omega,by omega,rfl,rfl⟩ ?_
 rintro m ds H' ⟨i,hi,rfl,rfl,rfl⟩ -
 have hp:=parTo_lt s i
 have hst:parTo s (i+1)=stepP (parTo s i) (decide (i<s.length∧s.getD i default=49)):=rfl
 have e0:s.getD i 0=s.getD i default:=rfl
 obtain ⟨bt,hbt⟩ : ∃ bt:Bool,decide (i<s.length∧s.getD i default=49)=bt:=⟨_,rfl⟩
 rw [hbt] at hst
 unfold stepP at hst
 generalize hr:parTo s i=r at *
 cases bt
 ·have hno:i<s.length → ¬ ((s.getD i default).toNat:Int)=49:=fun h1 h2=>by
   have:=of_decide_eq_false hbt
   exact this ⟨h1,(h49 _).1 h2⟩
  simp only [Bool.toNat_false,Nat.add_zero] at hst
  have hc0:(2:Int) * (r:Int)=((2 * r:Nat):Int):=by omega
  repeat' (first|refine sA ?_|refine sN ?_|rw [e0]|rw [hc0]|rw [Int.add_zero]|rw [xor_lit (by omega)]|refine sB ?_|refine sX ?_ ?_<;>(try intro h)<;>(try omega)|exact sP|refine rK ?_|exact sQ|refine sD ?_|rfl|exact sE|omega)
  all_goals first
   | (exfalso; exact hno (by omega) (by assumption))
   | (refine Xm_inv_n (s.length+12 - (i+1)) (by omega) ⟨i+1,by omega,by omega,?_,rfl⟩
      rw [hst,if_pos (by omega)]; rfl)
   | (refine Xm_inv_n (s.length+12 - (i+1)) (by omega) ⟨i+1,by omega,by omega,?_,rfl⟩
      rw [hst,if_neg (by omega)]; rfl)
   | (unfold parN; rw [show s.length+12=i from by omega,hr])
   | skip
 ·have hyes:=of_decide_eq_true hbt
  have hy2:((s.getD i default).toNat:Int)=49:=by rw [hyes.2]; rfl
  simp only [Bool.toNat_true] at hst
  have hc1:(2:Int) * (r:Int)+1=((2 * r+1:Nat):Int):=by omega
  repeat' (first|refine sA ?_|refine sN ?_|rw [e0]|rw [hy2]|rw [hc1]|rw [xor_lit (by omega)]|refine sB ?_|refine sX ?_ ?_<;>(try intro h)<;>(try omega)|exact sP|refine rK ?_|exact sQ|refine sD ?_|rfl|exact sE|omega)
  all_goals first
   | (refine Xm_inv_n (s.length+12 - (i+1)) (by omega) ⟨i+1,by omega,by omega,?_,rfl⟩
      rw [hst,if_pos (by omega)]; rfl)
   | (refine Xm_inv_n (s.length+12 - (i+1)) (by omega) ⟨i+1,by omega,by omega,?_,rfl⟩
      rw [hst,if_neg (by omega)]; rfl)
   | (unfold parN; rw [show s.length+12=i from by omega,hr])
   | skip
end Go.Proofs.YtekmkgegjicjgaaGreat
namespace Go.Proofs.YtekmkgegjicjgaaGreat
open Go.Dv Go.Dv.EvL
set_option maxRecDepth 100000
set_option maxHeartbeats 16000000
attribute [local irreducible] Ok Rm Dm Om Sm Xm Cm Gm Hm Tm
theorem set_bits {k:Nat}{v:Int}{t p:List Int}(h:p.length=k){z:Int}:(p++z::t).set k v=p++v::t:=by
 subst h
 simp
theorem k_xorBits (a b:List UInt8)(hl:a.length≤1000)(hb:b.length=a.length):Okv Tryz.prog 227 [.str a,.str b] (.p (.str (xorB a b))):=by
 refine ok_D hmix c_impl_xorBits (by simp) ?_
 refine sA ?_
 repeat' (first|refine sA ?_|refine sN ?_|refine sB ?_|refine sX ?_ ?_<;>(try intro h)<;>(try omega)|exact sP|refine rK ?_|exact sQ|refine sD ?_|rfl|exact sE|omega)
 refine Dm_loop [0,1,5,11,12] (fun m ds H' => ∃ i:Nat,i≤a.length∧m=a.length - i∧ds=[.p (.str a),.p (.str b),.own 0 0 a.length,.p (.int .i64 a.length),.p (.int .i64 i)] ∧
  H'=[.arr 5 1 ((((xorB (a.take i) (b.take i)).map fun c:UInt8=>(c.toNat:Int))++List.replicate (a.length - i) (0:Int)).map (.int .u8))]) a.length ⟨0,by omega,by omega,by rfl,by simp [xorB]; rfl⟩ ?_
 rintro m ds H' ⟨i,hi,rfl,rfl,rfl⟩ -
 have hxl:(xorB (a.take i) (b.take i)).length=i:=by rw [xorB_len _ _ (by simp; omega),List.length_take]; omega
 rcases Nat.lt_or_ge i a.length with hlt|hge
 ·obtain ⟨k,hk⟩ : ∃ k,a.length - i=k+1:=⟨a.length - i - 1,by omega⟩
  have hstep:=xorB_step (a:=a) (b:=b) hlt (by omega)
  have e1:a.getD i 0=a.getD i default:=rfl
  have e2:b.getD i 0=b.getD i default:=rfl
  rw [hk]
  have hrow:(((xorB (a.take i) (b.take i)).map fun c:UInt8=>(c.toNat:Int))++List.replicate (k+1) (0:Int)).length=a.length:=by simp [hxl]; omega
  have hset : ∀ v:Int,(((xorB (a.take i) (b.take i)).map fun c:UInt8=>(c.toNat:Int))++List.replicate (k+1) (0:Int)).set i v=((xorB (a.take i) (b.take i)).map fun c:UInt8=>(c.toNat:Int))++v::List.replicate k 0:=fun v=>by
   rw [List.replicate_succ]
   exact set_bits (by simp [hxl])
  generalize hR:((xorB (a.take i) (b.take i)).map fun c:UInt8=>(c.toNat:Int))++List.replicate (k+1) (0:Int)=R at *
  repeat' (first|refine sA ?_|refine sN ?_|rw [e1]|rw [e2]|(refine Rm_puti (by first|omega|(simp; omega)) rfl ?_)|refine sB ?_|refine sX ?_ ?_<;>(try intro h)<;>(try omega)|exact sP|refine rK ?_|exact sQ|refine sD ?_|rfl|exact sE|omega)
  all_goals first
   | (refine Xm_inv_n (a.length - (i+1)) (by omega) ⟨i+1,by omega,rfl,by rfl,?_⟩
      rw [hstep,if_neg (fun e=>(by assumption : ¬ ((a.getD i default).toNat:Int)=((b.getD i default).toNat:Int)) (by rw [e])),show a.length - (i+1)=k from by omega]
      show [OB.arr _ _ (List.map (PV.int .u8) ((R.set i 48).set i 49))]=_
      rw [List.set_set,hset]
      simp; done)
   | (refine Xm_inv_n (a.length - (i+1)) (by omega) ⟨i+1,by omega,rfl,by rfl,?_⟩
      rw [hstep,if_pos (u8_eq.1 (by assumption)),show a.length - (i+1)=k from by omega]
      show [OB.arr _ _ (List.map (PV.int .u8) (R.set i 48))]=_
      rw [hset]
      simp; done)
   | skip
 ·obtain rfl:i=a.length:=by omega
  rw [Nat.sub_self,List.replicate_zero,List.append_nil,List.take_length,List.take_of_length_le (by omega)] at *
  have hbo:=bytesOf_ints (s:=xorB a b)
  have hrow:((xorB a b).map fun c:UInt8=>(c.toNat:Int)).length=a.length:=by simp [hxl]
  generalize hR:((xorB a b).map fun c:UInt8=>(c.toNat:Int))=R at *
  have htk:R.take a.length=R:=List.take_of_length_le (by omega)
  repeat' (first|refine sA ?_|refine sN ?_|rw [htk]|rw [hbo]|refine sB ?_|refine sX ?_ ?_<;>(try intro h)<;>(try omega)|exact sP|refine rK ?_|exact sQ|refine sD ?_|rfl|exact sE|omega)
  all_goals skip
end Go.Proofs.YtekmkgegjicjgaaGreat
namespace Go.Proofs.YtekmkgegjicjgaaGreat
open Go.Dv Go.Dv.EvL
set_option maxRecDepth 100000
set_option maxHeartbeats 16000000
attribute [local irreducible] Ok Rm Dm Om Sm Xm Cm Gm Hm Tm
theorem bitsN_snoc (v:Nat)(b:Bool) : ∀ d,bitsN (2 * v+b.toNat) (d+1)=bitsN v d++[bitC b]
 | 0=>by
  have:(2 * v+b.toNat).testBit 0=b:=by
   rw [Nat.testBit_zero]
   cases b<;>simp<;>omega
  simp [bitsN,this]
 | d+1=>by
  have h:(2 * v+b.toNat).testBit (d+1)=v.testBit d:=by
   rw [Nat.testBit_succ]
   congr 1
   cases b<;>simp<;>omega
  have ih:=bitsN_snoc v b d
  rw [bitsN,h,ih]
  rfl
theorem xor_bitsN (x y:Nat) : ∀ d,xorB (bitsN x d) (bitsN y d)=bitsN (x ^^^ y) d
 | 0=>rfl
 | d+1=>by
  have ih:=xor_bitsN x y d
  unfold xorB at ih ⊢
  simp only [bitsN,List.zipWith_cons_cons,ih,Nat.testBit_xor]
  congr 1
  cases x.testBit d<;>cases y.testBit d<;>decide
theorem bitP_of {c:UInt8}(h:bitP c=true):c=bitC (decide (c=49))∧c.toNat - 48=(decide (c=49)).toNat:=by
 unfold bitP at h
 simp only [Bool.or_eq_true,decide_eq_true_eq] at h
 rcases h with rfl|rfl<;>decide
theorem bitsN_val : ∀ (k:Nat) (t:List UInt8),t.length=k→t.all bitP=true→bitsN (valB t) k=t
 | 0,t,hl,_=>by rw [List.eq_nil_of_length_eq_zero hl]; rfl
 | k+1,t,hl,hd=>by
  obtain ⟨u,c,rfl⟩ : ∃ u c,t=u++[c]:=by
   rcases List.eq_nil_or_concat t with rfl|⟨u,c,e⟩
   ·simp at hl
   ·exact ⟨u,c,by simpa using e⟩
  rw [List.all_append] at hd
  simp only [List.all_cons,List.all_nil,Bool.and_true,Bool.and_eq_true] at hd
  simp only [List.length_append,List.length_cons,List.length_nil] at hl
  have hc:=bitP_of hd.2
  have ih:=bitsN_val k u (by omega) hd.1
  rw [valB_snoc,hc.2,bitsN_snoc,ih,← hc.1]
theorem bitsN_low {v d:Nat}(h:v<2 ^ d):bitsN v (d+1)=48::bitsN v d:=by
 rw [bitsN,Nat.testBit_lt_two_pow h]
 rfl
def divF (s:List UInt8):List UInt8:=s++List.replicate 12 48
theorem divF_len (s:List UInt8):(divF s).length=s.length+12:=by simp [divF]
theorem divF_bits {s:List UInt8}(h:s.all bitP=true):(divF s).all bitP=true:=by
 unfold divF
 rw [List.all_append,h]
 decide
theorem divF_at {s:List UInt8}(h:s.all bitP=true){j:Nat}(hj:j<s.length+12):(divF s).getD j default=bitC (decide (j<s.length∧s.getD j default=49)):=by
 unfold divF
 rcases Nat.lt_or_ge j s.length with h1|h1
 ·rw [List.getD_eq_getElem?_getD,List.getElem?_append_left h1,← List.getD_eq_getElem?_getD]
  have hb:=(bitP_of (List.all_eq_true.1 h _ (getD_mem (d:=default) h1))).1
  have he:decide (j<s.length∧s.getD j default=49)=decide (s.getD j default=49):=by simp only [h1,true_and]
  rw [he]
  exact hb
 ·rw [List.getD_eq_getElem?_getD,List.getElem?_append_right h1,List.getElem?_replicate,if_pos (by omega)]
  rw [show decide (j<s.length∧s.getD j default=49)=false from by simp; omega]
  rfl
theorem par_low {s:List UInt8}(h:s.all bitP=true) : ∀ i,i≤12→parTo s i=valB ((divF s).take i)
 | 0,_=>rfl
 | i+1,hi=>by
  have ih:=par_low h i (by omega)
  have hl:=divF_len s
  have hv:=valB_lt _ ((divF s).take i) rfl (take_bits (divF_bits h))
  have hlt:((divF s).take i).length=i:=by rw [List.length_take]; omega
  rw [hlt] at hv
  have hp:(2:Nat) ^ i≤2 ^ 11:=Nat.pow_le_pow_right (by omega) (by omega)
  rw [valB_step (by omega),divF_at h (by omega),parTo,ih,stepP]
  have hb:(bitC (decide (i<s.length∧s.getD i default=49))).toNat - 48=(decide (i<s.length∧s.getD i default=49)).toNat:=by rw [bitC_val]; omega
  rw [hb]
  have hle:(decide (i<s.length∧s.getD i default=49)).toNat≤1:=by cases decide (i<s.length∧s.getD i default=49)<;>decide
  rw [if_neg (by omega)]
def divL (s:List UInt8)(i:Nat):List UInt8:=List.replicate i 48++(bitsN (parTo s (i+12)) 12++(divF s).drop (i+12))
theorem divL_len {s:List UInt8}{i:Nat}(h:i≤s.length):(divL s i).length=s.length+12:=by
 have:=divF_len s
 simp only [divL,List.length_append,List.length_replicate,bits_len,List.length_drop]
 omega
theorem divL_zero {s:List UInt8}(h:s.all bitP=true):divL s 0=divF s:=by
 have hl:=divF_len s
 have e:=bitsN_val 12 ((divF s).take 12) (by rw [List.length_take]; omega) (take_bits (divF_bits h))
 unfold divL
 rw [Nat.zero_add,par_low h 12 (Nat.le_refl _),e]
 simp
theorem divL_win {s:List UInt8}(h:s.all bitP=true){i:Nat}(hi:i<s.length) :
  divL s i=List.replicate i 48++(bitsN (2 * parTo s (i+12)+(decide (i+12<s.length∧s.getD (i+12) default=49)).toNat) 13++(divF s).drop (i+13)):=by
 have hl:=divF_len s
 unfold divL
 rw [drop_cons (d:=default) (show i+12<(divF s).length by omega),divF_at h (by omega),bitsN_snoc,List.append_assoc]
 rfl
end Go.Proofs.YtekmkgegjicjgaaGreat
namespace Go.Proofs.YtekmkgegjicjgaaGreat
open Go.Dv Go.Dv.EvL
set_option maxRecDepth 100000
set_option maxHeartbeats 16000000
attribute [local irreducible] Ok Rm Dm Om Sm Xm Cm Gm Hm Tm
def winX (s:List UInt8)(i:Nat):Nat:=2 * parTo s (i+12)+(decide (i+12<s.length∧s.getD (i+12) default=49)).toNat
theorem winX_lt (s:List UInt8)(i:Nat):winX s i<8192:=by
 have h1:=parTo_lt s (i+12)
 have h2:(decide (i+12<s.length∧s.getD (i+12) default=49)).toNat≤1:=by cases decide (i+12<s.length∧s.getD (i+12) default=49)<;>decide
 unfold winX
 omega
theorem winX_step (s:List UInt8)(i:Nat):parTo s (i+1+12)=if 4096≤winX s i then winX s i ^^^ 6159 else winX s i:=by
 rw [show i+1+12=(i+12)+1 from by omega,parTo,stepP]
 rfl
theorem top_bit {v:Nat}(h:v<8192):v.testBit 12=decide (4096≤v):=by
 have h1:=Nat.testBit_lt_two_pow (x:=v - 4096) (i:=12) (by omega)
 by_cases h2:4096≤v
 ·have e:v.testBit 12=(decide (v / 2 ^ 12 % 2=1)):=Nat.testBit_eq_decide_div_mod_eq
  rw [e,decide_eq_decide]
  omega
 ·rw [Nat.testBit_lt_two_pow (by omega)]
  simp [h2]
theorem divL_at {s:List UInt8}(h:s.all bitP=true){i:Nat}(hi:i<s.length):(divL s i).getD i default=bitC (decide (4096≤winX s i)):=by
 rw [divL_win h hi,List.getD_eq_getElem?_getD,List.getElem?_append_right (by simp),List.length_replicate,Nat.sub_self]
 show ((bitsN (winX s i) 13++_)[0]?).getD default=_
 rw [bitsN,top_bit (winX_lt s i)]
 rfl
theorem divL_same {s:List UInt8}(h:s.all bitP=true){i:Nat}(hi:i<s.length)(hx:winX s i<4096):divL s (i+1)=divL s i:=by
 rw [divL_win h hi]
 show _=List.replicate i 48++(bitsN (winX s i) 13++(divF s).drop (i+13))
 rw [bitsN_low (d:=12) (by omega)]
 unfold divL
 rw [winX_step,if_neg (by omega),List.replicate_succ',List.append_assoc]
 rfl
def divW (s:List UInt8)(i:Nat):List UInt8:=((divL s i).drop i).take 13
theorem divW_eq {s:List UInt8}(h:s.all bitP=true){i:Nat}(hi:i<s.length):divW s i=bitsN (winX s i) 13:=by
 unfold divW
 rw [divL_win h hi,List.drop_left' (by simp),List.take_left' (bits_len _ _)]
 rfl
theorem divL_next {s:List UInt8}(h:s.all bitP=true){i:Nat}(hi:i<s.length)(hx:4096≤winX s i) :
  (divL s i).take i++xorB (divW s i) [49,49,48,48,48,48,48,48,48,49,49,49,49]++(divL s i).drop (i+13)=divL s (i+1):=by
 have hd:([49,49,48,48,48,48,48,48,48,49,49,49,49]:List UInt8)=bitsN 6159 13:=by decide
 have hw:=winX_lt s i
 have hlt:winX s i ^^^ 6159<4096:=by
  obtain ⟨v,hv⟩ : ∃ v,winX s i=4096+v:=⟨winX s i - 4096,by omega⟩
  rw [hv]
  exact xor_top v (by omega)
 rw [divW_eq h hi,hd,xor_bitsN,bitsN_low (d:=12) (by omega),divL_win h hi]
 show (List.replicate i 48++(bitsN (winX s i) 13++(divF s).drop (i+13))).take i++_++(List.replicate i 48++(bitsN (winX s i) 13++(divF s).drop (i+13))).drop (i+13)=_
 rw [List.take_left' (by simp),← List.append_assoc (List.replicate i 48) (bitsN (winX s i) 13),List.drop_left' (by simp [bits_len])]
 unfold divL
 rw [winX_step,if_pos hx,List.replicate_succ',show i+1+12=i+13 from by omega]
 simp
theorem divW_len {s:List UInt8}(h:s.all bitP=true){i:Nat}(hi:i<s.length):(divW s i).length=13:=by rw [divW_eq h hi,bits_len]
theorem divL_end {s:List UInt8}:(divL s s.length).drop s.length=bitsN (parN s) 12:=by
 unfold divL
 rw [List.drop_left' (by simp),List.drop_eq_nil_of_le (by rw [divF_len]; omega),List.append_nil]
 rfl
end Go.Proofs.YtekmkgegjicjgaaGreat
namespace Go.Proofs.YtekmkgegjicjgaaGreat
open Go.Dv Go.Dv.EvL
set_option maxRecDepth 100000
set_option maxHeartbeats 16000000
attribute [local irreducible] Ok Rm Dm Om Sm Xm Cm Gm Hm Tm
theorem bits_ascii {s:List UInt8}{i:Nat}(h:s.all bitP=true)(hi:i<s.length):(s.getD i 0).toNat<128:=by
 have:=(bits_at h hi).2
 have e0:s.getD i 0=s.getD i default:=rfl
 rw [e0]
 omega
theorem k_parityOf (s:List UInt8)(hb:s.all bitP=true)(hl:s.length≤900):Okv Tryz.prog 222 [.str s] (.p (.str (bitsN (parN s) 12))):=by
 refine ok_D hmix c_impl_parityOf (by simp) ?_
 have h0:=k_bitsOf 0 12 (by decide) (by decide)
 rw [show bitsN 0 12=List.replicate 12 48 from by decide] at h0
 have hF:s++List.replicate 12 48=divF s:=rfl
 have hFl:=divF_len s
 refine sA ?_
 repeat' (first|refine sA ?_|refine sN ?_|refine rW rfl (h0) ?_|refine rV (h0) ?_|rw [hF]|refine sB ?_|refine sX ?_ ?_<;>(try intro h)<;>(try omega)|exact sP|refine rK ?_|exact sQ|refine sD ?_|rfl|exact sE|omega)
 refine Dm_loop [0,3,10] (fun m ds H' => ∃ i:Nat,i≤s.length∧m=s.length - i∧ds=[.p (.str s),.own 0 0 (divF s).length,.ptr 1 0 0] ∧
  H'=[.arr (5+1048576) 1 ((divL s i).map fun b => .int .u8 b.toNat),.iter s i]) s.length ⟨0,by omega,by omega,by rfl,by rw [divL_zero hb]; rfl⟩ ?_
 rintro m ds H' ⟨i,hi,rfl,rfl,rfl⟩ -
 have hLl:=divL_len hi
 rcases Nat.lt_or_ge i s.length with hlt|hge
 ·have hat:=divL_at hb hlt
  have hasc:=bits_ascii hb hlt
  have e1:(divL s i).getD i 0=(divL s i).getD i default:=rfl
  have hwl:=divW_len hb hlt
  have hW:((divL s i).drop i).take 13=divW s i:=rfl
  have hx:=k_xorBits (divW s i) [49,49,48,48,48,48,48,48,48,49,49,49,49] (by omega) (by rw [hwl]; rfl)
  have hxl:=xorB_len (divW s i) [49,49,48,48,48,48,48,48,48,49,49,49,49] (by rw [hwl]; rfl)
  have hn1:4096≤winX s i→_:=divL_next hb hlt
  have hn2:winX s i<4096→_:=divL_same hb hlt
  generalize hD1:divL s (i+1)=D1 at *
  generalize divL s i=D at *
  generalize xorB (divW s i) [49,49,48,48,48,48,48,48,48,49,49,49,49]=X at *
  obtain ⟨k,hk⟩ : ∃ k,s.length - i=k+1:=⟨s.length - i - 1,by omega⟩
  have h13:((i:Int)+13).toNat - i=13:=by omega
  rw [hk]
  by_cases hw:4096≤winX s i
  ·rw [show decide (4096≤winX s i)=true from by simp [hw]] at hat
   have hat':(D.getD i default).toNat=49:=by rw [hat]; rfl
   have hn:=hn1 hw
   repeat' (first|refine sA ?_|refine sN ?_|refine Rm_nxt rfl hlt hasc ?_|rw [h13]|rw [hW]|refine rW rfl (hx) ?_|refine rV (hx) ?_|refine sB ?_|refine sX ?_ ?_<;>(try intro h)<;>(try omega)|exact sP|refine rK ?_|exact sQ|refine sD ?_|rfl|exact sE|omega)
   refine Xm_inv_n (s.length - (i+1)) (by omega) ⟨i+1,by omega,rfl,by rfl,?_⟩
   have ht:X.take ((divF s).length - i)=X:=List.take_of_length_le (by omega)
   rw [hD1,← hn]
   show [OB.arr _ _ (List.map (fun b:UInt8=>PV.int .u8 b.toNat) (List.take i D++List.take ((divF s).length - i) X++List.drop (i+min X.length ((divF s).length - i)) D)),_]=_
   rw [ht,show min X.length ((divF s).length - i)=13 from by omega]
   rfl
  ·rw [show decide (4096≤winX s i)=false from by simp [hw]] at hat
   have hat':(D.getD i default).toNat=48:=by rw [hat]; rfl
   have hn:=hn2 (by omega)
   repeat' (first|refine sA ?_|refine sN ?_|refine Rm_nxt rfl hlt hasc ?_|rw [h13]|rw [hW]|refine rW rfl (hx) ?_|refine rV (hx) ?_|refine sB ?_|refine sX ?_ ?_<;>(try intro h)<;>(try omega)|exact sP|refine rK ?_|exact sQ|refine sD ?_|rfl|exact sE|omega)
   refine Xm_inv_n (s.length - (i+1)) (by omega) ⟨i+1,by omega,rfl,by rfl,?_⟩
   rw [hD1,hn]
   rfl
 ·obtain rfl:i=s.length:=by omega
  repeat' (first|refine sA ?_|refine sN ?_|refine Rm_nxt_end rfl hge ?_|refine sB ?_|refine sX ?_ ?_<;>(try intro h)<;>(try omega)|exact sP|refine rK ?_|exact sQ|refine sD ?_|rfl|exact sE|omega)
  rw [divL_end,List.take_of_length_le (by rw [bits_len]; omega)]
end Go.Proofs.YtekmkgegjicjgaaGreat
namespace Go.Proofs.YtekmkgegjicjgaaGreat
open Go.Dv Go.Dv.EvL
set_option maxRecDepth 100000
set_option maxHeartbeats 16000000
attribute [local irreducible] Ok Rm Dm Om Sm Xm Cm Gm Hm Tm
def synN (s:List UInt8):Nat:=valB (s.drop (s.length - 12)) ^^^ parN (s.take (s.length - 12))
def sndB (s:List UInt8):Bool:=decide (synN s=0)
theorem parN_lt (s:List UInt8):parN s<4096:=parTo_lt s _
theorem synN_lt {s:List UInt8}(hb:s.all bitP=true)(hl:12≤s.length):synN s<2 ^ 12:=by
 have h1:=valB_lt 12 (s.drop (s.length - 12)) (by rw [List.length_drop]; omega) (drop_bits hb)
 have h2:=parN_lt (s.take (s.length - 12))
 exact Nat.xor_lt_two_pow h1 (by omega)
theorem bits_none : ∀ (d v:Nat),(bitsN v d).count 49=0 → ∀ j,j<d→v.testBit j=false
 | 0,_,_,_,h=>by omega
 | d+1,v,h,j,hj=>by
  rw [bitsN,List.count_cons] at h
  have h1:v.testBit d=false:=by
   cases hv:v.testBit d
   ·rfl
   ·rw [hv] at h
    exact absurd h (by show ¬ (_+1=0); omega)
  rcases Nat.lt_or_ge j d with h2|h2
  ·exact bits_none d v (by omega) j h2
  ·obtain rfl:j=d:=by omega
   exact h1
theorem count_zero {v:Nat}(h:v<2 ^ 12):(bitsN v 12).count 49=0↔v=0:=by
 constructor
 ·intro h1
  have h2:=bits_none 12 v h1
  refine Nat.eq_of_testBit_eq fun j => ?_
  rw [Nat.zero_testBit]
  rcases Nat.lt_or_ge j 12 with h3|h3
  ·exact h2 j h3
  ·exact Nat.testBit_lt_two_pow (Nat.lt_of_lt_of_le h (Nat.pow_le_pow_right (by omega) h3))
 ·rintro rfl
  decide
theorem syn_text {s:List UInt8}(hb:s.all bitP=true)(hl:12≤s.length):xorB (s.drop (s.length - 12)) (bitsN (parN (s.take (s.length - 12))) 12)=bitsN (synN s) 12:=by
 have e:=bitsN_val 12 (s.drop (s.length - 12)) (by rw [List.length_drop]; omega) (drop_bits hb)
 have:=xor_bitsN (valB (s.drop (s.length - 12))) (parN (s.take (s.length - 12))) 12
 rw [e] at this
 exact this
theorem k_syndromeOf (s:List UInt8)(hb:s.all bitP=true)(h1:12≤s.length)(hl:s.length≤900):Okv Tryz.prog 233 [.str s] (.p (.str (bitsN (synN s) 12))):=by
 refine ok_D hmix c_impl_syndromeOf (by simp) ?_
 have h2:=k_parityOf (s.take (s.length - 12)) (take_bits hb) (by rw [List.length_take]; omega)
 have h3:=k_xorBits (s.drop (s.length - 12)) (bitsN (parN (s.take (s.length - 12))) 12) (by rw [List.length_drop]; omega) (by rw [bits_len,List.length_drop]; omega)
 rw [syn_text hb h1] at h3
 have hn:(s.length:Int) - 12=((s.length - 12:Nat):Int):=by omega
 have hd:(s.drop (s.length - 12)).take (s.length - (s.length - 12))=s.drop (s.length - 12):=List.take_of_length_le (by rw [List.length_drop]; omega)
 have hn1:s.length - 12≤s.length:=by omega
 generalize hk:s.length - 12=k at *
 refine sA ?_
 repeat' (first|refine sA ?_|refine sN ?_|rw [hn]|refine rW rfl (h2) ?_|refine rV (h2) ?_|refine rW rfl (h3) ?_|refine rV (h3) ?_|rw [hd]|refine sB ?_|refine sX ?_ ?_<;>(try intro h)<;>(try omega)|exact sP|refine rK ?_|exact sQ|refine sD ?_|rfl|exact sE|omega)
 all_goals skip
theorem k_isSound (s:List UInt8)(hb:s.all bitP=true)(h1:12≤s.length)(hl:s.length≤900):Okv Tryz.prog 229 [.str s] (.p (.bool (sndB s))):=by
 refine ok_D hmix c_impl_isSound (by simp) ?_
 have h2:=k_syndromeOf s hb h1 hl
 have h3:=k_ones (bitsN (synN s) 12) (by rw [bits_len]; omega)
 have h4:=count_zero (synN_lt hb h1)
 have h5:(decide (((bitsN (synN s) 12).count 49:Int)=0))=sndB s:=by
  unfold sndB
  rw [decide_eq_decide,← h4]
  omega
 generalize bitsN (synN s) 12=Y at *
 refine sA ?_
 repeat' (first|refine sA ?_|refine sN ?_|refine rW rfl (h2) ?_|refine rV (h2) ?_|refine rW rfl (h3) ?_|refine rV (h3) ?_|refine sB ?_|refine sX ?_ ?_<;>(try intro h)<;>(try omega)|exact sP|refine rK ?_|exact sQ|refine sD ?_|rfl|exact sE|omega)
 all_goals skip
theorem k_l4Syndrome (s:List UInt8)(hb:s.all bitP=true)(h1:12≤s.length)(hl:s.length≤900):Okv Tryz.prog 217 [.str s] (.p (.int .i64 (synN s:Nat))):=by
 refine ok_D hmix c_spec_l4Syndrome (by simp) ?_
 have h2:=k_l4Parity (s.take (s.length - 12)) (by rw [List.length_take]; omega)
 have h3:=k_l2Number (s.drop (s.length - 12)) (drop_bits hb) (by rw [List.length_drop]; omega)
 have hv:=valB_lt 12 (s.drop (s.length - 12)) (by rw [List.length_drop]; omega) (drop_bits hb)
 have hp:=parN_lt (s.take (s.length - 12))
 have hx:bitsV .xor .i64 (parN (s.take (s.length - 12)):Nat) (valB (s.drop (s.length - 12)):Nat)=((synN s:Nat):Int):=by
  rw [xor_nat (by omega) (by omega),Nat.xor_comm]
  rfl
 have hn:(s.length:Int) - 12=((s.length - 12:Nat):Int):=by omega
 have hd:(s.drop (s.length - 12)).take (s.length - (s.length - 12))=s.drop (s.length - 12):=List.take_of_length_le (by rw [List.length_drop]; omega)
 have hn1:s.length - 12≤s.length:=by omega
 generalize hk:s.length - 12=k at *
 refine sA ?_
 repeat' (first|refine sA ?_|refine sN ?_|rw [hn]|refine rW rfl (h2) ?_|refine rV (h2) ?_|refine rW rfl (h3) ?_|refine rV (h3) ?_|rw [hd]|rw [hx]|refine sB ?_|refine sX ?_ ?_<;>(try intro h)<;>(try omega)|exact sP|refine rK ?_|exact sQ|refine sD ?_|rfl|exact sE|omega)
 all_goals skip
end Go.Proofs.YtekmkgegjicjgaaGreat
namespace Go.Proofs.YtekmkgegjicjgaaGreat
open Go.Dv Go.Dv.EvL
set_option maxRecDepth 100000
set_option maxHeartbeats 16000000
attribute [local irreducible] Ok Rm Dm Om Sm Xm Cm Gm Hm Tm
def flipL (s:List UInt8)(i:Nat):List UInt8:=s.set i (97 - s.getD i default)
theorem flip_len {s:List UInt8}{i:Nat}:(flipL s i).length=s.length:=by simp [flipL]
theorem flip_bits {s:List UInt8}{i:Nat}(hb:s.all bitP=true)(hi:i<s.length):(flipL s i).all bitP=true:=by
 rw [List.all_eq_true]
 intro x hx
 rcases List.mem_or_eq_of_mem_set hx with h|h
 ·exact List.all_eq_true.1 hb x h
 ·have h2:=List.all_eq_true.1 hb _ (getD_mem (d:=default) hi)
  subst h
  unfold bitP at h2
  simp only [Bool.or_eq_true,decide_eq_true_eq] at h2
  rcases h2 with h2|h2<;>rw [h2]<;>decide
theorem sub97 {c:UInt8}(h:bitP c=true):IntKind.wrap .u8 (97 - (c.toNat:Int))=((97 - c).toNat:Int):=by
 unfold bitP at h
 simp only [Bool.or_eq_true,decide_eq_true_eq] at h
 rcases h with h|h<;>subst h<;>decide
def repK (s:List UInt8):Nat→List UInt8 × Int × Bool
 | 0=>([],0,false)
 | k+1=>if sndB (flipL s (s.length - (k+1)))=true then (flipL s (s.length - (k+1)),((s.length - (k+1):Nat):Int),true) else repK s k
def repB (s:List UInt8):List UInt8 × Int × Bool:=if sndB s=true then (s,-1,true) else repK s s.length
theorem k_flip (s:List UInt8)(i:Nat)(hb:s.all bitP=true)(hi:i<s.length)(hl:s.length≤900):Okv Tryz.prog 230 [.str s,.int .i64 i] (.p (.str (flipL s i))):=by
 refine ok_D hmix c_impl_flip (by simp) ?_
 have h1:=List.all_eq_true.1 hb _ (getD_mem (d:=default) hi)
 have h2:=sub97 h1
 have e:s.set i (97 - s.getD i default)=flipL s i:=rfl
 have hfl:=flip_len (s:=s) (i:=i)
 have e0:s.getD i 0=s.getD i default:=rfl
 refine sA ?_
 repeat' (first|refine sA ?_|refine sN ?_|refine Rm_putb (97 - s.getD i default) (by omega) h2 rfl ?_|refine sB ?_|refine sX ?_ ?_<;>(try intro h)<;>(try omega)|exact sP|refine rK ?_|exact sQ|refine sD ?_|rfl|exact sE|omega)
 rw [e]
 exact List.take_of_length_le (by omega)
theorem k_IsBits (s:List UInt8)(hb:s.all bitP=true)(hl:s.length≤64):Okv Tryz.prog 231 [.str s] (.p (.bool true)):=by
 refine ok_D hmix c_impl_IsBits (by simp) ?_
 refine sA ?_
 repeat' (first|refine sA ?_|refine sN ?_|refine sB ?_|refine sX ?_ ?_<;>(try intro h)<;>(try omega)|exact sP|refine rK ?_|exact sQ|refine sD ?_|rfl|exact sE|omega)
 refine Dm_loop [0,3] (fun m ds H' => ∃ i:Nat,i≤s.length∧m=s.length - i∧ds=[.p (.str s),.p (.int .i64 i)]∧H'=[]) s.length ⟨0,by omega,by omega,rfl,rfl⟩ ?_
 rintro m ds H' ⟨i,hi,rfl,rfl,rfl⟩ -
 have h1:=fun h:i<s.length=>bits_at hb h
 have e0:s.getD i 0=s.getD i default:=rfl
 repeat' (first|refine sA ?_|refine sN ?_|rw [e0]|refine sB ?_|refine sX ?_ ?_<;>(try intro h)<;>(try omega)|exact sP|refine rK ?_|exact sQ|refine sD ?_|rfl|exact sE|omega)
 all_goals first
  | (refine Xm_inv_n (s.length - (i+1)) (by omega) ⟨i+1,by omega,rfl,rfl,rfl⟩; done)
  | skip
theorem k_isCarrier (s:List UInt8)(hb:s.all bitP=true)(h1:12≤s.length)(hl:s.length≤64):Okv Tryz.prog 228 [.str s] (.p (.bool true)):=by
 refine ok_D hmix c_impl_isCarrier (by simp) ?_
 have h2:=k_IsBits s hb hl
 refine sA ?_
 repeat' (first|refine sA ?_|refine sN ?_|refine rW rfl (h2) ?_|refine rV (h2) ?_|refine sB ?_|refine sX ?_ ?_<;>(try intro h)<;>(try omega)|exact sP|refine rK ?_|exact sQ|refine sD ?_|rfl|exact sE|omega)
 all_goals skip
theorem k_RepairBit (s:List UInt8)(hb:s.all bitP=true)(h1:12≤s.length)(hl:s.length≤64):Okv Tryz.prog 223 [.str s] (.tup [.p (.str (repB s).1),.p (.int .i64 (repB s).2.1),.p (.bool (repB s).2.2)]):=by
 refine ok_D hmix c_impl_RepairBit (by simp) ?_
 have h2:=k_isCarrier s hb h1 hl
 have h3:=k_isSound s hb h1 (by omega)
 have hs:repB s=if sndB s=true then (s,-1,true) else repK s s.length:=rfl
 cases hss:sndB s
 ·rw [hss] at h3 hs
  rw [if_neg (by decide)] at hs
  rw [hs]
  refine sA ?_
  repeat' (first|refine sA ?_|refine sN ?_|refine rW rfl (h2) ?_|refine rV (h2) ?_|refine rW rfl (h3) ?_|refine rV (h3) ?_|refine sB ?_|refine sX ?_ ?_<;>(try intro h)<;>(try omega)|exact sP|refine rK ?_|exact sQ|refine sD ?_|rfl|exact sE|omega)
  refine Dm_loop [0,13] (fun m ds H' => ∃ i:Nat,i≤s.length∧m=s.length - i∧repK s s.length=repK s (s.length - i)∧ds=[.p (.str s),.ptr 0 0 0]∧H'=[.iter s i]) s.length ⟨0,by omega,by omega,rfl,rfl,rfl⟩ ?_
  rintro m ds H' ⟨i,hi,rfl,he,rfl,rfl⟩ -
  rcases Nat.lt_or_ge i s.length with hlt|hge
  ·have hasc:=bits_ascii hb hlt
   have h4:=k_flip s i hb hlt (by omega)
   have h5:=k_isSound (flipL s i) (flip_bits hb hlt) (by rw [flip_len]; omega) (by rw [flip_len]; omega)
   obtain ⟨k,hk⟩ : ∃ k,s.length - i=k+1:=⟨s.length - i - 1,by omega⟩
   have hr:repK s (k+1)=if sndB (flipL s i)=true then (flipL s i,(i:Int),true) else repK s k:=by
    rw [repK,show s.length - (k+1)=i from by omega]
   rw [hk] at he ⊢
   rw [hr] at he
   cases hf:sndB (flipL s i)
   ·rw [hf] at h5 he
    rw [if_neg (by decide)] at he
    repeat' (first|refine sA ?_|refine sN ?_|refine Rm_nxt rfl hlt hasc ?_|refine rW rfl (h4) ?_|refine rV (h4) ?_|refine rW rfl (h5) ?_|refine rV (h5) ?_|refine sB ?_|refine sX ?_ ?_<;>(try intro h)<;>(try omega)|exact sP|refine rK ?_|exact sQ|refine sD ?_|rfl|exact sE|omega)
    refine Xm_inv_n (s.length - (i+1)) (by omega) ⟨i+1,by omega,rfl,?_,rfl,rfl⟩
    rw [he,show s.length - (i+1)=k from by omega]
   ·rw [hf] at h5 he
    rw [if_pos rfl] at he
    rw [he]
    repeat' (first|refine sA ?_|refine sN ?_|refine Rm_nxt rfl hlt hasc ?_|refine rW rfl (h4) ?_|refine rV (h4) ?_|refine rW rfl (h5) ?_|refine rV (h5) ?_|refine sB ?_|refine sX ?_ ?_<;>(try intro h)<;>(try omega)|exact sP|refine rK ?_|exact sQ|refine sD ?_|rfl|exact sE|omega)
    all_goals skip
  ·obtain rfl:i=s.length:=by omega
   rw [Nat.sub_self,repK] at he
   rw [he]
   repeat' (first|refine sA ?_|refine sN ?_|refine Rm_nxt_end rfl hge ?_|refine sB ?_|refine sX ?_ ?_<;>(try intro h)<;>(try omega)|exact sP|refine rK ?_|exact sQ|refine sD ?_|rfl|exact sE|omega)
   all_goals skip
 ·rw [hss] at h3 hs
  rw [if_pos rfl] at hs
  rw [hs]
  refine sA ?_
  repeat' (first|refine sA ?_|refine sN ?_|refine rW rfl (h2) ?_|refine rV (h2) ?_|refine rW rfl (h3) ?_|refine rV (h3) ?_|refine sB ?_|refine sX ?_ ?_<;>(try intro h)<;>(try omega)|exact sP|refine rK ?_|exact sQ|refine sD ?_|rfl|exact sE|omega)
  all_goals skip
end Go.Proofs.YtekmkgegjicjgaaGreat
namespace Go.Proofs.YtekmkgegjicjgaaGreat
open Go.Dv Go.Dv.EvL
set_option maxRecDepth 100000
set_option maxHeartbeats 16000000
attribute [local irreducible] Ok Rm Dm Om Sm Xm Cm Gm Hm Tm
theorem all_snoc {α : Type}{p : α → Bool}{s:List α}{i:Nat}{d : α}(h:i<s.length)(h1:(s.take i).all p=true):(s.take (i+1)).all p=p (s.getD i d):=by
 rw [take_snoc (d:=d) h,List.all_append,h1]
 simp
theorem all_no {α : Type}{p : α → Bool}{s:List α}{i:Nat}{d : α}(h:i<s.length)(h1:p (s.getD i d)=false):s.all p=false:=by
 rw [Bool.eq_false_iff]
 intro h2
 rw [List.all_eq_true.1 h2 _ (getD_mem h)] at h1
 cases h1
theorem all_take_len {α : Type}{p : α → Bool}{s:List α}(h1:(s.take s.length).all p=true):s.all p=true:=by rwa [List.take_length] at h1
def HX:List UInt8:=[48,49,50,51,52,53,54,55,56,57,65,66,67,68,69,70]
def hexN (c:UInt8):Int:=if 48≤c.toNat∧c.toNat≤57 then c.toNat - 48 else if 65≤c.toNat∧c.toNat≤70 then c.toNat - 55 else -1
def hexP (c:UInt8):Bool:=decide (0≤hexN c)
theorem hex_all : ∀ m:Nat,m<256→hexN (UInt8.ofNat m) = -1∨(0≤hexN (UInt8.ofNat m)∧hexN (UInt8.ofNat m)<16∧HX.getD (hexN (UInt8.ofNat m)).toNat 0=UInt8.ofNat m):=by decide +kernel
theorem hex_at (c:UInt8):hexN c = -1∨(0≤hexN c∧hexN c<16∧HX.getD (hexN c).toNat 0=c):=by
 have:=hex_all c.toNat c.toNat_lt
 rwa [UInt8.ofNat_toNat] at this
theorem hex_of : ∀ i:Nat,i<16→hexN (HX.getD i 0)=i:=by decide +kernel
theorem k_hexDigit (c:UInt8):Okv Tryz.prog 220 [.int .u8 c.toNat] (.p (.int .i64 (hexN c))):=by
 refine ok_D hmix c_impl_hexDigit (by simp) ?_
 have hl:HX.length=16:=rfl
 refine sA ?_
 refine Dm_loop [0,3] (fun m ds H' => ∃ i:Nat,i≤16∧m=16 - i∧(∀ j,j<i→HX.getD j 0≠c)∧ds=[.p (.int .u8 c.toNat),.p (.int .i64 i)]∧H'=[]) 16 ⟨0,by omega,by omega,fun j h=>by omega,rfl,rfl⟩ ?_
 rintro m ds H' ⟨i,hi,rfl,hn,rfl,rfl⟩ -
 have h1:=hex_of i
 have h2:=hex_at c
 rw [show ([48,49,50,51,52,53,54,55,56,57,65,66,67,68,69,70]:List UInt8)=HX from rfl]
 generalize hX:HX=X at *
 repeat' (first|refine sA ?_|refine sN ?_|refine sB ?_|refine sX ?_ ?_<;>(try intro h)<;>(try omega)|exact sP|refine rK ?_|exact sQ|refine sD ?_|rfl|exact sE|omega)
 ·have e:=u8_eq.1 h
  have h1:=h1 (by omega)
  rw [show X.getD i 0=c from e] at h1
  rw [h1]
 ·refine Xm_inv_n (16 - (i+1)) (by omega) ⟨i+1,by omega,rfl,fun j hj => ?_,rfl,rfl⟩
  by_cases hji:j=i
  ·subst hji
   exact fun e=>h (u8_eq.2 e)
  ·exact hn j (by omega)
 ·rcases h2 with h2|⟨g1,g2,g3⟩
  ·rw [h2]
  ·exact absurd g3 (hn _ (by omega))
end Go.Proofs.YtekmkgegjicjgaaGreat
