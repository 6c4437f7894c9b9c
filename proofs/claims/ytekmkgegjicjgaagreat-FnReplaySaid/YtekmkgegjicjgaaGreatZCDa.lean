import Derived.Test.YtekmkgegjicjgaaGreatZBas
import Derived.Test.YtekmkgegjicjgaaGreatZCu
import Derived.Test.YtekmkgegjicjgaaGreatZFrmB
import Derived.Test.YtekmkgegjicjgaaGreatZCon
namespace Go.Proofs.YtekmkgegjicjgaaGreat
open Go.Dv Go.Dv.EvL
set_option maxRecDepth 100000
set_option maxHeartbeats 16000000
attribute [local irreducible] Ok Rm Dm Om Sm Xm Cm Gm Hm Tm
theorem fr_in {k ad d:Nat}(h1:k<4)(h2:1≤ad∧ad≤65535)(h3:d≤16777215):frF (1+k,ad,d)=true:=by
 unfold frF frB addrB
 simp only [Bool.and_eq_true,decide_eq_true_eq]
 omega
theorem k_frame (code:List UInt8)(a s:Int)(hc:code.length≤65536)(ha:0≤a∧a≤1000000000):Ok Tryz.prog 127 [.ptr 0 0 0] [curO code a s]
  fun d H => ∃ (f:Nat × Nat × Nat) (a' s':Int),d = .p (.agg [.int .i64 f.1,.int .i64 f.2.1,.int .i64 f.2.2])∧frF f=true∧a≤a'∧a'≤a+20∧H=[curO code a' s']:=by
 refine ok_D hmix c_spec_l1Cur_frame (by simp) ?_
 refine sA ?_
 repeat' (first|refine sA ?_|refine sN ?_|refine sB ?_|refine sX ?_ ?_<;>(try intro h)<;>(try omega)|exact sP|refine rK ?_|exact sQ|refine sD ?_|rfl|exact sE|omega)
 refine Rm_pick hc rfl (by omega) (by omega) (fun k a1 s1 b1 b2 b3 => ?_)
 repeat' (first|refine sA ?_|refine sN ?_|refine sB ?_|refine sX ?_ ?_<;>(try intro h)<;>(try omega)|exact sP|refine rK ?_|exact sQ|refine sD ?_|rfl|exact sE|omega)
 refine Rm_among 1 65535 hc rfl rfl rfl (by omega) (by omega) (by first|decide|(simp; omega)) (by decide) (fun ad a2 s2 c1 c2 c3 c4 c5 => ?_)
 clear c3
 obtain ⟨ad,rfl⟩ : ∃ n:Nat,ad=n:=⟨ad.toNat,by omega⟩
 repeat' (first|refine sA ?_|refine sN ?_|refine sB ?_|refine sX ?_ ?_<;>(try intro h)<;>(try omega)|exact sP|refine rK ?_|exact sQ|refine sD ?_|rfl|exact sE|omega)
 refine Rm_pick hc rfl (by omega) (by omega) (fun x a3 s3 d1 d2 d3 => ?_)
 repeat' (first|refine sA ?_|refine sN ?_|refine sB ?_|refine sX ?_ ?_<;>(try intro h)<;>(try omega)|exact sP|refine rK ?_|exact sQ|refine sD ?_|rfl|exact sE|omega)
 refine Rm_among 1 65536 hc rfl rfl rfl (by omega) (by omega) (by first|decide|(simp; omega)) (by decide) (fun m a4 s4 e1 e2 e3 e4 e5 => ?_)
 have hm:m=((1:Nat):Int)∨m=((256:Nat):Int)∨m=((65536:Nat):Int):=by simpa using e3
 clear e3
 rcases hm with rfl|rfl|rfl
 all_goals
  repeat' (first|refine sA ?_|refine sN ?_|refine sB ?_|refine sX ?_ ?_<;>(try intro h)<;>(try omega)|exact sP|refine rK ?_|exact sQ|refine sD ?_|rfl|exact sE|omega)
  refine Rm_pick hc rfl (by omega) (by omega) (fun y a5 s5 f1 f2 f3 => ?_)
  repeat' (first|refine sA ?_|refine sN ?_|refine sB ?_|refine sX ?_ ?_<;>(try intro h)<;>(try omega)|exact sP|refine rK ?_|exact sQ|refine sD ?_|rfl|exact sE|omega)
 all_goals skip
 ·exact ret_gen _ _ _ rfl rfl rfl ⟨(1+k,ad,x * 1+y),a5,s5,rfl,fr_in (by omega) (by omega) (by omega),by omega,by omega,rfl⟩
 ·exact ret_gen _ _ _ rfl rfl rfl ⟨(1+k,ad,x * 256+y),a5,s5,rfl,fr_in (by omega) (by omega) (by omega),by omega,by omega,rfl⟩
 ·exact ret_gen _ _ _ rfl rfl rfl ⟨(1+k,ad,x * 65536+y),a5,s5,rfl,fr_in (by omega) (by omega) (by omega),by omega,by omega,rfl⟩
theorem k_place (code:List UInt8)(a s:Int)(hc:code.length≤65536)(ha:0≤a∧a≤1000000000):Ok Tryz.prog 178 [.ptr 0 0 0] [curO code a s]
  fun d H => ∃ (x y:Nat) (a' s':Int),d = .p (.agg [.int .i64 x,.int .i64 y])∧x≤9899∧y≤9899∧a≤a'∧a'≤a+20∧H=[curO code a' s']:=by
 refine ok_D hmix c_spec_l1Cur_place (by simp) ?_
 refine sA ?_
 repeat' (first|refine sA ?_|refine sN ?_|refine sB ?_|refine sX ?_ ?_<;>(try intro h)<;>(try omega)|exact sP|refine rK ?_|exact sQ|refine sD ?_|rfl|exact sE|omega)
 refine Rm_pick hc rfl (by omega) (by omega) (fun x a1 s1 b1 b2 b3 => ?_)
 repeat' (first|refine sA ?_|refine sN ?_|refine sB ?_|refine sX ?_ ?_<;>(try intro h)<;>(try omega)|exact sP|refine rK ?_|exact sQ|refine sD ?_|rfl|exact sE|omega)
 refine Rm_among 1 39 hc rfl rfl rfl (by omega) (by omega) (by first|decide|(simp; omega)) (by decide) (fun m a2 s2 c1 c2 c3 c4 c5 => ?_)
 have hm:m=((1:Nat):Int)∨m=((7:Nat):Int)∨m=((39:Nat):Int):=by simpa using c3
 clear c3
 obtain ⟨mn,rfl,hmn⟩ : ∃ n:Nat,m=n∧x * n≤9899:=by
  rcases hm with rfl|rfl|rfl
  ·exact ⟨1,rfl,by omega⟩
  ·exact ⟨7,rfl,by omega⟩
  ·exact ⟨39,rfl,by omega⟩
 clear hm
 repeat' (first|refine sA ?_|refine sN ?_|refine sB ?_|refine sX ?_ ?_<;>(try intro h)<;>(try omega)|exact sP|refine rK ?_|exact sQ|refine sD ?_|rfl|exact sE|omega)
 refine Rm_pick hc rfl (by omega) (by omega) (fun y a3 s3 d1 d2 d3 => ?_)
 repeat' (first|refine sA ?_|refine sN ?_|refine sB ?_|refine sX ?_ ?_<;>(try intro h)<;>(try omega)|exact sP|refine rK ?_|exact sQ|refine sD ?_|rfl|exact sE|omega)
 refine Rm_among 1 39 hc rfl rfl rfl (by omega) (by omega) (by first|decide|(simp; omega)) (by decide) (fun m a4 s4 e1 e2 e3 e4 e5 => ?_)
 have hm:m=((1:Nat):Int)∨m=((7:Nat):Int)∨m=((39:Nat):Int):=by simpa using e3
 clear e3
 obtain ⟨mm,rfl,hmm⟩ : ∃ n:Nat,m=n∧y * n≤9899:=by
  rcases hm with rfl|rfl|rfl
  ·exact ⟨1,rfl,by omega⟩
  ·exact ⟨7,rfl,by omega⟩
  ·exact ⟨39,rfl,by omega⟩
 clear hm
 repeat' (first|refine sA ?_|refine sN ?_|refine sB ?_|refine sX ?_ ?_<;>(try intro h)<;>(try omega)|exact sP|refine rK ?_|exact sQ|refine sD ?_|rfl|exact sE|omega)
 all_goals skip
 exact ret_gen _ _ _ rfl rfl rfl ⟨x * mn,y * mm,a4,s4,rfl,hmn,hmm,by omega,by omega,rfl⟩
end Go.Proofs.YtekmkgegjicjgaaGreat
namespace Go.Proofs.YtekmkgegjicjgaaGreat
open Go.Dv Go.Dv.EvL
set_option maxRecDepth 100000
set_option maxHeartbeats 16000000
attribute [local irreducible] Ok Rm Dm Om Sm Xm Cm Gm Hm Tm
def rpN (o:Bool):Nat:=if o=true then 99 else 100
theorem k_l7Of (x y:Nat)(o:Bool):Okv Tryz.prog 177 [.agg [.int .i64 x,.int .i64 y],.bool o] (.p (.agg [.bool o,.int .i64 ((x % rpN o:Nat):Int),.int .i64 ((y % rpN o:Nat):Int)])):=by
 refine ok_D hmix c_spec_l7Of (by simp) ?_
 have h1:=k_l7Size o
 have e1:(x:Int).tmod 100=((x % 100:Nat):Int):=tmod_nat x 100
 have e2:(y:Int).tmod 100=((y % 100:Nat):Int):=tmod_nat y 100
 have e3:(x:Int).tmod 99=((x % 99:Nat):Int):=tmod_nat x 99
 have e4:(y:Int).tmod 99=((y % 99:Nat):Int):=tmod_nat y 99
 unfold rpS at h1
 unfold rpN
 cases o<;>simp only [if_true,if_false,Bool.false_eq_true] at h1 ⊢
 all_goals
  refine sA ?_
  repeat' (first|refine sA ?_|refine sN ?_|refine rW rfl (h1) ?_|refine rV (h1) ?_|rw [e1]|rw [e2]|rw [e3]|rw [e4]|refine Dm_draw [0] (by simp) ?_|refine sB ?_|refine sX ?_ ?_<;>(try intro h)<;>(try omega)|exact sP|refine rK ?_|exact sQ|refine sD ?_|rfl|exact sE|omega)
 all_goals skip
theorem k_l7Pack (o:Bool)(p q:Nat)(hp:p≤99)(hq:q≤99):Okv Tryz.prog 176 [.agg [.bool o,.int .i64 p,.int .i64 q]] (.p (.int .i64 ((if o=true then 128 * p+q+16384 else 128 * p+q:Nat):Int))):=by
 refine ok_D hmix c_spec_l7Pack (by simp) ?_
 cases o<;>simp only [if_true,if_false,Bool.false_eq_true]
 all_goals
  refine sA ?_
  repeat' (first|refine sA ?_|refine sN ?_|refine sB ?_|refine sX ?_ ?_<;>(try intro h)<;>(try omega)|exact sP|refine rK ?_|exact sQ|refine sD ?_|rfl|exact sE|omega)
 all_goals skip
theorem k_message (code:List UInt8)(a s:Int)(hc:code.length≤65536)(ha:0≤a∧a≤900000000):Ok Tryz.prog 125 [.ptr 0 0 0] [curO code a s]
  fun d H => ∃ (t:List UInt8) (a' s':Int),d = .p (.str t)∧t.length≤100∧a≤a'∧a'≤a+100∧H=[curO code a' s']:=by
 refine ok_D hmix c_spec_l1Cur_message (by simp) ?_
 refine sA ?_
 repeat' (first|refine sA ?_|refine sN ?_|refine sB ?_|refine sX ?_ ?_<;>(try intro h)<;>(try omega)|exact sP|refine rK ?_|exact sQ|refine sD ?_|rfl|exact sE|omega)
 refine Rm_among 1 300 hc rfl rfl rfl (by omega) (by omega) (by first|decide|(simp; omega)) (by decide) (fun ad a1 s1 b1 b2 b3 b4 b5 => ?_)
 clear b3
 obtain ⟨ad,rfl⟩ : ∃ n:Nat,ad=n:=⟨ad.toNat,by omega⟩
 repeat' (first|refine sA ?_|refine sN ?_|refine sB ?_|refine sX ?_ ?_<;>(try intro h)<;>(try omega)|exact sP|refine rK ?_|exact sQ|refine sD ?_|rfl|exact sE|omega)
 refine Rm_mc rfl rfl (k_place _ _ _ hc (by omega)) (fun r H2 hh => ?_)
 obtain ⟨x,y,a2,s2,rfl,hx,hy,c1,c2,rfl⟩:=hh
 repeat' (first|refine sA ?_|refine sN ?_|refine sB ?_|refine sX ?_ ?_<;>(try intro h)<;>(try omega)|exact sP|refine rK ?_|exact sQ|refine sD ?_|rfl|exact sE|omega)
 refine Rm_one hc rfl (by omega) (by omega) (fun o a3 s3 d1 d2 => ?_)
 have h7:=k_l7Of x y o
 have hm1:x % rpN o≤99:=by unfold rpN; split<;>omega
 have hm2:y % rpN o≤99:=by unfold rpN; split<;>omega
 have h8:=k_l7Pack o (x % rpN o) (y % rpN o) hm1 hm2
 generalize x % rpN o=p at *
 generalize y % rpN o=q at *
 have hD:(if o=true then 128 * p+q+16384 else 128 * p+q:Nat)≤16777215:=by split<;>omega
 generalize (if o=true then 128 * p+q+16384 else 128 * p+q:Nat)=D at *
 repeat' (first|refine sA ?_|refine sN ?_|refine rW rfl (h7) ?_|refine rV (h7) ?_|refine rW rfl (h8) ?_|refine rV (h8) ?_|refine sB ?_|refine sX ?_ ?_<;>(try intro h)<;>(try omega)|exact sP|refine rK ?_|exact sQ|refine sD ?_|rfl|exact sE|omega)
 refine Rm_one hc rfl (by omega) (by omega) (fun w a4 s4 e1 e2 => ?_)
 have hfr0:frF (2,ad,D)=true:=fr_in (k:=1) (by omega) (by omega) (by omega)
 cases w
 ·have h9:=k_l5Bits (2,ad,D) hfr0
  have g1:=fbT_len (2,ad,D)
  have g2:=fbT_bits (2,ad,D)
  generalize fbT (2,ad,D)=B at *
  repeat' (first|refine sA ?_|refine sN ?_|refine rW rfl (h9) ?_|refine rV (h9) ?_|refine sB ?_|refine sX ?_ ?_<;>(try intro h)<;>(try omega)|exact sP|refine rK ?_|exact sQ|refine sD ?_|rfl|exact sE|omega)
  refine Rm_among 0 2 hc rfl rfl rfl (by omega) (by omega) (by first|decide|(simp; omega)) (by decide) (fun n a6 s6 u1 u2 u3 u4 u5 => ?_)
  clear u3
  obtain ⟨n,rfl⟩ : ∃ k:Nat,n=k:=⟨n.toNat,by omega⟩
  repeat' (first|refine sA ?_|refine sN ?_|refine sB ?_|refine sX ?_ ?_<;>(try intro h)<;>(try omega)|exact sP|refine rK ?_|exact sQ|refine sD ?_|rfl|exact sE|omega)
  refine Dm_loop [0,4,5] (fun m ds H' => ∃ (b:List UInt8) (a7 s7:Int),b.all bitP=true∧b.length=56∧m≤2∧a6≤a7∧a7≤a6+10 - 4 * m∧ds=[.ptr 0 0 0,.p (.str b),.p (.int .i64 m)]∧H'=[curO code a7 s7]) n ⟨B,a6,s6,g2,g1,by omega,by omega,by omega,rfl,rfl⟩ ?_
  rintro m ds H' ⟨b,a7,s7,v1,v2,v3,v4,v5,rfl,rfl⟩ -
  rcases Nat.eq_zero_or_pos m with rfl|hm0
  ·have hx:=k_l2Hex b 14 v1 (by omega) (by omega)
   have hxl:=hxTo_len b 14
   generalize hxTo b 14=T at *
   repeat' (first|refine sA ?_|refine sN ?_|refine rW rfl (hx) ?_|refine rV (hx) ?_|refine sB ?_|refine sX ?_ ?_<;>(try intro h)<;>(try omega)|exact sP|refine rK ?_|exact sQ|refine sD ?_|rfl|exact sE|omega)
   exact ret_gen _ _ _ rfl rfl rfl ⟨T,a7,s7,rfl,by omega,by omega,by omega,rfl⟩
  ·repeat' (first|refine sA ?_|refine sN ?_|refine sB ?_|refine sX ?_ ?_<;>(try intro h)<;>(try omega)|exact sP|refine rK ?_|exact sQ|refine sD ?_|rfl|exact sE|omega)
   refine Rm_pick hc rfl (by omega) (by omega) (fun i a8 s8 w1 w2 w3 => ?_)
   have hfl:=k_l2Flip b i v1 (by omega) (by omega)
   have fl1:=flip_len (s:=b) (i:=i)
   have fl2:=flip_bits (i:=i) v1 (by omega)
   generalize flipL b i=b2 at *
   repeat' (first|refine sA ?_|refine sN ?_|refine rW rfl (hfl) ?_|refine rV (hfl) ?_|refine sB ?_|refine sX ?_ ?_<;>(try intro h)<;>(try omega)|exact sP|refine rK ?_|exact sQ|refine sD ?_|rfl|exact sE|omega)
   exact Xm_inv_n (m - 1) (by omega) ⟨b2,a8,s8,fl2,by omega,by omega,by omega,by omega,rfl,rfl⟩
 ·repeat' (first|refine sA ?_|refine sN ?_|refine sB ?_|refine sX ?_ ?_<;>(try intro h)<;>(try omega)|exact sP|refine rK ?_|exact sQ|refine sD ?_|rfl|exact sE|omega)
  refine Rm_mc rfl rfl (k_frame _ _ _ hc (by omega)) (fun r H2 hh => ?_)
  obtain ⟨f,a5,s5,rfl,hf,f1,f2,rfl⟩:=hh
  have h9:=k_l5Bits f hf
  have g1:=fbT_len f
  have g2:=fbT_bits f
  generalize fbT f=B at *
  repeat' (first|refine sA ?_|refine sN ?_|refine rW rfl (h9) ?_|refine rV (h9) ?_|refine sB ?_|refine sX ?_ ?_<;>(try intro h)<;>(try omega)|exact sP|refine rK ?_|exact sQ|refine sD ?_|rfl|exact sE|omega)
  refine Rm_among 0 2 hc rfl rfl rfl (by omega) (by omega) (by first|decide|(simp; omega)) (by decide) (fun n a6 s6 u1 u2 u3 u4 u5 => ?_)
  clear u3
  obtain ⟨n,rfl⟩ : ∃ k:Nat,n=k:=⟨n.toNat,by omega⟩
  repeat' (first|refine sA ?_|refine sN ?_|refine sB ?_|refine sX ?_ ?_<;>(try intro h)<;>(try omega)|exact sP|refine rK ?_|exact sQ|refine sD ?_|rfl|exact sE|omega)
  refine Dm_loop [0,4,5] (fun m ds H' => ∃ (b:List UInt8) (a7 s7:Int),b.all bitP=true∧b.length=56∧m≤2∧a6≤a7∧a7≤a6+10 - 4 * m∧ds=[.ptr 0 0 0,.p (.str b),.p (.int .i64 m)]∧H'=[curO code a7 s7]) n ⟨B,a6,s6,g2,g1,by omega,by omega,by omega,rfl,rfl⟩ ?_
  rintro m ds H' ⟨b,a7,s7,v1,v2,v3,v4,v5,rfl,rfl⟩ -
  rcases Nat.eq_zero_or_pos m with rfl|hm0
  ·have hx:=k_l2Hex b 14 v1 (by omega) (by omega)
   have hxl:=hxTo_len b 14
   generalize hxTo b 14=T at *
   repeat' (first|refine sA ?_|refine sN ?_|refine rW rfl (hx) ?_|refine rV (hx) ?_|refine sB ?_|refine sX ?_ ?_<;>(try intro h)<;>(try omega)|exact sP|refine rK ?_|exact sQ|refine sD ?_|rfl|exact sE|omega)
   exact ret_gen _ _ _ rfl rfl rfl ⟨T,a7,s7,rfl,by omega,by omega,by omega,rfl⟩
  ·repeat' (first|refine sA ?_|refine sN ?_|refine sB ?_|refine sX ?_ ?_<;>(try intro h)<;>(try omega)|exact sP|refine rK ?_|exact sQ|refine sD ?_|rfl|exact sE|omega)
   refine Rm_pick hc rfl (by omega) (by omega) (fun i a8 s8 w1 w2 w3 => ?_)
   have hfl:=k_l2Flip b i v1 (by omega) (by omega)
   have fl1:=flip_len (s:=b) (i:=i)
   have fl2:=flip_bits (i:=i) v1 (by omega)
   generalize flipL b i=b2 at *
   repeat' (first|refine sA ?_|refine sN ?_|refine rW rfl (hfl) ?_|refine rV (hfl) ?_|refine sB ?_|refine sX ?_ ?_<;>(try intro h)<;>(try omega)|exact sP|refine rK ?_|exact sQ|refine sD ?_|rfl|exact sE|omega)
   exact Xm_inv_n (m - 1) (by omega) ⟨b2,a8,s8,fl2,by omega,by omega,by omega,by omega,rfl,rfl⟩
end Go.Proofs.YtekmkgegjicjgaaGreat
