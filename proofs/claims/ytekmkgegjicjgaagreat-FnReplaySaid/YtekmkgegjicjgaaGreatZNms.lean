import Derived.Test.YtekmkgegjicjgaaGreatZBas
namespace Go.Proofs.YtekmkgegjicjgaaGreat
open Go.Dv Go.Dv.EvL
set_option maxRecDepth 100000
set_option maxHeartbeats 16000000
attribute [local irreducible] Ok Rm Dm Om Sm Xm Cm Gm Hm Tm
def digP (c:UInt8):Bool:=decide (48≤c.toNat∧c.toNat≤57)
def valN (s:List UInt8):Nat:=s.foldl (fun n c=>10 * n+(c.toNat - 48)) 0
theorem val_snoc (s:List UInt8)(c:UInt8):valN (s++[c])=10 * valN s+(c.toNat - 48):=by
 unfold valN
 rw [List.foldl_append]
 rfl
theorem ofNat_toNat {n:Nat}(h:n<256):(UInt8.ofNat n).toNat=n:=UInt8.toNat_ofNat_of_lt' (by show n<256; exact h)
theorem dec_ok : ∀ n:Nat,(dec n).all digP=true∧valN (dec n)=n:=fun n=>by
 induction n using Nat.strongRecOn with
 | ind n ih =>
  by_cases h:n<10
  ·rw [dec_small h]
   have e:=ofNat_toNat (n:=48+n) (by omega)
   refine ⟨?_,?_⟩
   ·simp only [List.all_cons,List.all_nil,Bool.and_true,digP,e,decide_eq_true_eq]
    omega
   ·simp only [valN,List.foldl_cons,List.foldl_nil,e]
    omega
  ·obtain ⟨h1,h2⟩:=ih (n / 10) (by omega)
   have e:=ofNat_toNat (n:=48+n % 10) (by omega)
   rw [dec_big h]
   refine ⟨?_,?_⟩
   ·rw [List.all_append,h1]
    simp only [List.all_cons,List.all_nil,Bool.and_true,digP,e,decide_eq_true_eq,Bool.true_and]
    omega
   ·rw [val_snoc,h2,e]
    omega
theorem dec_head {n:Nat}(h:0<n):(dec n).getD 0 0≠48:=by
 induction n using Nat.strongRecOn with
 | ind n ih =>
  by_cases h1:n<10
  ·rw [dec_small h1]
   simp only [List.getD_cons_zero]
   intro e
   have:=congrArg UInt8.toNat e
   rw [ofNat_toNat (by omega)] at this
   have:(48:UInt8).toNat=48:=rfl
   omega
  ·rw [dec_big h1,List.getD_eq_getElem?_getD,List.getElem?_append_left (dec_pos _),← List.getD_eq_getElem?_getD]
   exact ih (n / 10) (by omega) (by omega)
theorem dec_val : ∀ (k:Nat) (s:List UInt8),s.length=k→0<k→s.all digP=true→(s.getD 0 0≠48∨s.length=1)→dec (valN s)=s
 | 0,_,_,h,_,_=>absurd h (by omega)
 | k+1,s,hl,_,hd,h0=>by
  obtain ⟨t,c,rfl⟩ : ∃ t c,s=t++[c]:=by
   rcases List.eq_nil_or_concat s with rfl|⟨t,c,e⟩
   ·simp at hl
   ·exact ⟨t,c,by simpa using e⟩
  rw [List.all_append] at hd
  simp only [List.all_cons,List.all_nil,Bool.and_true,Bool.and_eq_true] at hd
  have hc:48≤c.toNat∧c.toNat≤57:=of_decide_eq_true hd.2
  have hcc:UInt8.ofNat (48+(c.toNat - 48))=c:=by rw [show 48+(c.toNat - 48)=c.toNat from by omega,UInt8.ofNat_toNat]
  rw [val_snoc]
  simp only [List.length_append,List.length_cons,List.length_nil] at hl h0
  rcases Nat.eq_zero_or_pos t.length with ht|ht
  ·have:t=[]:=List.eq_nil_of_length_eq_zero ht
   subst this
   rw [show 10 * valN []+(c.toNat - 48)=c.toNat - 48 from by simp [valN],dec_small (by omega),hcc]
   rfl
  ·have h1:t.getD 0 0≠48:=by
    rcases h0 with h0|h0
    ·rwa [List.getD_eq_getElem?_getD,List.getElem?_append_left ht,← List.getD_eq_getElem?_getD] at h0
    ·omega
   have ih:=dec_val k t (by omega) (by omega) hd.1 (.inl h1)
   have hv:0<valN t:=by
    rcases Nat.eq_zero_or_pos (valN t) with h2|h2
    ·rw [h2,dec_small (by omega)] at ih
     rw [← ih] at h1
     exact absurd rfl h1
    ·exact h2
   rw [dec_big (by omega),show (10 * valN t+(c.toNat - 48)) / 10=valN t from by omega,show (10 * valN t+(c.toNat - 48)) % 10=c.toNat - 48 from by omega,ih,hcc]
theorem val_lt : ∀ (k:Nat) (s:List UInt8),s.length=k→s.all digP=true→valN s<10 ^ k
 | 0,s,hl,_=>by
  rw [List.eq_nil_of_length_eq_zero hl]
  simp [valN]
 | k+1,s,hl,hd=>by
  obtain ⟨t,c,rfl⟩ : ∃ t c,s=t++[c]:=by
   rcases List.eq_nil_or_concat s with rfl|⟨t,c,e⟩
   ·simp at hl
   ·exact ⟨t,c,by simpa using e⟩
  rw [List.all_append] at hd
  simp only [List.all_cons,List.all_nil,Bool.and_true,Bool.and_eq_true] at hd
  have hc:48≤c.toNat∧c.toNat≤57:=of_decide_eq_true hd.2
  simp only [List.length_append,List.length_cons,List.length_nil] at hl
  have ih:=val_lt k t (by omega) hd.1
  rw [val_snoc,Nat.pow_succ]
  omega
theorem val_step {s:List UInt8}{i:Nat}(h:i<s.length):valN (s.take (i+1))=10 * valN (s.take i)+((s.getD i default).toNat - 48):=by
 rw [take_snoc (d:=default) h,val_snoc]
theorem dig_step {s:List UInt8}{i:Nat}(h:i<s.length)(h1:(s.take i).all digP=true):(s.take (i+1)).all digP=digP (s.getD i default):=by
 rw [take_snoc (d:=default) h,List.all_append,h1]
 simp
theorem dig_no {s:List UInt8}{i:Nat}(h:i<s.length)(h1:digP (s.getD i default)=false):s.all digP=false:=by
 rw [Bool.eq_false_iff]
 intro h2
 rw [List.all_eq_true.1 h2 _ (getD_mem h)] at h1
 cases h1
theorem w8sub {c:UInt8}(h:48≤c.toNat):IntKind.wrap .u8 ((c.toNat:Int) - 48)=((c.toNat - 48:Nat):Int):=by
 have:=c.toNat_lt
 rw [w8 (by omega)]
 omega
def numB (s:List UInt8):Bool:=decide (1≤s.length∧s.length≤9) && s.all digP && (decide (s.getD 0 0≠48) || decide (s.length=1))
def numO (s:List UInt8):Int × Bool:=if numB s=true then ((valN s:Int),true) else (0,false)
theorem k_number (s:List UInt8)(hl:s.length≤1099511627776):Okv Tryz.prog 199 [.str s] (.tup [.p (.int .i64 (numO s).1),.p (.bool (numO s).2)]):=by
 refine ok_D hmix c_impl_number (by simp) ?_
 have hd:numB s=(decide (1≤s.length∧s.length≤9) && s.all digP && (decide (s.getD 0 0≠48) || decide (s.length=1))):=rfl
 have h00:s.getD 0 0=s.getD 0 default:=rfl
 have h48 : ∀ c:UInt8,(c.toNat:Int)=48↔c=48:=fun c=>u8_lit (n:=48) (by omega)
 by_cases hc:(1≤s.length∧s.length≤9)∧(s.getD 0 default≠48∨s.length=1)
 ·refine sA ?_
  repeat' (first|refine sA ?_|refine sN ?_|refine sB ?_|refine sX ?_ ?_<;>(try intro h)<;>(try omega)|exact sP|refine rK ?_|exact sQ|refine sD ?_|rfl|exact sE|omega)
  all_goals try (have:=(h48 _).1 (by assumption); grind)
  all_goals (
   refine Dm_loop [0,4,5] (fun m ds H' => ∃ i:Nat,i≤s.length∧m=s.length - i∧(s.take i).all digP=true∧ds=[.p (.str s),.p (.int .i64 (valN (s.take i))),.p (.int .i64 i)]∧H'=[]) s.length ⟨0,by omega,by omega,rfl,rfl,rfl⟩ ?_
   rintro m ds H' ⟨i,hi,rfl,hp,rfl,rfl⟩ -
   have h1:=fun h:i<s.length=>dig_step h hp
   have h2:=fun h:i<s.length=>dig_no h
   have h3:=fun h:i<s.length=>val_step h
   have h4:valN (s.take i)<1000000000:=by
    have:=val_lt _ (s.take i) rfl hp
    have h5:(s.take i).length≤9:=by rw [List.length_take]; omega
    exact Nat.lt_of_lt_of_le this (Nat.le_trans (Nat.pow_le_pow_right (by omega) h5) (by decide))
   have h6:=u8_lt (s.getD i default)
   have h7:digP (s.getD i default)=decide (48≤(s.getD i default).toNat∧(s.getD i default).toNat≤57):=rfl
   have h8:s.length≤i→s.all digP=true:=fun h=>by rwa [List.take_of_length_le h] at hp
   have e0:(s.getD i 0).toNat=(s.getD i default).toNat:=rfl
   repeat' (first|refine sA ?_|refine sN ?_|rw [w8sub (by omega)]|refine sB ?_|refine sX ?_ ?_<;>(try intro h)<;>(try omega)|exact sP|refine rK ?_|exact sQ|refine sD ?_|rfl|exact sE|omega)
   all_goals first
    | (refine Xm_inv_n (s.length - (i+1)) (by omega) ⟨i+1,by omega,rfl,?_,?_,rfl⟩
       ·rw [h1 (by omega),h7]; simp only [decide_eq_true_eq]; omega
       ·rw [h3 (by omega),show ((10 * valN (s.take i)+((s.getD i default).toNat - 48):Nat):Int)=10 * (valN (s.take i):Int)+(((s.getD i 0).toNat:Int) - 48) from by omega]; rfl)
    | (have h9:numB s=false:=by rw [hd,h2 (by omega) (by rw [h7]; simp only [decide_eq_false_iff_not]; omega)]; simp
       simp [numO,h9]; done)
    | (have h9:numB s=true:=by rw [hd,h8 (by omega)]; grind
       rw [List.take_of_length_le (by omega)]
       simp [numO,h9]; done)
    | skip)
 ·have h9:numB s=false:=by rw [hd]; grind
  rw [show numO s=(0,false) from by simp [numO,h9]]
  by_cases h10:1≤s.length∧s.length≤9
  ·have h11:s.getD 0 default=48∧s.length≠1:=by grind
   have h12:((s.getD 0 default).toNat:Int)=48:=by rw [h11.1]; rfl
   refine sA ?_
   repeat' (first|refine sA ?_|refine sN ?_|rw [h12]|refine sB ?_|refine sX ?_ ?_<;>(try intro h)<;>(try omega)|exact sP|refine rK ?_|exact sQ|refine sD ?_|rfl|exact sE|omega)
   all_goals grind
  ·refine sA ?_
   repeat' (first|refine sA ?_|refine sN ?_|refine sB ?_|refine sX ?_ ?_<;>(try intro h)<;>(try omega)|exact sP|refine rK ?_|exact sQ|refine sD ?_|rfl|exact sE|omega)
   all_goals grind
def magO (s:List UInt8):List UInt8:=if 1<s.length∧s.getD 0 0=45 then s.drop 1 else s
def rdI (s:List UInt8):Int:=if (magO s).length<s.length then -(valN (magO s):Int) else valN (magO s)
def rdB (s:List UInt8):Bool:=decide (1≤(magO s).length∧(magO s).length≤6) && (magO s).all digP && decide (num (rdI s)=s)
def readO (s:List UInt8):Int × Bool:=if rdB s=true then (rdI s,true) else (0,false)
end Go.Proofs.YtekmkgegjicjgaaGreat
namespace Go.Proofs.YtekmkgegjicjgaaGreat
open Go.Dv Go.Dv.EvL
set_option maxRecDepth 100000
set_option maxHeartbeats 16000000
attribute [local irreducible] Ok Rm Dm Om Sm Xm Cm Gm Hm Tm
theorem split_app {b:UInt8} : ∀ {p t:List UInt8},b ∉ p→splitB b (p++b::t)=p::splitB b t
 | [],t,_=>by simp [splitB]
 | c::p,t,h=>by
  simp only [List.mem_cons,not_or] at h
  rw [List.cons_append,splitB,if_neg (fun e=>h.1 e.symm),split_app h.2]
  rfl
def joinB (b:UInt8):List (List UInt8)→List UInt8
 | []=>[]
 | [x]=>x
 | x::y::t=>x++b::joinB b (y::t)
theorem join_cons {b:UInt8}{x:List UInt8}{X:List (List UInt8)}(h:X≠[]):joinB b (x::X)=x++b::joinB b X:=by
 cases X with
 | nil=>exact absurd rfl h
 | cons y t=>rfl
theorem join_glue {b c:UInt8}{X:List (List UInt8)}(h:X≠[]):joinB b (glue [c] X)=c::joinB b X:=by
 cases X with
 | nil=>exact absurd rfl h
 | cons y t =>
  cases t with
  | nil=>rfl
  | cons z t=>rfl
theorem join_split (b:UInt8) : ∀ s,joinB b (splitB b s)=s
 | []=>rfl
 | c::s=>by
  rw [splitB]
  split
  ·rename_i h
   rw [join_cons (split_ne b s),join_split b s,h]
   rfl
  ·rw [join_glue (split_ne b s),join_split b s]
theorem num_dec {n:Int}(h:0≤n):num n=dec n.toNat:=by
 unfold num
 rw [if_neg (by omega),show n.natAbs=n.toNat from by omega]
theorem numO_dec {n:Nat}(h:n≤999999999):numO (dec n)=((n:Int),true):=by
 obtain ⟨h1,h2⟩:=dec_ok n
 have h3:=dec_len n 8 (by omega)
 have h4:=dec_pos n
 have hb:numB (dec n)=true:=by
  unfold numB
  rw [h1]
  simp only [Bool.and_true,Bool.and_eq_true,Bool.or_eq_true,decide_eq_true_eq]
  refine ⟨by omega,?_⟩
  rcases Nat.eq_zero_or_pos n with h0|h0
  ·subst h0
   exact .inr (by rw [dec_small (by omega)]; rfl)
  ·exact .inl (dec_head h0)
 unfold numO
 rw [if_pos hb,h2]
theorem numO_true {s:List UInt8}(h:(numO s).2=true) : ∃ n:Nat,s=dec n∧numO s=((n:Int),true)∧n<1000000000:=by
 unfold numO at h ⊢
 split at h
 ·rename_i hb
  rw [if_pos hb]
  unfold numB at hb
  simp only [Bool.and_eq_true,Bool.or_eq_true,decide_eq_true_eq] at hb
  refine ⟨valN s,(dec_val _ s rfl (by omega) hb.1.2 hb.2).symm,rfl,?_⟩
  have:=val_lt _ s rfl hb.1.2
  exact Nat.lt_of_lt_of_le this (Nat.le_trans (Nat.pow_le_pow_right (by omega) hb.1.1.2) (by decide))
 ·cases h
theorem mag_len (s:List UInt8):(magO s).length≤s.length∧(magO s).length+1 ≥ s.length:=by
 unfold magO
 split
 ·rw [List.length_drop]; omega
 ·omega
theorem k_l1Read (s:List UInt8)(hl:s.length≤1099511627776):Okv Tryz.prog 188 [.str s] (.tup [.p (.int .i64 (readO s).1),.p (.bool (readO s).2)]):=by
 refine ok_D hmix c_spec_l1Read (by simp) ?_
 have h45 : ∀ c:UInt8,(c.toNat:Int)=45↔c=45:=fun c=>u8_lit (n:=45) (by omega)
 have hd:rdB s=(decide (1≤(magO s).length∧(magO s).length≤6) && (magO s).all digP && decide (num (rdI s)=s)):=rfl
 have hml:=mag_len s
 have hi0:rdI s=if (magO s).length<s.length then -(valN (magO s):Int) else valN (magO s):=rfl
 have hmag:magO s=if 1<s.length∧s.getD 0 default=45 then s.drop 1 else s:=rfl
 have hc1:cutL s 1 s.length=s.drop 1:=List.take_of_length_le (by simp)
 have hro:readO s=if rdB s=true then (rdI s,true) else (0,false):=rfl
 by_cases hc:1<s.length∧s.getD 0 default=45
 ·rw [if_pos hc] at hmag
  have h12:((s.getD 0 default).toNat:Int)=45:=by rw [hc.2]; rfl
  have h13:((s.getD 0 0).toNat:Int)=45:=h12
  generalize magO s=t at *
  subst hmag
  have hTl:(s.drop 1).length<s.length:=by rw [List.length_drop]; omega
  generalize hT:s.drop 1=T at *
  refine sA ?_
  repeat' (first|refine sA ?_|refine sN ?_|rw [h13]|rw [h12]|rw [hc1]|rw [hT]|refine rW rfl (k_l1In _ _ _) ?_|refine rV (k_l1In _ _ _) ?_|refine sB ?_|refine sX ?_ ?_<;>(try intro h)<;>(try omega)|exact sP|refine rK ?_|exact sQ|refine sD ?_|rfl|exact sE|omega)
  all_goals first
   | (rw [hro,if_neg (by rw [hd]; grind)]; exact ⟨rfl,rfl⟩)
   | skip
  refine Dm_loop [0,4,5,6] (fun m ds H' => ∃ i:Nat,i≤T.length∧m=T.length - i∧(T.take i).all digP=true∧ds=[.p (.str s),.p (.str T),.p (.int .i64 (valN (T.take i))),.p (.int .i64 i)]∧H'=[]) T.length ⟨0,by omega,by omega,rfl,rfl,rfl⟩ ?_
  rintro m ds H' ⟨i,hi,rfl,hp,rfl,rfl⟩ -
  have h1:=fun h:i<T.length=>dig_step h hp
  have h2:=fun h:i<T.length=>dig_no h
  have h3:=fun h:i<T.length=>val_step h
  have h4:valN (T.take i)<1000000:=by
   have:=val_lt _ (T.take i) rfl hp
   have h5:(T.take i).length≤6:=by rw [List.length_take]; omega
   exact Nat.lt_of_lt_of_le this (Nat.le_trans (Nat.pow_le_pow_right (by omega) h5) (by decide))
  have h6:=u8_lt (T.getD i default)
  have h7:digP (T.getD i default)=decide (48≤(T.getD i default).toNat∧(T.getD i default).toNat≤57):=rfl
  have h8:T.length≤i→T.all digP=true:=fun h=>by rwa [List.take_of_length_le h] at hp
  have h9:T.length≤i→T.take i=T:=fun h=>List.take_of_length_le h
  have e0:(T.getD i 0).toNat=(T.getD i default).toNat:=rfl
  rcases Nat.lt_or_ge i T.length with hlt|hge
  ·repeat' (first|refine sA ?_|refine sN ?_|refine sB ?_|refine sX ?_ ?_<;>(try intro h)<;>(try omega)|exact sP|refine rK ?_|exact sQ|refine sD ?_|rfl|exact sE|omega)
   all_goals first
    | (refine Xm_inv_n (T.length - (i+1)) (by omega) ⟨i+1,by omega,rfl,?_,?_,rfl⟩
       ·rw [h1 (by omega),h7]; simp only [decide_eq_true_eq]; omega
       ·rw [h3 (by omega),show ((10 * valN (T.take i)+((T.getD i default).toNat - 48):Nat):Int)=10 * (valN (T.take i):Int)+(((T.getD i 0).toNat:Int) - 48) from by omega]; rfl)
    | (rw [hro,if_neg (by rw [hd,h2 (by omega) (by rw [h7]; simp only [decide_eq_false_iff_not]; omega)]; simp)]; exact ⟨rfl,rfl⟩)
    | skip
  ·rw [h9 hge]
   have h8:=h8 hge
   have hv:valN T<1000000:=by rw [← h9 hge]; exact h4
   have hnum:=k_l1Num (rdI s) (by rw [hi0]; split<;>omega)
   rw [hi0] at hnum hro hd
   rw [if_pos hTl] at hnum hro hd
   by_cases hq:num (-(valN T:Int))=s
   ·rw [hro,if_pos (by rw [hd,h8]; grind)]
    rw [hq] at hnum
    repeat' (first|refine sA ?_|refine sN ?_|refine rW rfl (hnum) ?_|refine rV (hnum) ?_|rw [show (0:Int) - (valN T:Int) = -(valN T:Int) from by omega]|refine sB ?_|refine sX ?_ ?_<;>(try intro h)<;>(try omega)|exact sP|refine rK ?_|exact sQ|refine sD ?_|rfl|exact sE|omega)
    all_goals skip
   ·rw [hro,if_neg (by rw [hd]; grind)]
    repeat' (first|refine sA ?_|refine sN ?_|refine rW rfl (hnum) ?_|refine rV (hnum) ?_|rw [show (0:Int) - (valN T:Int) = -(valN T:Int) from by omega]|refine sB ?_|refine sX ?_ ?_<;>(try intro h)<;>(try omega)|exact sP|refine rK ?_|exact sQ|refine sD ?_|rfl|exact sE|omega)
    all_goals first
     | exact ⟨rfl,rfl⟩
     | (exfalso; exact hq (by assumption))
     | skip
 ·rw [if_neg hc] at hmag
  generalize magO s=T at *
  have hsl : ¬ T.length<s.length:=by rw [hmag]; omega
  have hsT:s=T:=hmag.symm
  subst hsT
  have h14:1<s.length → ¬ ((s.getD 0 default).toNat:Int)=45:=fun h1 h2=>hc ⟨h1,(h45 _).1 h2⟩
  have h15:(s.getD 0 0).toNat=(s.getD 0 default).toNat:=rfl
  refine sA ?_
  repeat' (first|refine sA ?_|refine sN ?_|refine rW rfl (k_l1In _ _ _) ?_|refine rV (k_l1In _ _ _) ?_|refine sB ?_|refine sX ?_ ?_<;>(try intro h)<;>(try omega)|exact sP|refine rK ?_|exact sQ|refine sD ?_|rfl|exact sE|omega)
  all_goals try (exfalso; exact h14 (by omega) (by omega))
  all_goals try (rw [hro,if_neg (by rw [hd]; grind)]; exact ⟨rfl,rfl⟩)
  all_goals (
    refine Dm_loop [0,4,5,6] (fun m ds H' => ∃ i:Nat,i≤s.length∧m=s.length - i∧(s.take i).all digP=true∧ds=[.p (.str s),.p (.str s),.p (.int .i64 (valN (s.take i))),.p (.int .i64 i)]∧H'=[]) s.length ⟨0,by omega,by omega,rfl,rfl,rfl⟩ ?_
    rintro m ds H' ⟨i,hi,rfl,hp,rfl,rfl⟩ -
    have h1:=fun h:i<s.length=>dig_step h hp
    have h2:=fun h:i<s.length=>dig_no h
    have h3:=fun h:i<s.length=>val_step h
    have h4:valN (s.take i)<1000000:=by
     have:=val_lt _ (s.take i) rfl hp
     have h5:(s.take i).length≤6:=by rw [List.length_take]; omega
     exact Nat.lt_of_lt_of_le this (Nat.le_trans (Nat.pow_le_pow_right (by omega) h5) (by decide))
    have h6:=u8_lt (s.getD i default)
    have h7:digP (s.getD i default)=decide (48≤(s.getD i default).toNat∧(s.getD i default).toNat≤57):=rfl
    have h8:s.length≤i→s.all digP=true:=fun h=>by rwa [List.take_of_length_le h] at hp
    have h9:s.length≤i→s.take i=s:=fun h=>List.take_of_length_le h
    have e0:(s.getD i 0).toNat=(s.getD i default).toNat:=rfl
    rcases Nat.lt_or_ge i s.length with hlt|hge
    ·repeat' (first|refine sA ?_|refine sN ?_|refine sB ?_|refine sX ?_ ?_<;>(try intro h)<;>(try omega)|exact sP|refine rK ?_|exact sQ|refine sD ?_|rfl|exact sE|omega)
     all_goals first
      | (refine Xm_inv_n (s.length - (i+1)) (by omega) ⟨i+1,by omega,rfl,?_,?_,rfl⟩
         ·rw [h1 (by omega),h7]; simp only [decide_eq_true_eq]; omega
         ·rw [h3 (by omega),show ((10 * valN (s.take i)+((s.getD i default).toNat - 48):Nat):Int)=10 * (valN (s.take i):Int)+(((s.getD i 0).toNat:Int) - 48) from by omega]; rfl)
      | (rw [hro,if_neg (by rw [hd,h2 (by omega) (by rw [h7]; simp only [decide_eq_false_iff_not]; omega)]; simp)]; exact ⟨rfl,rfl⟩)
      | skip
    ·rw [h9 hge]
     have h8:=h8 hge
     have hv:valN s<1000000:=by rw [← h9 hge]; exact h4
     have hnum:=k_l1Num (rdI s) (by rw [hi0]; split<;>omega)
     rw [hi0] at hnum hro hd
     rw [if_neg hsl] at hnum hro hd
     by_cases hq:num ((valN s:Int))=s
     ·rw [hro,if_pos (by rw [hd,h8]; grind)]
      rw [hq] at hnum
      repeat' (first|refine sA ?_|refine sN ?_|refine rW rfl (hnum) ?_|refine rV (hnum) ?_|refine sB ?_|refine sX ?_ ?_<;>(try intro h)<;>(try omega)|exact sP|refine rK ?_|exact sQ|refine sD ?_|rfl|exact sE|omega)
      all_goals skip
     ·rw [hro,if_neg (by rw [hd]; grind)]
      repeat' (first|refine sA ?_|refine sN ?_|refine rW rfl (hnum) ?_|refine rV (hnum) ?_|refine sB ?_|refine sX ?_ ?_<;>(try intro h)<;>(try omega)|exact sP|refine rK ?_|exact sQ|refine sD ?_|rfl|exact sE|omega)
      all_goals first
       | exact ⟨rfl,rfl⟩
       | (exfalso; exact hq (by assumption))
       | skip)
theorem dec_nod {n:Nat}{c:UInt8}(hc:digP c=false):c ∉ dec n:=fun hm=>by
 have:=List.all_eq_true.1 (dec_ok n).1 c hm
 rw [hc] at this
 cases this
theorem dec_get0 {n:Nat}:(dec n).getD 0 0≠45:=fun e=>dec_nod (n:=n) (c:=45) (by decide) (by rw [← e]; exact getD_mem (dec_pos n))
theorem mag_num {n:Int}:magO (num n)=dec n.natAbs:=by
 unfold num
 split
 ·have h:=dec_pos n.natAbs
  unfold magO
  rw [if_pos ⟨by rw [List.length_cons]; omega,rfl⟩]
  rfl
 ·unfold magO
  rw [if_neg (fun h=>dec_get0 h.2)]
theorem num_size {n:Int}:(num n).length=(dec n.natAbs).length+(if n<0 then 1 else 0):=by
 unfold num
 split
 ·rw [List.length_cons]
 ·rfl
theorem read_num {n:Int}(h : -999999≤n∧n≤999999):readO (num n)=(n,true):=by
 obtain ⟨h1,h2⟩:=dec_ok n.natAbs
 have h3:=dec_len n.natAbs 5 (by omega)
 have h4:=dec_pos n.natAbs
 have hs:=num_size (n:=n)
 have hi:rdI (num n)=n:=by
  unfold rdI
  rw [mag_num,h2,hs]
  by_cases h5:n<0
  ·rw [if_pos h5,if_pos (by omega)]; omega
  ·rw [if_neg h5,if_neg (by omega)]; omega
 have hb:rdB (num n)=true:=by
  unfold rdB
  rw [mag_num,h1,hi]
  simp
  omega
 unfold readO
 rw [if_pos hb,hi]
def sgnO (s:List UInt8):Bool:=decide (0<s.length∧s.getD 0 default=45)
def piT (s:List UInt8):List UInt8:=if sgnO s=true then s.drop 1 else s
def piB (s:List UInt8):Bool:=(numO (piT s)).2 && decide ((numO (piT s)).1≤999999) && !(decide ((numO (piT s)).1=0) && sgnO s)
def piO (s:List UInt8):Int × Bool:=if piB s=true then (if sgnO s=true then -(numO (piT s)).1 else (numO (piT s)).1,true) else (0,false)
theorem numO_in (s:List UInt8):0≤(numO s).1∧(numO s).1<1000000000:=by
 unfold numO
 split
 ·rename_i h
  unfold numB at h
  simp only [Bool.and_eq_true,Bool.or_eq_true,decide_eq_true_eq] at h
  have h2:=val_lt _ s rfl h.1.2
  have h3:10 ^ s.length≤10 ^ 9:=Nat.pow_le_pow_right (by omega) h.1.1.2
  simp only []
  omega
 ·simp
theorem pi_in (s:List UInt8) : -999999≤(piO s).1∧(piO s).1≤999999:=by
 have h1:=numO_in (piT s)
 unfold piO
 split
 ·rename_i h
  unfold piB at h
  simp only [Bool.and_eq_true,decide_eq_true_eq] at h
  have h2:=h.1.2
  simp only []
  split<;>omega
 ·simp
theorem sgn_num {n:Int}:sgnO (num n)=decide (n<0)∧piT (num n)=dec n.natAbs:=by
 have e:sgnO (num n)=decide (n<0):=by
  unfold num sgnO
  split
  ·rename_i h
   rw [decide_eq_true h]
   simp
  ·rename_i h
   rw [decide_eq_false h]
   simp only [decide_eq_false_iff_not]
   exact fun h=>dec_get0 h.2
 refine ⟨e,?_⟩
 unfold piT
 rw [e]
 unfold num
 split
 ·rename_i h
  rw [if_pos (of_decide_eq_true h)]
  rfl
 ·rename_i h
  rw [if_neg (fun h2=>h (decide_eq_true h2))]
theorem pi_num {n:Int}(h : -999999≤n∧n≤999999):piO (num n)=(n,true):=by
 obtain ⟨h1,h2⟩:=sgn_num (n:=n)
 have h3:=numO_dec (n:=n.natAbs) (by omega)
 have hb:piB (num n)=true:=by
  unfold piB
  rw [h1,h2,h3]
  simp
  omega
 unfold piO
 rw [if_pos hb,h1,h2,h3]
 simp only [decide_eq_true_eq]
 split
 ·congr 1; omega
 ·congr 1; omega
theorem k_ParseInt (s:List UInt8)(hl:s.length≤1099511627776):Okv Tryz.prog 165 [.str s] (.tup [.p (.int .i64 (piO s).1),.p (.bool (piO s).2)]):=by
 refine ok_D hmix c_impl_ParseInt (by simp) ?_
 have h45 : ∀ c:UInt8,(c.toNat:Int)=45↔c=45:=fun c=>u8_lit (n:=45) (by omega)
 have hs:sgnO s=decide (0<s.length∧s.getD 0 default=45):=rfl
 have ht:piT s=if sgnO s=true then s.drop 1 else s:=rfl
 have hn:=numO_in (piT s)
 have hc1:cutL s 1 s.length=s.drop 1:=List.take_of_length_le (by simp)
 have hp:piO s=if ((numO (piT s)).2 && decide ((numO (piT s)).1≤999999) && !(decide ((numO (piT s)).1=0) && sgnO s))=true then (if sgnO s=true then -(numO (piT s)).1 else (numO (piT s)).1,true) else (0,false):=rfl
 have hk:=k_number (piT s) (by rw [ht]; split<;>(try rw [List.length_drop])<;>omega)
 generalize piO s=P at *
 subst hp
 generalize hN:numO (piT s)=N at *
 obtain ⟨v,b⟩:=N
 simp only [] at *
 by_cases h0:0<s.length∧s.getD 0 default=45
 ·have h12:((s.getD 0 default).toNat:Int)=45:=by rw [h0.2]; rfl
  have h13:((s.getD 0 0).toNat:Int)=45:=h12
  rw [decide_eq_true h0] at hs
  rw [hs,if_pos rfl] at ht
  rw [ht] at hk
  rw [hs]
  have hT:(s.drop 1).length≤s.length:=by rw [List.length_drop]; omega
  generalize s.drop 1=T at *
  obtain ⟨h0,_⟩:=h0
  clear ht hN
  cases b
  all_goals
   refine sA ?_
   repeat' (first|refine sA ?_|refine sN ?_|rw [h13]|rw [h12]|rw [hc1]|refine rW rfl (hk) ?_|refine rV (hk) ?_|refine sB ?_|refine sX ?_ ?_<;>(try intro h)<;>(try omega)|exact sP|refine rK ?_|exact sQ|refine sD ?_|rfl|exact sE|omega)
  all_goals first
   | done
   | (simp; done)
   | grind
   | (simp; omega)
   | skip
 ·rw [decide_eq_false h0] at hs
  rw [hs,if_neg (by decide)] at ht
  rw [ht] at hk
  rw [hs]
  have h14:0<s.length → ¬ ((s.getD 0 default).toNat:Int)=45:=fun h1 h2=>h0 ⟨h1,(h45 _).1 h2⟩
  have h15:(s.getD 0 0).toNat=(s.getD 0 default).toNat:=rfl
  clear ht hN h0
  cases b
  all_goals
   refine sA ?_
   repeat' (first|refine sA ?_|refine sN ?_|refine rW rfl (hk) ?_|refine rV (hk) ?_|refine sB ?_|refine sX ?_ ?_<;>(try intro h)<;>(try omega)|exact sP|refine rK ?_|exact sQ|refine sD ?_|rfl|exact sE|omega)
  all_goals first
   | done
   | (exfalso; exact h14 (by omega) (by omega))
   | (simp; done)
   | grind
   | (simp; omega)
   | skip
end Go.Proofs.YtekmkgegjicjgaaGreat
namespace Go.Proofs.YtekmkgegjicjgaaGreat
open Go.Dv Go.Dv.EvL
set_option maxRecDepth 100000
set_option maxHeartbeats 16000000
attribute [local irreducible] Ok Rm Dm Om Sm Xm Cm Gm Hm Tm
theorem rd_in {s:List UInt8}(h:rdB s=true):(-999999≤rdI s∧rdI s≤999999)∧num (rdI s)=s:=by
 unfold rdB at h
 simp only [Bool.and_eq_true,decide_eq_true_eq] at h
 obtain ⟨⟨h1,h2⟩,h3⟩:=h
 have h4:=val_lt _ (magO s) rfl h2
 have h5:(10:Nat) ^ (magO s).length≤10 ^ 6:=Nat.pow_le_pow_right (by omega) h1.2
 refine ⟨?_,h3⟩
 unfold rdI
 split<;>omega
theorem pi_text {s:List UInt8}(h:piB s=true) : ∃ n:Int,(-999999≤n∧n≤999999)∧s=num n:=by
 unfold piB at h
 simp only [Bool.and_eq_true,decide_eq_true_eq,Bool.not_eq_true',Bool.and_eq_false_iff,decide_eq_false_iff_not] at h
 obtain ⟨⟨h1,h2⟩,h3⟩:=h
 obtain ⟨n,e1,e2,e3⟩:=numO_true h1
 rw [e2] at h2 h3
 cases hs:sgnO s
 ·refine ⟨n,by simp only [] at h2; omega,?_⟩
  have e4:piT s=s:=by unfold piT; rw [if_neg (by rw [hs]; decide)]
  rw [← e4,e1]
  unfold num
  rw [if_neg (by omega)]
  rfl
 ·have e4:piT s=s.drop 1:=by unfold piT; rw [if_pos hs]
  have hn:(n:Int)≠0:=by
   rcases h3 with h3|h3
   ·exact h3
   ·rw [hs] at h3; cases h3
  unfold sgnO at hs
  have hs:=of_decide_eq_true hs
  refine ⟨-(n:Int),by simp only [] at h2; omega,?_⟩
  unfold num
  rw [if_pos (by omega),show (-(n:Int)).natAbs=n from by omega,← e1,e4]
  have:=drop_cons (l:=s) (i:=0) (d:=default) hs.1
  rw [hs.2] at this
  simpa using this
theorem pi_read (s:List UInt8):piO s=readO s:=by
 cases h1:piB s
 ·cases h2:rdB s
  ·unfold piO readO
   rw [if_neg (by rw [h1]; decide),if_neg (by rw [h2]; decide)]
  ·exfalso
   obtain ⟨h3,h4⟩:=rd_in h2
   have h5:=pi_num h3
   rw [h4] at h5
   unfold piO at h5
   rw [if_neg (by rw [h1]; decide)] at h5
   simp at h5
 ·obtain ⟨n,h3,rfl⟩:=pi_text h1
  rw [pi_num h3,read_num h3]
theorem read_in (s:List UInt8) : -999999≤(readO s).1∧(readO s).1≤999999:=by rw [← pi_read]; exact pi_in s
end Go.Proofs.YtekmkgegjicjgaaGreat
