import Derived.Test.YtekmkgegjicjgaaGreatZIr2
import Derived.Test.YtekmkgegjicjgaaGreatZBas
namespace Go.Proofs.YtekmkgegjicjgaaGreat
open Go.Dv Go.Dv.EvL
set_option maxRecDepth 100000
set_option maxHeartbeats 16000000
attribute [local irreducible] Ok Rm Dm Om Sm Xm Cm Gm Hm Tm
def codeP (code:List UInt8):PV := .sl 1 (code.map fun b => .int .u8 b.toNat)
def curO (code:List UInt8)(a s:Int):OB := .box 95 [.p (codeP code),.p (.int .i64 a),.p (.int .u64 s)]
theorem cur_eq (code:List UInt8)(a s:Int):curO code a s = .box 95 [.p (codeP code),.p (.int .i64 a),.p (.int .u64 s)]:=rfl
theorem and255 (_:IntKind)(x:Int):0≤bitsV .and .u64 x 255∧bitsV .and .u64 x 255≤255:=by
 have h1:(BitVec.ofInt 64 x &&& BitVec.ofInt 64 255).toNat≤255:=by
  rw [BitVec.toNat_and]
  exact Nat.le_trans Nat.and_le_right (by decide)
 have h2:bitsV .and .u64 x 255=IntKind.wrap .u64 (BitVec.ofInt 64 x &&& BitVec.ofInt 64 255).toNat:=rfl
 rw [h2,IntWalk.u64_in _ (by omega)]
 omega
theorem k_next (code:List UInt8)(a s:Int)(_:code.length≤65536)(ha:0≤a∧a≤1099511627776):Ok Tryz.prog 123 [.ptr 0 0 0] [curO code a s]
  fun d H => ∃ r s':Int,d = .p (.int .i64 r)∧0≤r∧r≤255∧H=[curO code (a+1) s']:=by
 refine ok_D hmix c_spec_l1Cur_next (by simp) ?_
 rw [cur_eq]
 obtain ⟨n,rfl⟩ : ∃ n:Nat,a=n:=⟨a.toNat,by omega⟩
 refine sA ?_
 repeat' (first|refine sA ?_|refine sN ?_|unfold codeP|simp only [IntKind.bits]|refine sB ?_|refine sX ?_ ?_<;>(try intro h)<;>(try omega)|exact sP|refine rK ?_|exact sQ|refine sD ?_|rfl|exact sE|omega)
 ·have hb:=u8_lt (code.getD n default)
  refine ret_gen _ _ _ rfl rfl rfl ⟨_,_,rfl,?_,?_,rfl⟩
  ·rw [w64 (by omega)]; omega
  ·rw [w64 (by omega)]; omega
 ·refine ret_gen _ _ _ rfl rfl rfl ⟨_,_,rfl,?_,?_,rfl⟩
  ·rw [w64 (by have:=and255 .u64 ((IntKind.u64.wrap (IntKind.u64.wrap (IntKind.u64.wrap (s * 6364136223846793005)+IntKind.u64.wrap 0)+875875)).fdiv (2 ^ min 40 64)); omega)]
   exact (and255 .u64 _).1
  ·rw [w64 (by have:=and255 .u64 ((IntKind.u64.wrap (IntKind.u64.wrap (IntKind.u64.wrap (s * 6364136223846793005)+IntKind.u64.wrap 0)+875875)).fdiv (2 ^ min 40 64)); omega)]
   exact (and255 .u64 _).2
theorem tm_in {x n:Int}(hx:0≤x)(hn:0<n):0≤x.tmod n∧x.tmod n<n:=⟨Int.tmod_nonneg n hx,Int.tmod_lt_of_pos x hn⟩
theorem take_getD {α : Type}{l:List α}{i m:Nat}{d : α}(h:i<m∧i<l.length):l.getD i d∈l.take m:=by
 have h2:(l.take m)[i]? = some (l.getD i d):=by
  rw [List.getElem?_take,if_pos h.1,List.getElem?_eq_getElem h.2,List.getD_eq_getElem?_getD,List.getElem?_eq_getElem h.2]
  rfl
 exact List.mem_of_getElem? h2
theorem k_pick (code:List UInt8)(a s n:Int)(hc:code.length≤65536)(ha:0≤a∧a≤1099511627770)(hn:n≤1099511627776):Ok Tryz.prog 66 [.ptr 0 0 0,.p (.int .i64 n)] [curO code a s]
  fun d H => ∃ r a' s':Int,d = .p (.int .i64 r)∧0≤r∧(r<n∨r=0)∧a≤a'∧a'≤a+2∧H=[curO code a' s']:=by
 refine ok_D hmix c_spec_l1Cur_pick (by simp) ?_
 have hk:=fun (a s:Int) (h:0≤a∧a≤1099511627776)=>k_next code a s hc h
 refine sA ?_
 repeat' (first|refine sA ?_|refine sN ?_|(refine Rm_i [0] (hk _ _ (by omega)) (by simp) (by simp) ⟨_,_,rfl,.inl rfl,rfl⟩ (fun r H2 hh => ?_); obtain ⟨x,s',rfl,hx0,hx1,rfl⟩:=hh; simp only [cur_eq])|refine sB ?_|refine sX ?_ ?_<;>(try intro h)<;>(try omega)|exact sP|refine rK ?_|exact sQ|refine sD ?_|rfl|exact sE|omega)
 ·exact ret_gen _ _ _ rfl rfl rfl ⟨0,a,s,rfl,by omega,.inr rfl,by omega,by omega,rfl⟩
 ·rename_i y s0 y0 y1
  obtain ⟨g1,g2⟩:=tm_in (x:=y * 256+x) (n:=n) (by omega) (by omega)
  exact ret_gen _ _ _ rfl rfl rfl ⟨_,_,_,rfl,g1,.inl g2,by omega,by omega,rfl⟩
 ·obtain ⟨g1,g2⟩:=tm_in (x:=x) (n:=n) (by omega) (by omega)
  exact ret_gen _ _ _ rfl rfl rfl ⟨_,_,_,rfl,g1,.inl g2,by omega,by omega,rfl⟩
theorem k_one (code:List UInt8)(a s n:Int)(hc:code.length≤65536)(ha:0≤a∧a≤1099511627770)(hn:n≤1099511627776):Ok Tryz.prog 68 [.ptr 0 0 0,.p (.int .i64 n)] [curO code a s]
  fun d H => ∃ (b:Bool) (a' s':Int),d = .p (.bool b)∧a≤a'∧a'≤a+2∧H=[curO code a' s']:=by
 refine ok_D hmix c_spec_l1Cur_one (by simp) ?_
 have hk:=k_pick code a s n hc ha hn
 refine sA ?_
 repeat' (first|refine sA ?_|refine sN ?_|(refine Rm_i [0] hk (by simp) (by simp) ⟨_,_,rfl,.inl rfl,_,_,rfl,.inl rfl,rfl⟩ (fun r H2 hh => ?_); obtain ⟨x,a',s',rfl,hx0,hx1,h1,h2,rfl⟩:=hh)|refine sB ?_|refine sX ?_ ?_<;>(try intro h)<;>(try omega)|exact sP|refine rK ?_|exact sQ|refine sD ?_|rfl|exact sE|omega)
 exact ret_gen _ _ _ rfl rfl rfl ⟨_,_,_,rfl,h1,h2,rfl⟩
theorem k_among (code:List UInt8)(a s:Int)(xs:List Int)(m:Nat)(hc:code.length≤65536)(ha:0≤a∧a≤1099511627770)(hm:0<m∧m≤xs.length∧m≤1000) :
  Ok Tryz.prog 65 [.ptr 0 0 0,.own 1 0 m] [curO code a s,.arr 3 1 (xs.map (.int .i64))]
  fun d H => ∃ r a' s':Int,d = .p (.int .i64 r)∧r∈xs.take m∧a≤a'∧a'≤a+2∧H=[curO code a' s',.arr 3 1 (xs.map (.int .i64))]:=by
 refine ok_D hmix c_spec_l1Cur_among (by simp) ?_
 have hk:=k_pick code a s m hc ha (by omega)
 refine sA ?_
 repeat' (first|refine sA ?_|refine sN ?_|(refine Rm_i [0] hk (by simp) (by simp) ⟨_,_,rfl,.inl rfl,_,_,rfl,.inl rfl,rfl⟩ (fun r H2 hh => ?_); obtain ⟨x,a',s',rfl,hx0,hx1,h1,h2,rfl⟩:=hh)|refine sB ?_|refine sX ?_ ?_<;>(try intro h)<;>(try omega)|exact sP|refine rK ?_|exact sQ|refine sD ?_|rfl|exact sE|omega)
 exact ret_gen _ _ _ rfl rfl rfl ⟨_,_,_,rfl,take_getD (by omega),h1,h2,rfl⟩
theorem k_of (code:List UInt8)(a s:Int)(xs:List (List UInt8))(m:Nat)(hc:code.length≤65536)(ha:0≤a∧a≤1099511627770)(hm:0<m∧m≤xs.length∧m≤1000) :
  Ok Tryz.prog 128 [.ptr 0 0 0,.own 1 0 m] [curO code a s,.arr 9 1 (xs.map .str)]
  fun d H => ∃ (r:List UInt8) (a' s':Int),d = .p (.str r)∧r∈xs.take m∧a≤a'∧a'≤a+2∧H=[curO code a' s',.arr 9 1 (xs.map .str)]:=by
 refine ok_D hmix c_spec_l1Cur_of (by simp) ?_
 have hk:=k_pick code a s m hc ha (by omega)
 refine sA ?_
 repeat' (first|refine sA ?_|refine sN ?_|(refine Rm_i [0] hk (by simp) (by simp) ⟨_,_,rfl,.inl rfl,_,_,rfl,.inl rfl,rfl⟩ (fun r H2 hh => ?_); obtain ⟨x,a',s',rfl,hx0,hx1,h1,h2,rfl⟩:=hh)|refine sB ?_|refine sX ?_ ?_<;>(try intro h)<;>(try omega)|exact sP|refine rK ?_|exact sQ|refine sD ?_|rfl|exact sE|omega)
 exact ret_gen _ _ _ rfl rfl rfl ⟨_,_,_,rfl,take_getD (by omega),h1,h2,rfl⟩
set_option maxRecDepth 100000 in
theorem open_bytes {xs:List PV}(h:PTy Tryz.prog 8 54 xs) : ∃ code:List UInt8,mkEl (aggB Tryz.prog 54) xs=codeP code∧code.length≤9223372036854775807:=by
 have e:aggB Tryz.prog 54=false:=by kernel_rfl
 have e2:aggB Tryz.prog 5=false:=by kernel_rfl
 have e3:Tryz.prog.cellsOf 5=1:=by kernel_rfl
 obtain ⟨yss,rfl,hl,hy⟩:=pty_slice Tryz.underlying54 h
 obtain ⟨code,hc,_⟩:=els_of (ag:=aggB Tryz.prog 5) (f:=fun b:UInt8=>PV.int .u8 b.toNat) (G:=fun _=>True) (fun ys hys=>by
  obtain ⟨m,rfl,hm⟩:=pty_int Tryz.underlying5 hys
  have hb:0≤m∧m≤255:=Go.bounds_u8 hm
  refine ⟨UInt8.ofNat m.toNat,?_,trivial⟩
  rw [e2]
  show PV.int .u8 m=PV.int .u8 _
  rw [UInt8.toNat_ofNat_of_lt' (by show m.toNat<256; omega)]
  congr 1
  omega) hy
 refine ⟨code,?_,?_⟩
 ·rw [e,hc,e3]; rfl
 ·have:=congrArg List.length hc
  simp only [List.length_map] at this
  omega
end Go.Proofs.YtekmkgegjicjgaaGreat
namespace Go.Proofs.YtekmkgegjicjgaaGreat
open Go.Dv Go.Dv.EvL
set_option maxRecDepth 100000
set_option maxHeartbeats 16000000
attribute [local irreducible] Ok Rm Dm Om Sm Xm Cm Gm Hm Tm
theorem lt_of_at {H:Heap}{c:Nat}{o:OB}(h:H[c]? = some o):c<H.length:=by
 rcases Nat.lt_or_ge c H.length with h1|h1
 ·exact h1
 ·rw [List.getElem?_eq_none h1] at h
  cases h
theorem getD_at_ob {H:Heap}{c:Nat}{o:OB}(h:H[c]? = some o):H.getD c .dead=o:=by rw [List.getD_eq_getElem?_getD,h]; rfl
theorem cur_ren {ids:List Nat}{code:List UInt8}{a s:Int}:renB ids (curO code a s)=curO code a s:=rfl
theorem heap_cur {H:Heap}{c:Nat}{code:List UInt8}{a s:Int}(h0:H[c]? = some (curO code a s)):heapOf [c] H=[curO code a s]:=by
 simp only [heapOf,List.map_cons,List.map_nil,getD_at_ob h0,cur_ren]
theorem heap_cur2 {H:Heap}{c j t k:Nat}{ys:List PV}{code:List UInt8}{a s:Int}(h0:H[c]? = some (curO code a s))(h1:H[j]? = some (.arr t k ys)):heapOf [c,j] H=[curO code a s,.arr t k ys]:=by
 simp only [heapOf,List.map_cons,List.map_nil,getD_at_ob h0,getD_at_ob h1,cur_ren]
 rfl
theorem merge_cur {H:Heap}{c:Nat}{code:List UInt8}{a s:Int}:mergeH [c] H [curO code a s]=setL H c (curO code a s):=by
 simp only [mergeH,List.length_cons,List.length_nil,Nat.zero_add,List.take_succ_cons,List.take_zero,List.map_cons,List.map_nil,List.drop_succ_cons,List.drop_zero,List.append_nil,putAll]
 rfl
theorem set_same {α : Type} : ∀ {l:List α} {j:Nat} {y : α},l[j]? = some y→setL l j y=l
 | [],_,_,h=>by simp at h
 | x::l,0,y,h=>by
  simp only [List.getElem?_cons_zero,Option.some.injEq] at h
  subst h
  rfl
 | x::l,j+1,y,h=>by
  simp only [List.getElem?_cons_succ] at h
  simp only [setL,set_same h]
theorem setL_ne {α : Type} : ∀ {l:List α} {i j:Nat} {x : α},i≠j→(setL l i x)[j]? = l[j]?
 | [],_,_,_,_=>by simp [setL]
 | y::l,0,0,x,h=>absurd rfl h
 | y::l,0,j+1,x,_=>by simp [setL]
 | y::l,i+1,0,x,_=>by simp [setL]
 | y::l,i+1,j+1,x,h=>by
  simp only [setL,List.getElem?_cons_succ]
  exact setL_ne fun e=>h (by rw [e])
theorem merge_cur2 {H:Heap}{c j t k:Nat}{ys:List PV}{code:List UInt8}{a s:Int}(hj:c≠j)(h1:H[j]? = some (.arr t k ys)):mergeH [c,j] H [curO code a s,.arr t k ys]=setL H c (curO code a s):=by
 simp only [mergeH,List.length_cons,List.length_nil,Nat.zero_add,List.take_succ_cons,List.take_zero,List.map_cons,List.map_nil,List.drop_succ_cons,List.drop_zero,List.append_nil,putAll]
 exact set_same (by rw [setL_ne hj]; exact h1)
theorem cur_bk {ids:List Nat}{n:Nat}{code:List UInt8}{a s:Int}:bkB ids n (curO code a s)=curO code a s:=rfl
attribute [go_sem] cur_bk
theorem cutL_length {α : Type}{s:List α}{a b:Nat}:(cutL s a b).length=min (b - a) (s.length - a):=by simp [cutL]
attribute [simp] cutL_length
theorem tn1 {m:Nat}:((1:Int)+(m:Int)).toNat=1+m:=by omega
theorem tn2 {m:Nat}:((2:Int)+(m:Int)).toNat=2+m:=by omega
theorem tn3 {m:Nat}:((3:Int)+(m:Int)).toNat=3+m:=by omega
theorem tn4 {m:Nat}:((4:Int)+(m:Int)).toNat=4+m:=by omega
theorem tn5 {m:Nat}:((5:Int)+(m:Int)).toNat=5+m:=by omega
theorem tn6 {m:Nat}:((6:Int)+(m:Int)).toNat=6+m:=by omega
theorem tn7 {m:Nat}:((7:Int)+(m:Int)).toNat=7+m:=by omega
theorem tn8 {m:Nat}:((8:Int)+(m:Int)).toNat=8+m:=by omega
theorem tn9 {m:Nat}:((9:Int)+(m:Int)).toNat=9+m:=by omega
theorem tdivn {m:Nat}:(m:Int).tdiv 11=((m / 11:Nat):Int):=tdiv_nat m 11
theorem bytes_zero {n m:Nat}:bytesOf (((List.replicate m (0:Int)).take n).map (PV.int .u8))=some (List.replicate (min n m) 0):=by
 rw [List.take_replicate]
 generalize min n m=k
 induction k with
 | zero=>rfl
 | succ k ih =>
  rw [List.replicate_succ,List.map_cons,bytesOf_cons (by omega),ih]
  rfl
section
variable {nin c:Nat} {d:Option Nat} {os:List GOp} {s:Stk} {env:Env} {H:Heap} {code:List UInt8} {a sd:Int}
theorem Rm_pick {n:Int}(hc:code.length≤65536)(h0:H[c]? = some (curO code a sd))(ha:0≤a∧a≤1099511627770)(hn:n≤1099511627776)
  (h2 : ∀ (r:Nat) (a' s':Int),((r:Int)<n∨r=0)→a≤a'→a'≤a+2→Sm (mdP Tryz.prog nin) false (asked d os) (.p (.int .i64 r)) d os s env (setL H c (curO code a' s'))) :
  Rm (mdP Tryz.prog nin) false (.call 66 [.ptr c 0 0,.p (.int .i64 n)] H) d os s env:=by
 refine Rm_i [c] (args':=[.ptr 0 0 0,.p (.int .i64 n)]) ((heap_cur h0).symm ▸ k_pick code a sd n hc ha hn) (by simp) (by have:=lt_of_at h0; simpa using this) ⟨_,_,rfl,.inl (by simp [ren]),_,_,rfl,.inl rfl,rfl⟩ (fun r H2 hh => ?_)
 obtain ⟨x,a',s',rfl,g1,g2,g3,g4,rfl⟩:=hh
 rw [merge_cur]
 obtain ⟨n,rfl⟩ : ∃ n:Nat,x=n:=⟨x.toNat,by omega⟩
 exact h2 n a' s' (by omega) g3 g4
theorem Rm_mc {f:FuncId}{Q:DV→Heap→Prop}{ds:List DV}{xs:List PV}(hx:pvOfs ds=some xs)(h0:H[c]? = some (curO code a sd))(h:Ok Tryz.prog f (.ptr 0 0 0::xs.map .p) [curO code a sd] Q)
  (h2 : ∀ r H2,Q r H2→Sm (mdP Tryz.prog nin) false (asked d os) (bk [c] H.length r) d os s env (mergeH [c] H H2)) :
  Rm (mdP Tryz.prog nin) false (.call f (.ptr c 0 0::ds) H) d os s env:=by
 refine Rm_i [c] (args' := .ptr 0 0 0::xs.map .p) ((heap_cur h0).symm ▸ h) (by simp) (by have:=lt_of_at h0; simpa using this) ⟨_,_,rfl,.inl (by simp [ren]),argsP_pv hx⟩ h2
theorem Rm_one {n:Int}(hc:code.length≤65536)(h0:H[c]? = some (curO code a sd))(ha:0≤a∧a≤1099511627770)(hn:n≤1099511627776)
  (h2 : ∀ (r:Bool) (a' s':Int),a≤a'→a'≤a+2→Sm (mdP Tryz.prog nin) false (asked d os) (.p (.bool r)) d os s env (setL H c (curO code a' s'))) :
  Rm (mdP Tryz.prog nin) false (.call 68 [.ptr c 0 0,.p (.int .i64 n)] H) d os s env:=by
 refine Rm_i [c] (args':=[.ptr 0 0 0,.p (.int .i64 n)]) ((heap_cur h0).symm ▸ k_one code a sd n hc ha hn) (by simp) (by have:=lt_of_at h0; simpa using this) ⟨_,_,rfl,.inl (by simp [ren]),_,_,rfl,.inl rfl,rfl⟩ (fun r H2 hh => ?_)
 obtain ⟨x,a',s',rfl,g3,g4,rfl⟩:=hh
 rw [merge_cur]
 exact h2 x a' s' g3 g4
def intsOf:List PV→Option (List Int)
 | []=>some []
 | .int .i64 n::xs=>(intsOf xs).map (n :: ·)
 | _=>none
def strsOf:List PV→Option (List (List UInt8))
 | []=>some []
 | .str n::xs=>(strsOf xs).map (n :: ·)
 | _=>none
theorem intsOf_map : ∀ {ys:List PV} {xs:List Int},intsOf ys=some xs→ys=xs.map (.int .i64)
 | [],xs,h=>by
  obtain rfl:=Option.some.inj h
  rfl
 | y::ys,xs,h=>by
  unfold intsOf at h
  split at h
  ·rename_i e; cases e
  ·rename_i n zs e
   obtain ⟨rfl,rfl⟩:=List.cons.inj e
   simp only [Option.map_eq_some_iff] at h
   obtain ⟨ws,h1,rfl⟩:=h
   rw [List.map_cons,← intsOf_map h1]
  ·cases h
theorem strsOf_map : ∀ {ys:List PV} {xs:List (List UInt8)},strsOf ys=some xs→ys=xs.map .str
 | [],xs,h=>by
  obtain rfl:=Option.some.inj h
  rfl
 | y::ys,xs,h=>by
  unfold strsOf at h
  split at h
  ·rename_i e; cases e
  ·rename_i n zs e
   obtain ⟨rfl,rfl⟩:=List.cons.inj e
   simp only [Option.map_eq_some_iff] at h
   obtain ⟨ws,h1,rfl⟩:=h
   rw [List.map_cons,← strsOf_map h1]
  ·cases h
theorem Rm_among {m j:Nat}{ys:List PV}{xs:List Int}(lo hi:Int)(hc:code.length≤65536)(h0:H[c]? = some (curO code a sd))(hj:H[j]? = some (.arr 3 1 ys))(hx:intsOf ys=some xs)(hcj:c<j)(ha:0≤a∧a≤1099511627770)(hm:0<m∧m≤xs.length∧m≤1000)
  (hb : ∀ x∈xs,lo≤x∧x≤hi)
  (h2 : ∀ r a' s':Int,lo≤r→r≤hi→r∈xs.take m→a≤a'→a'≤a+2→Sm (mdP Tryz.prog nin) false (asked d os) (.p (.int .i64 r)) d os s env (setL H c (curO code a' s'))) :
  Rm (mdP Tryz.prog nin) false (.call 65 [.ptr c 0 0,.own j 0 m] H) d os s env:=by
 have e:=intsOf_map hx
 subst e
 have hne:c≠j:=by omega
 refine Rm_i [c,j] (args':=[.ptr 0 0 0,.own 1 0 m]) ((heap_cur2 h0 hj).symm ▸ k_among code a sd xs m hc ha hm) (by simp [hne]) (by have:=lt_of_at h0; have:=lt_of_at hj; simp; omega) ⟨_,_,rfl,.inl (by simp [ren]),_,_,rfl,.inl (by simp [ren,List.idxOf_cons,beq_eq_false_iff_ne.2 hne]),rfl⟩ (fun r H2 hh => ?_)
 obtain ⟨x,a',s',rfl,g1,g3,g4,rfl⟩:=hh
 rw [merge_cur2 hne hj]
 have:=hb x (List.mem_of_mem_take g1)
 exact h2 x a' s' this.1 this.2 g1 g3 g4
theorem Rm_of {m j:Nat}{ys:List PV}{xs:List (List UInt8)}(L:Nat)(hc:code.length≤65536)(h0:H[c]? = some (curO code a sd))(hj:H[j]? = some (.arr 9 1 ys))(hx:strsOf ys=some xs)(hcj:c<j)(ha:0≤a∧a≤1099511627770)(hm:0<m∧m≤xs.length∧m≤1000)
  (hb : ∀ x∈xs,x.length≤L)
  (h2 : ∀ (r:List UInt8) (a' s':Int),r.length≤L→r∈xs.take m→a≤a'→a'≤a+2→Sm (mdP Tryz.prog nin) false (asked d os) (.p (.str r)) d os s env (setL H c (curO code a' s'))) :
  Rm (mdP Tryz.prog nin) false (.call 128 [.ptr c 0 0,.own j 0 m] H) d os s env:=by
 have e:=strsOf_map hx
 subst e
 have hne:c≠j:=by omega
 refine Rm_i [c,j] (args':=[.ptr 0 0 0,.own 1 0 m]) ((heap_cur2 h0 hj).symm ▸ k_of code a sd xs m hc ha hm) (by simp [hne]) (by have:=lt_of_at h0; have:=lt_of_at hj; simp; omega) ⟨_,_,rfl,.inl (by simp [ren]),_,_,rfl,.inl (by simp [ren,List.idxOf_cons,beq_eq_false_iff_ne.2 hne]),rfl⟩ (fun r H2 hh => ?_)
 obtain ⟨x,a',s',rfl,g1,g3,g4,rfl⟩:=hh
 rw [merge_cur2 hne hj]
 exact h2 x a' s' (hb x (List.mem_of_mem_take g1)) g1 g3 g4
end
theorem k_spoilt (code:List UInt8)(a s:Int)(t w:List UInt8)(hc:code.length≤65536)(ha:0≤a∧a≤1099511627000)(ht:t.length≤1000000)(hw:0<w.length∧w.length≤1000) :
  Ok Tryz.prog 78 [.ptr 0 0 0,.p (.str t),.p (.str w)] [curO code a s]
  fun d H => ∃ (r:List UInt8) (a' s':Int),d = .p (.str r)∧r.length≤t.length+1∧a≤a'∧a'≤a+10∧H=[curO code a' s']:=by
 refine ok_D hmix c_spec_l1Cur_spoilt (by simp) ?_
 have hz:t=[]∨0<t.length:=by
  rcases t with _|⟨x,t⟩
  ·exact .inl rfl
  ·exact .inr (by simp)
 rcases hz with rfl|hz
 ·refine sA ?_
  repeat' (first|refine sA ?_|refine sN ?_|(refine Rm_pick hc rfl (by omega) (by first|omega|(simp; omega)) (fun r a1 s1 q2 q3 q4 => ?_))|(refine Rm_one hc rfl (by omega) (by first|omega|(simp; omega)) (fun r a1 s1 q3 q4 => ?_))|(refine Rm_of 1000 hc rfl rfl rfl (by omega) (by omega) (by first|decide|omega) (by decide) (fun r a1 s1 q1 q2 q3 q4 => ?_); clear q2)|(refine Rm_among (-1000000000000) 1000000000000 hc rfl rfl rfl (by omega) (by omega) (by first|decide|(simp; omega)) (by decide) (fun r a1 s1 q1 q2 q5 q3 q4 => ?_); clear q5)|refine sB ?_|refine sX ?_ ?_<;>(try intro h)<;>(try omega)|exact sP|refine rK ?_|exact sQ|refine sD ?_|rfl|exact sE|omega)
  all_goals exact ret_gen _ _ _ rfl rfl rfl ⟨_,_,_,rfl,by simp; omega,by omega,by omega,rfl⟩
 ·refine sA ?_
  repeat' (first|refine sA ?_|refine sN ?_|(refine Rm_pick hc rfl (by omega) (by first|omega|(simp; omega)) (fun r a1 s1 q2 q3 q4 => ?_))|(refine Rm_one hc rfl (by omega) (by first|omega|(simp; omega)) (fun r a1 s1 q3 q4 => ?_))|(refine Rm_of 1000 hc rfl rfl rfl (by omega) (by omega) (by first|decide|omega) (by decide) (fun r a1 s1 q1 q2 q3 q4 => ?_); clear q2)|(refine Rm_among (-1000000000000) 1000000000000 hc rfl rfl rfl (by omega) (by omega) (by first|decide|(simp; omega)) (by decide) (fun r a1 s1 q1 q2 q5 q3 q4 => ?_); clear q5)|refine sB ?_|refine sX ?_ ?_<;>(try intro h)<;>(try omega)|exact sP|refine rK ?_|exact sQ|refine sD ?_|rfl|exact sE|omega)
  all_goals first|exact ret_gen _ _ _ rfl rfl rfl ⟨_,_,_,rfl,by simp; omega,by omega,by omega,rfl⟩|skip
end Go.Proofs.YtekmkgegjicjgaaGreat
