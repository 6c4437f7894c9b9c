import Derived.Test.YtekmkgegjicjgaaGreatZIr1
import Derived.Test.YtekmkgegjicjgaaGreatZLaw
import Derived.KernelRfl
namespace Go.Proofs.YtekmkgegjicjgaaGreat
open Go.Dv Go.Dv.EvL
attribute [local irreducible] Ok Rm Dm Om Sm Xm Cm Gm Hm Tm
section
variable {M:Md} {s:Stk} {env:Env} {H:Heap}
theorem Dm_opn {b c:DC}(hc:c=b)(h:Dm M b s env H):Dm M c s env H:=by
 subst hc
 exact h
end
attribute [go_sem] Nat.lt_add_one Nat.zero_lt_one Bool.false_eq_true envOf envFrom
theorem wH:(∀ (p:Prop)[Decidable p],(decide p=true)=p)∧(∀ (p:Prop) [Decidable p],(decide p=false) ↔ ¬ p)∧(∀ {α : Type} [BEq α] [LawfulBEq α] {a b : α},(a != b)=true↔a≠b)∧(∀ {α : Type} [BEq α] [LawfulBEq α] {a b : α},(a == b)=true↔a=b)∧(∀ {α : Type} [BEq α] [LawfulBEq α] {a b : α},(a != b)=false↔a=b)∧(∀ {α : Type} [BEq α] [LawfulBEq α] {a b : α},(a == b)=false↔a≠b)∧(∀ b:Bool,(¬ b=true)=(b=false))∧(∀ b:Bool,((!b)=true)=(b=false))∧(∀ b:Bool,(¬ b=false)=(b=true))∧(∀ b:Bool,((!b)=false)=(b=true))∧(∀ {α : Type} (a b : α),(a≠b) = ¬ a=b)∧(∀ a b:Bool,((a && b)=true)=(a=true∧b=true))∧(∀ a b:Bool,((a || b)=true)=(a=true∨b=true))∧(∀ {p:Prop} [Decidable p],true=decide p↔p)∧(∀ {p:Prop} [Decidable p],false=decide p ↔ ¬ p) :=
 ⟨fun _ _=>decide_eq_true_eq,fun _ _=>decide_eq_false_iff_not,bne_iff_ne,beq_iff_eq,bne_eq_false_iff_eq,beq_eq_false_iff_ne,Bool.not_eq_true,fun b=>by simp,Bool.not_eq_false,fun b=>by simp,fun _ _=>rfl,Bool.and_eq_true,Bool.or_eq_true,true_eq_decide_iff,false_eq_decide_iff⟩
theorem wG:(∀ {α : Type}(a b : α),(a≠b) = ¬ a=b)∧(∀ b:Bool,(¬ b=true)=(b=false))∧(∀ b:Bool,(¬ b=false)=(b=true)):=⟨fun _ _=>rfl,Bool.not_eq_true,Bool.not_eq_false⟩
theorem sA {P Q:Prop}(h:Q)(k:Q→P:=by
 intro h
 simp only [go_sem,reduceIte,Nat.reduceEqDiff,Nat.reduceBEq,Nat.reduceAdd,Nat.reduceSub,Nat.reduceMul,Nat.reduceLeDiff,Nat.reduceLT]
 exact h):P:=k h
theorem sN {P Q:Prop}(h:Q)(k:Q→P:=by
 intro h
 first
 | exact Dm_opn (by assumption) h
 | (simp (disch:=omega) only [w64,w8,bytesOf_cons,tmod10,tdiv10,tn48,nsub1,nadd1,nsub,nadd,nmul,List.take_length,Int.toNat_zero,Int.reduceAdd,Int.reduceSub,Int.reduceToNat,Int.reduceMul,Nat.sub_zero,Nat.min_self]; exact h)
 | exact Rm_need (by first|exact True.intro|omega|(simp; omega)) h):P:=k h
section
variable {M:Md} {s:Stk} {env:Env} {H:Heap} {q:Bool} {d:Option Nat} {os:List GOp} {P:Program} {nin:Nat}
theorem tF {hs:List Nat}{env1:Env}{H1:Heap}{tl:List GOp}(h2:Om M false tl s (newsE env1 env++env1) (unhide hs H1 H))(h:hideOK hs (newsE env1 env) H:=by simp only [hideOK,newsE,setE_none,setE_some,List.length_cons,List.length_nil,Nat.reduceSub,Nat.reduceAdd,List.take_succ_cons,List.take_zero,List.map_cons,List.map_nil]; simp [refsL,refs,setCells,setL]<;>fail):Tm M .fin hs env1 H1 tl s env H:=Tm_fin h h2
theorem rW {f:FuncId}{args:List DV}{xs:List PV}{d0:DV}(hv:viewOfs H args=some xs)(h:Okv P f xs d0)(h2:Sm (mdP P nin) q (asked d os) d0 d os s env H)(hd:detD d0:=by trivial):Rm (mdP P nin) q (.call f args H) d os s env:=Rm_w hv h hd h2
theorem rV {f:FuncId}{args:List DV}{xs:List PV}{d0:DV}(h:Okv P f xs d0)(h2:Sm (mdP P nin) q (asked d os) d0 d os s env H)(hv:viewOfs H args=some xs:=by simp [viewOfs,viewOf,List.take_of_length_le,cutL]<;>fail)(hd:detD d0:=by trivial):Rm (mdP P nin) q (.call f args H) d os s env:=Rm_w hv h hd h2
theorem rK {rs:List RV}{d0:DV}(h:(resD env H rs).map normD=some d0)(hd:detD d0:=by first|trivial|(simp only [go_sem,detD,detDs,detP,and_self,and_true]<;>fail)):Xm M .ret (.top (retQ 0 rs fun d' H=>normD d'=d0∧H=[])) env H:=ret_okv hd h
end
theorem sB {P Q:Prop}(h:Q)(k:Q→P:=by
 intro h
 first
 | exact Rm_gi (by first|omega|(simp; omega)) h
 | exact Rm_gb (by first|omega|(simp; omega)) h
 | exact Rm_ga (by first|omega|(simp; omega)) _ rfl (Nat.le_of_ble_eq_true rfl) h
 | exact Rm_gm (by first|omega|(simp; omega)) _ rfl h
 | exact Rm_part _ _ rfl rfl h
 | exact Rm_puti (by first|omega|(simp; omega)) rfl h
 | exact Dm_draw [] (by simp) h
 | exact tF h):P:=k h
theorem sC {P Q R:Prop}(h1:Q)(h2:R)(k:Q→R→P:=by
 intro h1 h2
 first
 | exact Tm_both h1 h2
 | exact Cm_split h1 h2
 | exact Sm_split h1 h2):P:=k h1 h2
theorem sG {P Q R:Prop}(h1:Q)(h2:R)(k:Q→R→P:=by
 intro h1 h2
 exact Gm_split h1 h2):P:=k h1 h2
theorem sX {P Q R:Prop}(h1:Q)(h2:R)(k:Q→R→P:=by
 intro h1 h2
 first
 | exact Tm_both h1 h2
 | (refine Cm_split (fun h => ?_) (fun h => ?_)
    · first
      | (try simp only [wH] at h); revert h; exact h1
      | (have:=(h1:0=0); simp only [wH] at h)
    · first
      | (try simp only [wH] at h); revert h; exact h2
      | (have:=(h2:0=0); simp only [wH] at h))
 | (refine Sm_split (fun h => ?_) (fun h => ?_)
    · first
      | (try simp only [wH] at h); revert h; exact h1
      | (have:=(h1:0=0); simp only [wH] at h)
    · first
      | (try simp only [wH] at h); revert h; exact h2
      | (have:=(h2:0=0); simp only [wH] at h))
 | (refine Gm_split (fun h => ?_) (fun h => ?_)
    · first
      | (try simp only [wG] at h); (try rw [h]); (try simp only [wH] at h); revert h; exact h1
      | (have:=(h1:0=0); simp only [wG] at h)
      | (have:=(h1:0=0); (try simp only [wG] at h); (try rw [h]); simp only [wH] at h)
    · first
      | (try simp only [wG] at h); (try rw [h]); (try simp only [wH] at h); revert h; exact h2
      | (have:=(h2:0=0); simp only [wG] at h)
      | (have:=(h2:0=0); (try simp only [wG] at h); (try rw [h]); simp only [wH] at h))):P:=k h1 h2
theorem sP {P:Prop}(h:P:=by exact ret_p rfl ⟨rfl,rfl⟩):P:=h
theorem sQ {P:Prop}(h:P:=by exact ret_gen _ _ _ rfl rfl rfl ⟨rfl,rfl⟩):P:=h
theorem sO {M:Md}{b c e:DC}{s:Stk}{env:Env}{H:Heap}(hc:c = .seq b e)(h : ∀ d,d=e→Dm M (.seq b d) s env H):Dm M c s env H:=by
 subst hc
 exact h _ rfl
theorem sF {M:Md}{a b:DC}{s:Stk}{env:Env}{H:Heap}(h : ∀ c,c=b→Dm M (.seq a c) s env H):Dm M (.seq a b) s env H:=h _ rfl
theorem dr {P Q:Prop}(h:Q)(k:Q→P:=by
 intro h
 refine Dm_draw [] (by simp) ?_
 simp only [go_sem,reduceIte,Nat.reduceEqDiff,Nat.reduceBEq,Nat.reduceAdd,Nat.reduceSub,Nat.reduceMul,Nat.reduceLeDiff,Nat.reduceLT]
 (try simp only [false_and])
 fail_if_success guard_target=False
 exact h):P:=k h
theorem dr0 {P Q:Prop}(h:Q)(k:Q→P:=by
 intro h
 refine Dm_draw [0] (by simp) ?_
 simp only [go_sem,reduceIte,Nat.reduceEqDiff,Nat.reduceBEq,Nat.reduceAdd,Nat.reduceSub,Nat.reduceMul,Nat.reduceLeDiff,Nat.reduceLT]
 (try simp only [false_and])
 fail_if_success guard_target=False
 exact h):P:=k h
theorem dr1 {P Q:Prop}(h:Q)(k:Q→P:=by
 intro h
 refine Dm_draw [1] (by simp) ?_
 simp only [go_sem,reduceIte,Nat.reduceEqDiff,Nat.reduceBEq,Nat.reduceAdd,Nat.reduceSub,Nat.reduceMul,Nat.reduceLeDiff,Nat.reduceLT]
 (try simp only [false_and])
 fail_if_success guard_target=False
 exact h):P:=k h
theorem dr2 {P Q:Prop}(h:Q)(k:Q→P:=by
 intro h
 refine Dm_draw [2] (by simp) ?_
 simp only [go_sem,reduceIte,Nat.reduceEqDiff,Nat.reduceBEq,Nat.reduceAdd,Nat.reduceSub,Nat.reduceMul,Nat.reduceLeDiff,Nat.reduceLT]
 (try simp only [false_and])
 fail_if_success guard_target=False
 exact h):P:=k h
theorem dr3 {P Q:Prop}(h:Q)(k:Q→P:=by
 intro h
 refine Dm_draw [3] (by simp) ?_
 simp only [go_sem,reduceIte,Nat.reduceEqDiff,Nat.reduceBEq,Nat.reduceAdd,Nat.reduceSub,Nat.reduceMul,Nat.reduceLeDiff,Nat.reduceLT]
 (try simp only [false_and])
 fail_if_success guard_target=False
 exact h):P:=k h
theorem dr4 {P Q:Prop}(h:Q)(k:Q→P:=by
 intro h
 refine Dm_draw [4] (by simp) ?_
 simp only [go_sem,reduceIte,Nat.reduceEqDiff,Nat.reduceBEq,Nat.reduceAdd,Nat.reduceSub,Nat.reduceMul,Nat.reduceLeDiff,Nat.reduceLT]
 (try simp only [false_and])
 fail_if_success guard_target=False
 exact h):P:=k h
theorem dr5 {P Q:Prop}(h:Q)(k:Q→P:=by
 intro h
 refine Dm_draw [5] (by simp) ?_
 simp only [go_sem,reduceIte,Nat.reduceEqDiff,Nat.reduceBEq,Nat.reduceAdd,Nat.reduceSub,Nat.reduceMul,Nat.reduceLeDiff,Nat.reduceLT]
 (try simp only [false_and])
 fail_if_success guard_target=False
 exact h):P:=k h
theorem dr6 {P Q:Prop}(h:Q)(k:Q→P:=by
 intro h
 refine Dm_draw [6] (by simp) ?_
 simp only [go_sem,reduceIte,Nat.reduceEqDiff,Nat.reduceBEq,Nat.reduceAdd,Nat.reduceSub,Nat.reduceMul,Nat.reduceLeDiff,Nat.reduceLT]
 (try simp only [false_and])
 fail_if_success guard_target=False
 exact h):P:=k h
theorem dr03 {P Q:Prop}(h:Q)(k:Q→P:=by
 intro h
 refine Dm_draw [0,3] (by simp) ?_
 simp only [go_sem,reduceIte,Nat.reduceEqDiff,Nat.reduceBEq,Nat.reduceAdd,Nat.reduceSub,Nat.reduceMul,Nat.reduceLeDiff,Nat.reduceLT]
 (try simp only [false_and])
 fail_if_success guard_target=False
 exact h):P:=k h
theorem dr04 {P Q:Prop}(h:Q)(k:Q→P:=by
 intro h
 refine Dm_draw [0,4] (by simp) ?_
 simp only [go_sem,reduceIte,Nat.reduceEqDiff,Nat.reduceBEq,Nat.reduceAdd,Nat.reduceSub,Nat.reduceMul,Nat.reduceLeDiff,Nat.reduceLT]
 (try simp only [false_and])
 fail_if_success guard_target=False
 exact h):P:=k h
theorem sD {P Q:Prop}(h:Q)(k:Q→P:=by
 intro h
 simp only [Option.some.injEq,DV.tup.injEq,DV.p.injEq,List.cons.injEq,PV.int.injEq,PV.bool.injEq,PV.str.injEq,and_true,true_and]
 exact h):P:=k h
theorem sE {P:Prop}(h:P:=by
 first
 | (simp only [go_sem,reduceIte,Nat.reduceEqDiff,Nat.reduceBEq,Nat.reduceAdd,Nat.reduceSub,Nat.reduceMul,Nat.reduceLeDiff,Nat.reduceLT]<;>fail)
 | (simp only [Option.some.injEq,DV.tup.injEq,DV.p.injEq,List.cons.injEq,PV.int.injEq,PV.bool.injEq,PV.str.injEq,and_true,true_and]<;>fail)
 | (with_reducible refine Eq.symm ?_; rfl)
 | (refine Bool.eq_iff_iff.2 ?_; simp only [decide_eq_true_eq,Bool.and_eq_true,Bool.or_eq_true,Bool.not_eq_true',decide_eq_false_iff_not,Bool.false_eq_true,beq_iff_eq,bne_iff_ne,ne_eq,false_iff,iff_false,true_iff,iff_true]; omega)
 | omega):P:=h
end Go.Proofs.YtekmkgegjicjgaaGreat
namespace Go.Proofs.YtekmkgegjicjgaaGreat
open Go.Dv Go.Dv.EvL
set_option maxRecDepth 100000
set_option maxHeartbeats 16000000
attribute [local irreducible] Ok Rm Dm Om Sm Xm Cm Gm Hm Tm
def W64 (n:Int):Prop := -9223372036854775808≤n∧n≤9223372036854775807
def W64s (xs:List Int):Prop := ∀ n∈xs,W64 n
theorem wf64 {n:Int}(h:(Lit.int .i64 n).wf=true):W64 n:=Go.bounds_i64 h
theorem wf64s {xs:List Int}(h : ∀ n∈xs,(Lit.int .i64 n).wf=true):W64s xs:=fun n hn=>wf64 (h n hn)
theorem getD_mem {α : Type}{l:List α}{i:Nat}{d : α}(h:i<l.length):l.getD i d∈l:=by
 rw [List.getD_eq_getElem?_getD,List.getElem?_eq_getElem h]
 exact List.getElem_mem h
theorem take_snoc {α : Type}{l:List α}{i:Nat}{d : α}(h:i<l.length):l.take (i+1)=l.take i++[l.getD i d]:=by
 rw [List.take_add_one,List.getElem?_eq_getElem h,List.getD_eq_getElem?_getD,List.getElem?_eq_getElem h]
 rfl
theorem drop_cons {α : Type}{l:List α}{i:Nat}{d : α}(h:i<l.length):l.drop i=l.getD i d::l.drop (i+1):=by
 rw [List.drop_eq_getElem_cons h,List.getD_eq_getElem?_getD,List.getElem?_eq_getElem h]
 rfl
theorem u8_lt (b:UInt8):b.toNat<256:=b.toNat_lt
theorem u8_eq {a b:UInt8}:(a.toNat:Int)=(b.toNat:Int)↔a=b:=by
 constructor
 ·intro h
  exact UInt8.toNat_inj.1 (by omega)
 ·rintro rfl
  rfl
theorem u8_lit {a:UInt8}{n:Nat}(hn:n<256):(a.toNat:Int)=(n:Int)↔a=UInt8.ofNat n:=by
 rw [← u8_eq,UInt8.toNat_ofNat_of_lt' (by show n<256; omega)]
theorem k_within (n lo hi:Int):Okv Tryz.prog 76 [.int .i64 n,.int .i64 lo,.int .i64 hi] (.p (.bool (decide (lo≤n∧n≤hi)))):=by
 refine ok_D hmix c_impl_within (by simp) ?_
 refine sA ?_
 repeat' (first|refine sA ?_|refine sN ?_|refine sB ?_|refine sX ?_ ?_<;>(try intro h)<;>(try omega)|exact sP|refine rK ?_|exact sQ|refine sD ?_|rfl|exact sE|omega)
theorem k_l1In (n lo hi:Int):Okv Tryz.prog 132 [.int .i64 n,.int .i64 lo,.int .i64 hi] (.p (.bool (decide (lo≤n∧n≤hi)))):=by
 refine ok_D hmix c_spec_l1In (by simp) ?_
 refine sA ?_
 repeat' (first|refine sA ?_|refine sN ?_|refine sB ?_|refine sX ?_ ?_<;>(try intro h)<;>(try omega)|exact sP|refine rK ?_|exact sQ|refine sD ?_|rfl|exact sE|omega)
theorem k_l1Most (a b:Int):Okv Tryz.prog 197 [.int .i64 a,.int .i64 b] (.p (.int .i64 (max a b))):=by
 refine ok_D hmix c_spec_l1Most (by simp) ?_
 refine sA ?_
 repeat' (first|refine sA ?_|refine sN ?_|refine sB ?_|refine sX ?_ ?_<;>(try intro h)<;>(try omega)|exact sP|refine rK ?_|exact sQ|refine sD ?_|rfl|exact sE|omega)
theorem k_l1Least (a b:Int):Okv Tryz.prog 196 [.int .i64 a,.int .i64 b] (.p (.int .i64 (min a b))):=by
 refine ok_D hmix c_spec_l1Least (by simp) ?_
 refine sA ?_
 repeat' (first|refine sA ?_|refine sN ?_|refine sB ?_|refine sX ?_ ?_<;>(try intro h)<;>(try omega)|exact sP|refine rK ?_|exact sQ|refine sD ?_|rfl|exact sE|omega)
def glue (p:List UInt8):List (List UInt8)→List (List UInt8)
 | []=>[p]
 | h::t=>(p++h)::t
def splitB (b:UInt8):List UInt8→List (List UInt8)
 | []=>[[]]
 | c::s=>if c=b then []::splitB b s else glue [c] (splitB b s)
theorem glue_nil {X:List (List UInt8)}(h:X≠[]):glue [] X=X:=by
 cases X with
 | nil=>exact absurd rfl h
 | cons x X=>rfl
theorem split_ne (b:UInt8) : ∀ s,splitB b s≠[]
 | []=>by simp [splitB]
 | c::s=>by
  unfold splitB
  split
  ·simp
  ·cases splitB b s<;>simp [glue]
theorem glue_glue {p q:List UInt8}{X:List (List UInt8)}(h:X≠[]):glue p (glue q X)=glue (p++q) X:=by
 cases X with
 | nil=>exact absurd rfl h
 | cons x X=>simp [glue]
theorem split_len (b:UInt8) : ∀ s,(splitB b s).length≤s.length+1∧0<(splitB b s).length
 | []=>by simp [splitB]
 | c::s=>by
  have:=split_len b s
  unfold splitB
  split
  ·simp; omega
  ·cases hX:splitB b s with
   | nil=>exact absurd hX (split_ne b s)
   | cons x X=>rw [hX] at this; simp [glue] at this ⊢; omega
theorem cut_step {s:List UInt8}{a i:Nat}(h:i<s.length)(ha:a≤i):cutL s a (i+1)=cutL s a i++[s.getD i 0]:=by
 unfold cutL
 rw [show i+1 - a=(i - a)+1 from by omega,List.take_add_one,List.getElem?_drop,show a+(i - a)=i from by omega,List.getElem?_eq_getElem h,List.getD_eq_getElem?_getD,List.getElem?_eq_getElem h]
 rfl
theorem cut_self {s:List UInt8}{a:Nat}:cutL s a a=[]:=by simp [cutL]
theorem split_at {b:UInt8}{s:List UInt8}{out:List (List UInt8)}{a i:Nat}(h:i<s.length)(ha:a≤i)(hi:splitB b s=out++glue (cutL s a i) (splitB b (s.drop i))) :
  (s.getD i 0=b→splitB b s=(out++[cutL s a i])++glue (cutL s (i+1) (i+1)) (splitB b (s.drop (i+1))))∧(s.getD i 0≠b→splitB b s=out++glue (cutL s a (i+1)) (splitB b (s.drop (i+1)))):=by
 rw [drop_cons (d:=0) h] at hi
 refine ⟨fun e => ?_,fun e => ?_⟩
 ·rw [splitB,if_pos e] at hi
  rw [hi,cut_self,glue_nil (split_ne _ _)]
  simp [glue]
 ·rw [splitB,if_neg e,glue_glue (split_ne _ _),← cut_step h ha] at hi
  exact hi
theorem split_end {b:UInt8}{s:List UInt8}{out:List (List UInt8)}{a:Nat}(hi:splitB b s=out++glue (cutL s a s.length) (splitB b (s.drop s.length))):splitB b s=out++[cutL s a s.length]:=by
 rw [hi]; simp [splitB,glue]
theorem k_split (s:List UInt8)(b:UInt8)(hl:s.length≤1099511627776):Okw Tryz.prog 46 [.str s,.int .u8 b.toNat] fun d H=>d = .own 0 0 (splitB b s).length∧H=[.arr 9 1 ((splitB b s).map .str)]:=by
 refine ok_D hmix c_impl_split (by simp) ?_
 refine sA ?_
 refine Dm_loop [0,1,5,6,7] (fun m ds H' => ∃ (i a:Nat) (out:List (List UInt8)),i≤s.length∧a≤i∧m=s.length - i∧splitB b s=out++glue (cutL s a i) (splitB b (s.drop i))∧out.length≤i ∧
  ((out=[]∧ds=[.p (.str s),.p (.int .u8 b.toNat),.nil,.p (.int .i64 a),.p (.int .i64 i)]∧H'=[]) ∨
   (ds=[.p (.str s),.p (.int .u8 b.toNat),.own 0 0 out.length,.p (.int .i64 a),.p (.int .i64 i)]∧H'=[.arr 9 1 (out.map .str)]))) s.length ⟨0,0,[],by omega,by omega,by omega,by rw [cut_self]; exact (glue_nil (split_ne _ _)).symm,by simp,.inl ⟨rfl,rfl,rfl⟩⟩ ?_
 rintro m ds H' ⟨i,a,out,hi,ha,rfl,hs,ho,hh⟩ -
 have hstep:=fun h:i<s.length=>split_at h ha hs
 rcases hh with ⟨rfl,rfl,rfl⟩|⟨rfl,rfl⟩
 ·repeat' (first|refine sA ?_|refine sN ?_|refine sB ?_|refine sX ?_ ?_<;>(try intro h)<;>(try omega)|exact sP|refine rK ?_|exact sQ|refine sD ?_|rfl|exact sE|omega)
  ·have hs:=(hstep (by omega)).1 (u8_eq.1 h)
   exact Xm_inv_n (s.length - (i+1)) (by omega) ⟨i+1,i+1,_,by omega,by omega,rfl,hs,by simp,.inr ⟨rfl,rfl⟩⟩
  ·have hs:=(hstep (by omega)).2 fun e=>h (u8_eq.2 e)
   exact Xm_inv_n (s.length - (i+1)) (by omega) ⟨i+1,a,[],by omega,by omega,rfl,hs,by simp,.inl ⟨rfl,rfl,rfl⟩⟩
  ·obtain rfl:i=s.length:=by omega
   rw [split_end hs]
   exact ret_gen _ _ _ rfl rfl rfl ⟨rfl,rfl⟩
 ·repeat' (first|refine sA ?_|refine sN ?_|refine sB ?_|refine sX ?_ ?_<;>(try intro h)<;>(try omega)|exact sP|refine rK ?_|exact sQ|refine sD ?_|rfl|exact sE|omega)
  ·have hs:=(hstep (by omega)).1 (u8_eq.1 h)
   exact Xm_inv_n (s.length - (i+1)) (by omega) ⟨i+1,i+1,out++[cutL s a i],by omega,by omega,rfl,hs,by simp; omega,.inr ⟨by rw [List.length_append]; rfl,rfl⟩⟩
  ·have hs:=(hstep (by omega)).2 fun e=>h (u8_eq.2 e)
   exact Xm_inv_n (s.length - (i+1)) (by omega) ⟨i+1,a,out,by omega,by omega,rfl,hs,by omega,.inr ⟨rfl,rfl⟩⟩
  ·obtain rfl:i=s.length:=by omega
   rw [split_end hs]
   exact ret_gen _ _ _ rfl rfl rfl ⟨by rw [List.length_append]; rfl,rfl⟩
theorem k_l1Split (s:List UInt8)(b:UInt8)(hl:s.length≤1099511627776):Okw Tryz.prog 42 [.str s,.int .u8 b.toNat] fun d H=>d = .own 0 0 (splitB b s).length∧H=[.arr 9 1 ((splitB b s).map .str)]:=by
 refine ok_D hmix c_spec_l1Split (by simp) ?_
 refine sA ?_
 refine Dm_loop [0,1,5,6,7] (fun m ds H' => ∃ (i a:Nat) (out:List (List UInt8)),i≤s.length∧a≤i∧m=s.length - i∧splitB b s=out++glue (cutL s a i) (splitB b (s.drop i))∧out.length≤i ∧
  ds=[.p (.str s),.p (.int .u8 b.toNat),.own 0 0 out.length,.p (.int .i64 a),.p (.int .i64 i)]∧H'=[.arr 9 1 (out.map .str)]) s.length ⟨0,0,[],by omega,by omega,by omega,by rw [cut_self]; exact (glue_nil (split_ne _ _)).symm,by simp,rfl,rfl⟩ ?_
 rintro m ds H' ⟨i,a,out,hi,ha,rfl,hs,ho,rfl,rfl⟩ -
 have hstep:=fun h:i<s.length=>split_at h ha hs
 repeat' (first|refine sA ?_|refine sN ?_|refine sB ?_|refine sX ?_ ?_<;>(try intro h)<;>(try omega)|exact sP|refine rK ?_|exact sQ|refine sD ?_|rfl|exact sE|omega)
 ·have hs:=(hstep (by omega)).1 (u8_eq.1 h)
  exact Xm_inv_n (s.length - (i+1)) (by omega) ⟨i+1,i+1,out++[cutL s a i],by omega,by omega,rfl,hs,by simp; omega,by rw [List.length_append]; rfl,rfl⟩
 ·have hs:=(hstep (by omega)).2 fun e=>h (u8_eq.2 e)
  exact Xm_inv_n (s.length - (i+1)) (by omega) ⟨i+1,a,out,by omega,by omega,rfl,hs,by omega,rfl,rfl⟩
 ·obtain rfl:i=s.length:=by omega
  rw [split_end hs]
  exact ret_gen _ _ _ rfl rfl rfl ⟨by rw [List.length_append]; rfl,rfl⟩
def dec (n:Nat):List UInt8:=if n<10 then [UInt8.ofNat (48+n)] else dec (n / 10)++[UInt8.ofNat (48+n % 10)]
termination_by n
decreasing_by omega
theorem dec_small {n:Nat}(h:n<10):dec n=[UInt8.ofNat (48+n)]:=by rw [dec,if_pos h]
theorem dec_big {n:Nat}(h : ¬ n<10):dec n=dec (n / 10)++[UInt8.ofNat (48+n % 10)]:=by rw [dec,if_neg h]
theorem dec_len : ∀ n k:Nat,n<10 ^ (k+1)→(dec n).length≤k+1
 | n,0,h=>by rw [dec_small (by simpa using h)]; simp
 | n,k+1,h=>by
  by_cases h1:n<10
  ·rw [dec_small h1]; simp
  ·rw [dec_big h1,List.length_append]
   have:=dec_len (n / 10) k (by rw [Nat.pow_succ] at h; omega)
   simp
   omega
theorem dec_len64 {n:Nat}(h:n≤9223372036854775807):(dec n).length≤19:=by
 have h2:(10:Nat) ^ (18+1)=10000000000000000000:=by decide
 exact dec_len n 18 (by omega)
theorem dec_pos (n:Nat):0<(dec n).length:=by
 by_cases h:n<10
 ·rw [dec_small h]; simp
 ·rw [dec_big h]; simp
def num (n:Int):List UInt8:=if n<0 then 45::dec n.natAbs else dec n.natAbs
theorem digits_cut : ∀ {n:Nat},n<10→cutL [48,49,50,51,52,53,54,55,56,57] n (n+1)=[UInt8.ofNat (48+n)]
 | 0,_=>rfl
 | 1,_=>rfl
 | 2,_=>rfl
 | 3,_=>rfl
 | 4,_=>rfl
 | 5,_=>rfl
 | 6,_=>rfl
 | 7,_=>rfl
 | 8,_=>rfl
 | 9,_=>rfl
 | n+10,h=>by omega
theorem k_textN (n:Nat)(hn:n≤9223372036854775807):Okv Tryz.prog 81 [.int .i64 n] (.p (.str (dec n))):=by
 refine ok_D hmix c_impl_text (by simp) ?_
 have hd:=dec_len64 hn
 refine sA ?_
 repeat' (first|refine sA ?_|refine sN ?_|refine sB ?_|refine sX ?_ ?_<;>(try intro h)<;>(try omega)|exact sP|refine rK ?_|exact sQ|refine sD ?_|rfl|exact sE|omega)
 refine Dm_loop [0,3] (fun v ds H' => ∃ out,v≤n∧dec n=dec v++out∧ds=[.p (.int .i64 v),.p (.str out)]∧H'=[]) n ⟨[],by omega,by simp,rfl,rfl⟩ ?_
 rintro v ds H' ⟨out,hv,ho,rfl,rfl⟩ -
 have hol:out.length≤19:=by have:=congrArg List.length ho; simp at this; omega
 repeat' (first|refine sA ?_|refine sN ?_|refine sB ?_|refine sX ?_ ?_<;>(try intro h)<;>(try omega)|exact sP|refine rK ?_|exact sQ|refine sD ?_|rfl|exact sE|omega)
 ·rw [dec_small (n:=v) (by omega)] at ho
  rw [ho,show v % 10=v from by omega]
  rfl
 ·rw [dec_big (n:=v) (by omega),List.append_assoc] at ho
  exact Xm_inv_n (v / 10) (by omega) ⟨_,by omega,ho,rfl,rfl⟩
theorem k_text (n:Int)(hn : -9223372036854775807≤n∧n≤9223372036854775807):Okv Tryz.prog 81 [.int .i64 n] (.p (.str (num n))):=by
 by_cases h0:n<0
 ·refine ok_D hmix c_impl_text (by simp) ?_
  obtain ⟨m,rfl⟩ : ∃ m:Nat,n = -(m:Int):=⟨n.natAbs,by omega⟩
  have hd:=dec_len64 (n:=m) (by omega)
  have e:(0:Int) - -(m:Int)=m:=by omega
  have e2:num (-(m:Int))=45::dec m:=by rw [num,if_pos h0,show (-(m:Int)).natAbs=m from by omega]
  rw [e2]
  refine sA ?_
  repeat' (first|refine sA ?_|refine sN ?_|rw [e]|refine rW rfl (k_textN m (by omega)) ?_|refine rV (k_textN m (by omega)) ?_|refine sB ?_|refine sX ?_ ?_<;>(try intro h)<;>(try omega)|exact sP|refine rK ?_|exact sQ|refine sD ?_|rfl|exact sE|omega)
 ·obtain ⟨m,rfl⟩ : ∃ m:Nat,n=m:=⟨n.toNat,by omega⟩
  have e2:num (m:Int)=dec m:=by rw [num,if_neg h0]; rfl
  rw [e2]
  exact k_textN m (by omega)
theorem k_l1NumN (n:Nat)(hn:n≤9223372036854775807):Okv Tryz.prog 84 [.int .i64 n] (.p (.str (dec n))):=by
 induction n using Nat.strongRecOn with
 | ind n ih =>
  refine ok_D hmix c_spec_l1Num (by simp) ?_
  by_cases h:n<10
  ·rw [dec_small h]
   refine sA ?_
   repeat' (first|refine sA ?_|refine sN ?_|refine sB ?_|refine sX ?_ ?_<;>(try intro h)<;>(try omega)|exact sP|refine rK ?_|exact sQ|refine sD ?_|rfl|exact sE|omega)
   exact digits_cut (by omega)
  ·have ihn:=ih (n / 10) (by omega) (by omega)
   have hd:=dec_len64 (n:=n / 10) (by omega)
   have hc:=digits_cut (n:=n % 10) (by omega)
   rw [dec_big h]
   refine sA ?_
   repeat' (first|refine sA ?_|refine sN ?_|refine rW rfl (ihn) ?_|refine rV (ihn) ?_|rw [hc]|refine sB ?_|refine sX ?_ ?_<;>(try intro h)<;>(try omega)|exact sP|refine rK ?_|exact sQ|refine sD ?_|rfl|exact sE|omega)
theorem k_l1Num (n:Int)(hn : -9223372036854775807≤n∧n≤9223372036854775807):Okv Tryz.prog 84 [.int .i64 n] (.p (.str (num n))):=by
 by_cases h0:n<0
 ·refine ok_D hmix c_spec_l1Num (by simp) ?_
  obtain ⟨m,rfl⟩ : ∃ m:Nat,n = -(m:Int):=⟨n.natAbs,by omega⟩
  have hd:=dec_len64 (n:=m) (by omega)
  have e:(0:Int) - -(m:Int)=m:=by omega
  have e2:num (-(m:Int))=45::dec m:=by rw [num,if_pos h0,show (-(m:Int)).natAbs=m from by omega]
  rw [e2]
  refine sA ?_
  repeat' (first|refine sA ?_|refine sN ?_|rw [e]|refine rW rfl (k_l1NumN m (by omega)) ?_|refine rV (k_l1NumN m (by omega)) ?_|refine sB ?_|refine sX ?_ ?_<;>(try intro h)<;>(try omega)|exact sP|refine rK ?_|exact sQ|refine sD ?_|rfl|exact sE|omega)
 ·obtain ⟨m,rfl⟩ : ∃ m:Nat,n=m:=⟨n.toNat,by omega⟩
  have e2:num (m:Int)=dec m:=by rw [num,if_neg h0]; rfl
  rw [e2]
  exact k_l1NumN m (by omega)
def sumN (s:List UInt8):Nat:=s.foldl (fun h c=>(41 * h+c.toNat+1) % 999979) 7
theorem sum_snoc {s:List UInt8}{i:Nat}(h:i<s.length):sumN (s.take (i+1))=(41 * sumN (s.take i)+(s.getD i 0).toNat+1) % 999979:=by
 unfold sumN
 rw [take_snoc (d:=0) h,List.foldl_append]
 rfl
theorem sum_lt (s:List UInt8):sumN s<999979:=by
 rcases List.eq_nil_or_concat s with rfl|⟨t,c,rfl⟩
 ·decide
 ·unfold sumN
  rw [List.concat_eq_append,List.foldl_append]
  exact Nat.mod_lt _ (by decide)
theorem sum_tm (h c:Nat):((41:Int) * (h:Int)+(c:Int)+1).tmod 999979=(((41 * h+c+1) % 999979:Nat):Int):=tmod_nat (41 * h+c+1) 999979
def seal0 (s:List UInt8):List UInt8:=s++[35]++dec (sumN s)
theorem seal_len (s:List UInt8):s.length+2≤(seal0 s).length∧(seal0 s).length≤s.length+7:=by
 have h1:=dec_len (sumN s) 5 (by have:=sum_lt s; omega)
 have h2:=dec_pos (sumN s)
 simp only [seal0,List.length_append,List.length_cons,List.length_nil]
 omega
theorem split_none {b:UInt8} : ∀ {s:List UInt8},b ∉ s→splitB b s=[s]
 | [],_=>rfl
 | c::s,h=>by
  simp only [List.mem_cons,not_or] at h
  rw [splitB,if_neg (fun e=>h.1 e.symm),split_none h.2]
  rfl
theorem split_some {b:UInt8} : ∀ {s:List UInt8},b∈s→1<(splitB b s).length
 | [],h=>by simp at h
 | c::s,h=>by
  rw [splitB]
  split
  ·have:=(split_len b s).2
   simp
   omega
  ·rename_i hc
   have h2:b∈s:=by
    rcases List.mem_cons.1 h with e|e
    ·exact absurd e.symm hc
    ·exact e
   have:=split_some h2
   cases hX:splitB b s with
   | nil=>exact absurd hX (split_ne b s)
   | cons x X=>rw [hX] at this; simpa [glue] using this
theorem k_l1Sum (s:List UInt8)(hl:s.length≤1099511627776):Okv Tryz.prog 198 [.str s] (.p (.int .i64 (sumN s))):=by
 refine ok_D hmix c_spec_l1Sum (by simp) ?_
 refine sA ?_
 refine Dm_loop [0,3,4] (fun m ds H' => ∃ i:Nat,i≤s.length∧m=s.length - i∧ds=[.p (.str s),.p (.int .i64 (sumN (s.take i))),.p (.int .i64 i)]∧H'=[]) s.length ⟨0,by omega,by omega,rfl,rfl⟩ ?_
 rintro m ds H' ⟨i,hi,rfl,rfl,rfl⟩ -
 have h1:=sum_lt (s.take i)
 have h2:=u8_lt (s.getD i 0)
 have h3:=fun h:i<s.length=>sum_snoc h
 repeat' (first|refine sA ?_|refine sN ?_|rw [sum_tm]|refine sB ?_|refine sX ?_ ?_<;>(try intro h)<;>(try omega)|exact sP|refine rK ?_|exact sQ|refine sD ?_|rfl|exact sE|omega)
 ·rw [← h3 (by omega)]
  exact Xm_inv_n (s.length - (i+1)) (by omega) ⟨i+1,by omega,rfl,rfl,rfl⟩
 ·rw [List.take_of_length_le (by omega)]
theorem k_Checksum (s:List UInt8)(hl:s.length≤4000):Okv Tryz.prog 211 [.str s] (.tup [.p (.int .i64 (sumN s)),.p (.bool true)]):=by
 refine ok_D hmix c_impl_Checksum (by simp) ?_
 refine sA ?_
 repeat' (first|refine sA ?_|refine sN ?_|refine sB ?_|refine sX ?_ ?_<;>(try intro h)<;>(try omega)|exact sP|refine rK ?_|exact sQ|refine sD ?_|rfl|exact sE|omega)
 refine Dm_loop [0,4,5] (fun m ds H' => ∃ i:Nat,i≤s.length∧m=s.length - i∧ds=[.p (.str s),.p (.int .i64 (sumN (s.take i))),.p (.int .i64 i)]∧H'=[]) s.length ⟨0,by omega,by omega,rfl,rfl⟩ ?_
 rintro m ds H' ⟨i,hi,rfl,rfl,rfl⟩ -
 have h1:=sum_lt (s.take i)
 have h2:=u8_lt (s.getD i 0)
 have h3:=fun h:i<s.length=>sum_snoc h
 repeat' (first|refine sA ?_|refine sN ?_|rw [sum_tm]|refine sB ?_|refine sX ?_ ?_<;>(try intro h)<;>(try omega)|exact sP|refine rK ?_|exact sQ|refine sD ?_|rfl|exact sE|omega)
 ·rw [← h3 (by omega)]
  exact Xm_inv_n (s.length - (i+1)) (by omega) ⟨i+1,by omega,rfl,rfl,rfl⟩
 ·rw [List.take_of_length_le (by omega)]
theorem k_l1Seal (s:List UInt8)(hl:s.length≤1099511627776):Okv Tryz.prog 164 [.str s] (.p (.str (seal0 s))):=by
 refine ok_D hmix c_spec_l1Seal (by simp) ?_
 have h1:=sum_lt s
 have h2:=dec_len64 (n:=sumN s) (by omega)
 refine sA ?_
 repeat' (first|refine sA ?_|refine sN ?_|refine rW rfl (k_l1Sum s hl) ?_|refine rV (k_l1Sum s hl) ?_|refine rW rfl (k_l1NumN (sumN s) (by omega)) ?_|refine rV (k_l1NumN (sumN s) (by omega)) ?_|refine sB ?_|refine sX ?_ ?_<;>(try intro h)<;>(try omega)|exact sP|refine rK ?_|exact sQ|refine sD ?_|rfl|exact sE|omega)
theorem k_AppendChecksum (s:List UInt8)(hl:s.length≤3900)(h35:(35:UInt8) ∉ s):Okv Tryz.prog 174 [.str s] (.tup [.p (.str (seal0 s)),.p (.bool true)]):=by
 refine ok_D hmix c_impl_AppendChecksum (by simp) ?_
 have h1:=sum_lt s
 have h2:=dec_len64 (n:=sumN s) (by omega)
 have h3:=k_split s 35 (by omega)
 have h4:=(seal_len s).2
 unfold seal0 at h4
 rw [split_none h35] at h3
 refine sA ?_
 repeat' (first|refine sA ?_|refine sN ?_|refine rW rfl (k_Checksum s (by omega)) ?_|refine rV (k_Checksum s (by omega)) ?_|refine rW rfl (k_textN (sumN s) (by omega)) ?_|refine rV (k_textN (sumN s) (by omega)) ?_|(refine Rm_o h3 rfl (fun r H2 hh => ?_); obtain ⟨rfl,rfl⟩:=hh)|refine sB ?_|refine sX ?_ ?_<;>(try intro h)<;>(try omega)|exact sP|refine rK ?_|exact sQ|refine sD ?_|rfl|exact sE|omega)
theorem k_l1Stands (s:List UInt8)(b:UInt8)(hl:s.length≤1099511627776):Okv Tryz.prog 96 [.str s,.int .u8 b.toNat] (.p (.bool (decide (b∈s)))):=by
 refine ok_D hmix c_spec_l1Stands (by simp) ?_
 refine sA ?_
 refine Dm_loop [0,1,5] (fun m ds H' => ∃ i:Nat,i≤s.length∧m=s.length - i∧b ∉ s.take i∧ds=[.p (.str s),.p (.int .u8 b.toNat),.p (.int .i64 i)]∧H'=[]) s.length ⟨0,by omega,by omega,by simp,rfl,rfl⟩ ?_
 rintro m ds H' ⟨i,hi,rfl,hn,rfl,rfl⟩ -
 repeat' (first|refine sA ?_|refine sN ?_|refine sB ?_|refine sX ?_ ?_<;>(try intro h)<;>(try omega)|exact sP|refine rK ?_|exact sQ|refine sD ?_|rfl|exact sE|omega)
 ·have:=getD_mem (l:=s) (i:=i) (d:=0) (by omega)
  rw [u8_eq.1 h] at this
  simp [this]
 ·refine Xm_inv_n (s.length - (i+1)) (by omega) ⟨i+1,by omega,rfl,?_,rfl,rfl⟩
  rw [take_snoc (d:=0) (by omega)]
  simp only [List.mem_append,List.mem_singleton,not_or]
  exact ⟨hn,fun e=>h (by rw [e])⟩
 ·rw [List.take_of_length_le (by omega)] at hn
  simp [hn]
end Go.Proofs.YtekmkgegjicjgaaGreat
namespace Go.Proofs.YtekmkgegjicjgaaGreat
open Go.Dv Go.Dv.EvL
set_option maxRecDepth 100000
set_option maxHeartbeats 16000000
attribute [local irreducible] Ok Rm Dm Om Sm Xm Cm Gm Hm Tm
def szO (n:Int)(s:Nat):Int:=if n<s then -1 else n - s
theorem szO_ok {n:Int}{s:Nat}(h : ¬ szO n s<0):(s:Int)≤n∧szO n s=n - s:=by
 unfold szO at h ⊢
 split at h
 ·omega
 ·rename_i h1
  rw [if_neg h1]
  omega
theorem fillD_step {α : Type}{xs:List α}{z d : α}{i:Nat}(h:i<xs.length):(xs.take i++List.replicate (xs.length - i) z).set i (xs.getD i d)=xs.take (i+1)++List.replicate (xs.length - (i+1)) z:=by
 have e:xs.length - i=(xs.length - (i+1))+1:=by omega
 rw [take_snoc (d:=d) h,e,List.replicate_succ,List.set_append_right _ _ (by simp; omega)]
 have:i - (xs.take i).length=0:=by simp; omega
 rw [this]
 simp
theorem getD_set {α : Type}{xs:List α}{i:Nat}{a d : α}(h:i<xs.length):(xs.set i a).getD i d=a:=by
 rw [List.getD_eq_getElem?_getD,List.getElem?_set_self h]
 rfl
theorem getD_set_ne {α : Type}{xs:List α}{i j:Nat}{a d : α}(h:i≠j):(xs.set i a).getD j d=xs.getD j d:=by
 rw [List.getD_eq_getElem?_getD,List.getElem?_set_ne h,List.getD_eq_getElem?_getD]
theorem Rm_putw {M:Md}{q:Bool}{d:Option Nat}{os:List GOp}{s:Stk}{env:Env}{H:Heap}{i j f n t k:Nat}{T:Type}[Inhabited T]{g:T→PV}{xs:List T}{y:PV}(h:j<xs.length)(z:T)(hl:y.cells.length=n)
  (hp:putP f (g (xs.getD j default)) y.cells=some (g z)) (hg:H[i]? = some (.arr t k (xs.map g))) (h2:Sm M q (asked d os) .undef d os s env (setL H i (.arr t k ((xs.set j z).map g)))):Rm M q (.put i ((xs.map g)[j]?) j f n y H) d os s env:=by
 refine Rm_put (g (xs.getD j default)) (g z) ?_ hl hp hg ?_
 ·rw [List.getElem?_map,List.getD_eq_getElem?_getD,List.getElem?_eq_getElem h]; rfl
 ·rw [← List.map_set]
  exact h2
def mtO (k:Int):List UInt8:=if k≤0 then [109,48] else 109::dec k.toNat
theorem digit_byte {v:Nat}:((48:Int)+((v % 10:Nat):Int)).toNat=48+v % 10:=by omega
theorem k_markText (k:Int)(hk:k≤9223372036854775807):Okv Tryz.prog 52 [.int .i64 k] (.p (.str (mtO k))):=by
 refine ok_D hmix c_laws_markText (by simp) ?_
 by_cases h0:k≤0
 ·unfold mtO
  rw [if_pos h0]
  refine sA ?_
  repeat' (first|refine sA ?_|refine sN ?_|refine sB ?_|refine sX ?_ ?_<;>(try intro h)<;>(try omega)|exact sP|refine rK ?_|exact sQ|refine sD ?_|rfl|exact sE|omega)
 ·obtain ⟨n,rfl⟩ : ∃ n:Nat,k=n:=⟨k.toNat,by omega⟩
  have hd:=dec_len64 (n:=n) (by omega)
  unfold mtO
  rw [if_neg h0,Int.toNat_natCast]
  refine sA ?_
  repeat' (first|refine sA ?_|refine sN ?_|refine sB ?_|refine sX ?_ ?_<;>(try intro h)<;>(try omega)|exact sP|refine rK ?_|exact sQ|refine sD ?_|rfl|exact sE|omega)
  refine Dm_loop [0,3] (fun v ds H' => ∃ out,v≤n∧out.length≤19∧(dec n=dec v++out∧0<v∨v=0∧out=dec n)∧ds=[.p (.int .i64 v),.p (.str out)]∧H'=[]) n ⟨[],by omega,by simp,.inl ⟨by simp,by omega⟩,rfl,rfl⟩ ?_
  rintro v ds H' ⟨out,hv,hl,ho,rfl,rfl⟩ -
  repeat' (first|refine sA ?_|refine sN ?_|rw [digit_byte]|refine sB ?_|refine sX ?_ ?_<;>(try intro h)<;>(try omega)|exact sP|refine rK ?_|exact sQ|refine sD ?_|rfl|exact sE|omega)
  ·have ho:dec n=dec v++out:=by
    rcases ho with ho|ho
    ·exact ho.1
    ·omega
   by_cases h1:v<10
   ·rw [dec_small h1] at ho
    refine Xm_inv_n (v / 10) (by omega) ⟨_,by omega,?_,.inr ⟨by omega,?_⟩,rfl,rfl⟩
    ·have:=congrArg List.length ho
     simp at this ⊢
     omega
    ·rw [ho,show v % 10=v from by omega]
     rfl
   ·rw [dec_big h1,List.append_assoc] at ho
    refine Xm_inv_n (v / 10) (by omega) ⟨_,by omega,?_,.inl ⟨ho,by omega⟩,rfl,rfl⟩
    have h2:=dec_pos (v / 10)
    have h3:=congrArg List.length ho
    simp only [List.length_append,List.length_cons,List.length_nil] at h3 ⊢
    omega
  ·have:v=0∧out=dec n:=by
    rcases ho with ho|ho
    ·omega
    ·exact ho
   rw [this.2]
end Go.Proofs.YtekmkgegjicjgaaGreat
namespace Go.Proofs.YtekmkgegjicjgaaGreat
open Go.Dv Go.Dv.EvL
set_option maxRecDepth 100000
set_option maxHeartbeats 16000000
attribute [local irreducible] Ok Rm Dm Om Sm Xm Cm Gm Hm Tm
abbrev Txt:=List UInt8
abbrev slS (xs:List Txt):PV := .sl 1 (xs.map .str)
def ssz (xs:List Txt):Nat:=xs.length+(xs.map List.length).sum
def sBds (xs:List Txt):Prop := ∀ r∈xs,r.length≤9223372036854775807
theorem s_take {xs:List Txt}{i:Nat}(h:i<xs.length):((xs.take (i+1)).map List.length).sum=((xs.take i).map List.length).sum+(xs.getD i []).length:=by
 rw [take_snoc (d:=[]) h,List.map_append,List.sum_append]
 simp
theorem s_part {xs:List Txt}{i:Nat}:((xs.take i).map List.length).sum≤(xs.map List.length).sum:=by
 have:(xs.map List.length).sum=((xs.take i).map List.length).sum+((xs.drop i).map List.length).sum:=by
  rw [← List.sum_append,← List.map_append,List.take_append_drop]
 omega
theorem s_one {xs:List Txt}{i:Nat}(h:i<xs.length):(xs.getD i []).length≤(xs.map List.length).sum:=by
 have h1:=s_take h
 have h2:=s_part (xs:=xs) (i:=i+1)
 omega
set_option maxRecDepth 100000 in
theorem open_Ss {xs:List PV}{m:Nat}(h:PTy Tryz.prog (m+2) 31 xs) : ∃ rs:List Txt,mkEl (aggB Tryz.prog 31) xs=slS rs∧rs.length≤9223372036854775807∧sBds rs:=by
 have e:aggB Tryz.prog 31=false:=by kernel_rfl
 obtain ⟨rows,rfl,hl,hr⟩:=pty_slice Tryz.underlying31 h
 obtain ⟨rs,h1,h2⟩:=els_of (G:=fun r:Txt=>r.length≤9223372036854775807) (f:=PV.str) (ag:=aggB Tryz.prog 9) (fun ys hy=>by
  obtain ⟨a,rfl,b⟩:=pty_str Tryz.underlying9 hy
  exact ⟨a,by rw [(by kernel_rfl:aggB Tryz.prog 9=false)]; rfl,b⟩) hr
 rw [e,(by kernel_rfl:Tryz.prog.cellsOf 9=1),h1]
 exact ⟨rs,rfl,by rw [← List.length_map (f:=PV.str),← h1,List.length_map]; exact hl,h2⟩
theorem k_eqStringS (xs ys:List Txt)(hb:xs.length≤1048576):Okv Tryz.prog 13 [slS xs,slS ys] (.p (.bool (decide (xs=ys)))):=by
 refine ok_D hmix c_laws_eqStringS (by simp) ?_
 refine sA ?_
 by_cases hl:xs.length=ys.length
 ·repeat' (first|refine sA ?_|refine sN ?_|refine sB ?_|refine sX ?_ ?_<;>(try intro h)<;>(try omega)|exact sP|refine rK ?_|exact sQ|refine sD ?_|rfl|exact sE|omega)
  refine Dm_loop [0,1,5] (fun m ds H' => ∃ i:Nat,i≤xs.length∧m=xs.length - i∧xs.take i=ys.take i∧ds=[.p (slS xs),.p (slS ys),.p (.int .i64 i)]∧H'=[]) xs.length ⟨0,by simp,by simp,by simp,rfl,rfl⟩ ?_
  rintro m ds H' ⟨i,hi',rfl,hall,rfl,rfl⟩ -
  have hd:(default:Txt)=[]:=rfl
  have hx:=fun h:i<xs.length=>take_snoc (d:=([]:Txt)) h
  have hy:=fun h:i<ys.length=>take_snoc (d:=([]:Txt)) h
  repeat' (first|refine sA ?_|refine sN ?_|rw [hd]|refine sB ?_|refine sX ?_ ?_<;>(try intro h)<;>(try omega)|exact sP|refine rK ?_|exact sQ|refine sD ?_|rfl|exact sE|omega)
  all_goals first
   | (refine Xm_inv_n (xs.length - (i+1)) (by omega) ⟨i+1,by omega,rfl,?_,rfl,rfl⟩
      rw [hx (by omega),hy (by omega)]; grind)
   | (have hne : ¬ xs=ys:=by rintro rfl; exact absurd rfl (by assumption)
      simp [hne]; done)
   | (obtain rfl:i=xs.length:=by omega
      rw [List.take_length,hl,List.take_length] at hall
      simp [hall])
 ·have hne : ¬ xs=ys:=by rintro rfl; exact hl rfl
  repeat' (first|refine sA ?_|refine sN ?_|refine sB ?_|refine sX ?_ ?_<;>(try intro h)<;>(try omega)|exact sP|refine rK ?_|exact sQ|refine sD ?_|rfl|exact sE|omega)
  all_goals simp [hne]
def mts (k:Int)(n:Nat):List Txt:=(List.range n).map fun i:Nat=>mtO (k+i)
theorem mts_len {k:Int}{n:Nat}:(mts k n).length=n:=by simp [mts]
attribute [simp] mts_len
theorem mts_get {k:Int}{n i:Nat}(h:i<n):(mts k n).getD i []=mtO (k+i):=by simp [mts,List.getD_eq_getElem?_getD,h]
theorem mts_succ {k:Int}{n:Nat}:mts k (n+1)=mts k n++[mtO (k+n)]:=by simp [mts,List.range_succ]
theorem mts_step {k:Int}{ys:List Txt}{i:Nat}(h:i<ys.length):(mts k i++ys.drop i).set i (mtO (k+i))=mts k (i+1)++ys.drop (i+1):=by
 rw [List.set_append_right _ _ (by rw [mts_len]; omega),mts_len,Nat.sub_self,mts_succ,List.append_assoc]
 congr 1
 rw [List.drop_eq_getElem_cons h]
 rfl
theorem k_markStringS (ys:List Txt)(k:Int)(hb:ys.length≤1048576)(hk:0<k∧k≤1099511627776):Ok Tryz.prog 16 [.own 0 0 ys.length,.p (.int .i64 k)] [.arr 9 1 (ys.map .str)]
  fun d H=>d = .p (.int .i64 (k+ys.length))∧H=[.arr 9 1 ((mts k ys.length).map .str)]:=by
 refine ok_D hmix c_laws_markStringS (by simp) ?_
 refine sA ?_
 refine Dm_loop [0,1,5] (fun m ds H' => ∃ i:Nat,i≤ys.length∧m=ys.length - i∧ds=[.own 0 0 ys.length,.p (.int .i64 (k+i)),.p (.int .i64 i)]∧H'=[.arr 9 1 ((mts k i++ys.drop i).map .str)]) ys.length ⟨0,by simp,by simp,by simp; rfl,rfl⟩ ?_
 rintro m ds H' ⟨i,hi,rfl,rfl,rfl⟩ -
 have hL:(mts k i++ys.drop i).length=ys.length:=by rw [List.length_append,mts_len,List.length_drop]; omega
 have hstep:=fun h:i<ys.length=>mts_step (k:=k) h
 have hfin:i=ys.length→mts k i++ys.drop i=mts k ys.length:=by rintro rfl; simp
 generalize mts k i++ys.drop i=L at *
 repeat' (first|refine sA ?_|refine sN ?_|refine rW rfl (k_markText _ (by omega)) ?_|refine rV (k_markText _ (by omega)) ?_|refine Rm_putw (by omega) (mtO (k+i)) rfl rfl rfl ?_|refine sB ?_|refine sX ?_ ?_<;>(try intro h)<;>(try omega)|exact sP|refine rK ?_|exact sQ|refine sD ?_|rfl|exact sE|omega)
 ·have e:(L.set i (mtO (k+i)))=_:=hstep (by omega)
  refine Xm_inv_n (ys.length - (i+1)) (by omega) ⟨i+1,by omega,rfl,?_,?_⟩
  ·rw [show k+((i+1:Nat):Int)=k+i+1 from by omega]
   rfl
  ·rw [← e]
   rfl
 ·obtain rfl:i=ys.length:=by omega
  rw [hfin rfl]
  refine ret_gen _ _ _ rfl rfl rfl ⟨rfl,rfl⟩
theorem k_markStringN (j:Nat)(k:Int):Okv Tryz.prog 16 [.sl j [],.int .i64 k] (.p (.int .i64 k)):=by
 refine ok_D hmix c_laws_markStringS (by simp) ?_
 refine sA ?_
 refine Dm_loop [0,1,5] (fun m ds H'=>ds=[.p (.sl j []),.p (.int .i64 k),.p (.int .i64 0)]∧H'=[]) 0 ⟨rfl,rfl⟩ ?_
 rintro m ds H' ⟨rfl,rfl⟩ -
 repeat' (first|refine sA ?_|refine sN ?_|refine sB ?_|refine sX ?_ ?_<;>(try intro h)<;>(try omega)|exact sP|refine rK ?_|exact sQ|refine sD ?_|rfl|exact sE|omega)
theorem k_heldStringS (n:Nat)(k:Int)(hb:n≤1048576)(hk:0<k∧k≤1099511627776):Okv Tryz.prog 17 [slS (mts k n),.int .i64 k] (.p (.int .i64 (k+n))):=by
 refine ok_D hmix c_laws_heldStringS (by simp) ?_
 have hl:(mts k n).length=n:=mts_len
 refine sA ?_
 refine Dm_loop [0,1,5] (fun m ds H' => ∃ i:Nat,i≤n∧m=n - i∧ds=[.p (slS (mts k n)),.p (.int .i64 (k+i)),.p (.int .i64 i)]∧H'=[]) n ⟨0,by simp,by simp,by simp; rfl,rfl⟩ ?_
 rintro m ds H' ⟨i,hi,rfl,rfl,rfl⟩ -
 have hd:(default:Txt)=[]:=rfl
 have hg:=fun h:i<n=>mts_get (k:=k) h
 generalize mts k n=L at *
 repeat' (first|refine sA ?_|refine sN ?_|rw [hd]|rw [hg (by omega)]|refine rW rfl (k_markText _ (by omega)) ?_|refine rV (k_markText _ (by omega)) ?_|refine sB ?_|refine sX ?_ ?_<;>(try intro h)<;>(try omega)|exact sP|refine rK ?_|exact sQ|refine sD ?_|rfl|exact sE|omega)
 ·refine Xm_inv_n (n - (i+1)) (by omega) ⟨i+1,by omega,rfl,?_,rfl⟩
  rw [show k+((i+1:Nat):Int)=k+i+1 from by omega]
  rfl
theorem k_heldStringN (j:Nat)(k:Int):Okv Tryz.prog 17 [.sl j [],.int .i64 k] (.p (.int .i64 k)):=by
 refine ok_D hmix c_laws_heldStringS (by simp) ?_
 refine sA ?_
 refine Dm_loop [0,1,5] (fun m ds H'=>ds=[.p (.sl j []),.p (.int .i64 k),.p (.int .i64 0)]∧H'=[]) 0 ⟨rfl,rfl⟩ ?_
 rintro m ds H' ⟨rfl,rfl⟩ -
 repeat' (first|refine sA ?_|refine sN ?_|refine sB ?_|refine sX ?_ ?_<;>(try intro h)<;>(try omega)|exact sP|refine rK ?_|exact sQ|refine sD ?_|rfl|exact sE|omega)
end Go.Proofs.YtekmkgegjicjgaaGreat
namespace Go.Proofs.YtekmkgegjicjgaaGreat
open Go.Dv
theorem Dm_seqB {M:Md}{a b:DC}{s:Stk}{env:Env}{H:Heap}(h : ∀ c,c=b→Dm M (.seq a c) s env H):Dm M (.seq a b) s env H:=h _ rfl
theorem Dm_openS {M:Md}{a b c:DC}{s:Stk}{env:Env}{H:Heap}(hc:c = .seq a b)(h : ∀ d,d=b→Dm M (.seq a d) s env H):Dm M c s env H:=by
 subst hc
 exact h _ rfl
theorem Dm_open {M:Md}{b c:DC}{s:Stk}{env:Env}{H:Heap}(hc:c=b)(h:Dm M b s env H):Dm M c s env H:=by
 subst hc
 exact h
theorem ret_k {M:Md}{nin:Nat}{rs:List RV}{Q:DV→Heap→Prop}{env:Env}{H:Heap}(A:DV)(B:Heap)(h:(resD env H rs).map (fun e=>(ren (idsOf nin [e] H) e,heapOf (idsOf nin [e] H) H))=some (A,B))(hq:Q A B):Xm M .ret (.top (retQ nin rs Q)) env H:=by
 cases hr:resD env H rs with
 | none=>rw [hr] at h; cases h
 | some e =>
  rw [hr] at h
  simp only [Option.map_some,Option.some.injEq,Prod.mk.injEq] at h
  exact ret_gen e A B hr h.1 h.2 hq
end Go.Proofs.YtekmkgegjicjgaaGreat
namespace Go.Proofs.YtekmkgegjicjgaaGreat
open Go.Dv
theorem no_own {e:TypeId}{k b:Nat} : ¬ ownB [none] [.arr e k []] b:=by
 rintro ⟨i,ob,h1,_,h3⟩
 cases i with
 | zero=>simp at h3
 | succ i=>simp at h1
theorem plain_rest {w:World}{X X':Nat→Prop}{ρ ρ':Rho}{H H':Heap} : ∀ {ps:List PV} {vs:List Value},flatPs ps→RDt w X ρ H (ps.map .p) vs→RDt w X' ρ' H' (ps.map .p) vs
 | [],vs,_,h=>by
  simp only [List.map_nil] at h ⊢
  unfold RDt at h ⊢
  exact h
 | x::ps,vs,hf,h=>by
  simp only [List.map_cons] at h ⊢
  unfold RDt at h ⊢
  unfold flatPs at hf
  obtain ⟨v,vs',rfl,h1,h2⟩:=h
  unfold RD at h1
  refine ⟨v,vs',rfl,?_,plain_rest hf.2 h2⟩
  unfold RD
  exact flat_X.1 x v hf.1 h1
theorem nil_own {P:Program}{f:FuncId}{xs:List PV}{Q Q':DV→Heap→Prop}(e k:Nat)(hk:0<k)(h:Okw P f xs Q)
  (hq : ∀ d H,Q d H→Q' d H ∨ ∃ ps:List PV,flatPs ps∧d = .tup (.nil::ps.map .p)∧H=[]∧Q' (.tup (.own 0 0 0::ps.map .p)) [.arr e k []]):Okw P f xs Q':=by
 intro w O0 ρ vs h1 h2 h3
 refine (h w O0 ρ vs h1 h2 h3).mono fun ex w' hh => ?_
 obtain ⟨v,d,H',ρ',a,b,g1,g2,g3,g4⟩:=hh
 rcases hq d H' b with hq|⟨ps,hf,rfl,rfl,hq⟩
 ·exact ⟨v,d,H',ρ',a,hq,g1,g2,g3,g4⟩
 ·refine ⟨v,_,_,[none],a,hq,⟨rfl,fun i ob hi => ?_,fun i j b' oi oj _ _ hj _ r1 _ => ?_,fun b' hb=>absurd hb no_own⟩,?_,⟨g3.os,g3.tape,g3.output,g3.size,fun b' hb hn=>⟨(g3.keep b' hb hn).1,no_own⟩⟩,⟨fun i hi=>by simp at hi,fun i hi=>by simp at hi,fun i e' k' xs' hi=>by simp at hi,fun i e' cs hi=>by simp at hi,fun i s p hi=>by simp at hi⟩⟩
  ·cases i with
   | zero =>
    simp at hi
    subst hi
    exact ⟨hk,.inl ⟨rfl,rfl⟩⟩
   | succ i=>simp at hi
  ·cases i with
   | zero=>simp at r1
   | succ i=>simp at r1
  ·unfold RD at g2 ⊢
   obtain ⟨us,rfl,hr⟩:=g2
   refine ⟨us,rfl,?_⟩
   unfold RDt at hr ⊢
   obtain ⟨v0,us',rfl,hv,hrest⟩:=hr
   unfold RD at hv
   subst hv
   refine ⟨_,us',rfl,?_,plain_rest hf hrest⟩
   unfold RD ownRel
   exact ⟨Nat.le_refl _,none,0,rfl,Nat.le_refl _,Nat.zero_le _,.inl ⟨rfl,rfl,rfl,rfl⟩⟩
theorem nil_own1 {P:Program}{f:FuncId}{xs:List PV}{Q Q':DV→Heap→Prop}(e k:Nat)(hk:0<k)(h:Okw P f xs Q)
  (hq : ∀ d H,Q d H→Q' d H∨(d = .nil∧H=[]∧Q' (.own 0 0 0) [.arr e k []])):Okw P f xs Q':=by
 intro w O0 ρ vs h1 h2 h3
 refine (h w O0 ρ vs h1 h2 h3).mono fun ex w' hh => ?_
 obtain ⟨v,d,H',ρ',a,b,g1,g2,g3,g4⟩:=hh
 rcases hq d H' b with hq|⟨rfl,rfl,hq⟩
 ·exact ⟨v,d,H',ρ',a,hq,g1,g2,g3,g4⟩
 ·refine ⟨v,_,_,[none],a,hq,⟨rfl,fun i ob hi => ?_,fun i j b' oi oj _ _ hj _ r1 _ => ?_,fun b' hb=>absurd hb no_own⟩,?_,⟨g3.os,g3.tape,g3.output,g3.size,fun b' hb hn=>⟨(g3.keep b' hb hn).1,no_own⟩⟩,⟨fun i hi=>by simp at hi,fun i hi=>by simp at hi,fun i e' k' xs' hi=>by simp at hi,fun i e' cs hi=>by simp at hi,fun i s p hi=>by simp at hi⟩⟩
  ·cases i with
   | zero =>
    simp at hi
    subst hi
    exact ⟨hk,.inl ⟨rfl,rfl⟩⟩
   | succ i=>simp at hi
  ·cases i with
   | zero=>simp at r1
   | succ i=>simp at r1
  ·unfold RD at g2
   subst g2
   unfold RD ownRel
   exact ⟨Nat.le_refl _,none,0,rfl,Nat.le_refl _,Nat.zero_le _,.inl ⟨rfl,rfl,rfl,rfl⟩⟩
end Go.Proofs.YtekmkgegjicjgaaGreat
namespace Go.Proofs.YtekmkgegjicjgaaGreat
open Go.Dv
def isPl:OB→Prop
 | .box _ cs => ∃ xs,pvOfs cs=some xs
 | _=>True
def hid (n:Nat)(H:Heap):Heap:=List.replicate n .dead++H.drop n
section
variable {w:World} {X X':Nat→Prop} {ρ ρ':Rho} {H H':Heap}
mutual
theorem pl_RD (hp:Pres w X w X') : ∀ {d:DV} {x:PV} {v:Value},pvOf d=some x→RD w X ρ H d v→RD w X' ρ' H' d v
 | .p y,x,v,_,h=>by unfold RD at h ⊢; exact RP_mono hp _ _ h
 | .nil,x,v,_,h=>by unfold RD at h ⊢; exact h
 | .agg cs,x,v,he,h=>by
  simp only [pvOf,Option.map_eq_some_iff] at he
  obtain ⟨xs,he,rfl⟩:=he
  unfold RD at h ⊢
  obtain ⟨us,hv,h1⟩:=h
  exact ⟨us,hv,pl_RDs hp he h1⟩
 | .any,x,v,he,_=>by simp [pvOf] at he
 | .undef,x,v,he,_=>by simp [pvOf] at he
 | .own ..,x,v,he,_=>by simp [pvOf] at he
 | .ptr ..,x,v,he,_=>by simp [pvOf] at he
 | .rptr ..,x,v,he,_=>by simp [pvOf] at he
 | .tup ..,x,v,he,_=>by simp [pvOf] at he
theorem pl_RDs (hp:Pres w X w X') : ∀ {ds:List DV} {xs:List PV} {vs:List Value},pvOfs ds=some xs→RDs w X ρ H ds vs→RDs w X' ρ' H' ds vs
 | [],xs,vs,he,h=>by unfold RDs at h ⊢; exact h
 | d::ds,xs,vs,he,h=>by
  simp only [pvOfs] at he
  cases h1:pvOf d with
  | none=>simp [h1] at he
  | some y =>
   cases h2:pvOfs ds with
   | none=>simp [h1,h2] at he
   | some ys =>
    unfold RDs at h ⊢
    obtain ⟨v,vs',hv,g1,g2,g3⟩:=h
    exact ⟨v,vs',hv,g1,pl_RD hp h1 g2,pl_RDs hp h2 g3⟩
end
theorem viewt {Hv:Heap}(vs:Vis w X ρ H X' Hv) : ∀ {ds:List DV} {xs:List PV} {us:List Value},viewOfs Hv ds=some xs→RDt w X ρ H ds us→RDt w X' ρ' H' (xs.map .p) us
 | [],xs,us,he,h=>by
  simp [viewOfs] at he
  subst he
  unfold RDt at h ⊢
  exact h
 | d::ds,xs,us,he,h=>by
  simp only [viewOfs] at he
  cases h1:viewOf Hv d with
  | none=>simp [h1] at he
  | some y =>
   cases h2:viewOfs Hv ds with
   | none=>simp [h1,h2] at he
   | some ys =>
    simp [h1,h2] at he
    subst he
    simp only [List.map_cons]
    unfold RDt at h ⊢
    obtain ⟨v,us',hv,g1,g2⟩:=h
    exact ⟨v,us',hv,by unfold RD; exact view_rel vs h1 g1,viewt vs h2 g2⟩
theorem own_take {n:Nat}{b:Nat}(h:ownB (ρ.take n) (H.take n) b):ownB ρ H b:=by
 obtain ⟨i,ob,h1,h2,h3⟩:=h
 rw [List.getElem?_take] at h1 h3
 split at h1
 ·rename_i hi
  rw [if_pos hi] at h3
  exact ⟨i,ob,h1,h2,h3⟩
 ·cases h1
theorem take_at {α : Type}{l:List α}{n i:Nat}{a : α}(h:(l.take n)[i]? = some a):i<n∧l[i]? = some a:=by
 rw [List.getElem?_take] at h
 split at h
 ·exact ⟨by assumption,h⟩
 ·cases h
theorem at_take {α : Type}{l:List α}{n i:Nat}(h:i<n):(l.take n)[i]? = l[i]? := by rw [List.getElem?_take,if_pos h]
end
def frzR (n:Nat)(H:Heap)(d e:DV):Prop:=(∃ x,viewOf (hid n H) d=some x∧e = .p x) ∨ ∃ ds xs,d = .tup ds∧viewOfs (hid n H) ds=some xs∧e = .tup (xs.map .p)
theorem ok_frz {P:Program}{f:FuncId}{args:List DV}{Hin:Heap}{Q Q':DV→Heap→Prop}(h:Ok P f args Hin Q)
  (hq : ∀ d H,Q d H→(∀ ob∈H.take Hin.length,isPl ob) ∧ ∃ e,frzR Hin.length H d e∧Q' e (H.take Hin.length)):Ok P f args Hin Q':=by
 intro w O0 ρ vs h1 h2 h3
 refine (h w O0 ρ vs h1 h2 h3).mono fun ex w' hh => ?_
 obtain ⟨v,d,H',ρ',a,b,g1,g2,g3,g4⟩:=hh
 obtain ⟨hpl,e,he,hQ⟩:=hq d H' b
 have hl2:Hin.length≤H'.length:=by
  rcases Nat.lt_or_ge H'.length Hin.length with h|h
  ·exfalso
   have hg:=List.getElem?_eq_getElem h
   have hn:H'[H'.length]? = none:=by simp
   cases hob:Hin[H'.length] with
   | dead=>rw [hob] at hg; have:=g4.dead _ hg; rw [hn] at this; cases this
   | arr e k xs=>rw [hob] at hg; rcases g4.arr _ _ _ _ hg with h'|⟨_,h',_⟩<;>rw [hn] at h'<;>cases h'
   | box e cs=>rw [hob] at hg; rcases g4.box _ _ _ hg with h'|⟨_,h'⟩<;>rw [hn] at h'<;>cases h'
   | iter s p=>rw [hob] at hg; rcases g4.iter _ _ _ hg with h'|⟨_,h'⟩<;>rw [hn] at h'<;>cases h'
  ·exact h
 generalize hn:Hin.length=n at *
 have hp:Pres w' ((⟨w,O0,ρ,Hin⟩:Cx).X ρ' H') w' ((⟨w,O0,ρ,Hin⟩:Cx).X (ρ'.take n) (H'.take n)):=⟨Nat.le_refl _,fun b _ hx=>⟨rfl,fun h=>hx (h.imp id own_take)⟩⟩
 have vis:Vis w' ((⟨w,O0,ρ,Hin⟩:Cx).X ρ' H') ρ' H' ((⟨w,O0,ρ,Hin⟩:Cx).X (ρ'.take n) (H'.take n)) (hid n H'):=by
  refine ⟨g1,hp,fun i ob hi hl => ?_⟩
  have hin:n≤i∧H'[i]? = some ob:=by
   unfold hid at hi
   by_cases hin:i<n
   ·rw [List.getElem?_append_left (by simpa using hin),List.getElem?_replicate,if_pos hin] at hi
    injection hi with hi
    subst hi
    cases hl
   ·rw [List.getElem?_append_right (by simp; omega),List.getElem?_drop,List.length_replicate] at hi
    rw [show n+(i - n)=i from by omega] at hi
    exact ⟨by omega,hi⟩
  refine ⟨hin.2,fun b hb hX => ?_⟩
  rcases hX with hX|⟨j,oj,k1,k2,k3⟩
  ·obtain ⟨m1,m2⟩:=h1 b hX
   exact (g3.keep b m1 m2).2 ⟨i,ob,hin.2,hl,hb⟩
  ·obtain ⟨m1,m2⟩:=take_at k1
   obtain ⟨_,m3⟩:=take_at k3
   have:=g1.inj i j b ob oj hin.2 hl m2 k2 hb m3
   omega
 refine ⟨v,e,H'.take n,ρ'.take n,a,hQ,⟨by simp [g1.len],fun i ob hi => ?_,fun i j b oi oj hi li hj lj ri rj => ?_,fun b hb => .inr hb⟩,?_,⟨g3.os,g3.tape,g3.output,g3.size,fun b hb hx=>⟨(g3.keep b hb hx).1,fun h=>(g3.keep b hb hx).2 (own_take h)⟩⟩,?_⟩
 ·obtain ⟨hin,hi'⟩:=take_at hi
  have h:=g1.ob i ob hi'
  have hr:(ρ'.take n)[i]? = ρ'[i]? := at_take hin
  cases ob with
  | dead=>trivial
  | arr e k xs =>
   obtain ⟨hk,h⟩:=h
   refine ⟨hk,?_⟩
   rw [hr]
   rcases h with h|⟨b,cur,a1,a2,a3,a4⟩
   ·exact .inl h
   ·exact .inr ⟨b,cur,a1,a2,a3,RRow_mono hp k b rfl 0 xs a4⟩
  | box e cs =>
   obtain ⟨b,cur,a1,a2,a3⟩:=h
   obtain ⟨xs,hx⟩:=hpl _ (List.mem_of_getElem? hi)
   exact ⟨b,cur,hr.trans a1,a2,pl_RDs hp hx a3⟩
  | iter s p =>
   obtain ⟨b,a1,a2⟩:=h
   exact ⟨b,hr.trans a1,a2⟩
 ·exact g1.inj i j b oi oj (take_at hi).2 li (take_at hj).2 lj (take_at ri).2 (take_at rj).2
 ·rcases he with ⟨x,hx,rfl⟩|⟨ds,xs,rfl,hx,rfl⟩
  ·unfold RD
   exact view_rel vis hx g2
  ·unfold RD at g2 ⊢
   obtain ⟨us,hv,hr⟩:=g2
   exact ⟨us,hv,viewt vis hx hr⟩
 ·refine ⟨fun i hi=>by rw [at_take (by omega)]; exact g4.rho i hi,fun i hi=>by rw [at_take (by have:=lt_of_get hi; omega)]; exact g4.dead i hi,fun i e k xs hi => ?_,fun i e cs hi => ?_,fun i s p hi => ?_⟩
  ·rw [at_take (by have:=lt_of_get hi; omega)]
   exact g4.arr i e k xs hi
  ·rw [at_take (by have:=lt_of_get hi; omega)]
   exact g4.box i e cs hi
  ·rw [at_take (by have:=lt_of_get hi; omega)]
   exact g4.iter i s p hi
end Go.Proofs.YtekmkgegjicjgaaGreat
namespace Go.Proofs.YtekmkgegjicjgaaGreat
open Go.Dv
theorem ok_D0 {f:FuncId}{args:List DV}{Hin:Heap}{Q:DV→Heap→Prop}{np nt:Nat}{rs:List RV}{ir:DC}(hc:compFn Tryz.prog f=some ⟨np,nt,rs,ir⟩)
  (hl:args.length≤nt) (h:Dm (mdP Tryz.prog Hin.length) ir (.top (retQ Hin.length rs Q)) (envOf args) Hin):Ok Tryz.prog f args Hin Q :=
 fun w O0 ρ vs h1 h2 h3=>ok_of_D hmix (sane _) rfl hc h hl w O0 ρ vs h1 h2 h3
theorem ok_norm {f:FuncId}{args:List DV}{Hin:Heap}{Q Q':DV→Heap→Prop}(h:Ok Tryz.prog f args Hin Q)(hq : ∀ d H,Q d H→Q' (normD d) H):Ok Tryz.prog f args Hin Q' :=
 fun w O0 ρ vs h1 h2 h3=>(h w O0 ρ vs h1 h2 h3).mono fun _ _ ⟨v,d,H',ρ',a,b,g1,g2,g3⟩=>⟨v,normD d,H',ρ',a,hq _ _ b,g1,normD_rel g2,g3⟩
theorem nil_agg {f:FuncId}{xs:List PV}{Q Q':DV→Heap→Prop}(e k:Nat)(hk:0<k)(h:Okw Tryz.prog f xs Q)
  (hq : ∀ d H,Q d H→Q' d H ∨ ∃ (x:PV) (ps:List PV),flatP x∧flatPs ps∧d = .tup (.agg [.p x,.nil]::ps.map .p)∧H=[]∧Q' (.tup (.agg [.p x,.own 0 0 0]::ps.map .p)) [.arr e k []]):Okw Tryz.prog f xs Q':=by
 intro w O0 ρ vs h1 h2 h3
 refine (h w O0 ρ vs h1 h2 h3).mono fun ex w' hh => ?_
 obtain ⟨v,d,H',ρ',a,b,g1,g2,g3,g4⟩:=hh
 rcases hq d H' b with hq|⟨x,ps,hfx,hf,rfl,rfl,hq⟩
 ·exact ⟨v,d,H',ρ',a,hq,g1,g2,g3,g4⟩
 ·refine ⟨v,_,_,[none],a,hq,⟨rfl,fun i ob hi => ?_,fun i j b' oi oj _ _ hj _ r1 _ => ?_,fun b' hb=>absurd hb no_own⟩,?_,⟨g3.os,g3.tape,g3.output,g3.size,fun b' hb hn=>⟨(g3.keep b' hb hn).1,no_own⟩⟩,⟨fun i hi=>by simp at hi,fun i hi=>by simp at hi,fun i e' k' xs' hi=>by simp at hi,fun i e' cs hi=>by simp at hi,fun i s p hi=>by simp at hi⟩⟩
  ·cases i with
   | zero =>
    simp at hi
    subst hi
    exact ⟨hk,.inl ⟨rfl,rfl⟩⟩
   | succ i=>simp at hi
  ·cases i with
   | zero=>simp at r1
   | succ i=>simp at r1
  ·unfold RD at g2 ⊢
   obtain ⟨us,rfl,hr⟩:=g2
   refine ⟨us,rfl,?_⟩
   unfold RDt at hr ⊢
   obtain ⟨v0,us',rfl,hv,hrest⟩:=hr
   refine ⟨v0,us',rfl,?_,plain_rest hf hrest⟩
   unfold RD at hv ⊢
   obtain ⟨ws,rfl,hws⟩:=hv
   refine ⟨ws,rfl,?_⟩
   unfold RDs at hws ⊢
   obtain ⟨u1,us1,rfl,c1,r1,hws⟩:=hws
   refine ⟨u1,us1,rfl,c1,?_,?_⟩
   ·unfold RD at r1 ⊢
    exact flat_X.1 x u1 hfx r1
   ·unfold RDs at hws ⊢
    obtain ⟨u2,us2,rfl,c2,r2,hws⟩:=hws
    refine ⟨u2,us2,rfl,c2,?_,?_⟩
    ·unfold RD at r2
     subst r2
     unfold RD ownRel
     exact ⟨Nat.le_refl _,none,0,rfl,Nat.le_refl _,Nat.zero_le _,.inl ⟨rfl,rfl,rfl,rfl⟩⟩
    ·unfold RDs at hws ⊢
     exact hws
end Go.Proofs.YtekmkgegjicjgaaGreat
namespace Go.Proofs.YtekmkgegjicjgaaGreat
open Go.Dv
theorem RP_nil {w:World}{X:Nat→Prop}{k k2:Nat}{v:Value}(h:RP w X (.sl k []) v):RP w X (.sl k2 []) v:=by
 unfold RP at h ⊢
 obtain ⟨A,cc,rfl,e1,e2,_⟩:=h
 exact ⟨A,cc,rfl,e1,e2,fun e=>absurd rfl e⟩
theorem RP_agg2 {w:World}{X:Nat→Prop}{x:PV}{k k2:Nat}{v:Value}(h:RP w X (.agg [x,.sl k []]) v):RP w X (.agg [x,.sl k2 []]) v:=by
 unfold RP at h ⊢
 obtain ⟨ws,rfl,hws⟩:=h
 refine ⟨ws,rfl,?_⟩
 unfold RPs at hws ⊢
 obtain ⟨u1,us1,rfl,c1,r1,hws⟩:=hws
 refine ⟨u1,us1,rfl,c1,r1,?_⟩
 unfold RPs at hws ⊢
 obtain ⟨u2,us2,rfl,c2,r2,hws⟩:=hws
 exact ⟨u2,us2,rfl,c2,RP_nil r2,hws⟩
theorem ok_arg_nil {f:FuncId}{x:PV}{k k2:Nat}{ps:List PV}{Q:DV→Heap→Prop}(h:Okw Tryz.prog f (.agg [x,.sl k2 []]::ps) Q):Okw Tryz.prog f (.agg [x,.sl k []]::ps) Q:=by
 intro w O0 ρ vs h1 h2 h3
 refine h w O0 ρ vs h1 h2 ?_
 simp only [List.map_cons] at h3 ⊢
 unfold RDt at h3 ⊢
 obtain ⟨v0,us',rfl,hv,hrest⟩:=h3
 refine ⟨v0,us',rfl,?_,hrest⟩
 unfold RD at hv ⊢
 exact RP_agg2 hv
theorem ok_res_nil {f:FuncId}{args:List DV}{Hin:Heap}{Q Q':DV→Heap→Prop}(k k2:Nat)(h:Ok Tryz.prog f args Hin Q)
  (hq : ∀ d H,Q d H→Q' d H ∨ ∃ x,d = .p (.agg [x,.sl k []])∧Q' (.p (.agg [x,.sl k2 []])) H):Ok Tryz.prog f args Hin Q':=by
 intro w O0 ρ vs h1 h2 h3
 refine (h w O0 ρ vs h1 h2 h3).mono fun ex w' hh => ?_
 obtain ⟨v,d,H',ρ',a,b,g1,g2,g3,g4⟩:=hh
 rcases hq d H' b with hq|⟨x,rfl,hq⟩
 ·exact ⟨v,d,H',ρ',a,hq,g1,g2,g3,g4⟩
 ·refine ⟨v,_,H',ρ',a,hq,g1,?_,g3,g4⟩
  unfold RD at g2 ⊢
  exact RP_agg2 g2
theorem new_cv {f:FuncId}{ps:List PV}{n:Int}{b:Bool}(h:Okv Tryz.prog f ps (.tup [.p (.agg [.int .i64 n,.sl 1 [],.sl 1 [],.str [],.str [],.int .i64 0]),.p (.bool b)])):Okv Tryz.prog f ps (.tup [.p (.agg [.int .i64 n,.sl 10 [],.sl 5 [],.str [],.str [],.int .i64 0]),.p (.bool b)]):=by
 intro w O0 ρ vs h1 h2 h3
 refine (h w O0 ρ vs h1 h2 h3).mono fun ex w' hh => ?_
 obtain ⟨v,d,H',ρ',a,⟨rfl,rfl⟩,g1,g2,g3,g4⟩:=hh
 refine ⟨v,_,_,ρ',a,⟨rfl,rfl⟩,g1,?_,g3,g4⟩
 unfold RD at g2 ⊢
 obtain ⟨us,rfl,hr⟩:=g2
 refine ⟨us,rfl,?_⟩
 unfold RDt at hr ⊢
 obtain ⟨v0,us',rfl,hv,hrest⟩:=hr
 refine ⟨v0,us',rfl,?_,hrest⟩
 unfold RD at hv ⊢
 unfold RP at hv ⊢
 obtain ⟨ws,rfl,hws⟩:=hv
 refine ⟨ws,rfl,?_⟩
 unfold RPs at hws ⊢
 obtain ⟨u1,us1,rfl,c1,r1,hws⟩:=hws
 refine ⟨u1,us1,rfl,c1,r1,?_⟩
 unfold RPs at hws ⊢
 obtain ⟨u2,us2,rfl,c2,r2,hws⟩:=hws
 refine ⟨u2,us2,rfl,c2,?_,?_⟩
 ·unfold RP at r2 ⊢
  obtain ⟨A,cc,rfl,e1,e2,_⟩:=r2
  exact ⟨A,cc,rfl,e1,e2,fun e=>absurd rfl e⟩
 ·unfold RPs at hws ⊢
  obtain ⟨u3,us3,rfl,c3,r3,hws⟩:=hws
  refine ⟨u3,us3,rfl,c3,?_,hws⟩
  unfold RP at r3 ⊢
  obtain ⟨A,cc,rfl,e1,e2,_⟩:=r3
  exact ⟨A,cc,rfl,e1,e2,fun e=>absurd rfl e⟩
end Go.Proofs.YtekmkgegjicjgaaGreat
