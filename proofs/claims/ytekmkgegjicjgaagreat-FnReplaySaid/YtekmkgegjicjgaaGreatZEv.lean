/- Ev: how verification conditions are walked; for every program of the model. Nothing here speaks of this translation. -/
import Derived.Test.YtekmkgegjicjgaaGreatZCore
import Derived.IntWalk
namespace Go.Dv
inductive Stk where
 | top (Q:PostD)
 | seq (b:DC) (s:Stk)
 | block (id:Nat) (s:Stk)
 | inv (n:Nat) (keep:List Nat) (I:Nat→List DV→Heap→Prop) (s:Stk)
 | head (hs:List Nat) (os:List GOp) (t:DT) (tl:List GOp) (s:Stk)
 | tree (t:DT) (hs:List Nat) (env1:Env) (H1:Heap) (tl:List GOp) (s:Stk)
def treeK (M:Md)(hs:List Nat)(env1:Env)(H1:Heap)(tl:List GOp)(K:Env→Heap→Prop)(env2:Env)(H2:Heap):Prop :=
 hideOK hs (newsE env1 env2) H2∧dops M false tl (newsE env1 env2++env1) (unhide hs H1 H2) K
def headK (M:Md)(hs:List Nat)(t:DT)(tl:List GOp)(K:Env→Heap→Prop)(env1:Env)(H1:Heap):Prop:=dtree M t env1 (hideH hs H1) (treeK M hs env1 H1 tl K)
def onlyN (K:Env→Heap→Prop):PostD
 | .normal=>K
 | _=>fun _ _=>False
def Stk.post (M:Md):Stk→PostD
 | .top Q=>Q
 | .seq b s=>seqQ (fun env H=>D M b env H (s.post M)) (s.post M)
 | .block id s=>blockQ id (s.post M)
 | .head hs os t tl s=>onlyN fun env H=>dhead M hs os env H (headK M hs t tl (s.post M .normal))
 | .tree t hs env1 H1 tl s=>onlyN fun env H=>dtree M t env H (treeK M hs env1 H1 tl (s.post M .normal))
 | .inv n keep I s=>seqQ (fun env H => ∃ m,m<n∧I m (packD M.nin keep env H) (packH M.nin keep env H)) (s.post M)
section
variable (M:Md)
def Dm (c:DC)(s:Stk)(env:Env)(H:Heap):Prop:=D M c env H (s.post M)
def Om (q:Bool)(os:List GOp)(s:Stk)(env:Env)(H:Heap):Prop:=dops M q os env H (s.post M .normal)
def Xm (e:Ex)(s:Stk)(env:Env)(H:Heap):Prop:=s.post M e env H
def Sm (q:Bool)(sp:Bool)(v:DV)(d:Option Nat)(os:List GOp)(s:Stk)(env:Env)(H:Heap):Prop:=splitK sp v fun v=>Om M q os s (setE env d v) H
def Rm (q:Bool)(r:R)(d:Option Nat)(os:List GOp)(s:Stk)(env:Env):Prop:=r.run M q fun v H=>Sm M q (asked d os) v d os s env H
def Cm (c:DV)(a b:DC)(s:Stk)(env:Env)(H:Heap):Prop:=condK c (Dm M a s env H) (Dm M b s env H)
def Hm (hs:List Nat)(os:List GOp)(t:DT)(tl:List GOp)(s:Stk)(env:Env)(H:Heap):Prop:=dhead M hs os env H (headK M hs t tl (s.post M .normal))
def Tm (t:DT)(hs:List Nat)(env1:Env)(H1:Heap)(tl:List GOp)(s:Stk)(env:Env)(H:Heap):Prop:=dtree M t env H (treeK M hs env1 H1 tl (s.post M .normal))
def Gm (q:Bool)(g:DV)(b:Bool)(d:Option Nat)(op:IOp)(os:List GOp)(s:Stk)(env:Env)(H:Heap):Prop:=guardK g b (Rm M q (dop op env H) d os s env) (Om M q os s (setE env d .undef) H)
end
section
variable {M:Md} {env:Env} {H:Heap} {s:Stk} {Q:PostD} {q:Bool}
theorem Dm_top {c}(h:Dm M c (.top Q) env H):D M c env H Q:=h
theorem Dm_skip:Dm M .skip s env H=Xm M .normal s env H:=(rfl)
theorem Dm_reg {ops}:Dm M (.reg q ops) s env H=Om M q ops s env H:=(rfl)
theorem Dm_seq {a b}:Dm M (.seq a b) s env H=Dm M a (.seq b s) env H:=(rfl)
theorem Dm_cond {c a b}:Dm M (.cond c a b) s env H=Cm M (ev env c) a b s env H:=(rfl)
theorem Dm_block {i c}:Dm M (.block i c) s env H=Dm M c (.block i s) env H:=(rfl)
theorem Dm_exit {i}:Dm M (.exit i) s env H=Xm M (.exit i) s env H:=(rfl)
theorem Dm_ret:Dm M .ret s env H=Xm M .ret s env H:=(rfl)
theorem Xm_seq_n {b}:Xm M .normal (.seq b s) env H=Dm M b s env H:=(rfl)
theorem Xm_seq_x {b i}:Xm M (.exit i) (.seq b s) env H=Xm M (.exit i) s env H:=(rfl)
theorem Xm_seq_r {b}:Xm M .ret (.seq b s) env H=Xm M .ret s env H:=(rfl)
theorem Xm_block_n {i}:Xm M .normal (.block i s) env H=Xm M .normal s env H:=(rfl)
theorem Xm_block_x {i j}:Xm M (.exit j) (.block i s) env H=if j=i then Xm M .normal s env H else Xm M (.exit j) s env H:=by
 show (blockQ i (s.post M) (.exit j)) env H=_
 unfold blockQ Xm
 by_cases h:j=i<;>simp [h]
theorem Xm_block_r {i}:Xm M .ret (.block i s) env H=Xm M .ret s env H:=(rfl)
theorem Xm_inv_x {n k I i}:Xm M (.exit i) (.inv n k I s) env H=Xm M (.exit i) s env H:=(rfl)
theorem Xm_inv_r {n k I}:Xm M .ret (.inv n k I s) env H=Xm M .ret s env H:=(rfl)
theorem Xm_inv_n {n k I}(m:Nat)(h:m<n)(hI:I m (packD M.nin k env H) (packH M.nin k env H)):Xm M .normal (.inv n k I s) env H:=⟨m,h,hI⟩
theorem Xm_top {e}(h:Q e env H):Xm M e (.top Q) env H:=h
theorem Dm_loop {c}(keep:List Nat)(I:Nat→List DV→Heap→Prop)(n:Nat)(h0:I n (packD M.nin keep env H) (packH M.nin keep env H))
  (h : ∀ n ds H',I n ds H'→ds.length=keep.length→Dm M c (.inv n keep I s) (keep.zip ds) H'):Dm M (.loop c) s env H:=⟨keep,I,⟨n,h0⟩,h⟩
theorem Dm_draw {hd t tl}(hs:List Nat)(hb : ∀ i∈hs,i<H.length)(h:Hm M hs hd t tl s env H):Dm M (.draw hd t tl) s env H:=⟨hs,hb,h⟩
theorem Xm_head {hs os t tl}:Xm M .normal (.head hs os t tl s) env H=Hm M hs os t tl s env H:=(rfl)
theorem Xm_tree {t hs env1 H1 tl}:Xm M .normal (.tree t hs env1 H1 tl s) env H=Tm M t hs env1 H1 tl s env H:=(rfl)
theorem Hm_nil {hs t tl}:Hm M hs [] t tl s env H=Tm M t hs env H tl s env (hideH hs H):=(rfl)
theorem Hm_cons {hs g os t tl}:Hm M hs (g::os) t tl s env H=(loadIn hs g.op env∧Om M true [g] (.head hs os t tl s) env H):=(rfl)
theorem Tm_op {g t hs env1 H1 tl}:Tm M (.op g t) hs env1 H1 tl s env H=Om M false [g] (.tree t hs env1 H1 tl s) env H:=(rfl)
theorem Tm_both {a b hs env1 H1 tl}(h1:Tm M a hs env1 H1 tl s env H)(h2:Tm M b hs env1 H1 tl s env H):Tm M (.both a b) hs env1 H1 tl s env H:=⟨h1,h2⟩
theorem Tm_fin {hs env1 H1 tl}(h:hideOK hs (newsE env1 env) H)(h2:Om M false tl s (newsE env1 env++env1) (unhide hs H1 H)):Tm M .fin hs env1 H1 tl s env H:=⟨h,h2⟩
theorem Tm_fin0 {env1 H1 tl}:Tm M .fin [] env1 H1 tl s env H=Om M false tl s (newsE env1 env++env1) H:=by
 have:hideOK [] (newsE env1 env) H:=fun i hi=>by cases hi
 simp [Tm,dtree,treeK,this,unhide,Om]
theorem Gm_split {c b d op os}(h:c=b→Rm M q (dop op env H) d os s env)(h2:c≠b→Om M q os s (setE env d .undef) H):Gm M q (.p (.bool c)) b d op os s env H:=⟨fun e=>h e.symm,fun e=>h2 fun e2=>e e2.symm⟩
theorem Om_nil:Om M q [] s env H=Xm M .normal s env H:=(rfl)
theorem Om_plain {d op os}:Om M q (⟨none,d,op⟩::os) s env H=Rm M q (dop op env H) d os s env:=(rfl)
theorem Om_guard {n b d op os}:Om M q (⟨some (n,b),d,op⟩::os) s env H=Gm M q (get env n) b d op os s env H:=(rfl)
theorem Gm_tt {d op os}:Gm M q (.p (.bool true)) true d op os s env H=Rm M q (dop op env H) d os s env:=by simp [Gm,guardK]
theorem Gm_ff {d op os}:Gm M q (.p (.bool false)) false d op os s env H=Rm M q (dop op env H) d os s env:=by simp [Gm,guardK]
theorem Gm_tf {d op os}:Gm M q (.p (.bool true)) false d op os s env H=Om M q os s (setE env d .undef) H:=by simp [Gm,guardK]
theorem Gm_ft {d op os}:Gm M q (.p (.bool false)) true d op os s env H=Om M q os s (setE env d .undef) H:=by simp [Gm,guardK]
theorem Gm_u {b d op os}:Gm M q .undef b d op os s env H=Om M q os s (setE env d .undef) H:=(rfl)
theorem Rm_ok {v d os}:Rm M q (.ok v H) d os s env=Sm M q (asked d os) v d os s env H:=(rfl)
theorem Rm_need {c r d os}(h:c)(h2:Rm M q r d os s env):Rm M q (.need c r) d os s env:=⟨h,h2⟩
theorem Rm_part {e:Option PV}{ag f n d os}(x y:PV)(h:e=some x)(h1:partP ag f n x.cells=some y)(h2:Sm M q (asked d os) (.p y) d os s env H):Rm M q (.part e ag f n H) d os s env:=⟨x,y,h,h1,h2⟩
theorem Rm_byte {o:Option UInt8}{d os}(b:UInt8)(h:o=some b)(h2:Sm M q (asked d os) (.p (.int .u8 b.toNat)) d os s env H):Rm M q (.byte o H) d os s env:=⟨b,h,h2⟩
theorem Rm_news {ys:List PV}{k d os}:Rm M q (.news (some ys) k) d os s env=Rm M q (k ys) d os s env:=by
 simp [Rm,R.run]
theorem Sm_no {v d os}:Sm M q false v d os s env H=Om M q os s (setE env d v) H:=(rfl)
theorem Sm_t {d os}:Sm M q true (.p (.bool true)) d os s env H=Om M q os s (setE env d (.p (.bool true))) H:=by simp [Sm,splitK]
theorem Sm_f {d os}:Sm M q true (.p (.bool false)) d os s env H=Om M q os s (setE env d (.p (.bool false))) H:=by simp [Sm,splitK]
theorem Sm_u {d os}:Sm M q true .undef d os s env H=Om M q os s (setE env d .undef) H:=(rfl)
theorem Sm_split {b d os}(h:b=true→Om M q os s (setE env d (.p (.bool true))) H)(h2:b=false→Om M q os s (setE env d (.p (.bool false))) H):Sm M q true (.p (.bool b)) d os s env H:=⟨h,h2⟩
theorem Cm_t {a b}:Cm M (.p (.bool true)) a b s env H=Dm M a s env H:=by simp [Cm,condK]
theorem Cm_f {a b}:Cm M (.p (.bool false)) a b s env H=Dm M b s env H:=by simp [Cm,condK]
theorem Cm_split {c a b}(h:c=true→Dm M a s env H)(h2:c=false→Dm M b s env H):Cm M (.p (.bool c)) a b s env H:=⟨h,h2⟩
end
section
variable {env:Env}
theorem get_nil {n}:get [] n = .any:=(rfl)
theorem get_cons {m v n}:get ((m,v)::env) n=if m=n then v else get env n:=(rfl)
theorem ev_t {n}:ev env (.t n)=get env n:=(rfl)
theorem ev_k {d}:ev env (.k d)=d:=(rfl)
theorem evO_n:evO env none=none:=(rfl)
theorem evO_s {x}:evO env (some x)=some (ev env x):=(rfl)
theorem setE_some {n v}:setE env (some n) v=(n,v)::env:=(rfl)
theorem setE_none {v}:setE env none v=env:=(rfl)
theorem asked_nil {d}:asked d []=false:=(rfl)
theorem asked_plain {d d' op os}:asked d (⟨none,d',op⟩::os)=asked d os:=by cases d<;>rfl
theorem asked_guard {n m b d' op os}:asked (some n) (⟨some (m,b),d',op⟩::os)=((n == m) || asked (some n) os):=(rfl)
theorem asked_none {os}:asked none os=false:=by
 induction os with
 | nil=>rfl
 | cons o os ih=>simp [asked,ih]
end
section
variable {H:Heap} {a b:Int} {k:IntKind}
theorem bin_add:binR .add (.p (.int k a)) (.p (.int k b)) H = .ok (.p (.int k (k.wrap (a+b)))) H:=by simp [binR,binI]
theorem bin_sub:binR .sub (.p (.int k a)) (.p (.int k b)) H = .ok (.p (.int k (k.wrap (a - b)))) H:=by simp [binR,binI]
theorem bin_mul:binR .mul (.p (.int k a)) (.p (.int k b)) H = .ok (.p (.int k (k.wrap (a * b)))) H:=by simp [binR,binI]
theorem bin_quo:binR .quo (.p (.int k a)) (.p (.int k b)) H = .need (b≠0) (.ok (.p (.int k (k.wrap (a.tdiv b)))) H):=by simp [binR,binI]
theorem bin_rem:binR .rem (.p (.int k a)) (.p (.int k b)) H = .need (b≠0) (.ok (.p (.int k (a.tmod b))) H):=by simp [binR,binI]
theorem bin_eql:binR .eql (.p (.int k a)) (.p (.int k b)) H = .ok (.p (.bool (a == b))) H:=by simp [binR,binI]
theorem bin_neq:binR .neq (.p (.int k a)) (.p (.int k b)) H = .ok (.p (.bool (a != b))) H:=by simp [binR,binI]
theorem bin_lss:binR .lss (.p (.int k a)) (.p (.int k b)) H = .ok (.p (.bool (decide (a<b)))) H:=by simp [binR,binI]
theorem bin_leq:binR .leq (.p (.int k a)) (.p (.int k b)) H = .ok (.p (.bool (decide (a≤b)))) H:=by simp [binR,binI]
theorem bin_gtr:binR .gtr (.p (.int k a)) (.p (.int k b)) H = .ok (.p (.bool (decide (a > b)))) H:=by simp [binR,binI]
theorem bin_geq:binR .geq (.p (.int k a)) (.p (.int k b)) H = .ok (.p (.bool (decide (a ≥ b)))) H:=by simp [binR,binI]
theorem bin_and:binR .and (.p (.int k a)) (.p (.int k b)) H = .ok (.p (.int k (bitsV .and k a b))) H:=by simp [binR,binI]
theorem bin_or:binR .or (.p (.int k a)) (.p (.int k b)) H = .ok (.p (.int k (bitsV .or k a b))) H:=by simp [binR,binI]
theorem bin_xor:binR .xor (.p (.int k a)) (.p (.int k b)) H = .ok (.p (.int k (bitsV .xor k a b))) H:=by simp [binR,binI]
theorem bin_shr {j}:binR .shr (.p (.int k a)) (.p (.int j b)) H = .need (0≤b) (.ok (.p (.int k (a.fdiv (2 ^ (min b.toNat k.bits))))) H):=by
 by_cases h:k=j<;>simp [binR,binI,h,shiftI]
theorem bin_shl {j}:binR .shl (.p (.int k a)) (.p (.int j b)) H = .need (0≤b) (.ok (.p (.int k (k.wrap (a * 2 ^ (min b.toNat k.bits))))) H):=by
 by_cases h:k=j<;>simp [binR,binI,h,shiftI]
theorem binB_eql {x y:Bool}:binBR .eql (.p (.bool x)) (.p (.bool y)) H = .ok (.p (.bool (x == y))) H:=(rfl)
theorem binB_neq {x y:Bool}:binBR .neq (.p (.bool x)) (.p (.bool y)) H = .ok (.p (.bool (!(x == y)))) H:=(rfl)
theorem un_not {b:Bool}:unR .not (.p (.bool b)) H = .ok (.p (.bool !b)) H:=(rfl)
theorem un_neg:unR .neg (.p (.int k a)) H = .ok (.p (.int k (k.wrap (0 - a)))) H:=(rfl)
theorem len_sl {k xs}:lenR (.p (.sl k xs)) H = .ok (.p (.int .i64 xs.length)) H:=(rfl)
theorem len_str {s}:lenSR (.p (.str s)) H = .ok (.p (.int .i64 s.length)) H:=(rfl)
theorem len_nil:lenR .nil H = .ok (.p (.int .i64 0)) H:=(rfl)
theorem len_own {i o l}:lenR (.own i o l) H=(match H[i]? with|some (.arr _ _ _) => .ok (.p (.int .i64 l)) H|some (.box _ _) => .ok (.p (.int .i64 l)) H | _ => .fail):=(rfl)
theorem iaddr_sl {k xs n j}:iaddrR k (.p (.sl k xs)) (.p (.int j n)) H = .need (0≤n∧n<xs.length) (.ok (.rptr k xs n.toNat 0) H):=by simp [iaddrR]
theorem load_r {k xs j f ag n}:loadR ag n (.rptr k xs j f) H = .part (xs[j]?) ag f n H:=(rfl)
theorem dop_mv {env x}:dop (.mv x) env H = .ok (ev env x) H:=(rfl)
theorem dop_pick {env c a b}:dop (.pick c a b) env H=pickR (ev env c) (ev env a) (ev env b) H:=(rfl)
theorem dop_bin {env op x y}:dop (.bin op x y) env H=binR op (ev env x) (ev env y) H:=(rfl)
theorem dop_binB {env op x y}:dop (.binB op x y) env H=binBR op (ev env x) (ev env y) H:=(rfl)
theorem dop_un {env op x}:dop (.un op x) env H=unR op (ev env x) H:=(rfl)
theorem dop_conv {env k x}:dop (.conv k x) env H=convR k (ev env x) H:=(rfl)
theorem dop_load {env g n x}:dop (.load g n x) env H=loadR g n (ev env x) H:=(rfl)
theorem dop_store {env n x y}:dop (.store n x y) env H=storeR n (ev env x) (ev env y) H:=(rfl)
theorem dop_iaddr {env k x i}:dop (.iaddr k x i) env H=iaddrR k (ev env x) (ev env i) H:=(rfl)
theorem dop_aaddr {env k len x i}:dop (.aaddr k len x i) env H=aaddrR k len (ev env x) (ev env i) H:=(rfl)
theorem dop_idx {env x i}:dop (.idx x i) env H=idxR (ev env x) (ev env i) H:=(rfl)
theorem dop_len {env x}:dop (.len x) env H=lenR (ev env x) H:=(rfl)
theorem dop_lenS {env x}:dop (.lenS x) env H=lenSR (ev env x) H:=(rfl)
theorem dop_min {env x y}:dop (.mm false x y) env H=minR (ev env x) (ev env y) H:=(rfl)
theorem dop_max {env x y}:dop (.mm true x y) env H=maxR (ev env x) (ev env y) H:=(rfl)
theorem dop_ext {env x i}:dop (.ext x i) env H=extR (ev env x) i H:=(rfl)
theorem dop_call {env f as}:dop (.call f as) env H = .call f (as.map (ev env)) H:=(rfl)
theorem pick_t {a b}:pickR (.p (.bool true)) a b H = .ok a H:=(rfl)
theorem pick_f {a b}:pickR (.p (.bool false)) a b H = .ok b H:=(rfl)
end
attribute [go_sem] dop_min dop_max minR maxR dop_aaddr aaddrR
attribute [go_sem] Xm_head Xm_tree Hm_nil Hm_cons Tm_op Tm_fin0 loadIn inB hideH unhide newsE true_or false_or List.getD_cons_zero List.getD_cons_succ
attribute [go_sem] bin_and bin_or bin_xor bin_shr bin_shl dop_lenS binB_eql binB_neq dop_binB Dm_skip Dm_reg Dm_seq Dm_cond Dm_block Dm_exit Dm_ret Xm_seq_n Xm_seq_x Xm_seq_r Xm_block_n Xm_block_x Xm_block_r Xm_inv_x Xm_inv_r Om_nil Om_plain Om_guard Gm_tt Gm_ff Gm_tf Gm_ft Gm_u Rm_ok Rm_news Sm_no Sm_t Sm_f Sm_u Cm_t Cm_f get_nil get_cons ev_t ev_k evO_n evO_s setE_some setE_none asked_nil asked_plain asked_guard asked_none bin_add bin_sub bin_mul bin_quo bin_rem bin_eql bin_neq bin_lss bin_leq bin_gtr bin_geq un_not un_neg len_sl len_str len_nil len_own iaddr_sl load_r dop_mv dop_pick dop_bin dop_un dop_conv dop_load dop_store dop_iaddr dop_idx dop_len dop_ext dop_call pick_t pick_f
namespace EvL
section
variable {H:Heap} {env:Env}
theorem dop_nilchk {x}:dop (.nilchk x) env H=nilR (ev env x) H:=(rfl)
theorem dop_faddr {x off}:dop (.faddr x off) env H=faddrR off (ev env x) H:=(rfl)
theorem dop_fld {ag off n x}:dop (.fld ag off n x) env H=fldR ag off n (ev env x) H:=(rfl)
theorem dop_idxA {ag k len x i}:dop (.idxA ag k len x i) env H=idxAR ag k len (ev env x) (ev env i) H:=(rfl)
theorem dop_slc {k x lo hi}:dop (.slc k x lo hi) env H=slcR k (ev env x) (evO env lo) (evO env hi) H:=(rfl)
theorem dop_slcS {x lo hi}:dop (.slcS x lo hi) env H=slcSR (ev env x) (evO env lo) (evO env hi) H:=(rfl)
theorem dop_app {e k b x y}:dop (.app e k b x y) env H = .news (newsOf k (ev env y) H) (appR e k b (ev env x) H):=(rfl)
theorem dop_cpy {k x y}:dop (.cpy k x y) env H = .news (newsOf k (ev env y) H) (cpyR k (ev env x) H):=(rfl)
theorem dop_box {e x}:dop (.box e x) env H = .ofCells (cellsD (ev env x)) fun cs => .ok (.ptr H.length 0 0) (H++[.box e cs]):=(rfl)
theorem dop_bld {z ps}:dop (.bld z ps) env H=bldR H z (evParts env ps):=(rfl)
def repl {α : Type}:Nat → α → List α
 | 0,_=>[]
 | n+1,a=>a::repl n a
theorem repl_eq {α : Type}(a : α) : ∀ n,List.replicate n a=repl n a
 | 0=>rfl
 | n+1=>by rw [List.replicate_succ,repl_eq a n]; rfl
theorem dop_bsl {e k n z ps}:dop (.bsl e k n z ps) env H=(match pvOfs z with
  | some z=>if z.length=k∧0<k∧n * k≤16777216 then frzR (evParts2 env ps) H (fun ps H=>bslR e k n H (repl n (zeroEl z)) ps) else .fail
  | none => .fail):=by simp only [dop,repl_eq]; rfl
theorem dop_mks {e k b z l c}:dop (.mks e k b z l c) env H=mksR e k b z (ev env l) (ev env c) H:=(rfl)
theorem dop_mkb {e k b z l c}:dop (.mkb e k b z l c) env H=mkbR e k b z (ev env l) (ev env c) H:=(rfl)
theorem ofO_s {v}:R.ofO H (some v) = .ok v H:=(rfl)
theorem ofO_n:R.ofO H none = .fail:=(rfl)
theorem ofCells_s {cs k}:R.ofCells (some cs) k=k cs:=(rfl)
theorem conv_int {k k' n}:convR k (.p (.int k' n)) H = .ok (.p (.int k (k.wrap n))) H:=(rfl)
theorem idx_str {s k n}:idxR (.p (.str s)) (.p (.int k n)) H = .need (0≤n) (.byte (s[n.toNat]?) H):=(rfl)
theorem bin_str {op a b}:binR op (.p (.str a)) (.p (.str b)) H=binS op a b H:=(rfl)
theorem nil_r {k xs j f}:nilR (.rptr k xs j f) H = .ok (.rptr k xs j f) H:=(rfl)
theorem nil_p {i j f}:nilR (.ptr i j f) H=liveR H i (.ok (.ptr i j f) H):=(rfl)
theorem faddr_r {k xs j f off}:faddrR off (.rptr k xs j f) H = .ok (.rptr k xs j (f+off)) H:=(rfl)
theorem faddr_p {i j f off}:faddrR off (.ptr i j f) H=liveR H i (.ok (.ptr i j (f+off)) H):=(rfl)
theorem ext_t {ds i}:extR (.tup ds) i H = .ofO H (ds[i]?):=(rfl)
theorem fld_p {ag off n cs}:fldR ag off n (.p (.agg cs)) H = .ofO H (partD ag off n (cs.map .p)):=(rfl)
theorem fld_a {ag off n cs}:fldR ag off n (.agg cs) H = .ofO H (partD ag off n cs):=(rfl)
theorem evParts_n:evParts env []=[]:=(rfl)
theorem evParts_c {o n x ps}:evParts env ((o,n,x)::ps)=(o,n,ev env x)::evParts env ps:=(rfl)
theorem evParts2_n:evParts2 env []=[]:=(rfl)
theorem evParts2_c {o x ps}:evParts2 env ((o,x)::ps)=(o,ev env x)::evParts2 env ps:=(rfl)
theorem bld_n {z}:bldR H z [] = .ok (.agg z) H:=(rfl)
theorem cells_agg {cs}:cellsD (.p (.agg cs))=some (cs.map .p):=(rfl)
theorem cells_dagg {cs}:cellsD (.agg cs)=some cs:=(rfl)
theorem cells_int {k n}:cellsD (.p (.int k n))=some [.p (.int k n)]:=(rfl)
theorem cells_bool {b}:cellsD (.p (.bool b))=some [.p (.bool b)]:=(rfl)
theorem cells_str {s}:cellsD (.p (.str s))=some [.p (.str s)]:=(rfl)
theorem cells_sl {k xs}:cellsD (.p (.sl k xs))=some [.p (.sl k xs)]:=(rfl)
theorem cells_nil:cellsD .nil=some [.nil]:=(rfl)
theorem cells_own {i o l}:cellsD (.own i o l)=some [.own i o l]:=(rfl)
theorem news_sl {k ys}:newsOf k (.p (.sl k ys)) H=some ys:=by simp [newsOf]
theorem news_nil {k}:newsOf k .nil H=some []:=(rfl)
theorem pv_p {x}:pvOf (.p x)=some x:=(rfl)
theorem pv_nil:pvOf .nil=some (.sl 1 []):=(rfl)
theorem pvs_n:pvOfs []=some []:=(rfl)
theorem slc_sl {k xs lo hi}:slcR k (.p (.sl k xs)) lo hi H=boundsR xs.length lo hi (fun a b => .p (.sl k (cutL xs a b))) H:=by simp [slcR]
theorem slcS_str {s lo hi}:slcSR (.p (.str s)) lo hi H=boundsR s.length lo hi (fun a b => .p (.str (cutL s a b))) H:=(rfl)
theorem app_nil {e k b ys}:appR e k b .nil H ys = .need (ys.length * b≤140737488355328) (.ok (.own H.length 0 ys.length) (H++[.arr e k ys])):=(rfl)
theorem bnd_nn {len K}:boundsR len none none K H = .ok (K 0 len) H:=(rfl)
theorem bnd_sn {len K k a}:boundsR len (some (.p (.int k a))) none K H = .need (0≤a∧a≤len) (.ok (K a.toNat len) H):=(rfl)
theorem bnd_ns {len K k b}:boundsR len none (some (.p (.int k b))) K H = .need (0≤b∧b≤len) (.ok (K 0 b.toNat) H):=(rfl)
theorem bnd_ss {len K k k' a b}:boundsR len (some (.p (.int k a))) (some (.p (.int k' b))) K H = .need (0≤a∧a≤b∧b≤len) (.ok (K a.toNat b.toNat) H):=(rfl)
theorem partD_f {off n cs}:partD false off n cs=cs[off]? := (rfl)
theorem partP_f {off n cs}:partP false off n cs=cs[off]? := (rfl)
end
attribute [go_sem] dop_nilchk dop_faddr dop_fld dop_idxA dop_slc dop_slcS dop_app dop_cpy dop_box dop_bld dop_bsl dop_mks dop_mkb ofO_s ofO_n ofCells_s conv_int idx_str bin_str nil_r nil_p faddr_r faddr_p ext_t fld_p fld_a evParts_n evParts_c evParts2_n evParts2_c bld_n cells_agg cells_dagg cells_int cells_bool cells_str cells_sl cells_nil cells_own news_sl news_nil pv_p pv_nil pvs_n slc_sl slcS_str app_nil bnd_nn bnd_sn bnd_ns bnd_ss partD_f partP_f
attribute [go_sem] frzR frzIds repl PV.cells liveR storeR loadR iaddrR lenR slcR newsOf appR cpyR mksR bslR bldR binS idxAR zeroEl pvOf pvOfs setL setCells partD partP List.getElem?_cons_zero List.getElem?_cons_succ List.getElem?_nil List.length_cons List.length_nil List.cons_append List.nil_append
section
variable {H:Heap} {env:Env}
theorem dop_s2b {e x}:dop (.s2b e x) env H=s2bR e (ev env x) H:=(rfl)
theorem dop_b2s {x}:dop (.b2s x) env H = .news (newsOf 1 (ev env x) H) (b2sR H):=(rfl)
theorem dop_cpyS {x y}:dop (.cpyS x y) env H=cpySR (ev env x) (ev env y) H:=(rfl)
theorem dop_rng {x}:dop (.rng x) env H=rngR (ev env x) H:=(rfl)
theorem dop_nxt {x}:dop (.nxt x) env H=nxtR (ev env x) H:=(rfl)
theorem dop_eqA {neg ks x y}:dop (.eqA neg ks x y) env H=eqAR neg ks (ev env x) (ev env y) H:=(rfl)
theorem bytesOf_map : ∀ {s:List UInt8},bytesOf (s.map fun b=>PV.int .u8 b.toNat)=some s
 | []=>rfl
 | b::s=>by
  have:b.toNat<256:=b.toNat_lt
  have h:(0:Int)≤(b.toNat:Int)∧(b.toNat:Int)<256:=by omega
  simp only [List.map_cons,bytesOf,if_pos h,bytesOf_map,Option.map_some,Int.toNat_natCast,UInt8.ofNat_toNat]
theorem bytesOf_cons {n:Int}{xs:List PV}(h:0≤n∧n<256):bytesOf (.int .u8 n::xs)=(bytesOf xs).map (UInt8.ofNat n.toNat :: ·):=by simp only [bytesOf,if_pos h]
theorem bytesOf_nil:bytesOf []=some []:=(rfl)
theorem b2s_s {ys:List PV}{s:List UInt8}(h:bytesOf ys=some s):b2sR H ys = .ok (.p (.str s)) H:=by unfold b2sR; rw [h]
theorem Rm_nxt {M:Md}{q:Bool}{d:Option Nat}{os:List GOp}{s:Stk}{i j pos:Nat}{l:List UInt8}(hH:H[i]? = some (.iter l pos))(hp:pos<l.length)(ha:(l.getD pos 0).toNat<128)
  (h2:Sm M q (asked d os) (.tup [.p (.bool true),.p (.int .i64 pos),.p (.int .i32 (l.getD pos 0).toNat)]) d os s env (setL H i (.iter l (pos+1)))):Rm M q (nxtR (.ptr i j 0) H) d os s env:=by
 have e:l[pos]? = some (l.getD pos 0):=by rw [List.getD_eq_getElem?_getD,List.getElem?_eq_getElem hp]; rfl
 simp only [nxtR,hH,if_true,e]
 exact ⟨ha,h2⟩
theorem Rm_nxt_end {M:Md}{q:Bool}{d:Option Nat}{os:List GOp}{s:Stk}{i j pos:Nat}{l:List UInt8}(hH:H[i]? = some (.iter l pos))(hp:l.length≤pos)
  (h2:Sm M q (asked d os) (.tup [.p (.bool false)]) d os s env H):Rm M q (nxtR (.ptr i j 0) H) d os s env:=by
 simp only [nxtR,hH,if_true,List.getElem?_eq_none hp]
 exact h2
end
attribute [go_sem] dop_s2b dop_b2s dop_cpyS dop_rng dop_nxt dop_eqA s2bR cpySR rngR eqAR eqCs bytesP bytesOf_map bytesOf_nil b2sR Option.map_some Bool.and_true
end EvL
theorem w8 {n:Int}(h:0≤n∧n≤255):IntKind.wrap .u8 n=n:=by
 have:IntKind.wrap .u8 n=n % 256:=by simp [IntKind.wrap,IntKind.bits,IntKind.signed]
 omega
theorem w64 {n:Int}(h : -9223372036854775808≤n∧n≤9223372036854775807):IntKind.wrap .i64 n=n:=IntWalk.i64_in n h
theorem Rm_ints {M:Md}{q d os s env H}{xs:List Int}{k:IntKind}{j:Nat}(a:Int)(h:xs[j]? = some a)(h2:Sm M q (asked d os) (.p (.int k a)) d os s env H):Rm M q (.part ((xs.map (PV.int k))[j]?) false 0 1 H) d os s env :=
 Rm_part (.int k a) (.int k a) (by rw [List.getElem?_map,h]; rfl) rfl h2
theorem Rm_gi {M:Md}{q d os s env H}{xs:List Int}{k:IntKind}{j:Nat}(h:j<xs.length)(h2:Sm M q (asked d os) (.p (.int k (xs.getD j 0))) d os s env H):Rm M q (.part ((xs.map (PV.int k))[j]?) false 0 1 H) d os s env :=
 Rm_ints _ (by rw [List.getD_eq_getElem?_getD,List.getElem?_eq_getElem h]; rfl) h2
theorem Rm_gm {M:Md}{q d os s env H}{T:Type}[Inhabited T]{f:T→PV}{xs:List T}{j:Nat}{ag:Bool}{fo n:Nat}(h:j<xs.length)(y:PV)(h1:partP ag fo n (f (xs.getD j default)).cells=some y)(h2:Sm M q (asked d os) (.p y) d os s env H) :
  Rm M q (.part ((xs.map f)[j]?) ag fo n H) d os s env :=
 Rm_part _ y (by rw [List.getElem?_map,List.getElem?_eq_getElem h,List.getD_eq_getElem?_getD,List.getElem?_eq_getElem h]; rfl) h1 h2
theorem Rm_ga {M:Md}{q d os s env H}{T:Type}[Inhabited T]{f:T→PV}{xs:List T}{j:Nat}{fo n:Nat}(h:j<xs.length)(cs:List PV)(hf:f (xs.getD j default) = .agg cs)(hn:fo+n≤cs.length)(h2:Sm M q (asked d os) (.p (.agg ((cs.drop fo).take n))) d os s env H) :
  Rm M q (.part ((xs.map f)[j]?) true fo n H) d os s env :=
 Rm_gm h _ (by rw [hf]; exact if_pos hn) h2
theorem Rm_gb {M:Md}{q d os s env H}{xs:List UInt8}{j:Nat}(h:j<xs.length)(h2:Sm M q (asked d os) (.p (.int .u8 (xs.getD j 0).toNat)) d os s env H):Rm M q (.byte (xs[j]?) H) d os s env :=
 Rm_byte _ (by rw [List.getD_eq_getElem?_getD,List.getElem?_eq_getElem h]; rfl) h2
theorem nsub {m c:Nat}(h:c≤m):(m:Int) - (c:Int)=((m - c:Nat):Int):=by omega
theorem nsub1 {m:Nat}(h:1≤m):(m:Int) - 1=((m - 1:Nat):Int):=by omega
theorem nmul {m n:Nat}:(m:Int) * (n:Int)=((m * n:Nat):Int):=rfl
theorem nadd1 {m:Nat}:(m:Int)+1=((m+1:Nat):Int):=rfl
theorem nadd {m n:Nat}:(m:Int)+(n:Int)=((m+n:Nat):Int):=rfl
theorem setL_eq {α : Type} : ∀ (l:List α) (n:Nat) (a : α),setL l n a=l.set n a
 | [],_,_=>by simp [setL]
 | x::l,0,a=>by simp [setL]
 | x::l,n+1,a=>by simp [setL,setL_eq l n a]
theorem Rm_put {M:Md}{q:Bool}{d:Option Nat}{os:List GOp}{s:Stk}{env:Env}{H:Heap}{i j f n:Nat}{e:Option PV}{y:PV}{t k:Nat}{xs:List PV}(x z:PV)(h:e=some x)(hl:y.cells.length=n)
  (hp:putP f x y.cells=some z) (hg:H[i]? = some (.arr t k xs)) (h2:Sm M q (asked d os) .undef d os s env (setL H i (.arr t k (xs.set j z)))):Rm M q (.put i e j f n y H) d os s env:=by
 refine ⟨x,z,h,hl,hp,?_⟩
 rw [hg]
 show Sm _ _ _ _ _ _ _ _ _
 rw [setL_eq xs]
 exact h2
theorem Rm_puti {M:Md}{q:Bool}{d:Option Nat}{os:List GOp}{s:Stk}{env:Env}{H:Heap}{i j:Nat}{a:Int}{t:Nat}{k:IntKind}{xs:List Int}(hj:j<xs.length)(hg:H[i]? = some (.arr t 1 (xs.map (.int k))))
  (h2:Sm M q (asked d os) .undef d os s env (setL H i (.arr t 1 ((xs.set j a).map (.int k))))):Rm M q (.put i ((xs.map (PV.int k))[j]?) j 0 1 (.int k a) H) d os s env:=by
 refine Rm_put (.int k (xs.getD j 0)) (.int k a) ?_ rfl rfl hg ?_
 ·rw [List.getElem?_map,List.getD_eq_getElem?_getD,List.getElem?_eq_getElem hj]; rfl
 ·rw [← List.map_set]
  exact h2
theorem Rm_putb {M:Md}{q:Bool}{d:Option Nat}{os:List GOp}{s:Stk}{env:Env}{H:Heap}{i j:Nat}{a:Int}{t:Nat}{xs:List UInt8}(c:UInt8)(hj:j<xs.length)(ha:a=c.toNat)(hg:H[i]? = some (.arr t 1 (xs.map fun b => .int .u8 b.toNat)))
  (h2:Sm M q (asked d os) .undef d os s env (setL H i (.arr t 1 ((xs.set j c).map fun b => .int .u8 b.toNat)))):Rm M q (.put i ((xs.map fun b=>PV.int .u8 b.toNat)[j]?) j 0 1 (.int .u8 a) H) d os s env:=by
 subst ha
 refine Rm_put (.int .u8 (xs.getD j 0).toNat) (.int .u8 c.toNat) ?_ rfl rfl hg ?_
 ·rw [List.getElem?_map,List.getD_eq_getElem?_getD,List.getElem?_eq_getElem hj]; rfl
 ·rw [List.map_set] at h2
  exact h2
theorem pb {a b:Bool}(h:a=true↔b=true):DV.p (.bool a) = .p (.bool b):=by rw [Bool.eq_iff_iff.2 h]
theorem pi {a b:Int}{k:IntKind}(h:a=b):DV.p (.int k a) = .p (.int k b):=by rw [h]
theorem row_at {α : Type}{xs:List α}{i:Nat}(h:i<xs.length) : ∃ a,xs[i]? = some a∧a∈xs:=⟨xs[i],List.getElem?_eq_getElem h,List.getElem_mem h⟩
theorem tmod_nat (m n:Nat):(m:Int).tmod n=((m % n:Nat):Int):=by simp [Int.tmod]
theorem tdiv_nat (m n:Nat):(m:Int).tdiv n=((m / n:Nat):Int):=by simp [Int.tdiv]
theorem tmod10 {m:Nat}:(m:Int).tmod 10=((m % 10:Nat):Int):=tmod_nat m 10
theorem tdiv10 {m:Nat}:(m:Int).tdiv 10=((m / 10:Nat):Int):=tdiv_nat m 10
theorem tn48 {m:Nat}:((48:Int)+(m:Int)).toNat=48+m:=by omega
theorem rep_int {k:IntKind}{n:Nat}{a:Int}:List.replicate n (PV.int k a)=(List.replicate n a).map (PV.int k):=by simp
theorem app_int {k:IntKind}{xs:List Int}{a:Int}:xs.map (PV.int k)++[PV.int k a]=(xs++[a]).map (PV.int k):=by simp
theorem app_str {xs:List (List UInt8)}{a:List UInt8}:xs.map PV.str++[PV.str a]=(xs++[a]).map PV.str:=by simp
theorem app_map {α β : Type}{f : α → β}{xs ys:List α}:xs.map f++ys.map f=(xs++ys).map f:=by simp
theorem take_map {α β : Type}{f : α → β}{xs:List α}{n:Nat}:(xs.map f).take n=(xs.take n).map f:=by simp
theorem drop_map {α β : Type}{f : α → β}{xs:List α}{n:Nat}:(xs.map f).drop n=(xs.drop n).map f:=by simp
theorem cut_map {α β : Type}{f : α → β}{xs:List α}{n m:Nat}:cutL (xs.map f) n m=(cutL xs n m).map f:=by simp [cutL]
attribute [go_sem] bne_self_eq_false beq_self_eq_true decide_true Bool.not_true Bool.not_false Bool.false_or Bool.true_or Bool.or_false List.length_map true_and and_true Nat.zero_add Nat.add_zero List.map_cons List.map_nil List.zip_cons_cons List.zip_nil_left Int.toNat_natCast
attribute [go_sem] app_str rep_int app_int app_map take_map drop_map cut_map
end Go.Dv
