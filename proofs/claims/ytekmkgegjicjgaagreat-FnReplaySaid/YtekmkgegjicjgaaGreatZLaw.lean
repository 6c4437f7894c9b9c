/- Law: from a contract to a given row; for every program of the model. Nothing here speaks of this translation. -/
import Derived.Test.YtekmkgegjicjgaaGreatZDrawn
import Derived.Test.YtekmkgegjicjgaaGreatZEv
import Derived.ProofKit
import Derived.OpenShut
import Derived.ShutString
import Derived.ChangeOld
import Derived.Deep.Slices
import Derived.DataReads
import Derived.WideShapes
namespace Go.Dv
open Go.RowKit
theorem emptyX (W:World)(b:Nat) : ¬ (⟨W,fun _=>False,[],[]⟩:Cx).X [] [] b:=fun h=>h.elim id (own_empty b)
def Args (W:World):List PV→List Value→Prop
 | [],vs=>vs=[]
 | x::xs,vs => ∃ v vs',vs=v::vs'∧RP W (fun _=>False) x v∧Args W xs vs'
theorem args_rel {W:World} : ∀ {xs:List PV} {vs:List Value},Args W xs vs→RDt W ((⟨W,fun _=>False,[],[]⟩:Cx).X [] []) [] [] (xs.map .p) vs
 | [],vs,h=>by unfold Args at h; subst h; simp only [List.map_nil]; unfold RDt; rfl
 | x::xs,vs,h=>by
  unfold Args at h
  obtain ⟨v,vs',rfl,h1,h2⟩:=h
  simp only [List.map_cons]
  unfold RDt
  refine ⟨v,vs',rfl,?_,args_rel h2⟩
  unfold RD
  exact RP_mono ⟨Nat.le_refl _,fun b _ _=>⟨rfl,emptyX W b⟩⟩ _ _ h1
theorem law_calls {P:Program}{f:FuncId}{xs:List PV}{vs:List Value}{W:World}(h:Ok P f (xs.map .p) [] fun d _=>d = .p (.bool true))(ha:Args W xs vs) :
  Calls P f vs.toArray W fun e W'=>e = .returned (.bool true)∧Below W.heap.size W W':=by
 refine (h W (fun _=>False) [] vs (fun b hb=>hb.elim) (hrel_empty _) (args_rel ha)).mono fun e w' hh => ?_
 obtain ⟨v,d,H',ρ',rfl,rfl,k1,k2,k3,k4⟩:=hh
 refine ⟨by rw [rp_bool k2],k3.os,k3.tape,k3.output,k3.size,fun b hb=>(k3.keep b hb (own_empty b)).1⟩
abbrev slI (k:IntKind)(xs:List Int):PV := .sl 1 (xs.map (.int k))
def IsRow (k:IntKind)(w:World)(a:Option Addr)(len cap:Nat)(zs:List Int):Prop :=
 (a=none∧len=0∧cap=0∧zs=[]) ∨
 ∃ x,a=some x∧len≤cap∧cap≤maxLen∧zs.length=cap∧(∀ i,i<zs.length→w.cell? (x.add i)=some (.int k (zs.getD i 0))) ∧ ∀ n∈zs,(Lit.int k n).wf=true
theorem spot_of_cell {w:World}{x:Addr}{v:Value}(h:w.cell? (x.add 0)=some v):x.spot=none:=by
 have:x.add 0=x:=by simp [Addr.add]
 rw [this] at h
 cases hs:x.spot with
 | none=>rfl
 | some s =>
  exfalso
  unfold World.cell? at h
  rw [hs] at h
  split at h
  ·simp at h
  ·cases h
theorem row_rel {k:IntKind}{w:World}{a:Option Addr}{len cap:Nat}{zs:List Int}(h:IsRow k w a len cap zs):RP w (fun _=>False) (slI k (zs.take len)) (.slice a len cap) ∧ ∀ n∈zs.take len,(Lit.int k n).wf=true:=by
 rcases h with ⟨rfl,rfl,rfl,rfl⟩|⟨x,rfl,h1,h2,h3,h4,h5⟩
 ·refine ⟨?_,by simp⟩
  unfold slI RP
  exact ⟨none,0,rfl,Nat.le_refl _,Nat.zero_le _,fun h=>absurd rfl h⟩
 ·refine ⟨?_,fun n hn=>h5 n (List.mem_of_mem_take hn)⟩
  have hlen:((zs.take len).map (PV.int k)).length=len:=by simp; omega
  unfold slI RP
  rw [hlen]
  refine ⟨some x,cap,rfl,h1,h2,fun hne => ?_⟩
  have hl0:0<len:=by
   rcases Nat.eq_zero_or_pos len with h0|h0
   ·exact absurd (List.eq_nil_of_length_eq_zero (by rw [hlen,h0])) hne
   ·exact h0
  have hc0:=h4 0 (by omega)
  obtain ⟨b,o,sp⟩:=x
  have hsp:sp=none:=spot_of_cell hc0
  subst hsp
  refine ⟨b,o,rfl,World.block_lt_of_cell? w _ (show w.cell? ⟨b,o,none⟩=_ by simpa [Addr.add] using hc0),fun h=>h,RRow_of_get fun j y hy => ?_⟩
  rw [List.getElem?_map,Option.map_eq_some_iff] at hy
  obtain ⟨n,hn,rfl⟩:=hy
  rw [List.getElem?_take] at hn
  split at hn
  ·rename_i hj
   have hjl:=lt_of_get hn
   have:=h4 j hjl
   rw [add_mk] at this
   refine ⟨[.int k n],rfl,fun i u hu => ?_,by unfold RE; rfl⟩
   cases i with
   | zero =>
    simp at hu
    subst hu
    simp only [Nat.mul_one,Nat.add_zero]
    rw [this,List.getD_eq_getElem?_getD,hn]
    rfl
   | succ i=>simp at hu
  ·cases hn
end Go.Dv
namespace Go.Dv
abbrev Okv (P:Program)(f:FuncId)(xs:List PV)(d:DV):Prop:=Ok P f (xs.map .p) [] fun d' H=>d'=d∧H=[]
abbrev Okw (P:Program)(f:FuncId)(xs:List PV)(Q:DV→Heap→Prop):Prop:=Ok P f (xs.map .p) [] Q
theorem argsB_view {H:Heap} : ∀ {args:List DV} {xs:List PV},viewOfs H args=some xs→ArgsB H args (xs.map .p)
 | [],xs,h=>by
  unfold viewOfs at h
  obtain rfl:=Option.some.inj h
  rfl
 | d::ds,xs,h=>by
  unfold viewOfs at h
  split at h
  ·rename_i x xs' h1 h2
   obtain rfl:=Option.some.inj h
   exact ⟨.p x,xs'.map .p,rfl,⟨x,h1,rfl⟩,argsB_view h2⟩
  ·cases h
theorem argsP_pv {ids:List Nat} : ∀ {args:List DV} {xs:List PV},pvOfs args=some xs→ArgsP ids args (xs.map .p)
 | [],xs,h=>by
  unfold pvOfs at h
  obtain rfl:=Option.some.inj h
  rfl
 | d::ds,xs,h=>by
  unfold pvOfs at h
  split at h
  ·rename_i x xs' h1 h2
   obtain rfl:=Option.some.inj h
   exact ⟨.p x,xs'.map .p,rfl,.inr ⟨x,h1,rfl⟩,argsP_pv h2⟩
  ·cases h
mutual
theorem det_flat : ∀ {x:PV},detP x→flatP x
 | .int _ _,_=>trivial
 | .bool _,_=>trivial
 | .str _,_=>trivial
 | .sl _ _,h=>h.elim
 | .agg cs,h=>det_flats (cs:=cs) (by simpa [detP] using h)
theorem det_flats : ∀ {cs:List PV},detPs cs→flatPs cs
 | [],_=>trivial
 | x::xs,h=>by
  unfold detPs at h
  unfold flatPs
  exact ⟨det_flat h.1,det_flats h.2⟩
end
mutual
theorem detD_flat : ∀ {d:DV},detD d→flatD d
 | .p x,h=>by unfold detD at h; unfold flatD; exact det_flat h
 | .tup ds,h=>by unfold detD at h; unfold flatD; exact detD_flats h
 | .any,h=>by simp [detD] at h
 | .undef,h=>by simp [detD] at h
 | .nil,h=>by simp [detD] at h
 | .own _ _ _,h=>by simp [detD] at h
 | .ptr _ _ _,h=>by simp [detD] at h
 | .rptr _ _ _ _,h=>by simp [detD] at h
 | .agg _,h=>by simp [detD] at h
theorem detD_flats : ∀ {ds:List DV},detDs ds→flatDs ds
 | [],_=>trivial
 | d::ds,h=>by
  unfold detDs at h
  unfold flatDs
  exact ⟨detD_flat h.1,detD_flats h.2⟩
end
mutual
theorem det_bk {ids:List Nat}{n:Nat} : ∀ {d:DV},detD d→bk ids n d=d
 | .p x,_=>rfl
 | .tup ds,h=>by unfold detD at h; simp only [bk,det_bks h]
 | .any,h=>by simp [detD] at h
 | .undef,h=>by simp [detD] at h
 | .nil,h=>by simp [detD] at h
 | .own _ _ _,h=>by simp [detD] at h
 | .ptr _ _ _,h=>by simp [detD] at h
 | .rptr _ _ _ _,h=>by simp [detD] at h
 | .agg _,h=>by simp [detD] at h
theorem det_bks {ids:List Nat}{n:Nat} : ∀ {ds:List DV},detDs ds→bkL ids n ds=ds
 | [],_=>rfl
 | d::ds,h=>by
  unfold detDs at h
  simp only [bkL,det_bk h.1,det_bks h.2]
end
section
variable {P:Program} {nin:Nat} {f:FuncId} {args:List DV} {H:Heap} {s:Stk} {d:Option Nat} {os:List GOp} {env:Env} {q:Bool}
theorem Rm_v {xs:List PV}{d0:DV}(h:Okv P f xs d0)(hv:viewOfs H args=some xs)(hd:detD d0)(h2:Sm (mdP P nin) q (asked d os) d0 d os s env H) :
  Rm (mdP P nin) q (.call f args H) d os s env:=by
 cases q with
 | true=>exact ⟨xs.map .p,d0,h,argsB_view hv,hd,h2⟩
 | false =>
  refine ⟨[],xs.map .p,_,List.nodup_nil,by simp,h,.inr ⟨rfl,argsB_view hv,fun d' H2 hq => ?_⟩⟩
  obtain ⟨rfl,rfl⟩:=hq
  refine ⟨detD_flat hd,trivial,?_⟩
  rw [det_bk hd]
  simpa [mergeH,putAll] using h2
theorem Rm_w {xs:List PV}{d0:DV}(hv:viewOfs H args=some xs)(h:Okv P f xs d0)(hd:detD d0)(h2:Sm (mdP P nin) q (asked d os) d0 d os s env H) :
  Rm (mdP P nin) q (.call f args H) d os s env:=Rm_v h hv hd h2
theorem Rm_o {xs:List PV}{Q:DV→Heap→Prop}(h:Okw P f xs Q)(hv:pvOfs args=some xs)
  (h2 : ∀ r H2,Q r H2→Sm (mdP P nin) false (asked d os) (bk [] H.length r) d os s env (H++H2.map (bkB [] H.length))) :
  Rm (mdP P nin) false (.call f args H) d os s env:=by
 refine ⟨[],xs.map .p,_,List.nodup_nil,by simp,h,.inl ⟨argsP_pv hv,fun d' H2 hq => ?_⟩⟩
 have:=h2 d' H2 hq
 simpa [mergeH,putAll] using this
theorem Rm_l {xs:List PV}{Q:DV→Heap→Prop}(h:Okw P f xs Q)(hv:viewOfs H args=some xs)
  (h2 : ∀ r H2,Q r H2→flatD r∧flatH H2∧Sm (mdP P nin) false (asked d os) (bk [] H.length r) d os s env (H++H2.map (bkB [] H.length))) :
  Rm (mdP P nin) false (.call f args H) d os s env:=by
 refine ⟨[],xs.map .p,_,List.nodup_nil,by simp,h,.inr ⟨rfl,argsB_view hv,fun d' H2 hq => ?_⟩⟩
 obtain ⟨h3,h4,h5⟩:=h2 d' H2 hq
 exact ⟨h3,h4,by simpa [mergeH,putAll] using h5⟩
theorem Rm_i (ids:List Nat){args':List DV}{Q:DV→Heap→Prop}(h:Ok P f args' (heapOf ids H) Q)(hn:ids.Nodup)(hb : ∀ i∈ids,i<H.length)(ha:ArgsP ids args args')
  (h2 : ∀ r H2,Q r H2→Sm (mdP P nin) false (asked d os) (bk ids H.length r) d os s env (mergeH ids H H2)) :
  Rm (mdP P nin) false (.call f args H) d os s env :=
 ⟨ids,args',_,hn,hb,h,.inl ⟨ha,h2⟩⟩
theorem ret_gen {M:Md}{rs:List RV}{Q:DV→Heap→Prop}(e d':DV)(H':Heap)(h:resD env H rs=some e)(h1:ren (idsOf nin [e] H) e=d')(h2:heapOf (idsOf nin [e] H) H=H')(h3:Q d' H') :
  Xm M .ret (.top (retQ nin rs Q)) env H:=by
 show retK nin rs Q env H
 unfold retK
 rw [h]
 show Q _ _
 rw [h1,h2]
 exact h3
theorem ret_p {M:Md}{n:Nat}{x:PV}{Q:DV→Heap→Prop}(h:get env n = .p x)(h3:Q (.p x) []):Xm M .ret (.top (retQ 0 [.t n] Q)) env H:=by
 refine ret_gen (.p x) (.p x) [] ?_ rfl ?_ h3
 ·simp [resD,resAll,resOne,h]
 ·simp [idsOf,addIds,heapOf,refsL,refs]
end
mutual
theorem det_refs : ∀ {d:DV},detD d→refs d=[]
 | .p x,_=>rfl
 | .tup ds,h=>by unfold detD at h; simp only [refs,det_refss h]
 | .any,h=>by simp [detD] at h
 | .undef,h=>by simp [detD] at h
 | .nil,h=>by simp [detD] at h
 | .own _ _ _,h=>by simp [detD] at h
 | .ptr _ _ _,h=>by simp [detD] at h
 | .rptr _ _ _ _,h=>by simp [detD] at h
 | .agg _,h=>by simp [detD] at h
theorem det_refss : ∀ {ds:List DV},detDs ds→refsL ds=[]
 | [],_=>rfl
 | d::ds,h=>by
  unfold detDs at h
  simp only [refsL,det_refs h.1,det_refss h.2,List.append_nil]
end
mutual
theorem det_ren {ids:List Nat} : ∀ {d:DV},detD d→ren ids d=d
 | .p x,_=>rfl
 | .tup ds,h=>by unfold detD at h; simp only [ren,det_rens h]
 | .any,h=>by simp [detD] at h
 | .undef,h=>by simp [detD] at h
 | .nil,h=>by simp [detD] at h
 | .own _ _ _,h=>by simp [detD] at h
 | .ptr _ _ _,h=>by simp [detD] at h
 | .rptr _ _ _ _,h=>by simp [detD] at h
 | .agg _,h=>by simp [detD] at h
theorem det_rens {ids:List Nat} : ∀ {ds:List DV},detDs ds→renL ids ds=ds
 | [],_=>rfl
 | d::ds,h=>by
  unfold detDs at h
  simp only [renL,det_ren h.1,det_rens h.2]
end
theorem backI_nil {n j:Nat}:backI [] n j=n+j:=by simp [backI]
theorem backI_zero {i n:Nat}{is:List Nat}:backI (i::is) n 0=i:=by simp [backI]
theorem backI_succ {i n j:Nat}{is:List Nat}:backI (i::is) n (j+1)=backI is n j:=by
 unfold backI
 simp only [List.length_cons,Nat.add_lt_add_iff_right,List.getD_cons_succ,Nat.add_sub_add_right]
attribute [go_sem] backI_zero backI_succ resD resAll resOne backI_nil bk bkL bkB mergeH putAll List.take_succ_cons List.take_zero List.drop_succ_cons List.drop_zero List.append_nil
theorem flat_int {k:IntKind} : ∀ {xs:List Int},flatPs (xs.map (.int k))
 | []=>trivial
 | _::xs=>⟨trivial,flat_int (xs:=xs)⟩
theorem flatH_one {b:OB}(h:flatB b):flatH [b]:=⟨h,trivial⟩
theorem args_nil {W:World}:Args W [] []:=by unfold Args; rfl
theorem args_cons {W:World}{x:PV}{xs:List PV}{v:Value}{vs:List Value}(h:RP W (fun _=>False) x v)(h2:Args W xs vs):Args W (x::xs) (v::vs):=by
 unfold Args
 exact ⟨v,vs,rfl,h,h2⟩
theorem arg_int {W:World}{k:IntKind}{n:Int}:RP W (fun _=>False) (.int k n) (.int k n):=by unfold RP; rfl
theorem arg_bool {W:World}{b:Bool}:RP W (fun _=>False) (.bool b) (.bool b):=by unfold RP; rfl
theorem law_v {P:Program}{f:FuncId}{xs:List PV}{vs:List Value}{W:World}(h:Okv P f xs (.p (.bool true)))(ha:Args W xs vs) :
  Calls P f vs.toArray W fun e W'=>e = .returned (.bool true)∧Go.RowKit.Below W.heap.size W W' :=
 law_calls (h.mono fun _ _ hq=>hq.1) ha
def normC:DV→DV
 | .agg cs=>match pvOfs cs with
  | some xs => .p (.agg xs)
  | none => .agg cs
 | d=>d
def normD:DV→DV
 | .tup ds => .tup (ds.map normC)
 | d=>normC d
theorem normC_rel {w:World}{X:Nat→Prop}{ρ : Rho}{H:Heap}{d:DV}{v:Value}(h:RD w X ρ H d v):RD w X ρ H (normC d) v:=by
 cases d with
 | agg cs =>
  cases hc:pvOfs cs with
  | none=>simp only [normC,hc]; exact h
  | some xs =>
   simp only [normC,hc]
   have:pvOf (.agg cs)=some (.agg xs):=by simp [pvOf,hc]
   have hr:=pvOf_rel this h
   unfold RD
   exact hr
 | _=>exact h
theorem normCs_rel {w:World}{X:Nat→Prop}{ρ : Rho}{H:Heap} : ∀ {ds:List DV} {vs:List Value},RDt w X ρ H ds vs→RDt w X ρ H (ds.map normC) vs
 | [],vs,h=>h
 | d::ds,vs,h=>by
  unfold RDt at h
  obtain ⟨v,vs',rfl,h1,h2⟩:=h
  simp only [List.map_cons]
  unfold RDt
  exact ⟨v,vs',rfl,normC_rel h1,normCs_rel h2⟩
theorem normD_rel {w:World}{X:Nat→Prop}{ρ : Rho}{H:Heap}{d:DV}{v:Value}(h:RD w X ρ H d v):RD w X ρ H (normD d) v:=by
 cases d with
 | tup ds =>
  unfold normD
  unfold RD at h ⊢
  obtain ⟨vs,hv,h1⟩:=h
  exact ⟨vs,hv,normCs_rel h1⟩
 | agg cs=>exact normC_rel h
 | _=>exact h
theorem ok_D {P:Program}(hmix:P.follows .mixedOrders=true){f:FuncId}{args:List DV}{Hin:Heap}{Q:DV→Heap→Prop}{np nt:Nat}{rs:List RV}{ir:DC}(hc:compFn P f=some ⟨np,nt,rs,ir⟩)
  (hl:args.length≤nt) (h:Dm (mdP P Hin.length) ir (.top (retQ Hin.length rs fun d H=>Q (normD d) H)) (envOf args) Hin):Ok P f args Hin Q :=
 fun w O0 ρ vs h1 h2 h3=>(ok_of_D hmix (sane _) rfl hc h hl w O0 ρ vs h1 h2 h3).mono fun _ _ ⟨v,d,H',ρ',a,b,g1,g2,g3⟩=>⟨v,normD d,H',ρ',a,b,g1,normD_rel g2,g3⟩
theorem pv_refs : ∀ n,(∀ (d:DV) (x:PV),SizeOf.sizeOf d≤n→pvOf d=some x→refs d=[] ∧ ∀ ids,ren ids d=d)∧(∀ (ds:List DV) (xs:List PV),SizeOf.sizeOf ds≤n→pvOfs ds=some xs→refsL ds=[] ∧ ∀ ids,renL ids ds=ds):=by
 intro n
 induction n with
 | zero =>
  refine ⟨fun x v hx => ?_,fun xs vs hx => ?_⟩
  ·cases x<;>simp at hx
  ·cases xs<;>simp at hx
 | succ n ih =>
  refine ⟨fun d x hx h => ?_,fun ds xs hx h => ?_⟩
  ·cases d with
   | p y=>exact ⟨rfl,fun _=>rfl⟩
   | nil=>exact ⟨rfl,fun _=>rfl⟩
   | agg cs =>
    simp only [pvOf,Option.map_eq_some_iff] at h
    obtain ⟨ys,h,_⟩:=h
    obtain ⟨h1,h2⟩:=ih.2 cs ys (by simp at hx; omega) h
    exact ⟨by simp only [refs,h1],fun ids=>by simp only [ren,h2 ids]⟩
   | _=>simp [pvOf] at h
  ·cases ds with
   | nil=>exact ⟨rfl,fun _=>rfl⟩
   | cons d ds =>
    simp only [pvOfs] at h
    split at h
    ·rename_i y ys h1 h2
     obtain ⟨a1,a2⟩:=ih.1 d y (by simp at hx; omega) h1
     obtain ⟨b1,b2⟩:=ih.2 ds ys (by simp at hx; omega) h2
     exact ⟨by simp only [refsL,a1,b1,List.append_nil],fun ids=>by simp only [renL,a2 ids,b2 ids]⟩
    ·cases h
theorem normC_det {d:DV}(h:detD (normC d)):refs d=[] ∧ ∀ ids,ren ids d=d:=by
 cases d with
 | agg cs =>
  cases hc:pvOfs cs with
  | none=>simp [normC,hc,detD] at h
  | some xs=>exact (pv_refs _).1 (.agg cs) (.agg xs) (Nat.le_refl _) (by simp [pvOf,hc])
 | tup ds=>exact ⟨det_refs h,fun _=>det_ren h⟩
 | _=>exact ⟨det_refs h,fun _=>det_ren h⟩
theorem normCs_det : ∀ {ds:List DV},detDs (ds.map normC)→refsL ds=[] ∧ ∀ ids,renL ids ds=ds
 | [],_=>⟨rfl,fun _=>rfl⟩
 | d::ds,h=>by
  simp only [List.map_cons] at h
  unfold detDs at h
  obtain ⟨a1,a2⟩:=normC_det h.1
  obtain ⟨b1,b2⟩:=normCs_det h.2
  exact ⟨by simp only [refsL,a1,b1,List.append_nil],fun ids=>by simp only [renL,a2 ids,b2 ids]⟩
theorem normD_det {d:DV}(h:detD (normD d)):refs d=[] ∧ ∀ ids,ren ids d=d:=by
 cases d with
 | tup ds =>
  unfold normD detD at h
  obtain ⟨a1,a2⟩:=normCs_det h
  exact ⟨by simp only [refs,a1],fun ids=>by simp only [ren,a2 ids]⟩
 | agg cs=>exact normC_det h
 | _=>exact normC_det h
theorem ret_okv {M:Md}{env:Env}{H:Heap}{rs:List RV}{d0:DV}(hd:detD d0)(h:(resD env H rs).map normD=some d0):Xm M .ret (.top (retQ 0 rs fun d' H=>normD d'=d0∧H=[])) env H:=by
 simp only [Option.map_eq_some_iff] at h
 obtain ⟨d,h,rfl⟩:=h
 obtain ⟨h1,h2⟩:=normD_det hd
 refine ret_gen d d [] h (h2 _) ?_ ⟨rfl,rfl⟩
 simp [idsOf,addIds,refsL,h1,heapOf]
attribute [go_sem] normD normC
end Go.Dv
namespace Go.Dv
open Go.RowKit Go.WideShapes Go.Deep
def mkEl (ag:Bool)(ys:List PV):PV:=if ag then .agg ys else ys.headD (.bool false)
def aggB (P:Program)(t:TypeId):Bool:=isAggP P t == some true
def PFs (r:TypeId→List PV→Prop):List Field→List PV→Prop
 | [],xs=>xs=[]
 | f::fs,xs => ∃ ys zs,xs=ys++zs∧r f.type ys∧PFs r fs zs
def PTy (P:Program):Nat→TypeId→List PV→Prop
 | 0,_,_=>False
 | n+1,t,xs=>match P.underlying t with
  | some .bool => ∃ b,xs=[.bool b]
  | some (.int k) => ∃ m,xs=[.int k m]∧(Lit.int k m).wf=true
  | some .string => ∃ s,xs=[.str s]∧s.length≤maxLen
  | some (.slice e) => ∃ yss:List (List PV),xs=[.sl (P.cellsOf e) (yss.map (mkEl (aggB P e)))]∧yss.length≤maxLen ∧ ∀ ys∈yss,PTy P n e ys
  | some (.struct fs)=>PFs (PTy P n) fs.toList xs
  | _=>False
def offsOK (P:Program):Nat→List Field→Bool
 | _,[]=>true
 | o,f::fs=>f.offset == o && offsOK P (o+P.cellsOf f.type) fs
def totOf (P:Program):List Field→Nat
 | []=>0
 | f::fs=>P.cellsOf f.type+totOf P fs
def plainT (P:Program):Nat→TypeId→Bool
 | 0,_=>false
 | n+1,t=>match P.underlying t with
  | some .bool=>true
  | some (.int _)=>true
  | some .string=>true
  | some (.slice e)=>plainT P n e && decide (0<P.cellsOf e) && (aggB P e || P.cellsOf e == 1)
  | some (.struct fs)=>offsOK P 0 fs.toList && P.cellsOf t == totOf P fs.toList && fs.toList.all fun f=>plainT P n f.type
  | _=>false
section
variable {H:Type} {enc:TypeId × Value→H} {P:Program} {w:World} {base:Nat} {spare:Nat→Bool} {held:Bool}
theorem RPs_app {X:Nat→Prop} : ∀ {xs ys:List PV} {us vs:List Value},RPs w X xs us→RPs w X ys vs→RPs w X (xs++ys) (us++vs)
 | [],_,us,_,h,h2=>by unfold RPs at h; subst h; exact h2
 | x::xs,ys,us,vs,h,h2=>by
  unfold RPs at h
  obtain ⟨v,vs',rfl,h3,h4,h5⟩:=h
  show RPs w X (x::(xs++ys)) (v::(vs'++vs))
  unfold RPs
  exact ⟨v,_,rfl,h3,h4,RPs_app h5 h2⟩
theorem RPs_one1 {X:Nat→Prop}{x:PV}{v:Value}(h1:v.oneCell'=true)(h:RP w X x v):RPs w X [x] [v]:=by
 unfold RPs
 exact ⟨v,[],rfl,h1,h,by unfold RPs; rfl⟩
theorem open_plain : ∀ (n:Nat) (t:TypeId) (fuel:Nat) (cs:List Value) (x:DataW H × List MemPlace),plainT P n t=true→DataW.trod enc P w base spare held fuel t cs=some x →
  ∃ xs,PTy P n t xs∧RPs w (fun _=>False) xs cs∧(aggB P t=false→xs.length=1)
 | 0,_,_,_,_,h,_=>by simp [plainT] at h
 | n+1,t,fuel,cs,x,hp,h=>by
  unfold plainT at hp
  unfold PTy
  split at hp
  ·rename_i ht
   obtain ⟨b,rfl,_⟩:=DataW.trod_bool ht h
   exact ⟨[.bool b],⟨b,rfl⟩,RPs_one1 rfl (by unfold RP; rfl),fun _=>rfl⟩
  ·rename_i k ht
   obtain ⟨m,rfl,_,hw⟩:=DataW.trod_int ht h
   exact ⟨[.int k m],⟨m,rfl,hw⟩,RPs_one1 rfl (by unfold RP; rfl),fun _=>rfl⟩
  ·rename_i ht
   obtain ⟨s,rfl,_,hsl⟩:=DataW.trod_string ht h
   exact ⟨[.str s.data.toList],⟨_,rfl,by rw [Array.length_toList]; exact hsl⟩,RPs_one1 rfl (by unfold RP; rfl),fun _=>rfl⟩
  ·rename_i e ht
   simp only [Bool.and_eq_true,decide_eq_true_eq,Bool.or_eq_true,beq_iff_eq] at hp
   obtain ⟨⟨hpe,hk⟩,hag⟩:=hp
   rcases open_slice ht h with ⟨rfl,_⟩|⟨a,len,cap,m,n',D,Pl,rfl,hb,hl,hm,hmm,_,hel⟩
   ·exact ⟨[.sl (P.cellsOf e) []],⟨[],rfl,Nat.zero_le _,by simp⟩,RPs_one1 rfl (by unfold RP; exact ⟨none,0,rfl,Nat.le_refl _,Nat.zero_le _,fun h=>absurd rfl h⟩),fun _=>rfl⟩
   ·have hlm:len≤m:=by rw [hmm]; split<;>omega
    have each : ∀ i,∃ ys,i<len→PTy P n e ys ∧ ∃ cs',w.cells? base (a.add (i * P.cellsOf e)) (P.cellsOf e)=some cs'∧RPs w (fun _=>False) ys cs'∧(aggB P e=false→ys.length=1):=fun i=>by
     by_cases hi:i<len
     ·obtain ⟨cs',h1,h2⟩:=hel i (by omega)
      obtain ⟨ys,g1,g2,g3⟩:=open_plain n e n' cs' _ hpe h2
      exact ⟨ys,fun _=>⟨g1,cs',h1,g2,g3⟩⟩
     ·exact ⟨[],fun h=>absurd h hi⟩
    refine ⟨[.sl (P.cellsOf e) (((List.range len).map fun i=>Classical.choose (each i)).map (mkEl (aggB P e)))],⟨_,rfl,by rw [List.length_map,List.length_range]; omega,fun ys hys => ?_⟩,RPs_one1 rfl ?_,fun _=>rfl⟩
    ·obtain ⟨i,hi,rfl⟩:=List.mem_map.1 hys
     exact (Classical.choose_spec (each i) (List.mem_range.1 hi)).1
    ·unfold RP
     have hlen:(((List.range len).map fun i=>Classical.choose (each i)).map (mkEl (aggB P e))).length=len:=by simp
     rw [hlen]
     refine ⟨some a,cap,rfl,hl,hm,fun hne => ?_⟩
     have hl0:0<len:=by
      rcases Nat.eq_zero_or_pos len with h0|h0
      ·exact absurd (List.eq_nil_of_length_eq_zero (by rw [hlen,h0])) hne
      ·exact h0
     obtain ⟨_,cs0,c1,_⟩:=Classical.choose_spec (each 0) hl0
     obtain ⟨_,c2,c3⟩:=World.cells?_some c1
     have hc0:=c3 0 hk
     rw [Nat.zero_mul] at hc0
     have hadd : ∀ (a:Addr) (i:Nat),(a.add 0).add i=a.add i:=fun a i=>by
      obtain ⟨b,o,sp⟩:=a
      cases sp<;>simp [Addr.add]
     rw [hadd] at hc0
     have hc1:w.cell? (a.add 0)=some (cs0[0]'(by omega)):=by rw [hc0,List.getElem?_eq_getElem (by omega)]
     have hsp:=spot_of_cell hc1
     obtain ⟨b,o,sp⟩:=a
     obtain rfl:sp=none:=hsp
     refine ⟨b,o,rfl,World.block_lt_of_cell? w _ (show w.cell? ⟨b,o,none⟩=_ by simpa [Addr.add] using hc1),fun h=>h,RRow_of_get fun j y hy => ?_⟩
     rw [List.getElem?_map,List.getElem?_map,Option.map_map,Option.map_eq_some_iff] at hy
     obtain ⟨i,hi,rfl⟩:=hy
     have hij:i=j∧j<len:=by
      obtain ⟨h1,h2⟩:=List.getElem?_eq_some_iff.1 hi
      rw [List.getElem_range] at h2
      exact ⟨h2.symm,by simpa using h1⟩
     obtain ⟨rfl,hjl⟩:=hij
     obtain ⟨_,cs',c4,c5,c6⟩:=Classical.choose_spec (each i) hjl
     obtain ⟨_,c7,c8⟩:=World.cells?_some c4
     refine ⟨cs',c7,fun q u hu => ?_,?_⟩
     ·have:=c8 q (by have:=lt_of_get hu; omega)
      rw [hu,add_mk,add_mk] at this
      exact this
     ·show RE w _ (mkEl (aggB P e) (Classical.choose (each i))) cs'
      generalize Classical.choose (each i)=ys at *
      unfold mkEl
      cases hg:aggB P e with
      | true=>simp only [if_true]; unfold RE; exact c5
      | false =>
       have hl1:=c6 hg
       obtain ⟨y,rfl⟩:=List.length_eq_one_iff.1 hl1
       simp only [Bool.false_eq_true,if_false,List.headD_cons]
       refine RE_of_cells ?_
       rw [RPs_single c5 y (by simp)]
       exact c5
  ·rename_i fs ht
   simp only [Bool.and_eq_true,beq_iff_eq,List.all_eq_true] at hp
   obtain ⟨⟨ho,htot⟩,hall⟩:=hp
   obtain ⟨xs,n',_,_,hcl,hxl,hf⟩:=DataW.trod_struct ht h
   have key : ∀ (gs:List Field) (o:Nat),(∀ g∈gs,∃ d,DataW.trod enc P w base spare held n' g.type ((cs.drop g.offset).take (P.cellsOf g.type))=some d)→(∀ g∈gs,plainT P n g.type=true)→offsOK P o gs=true→cs.length=o+totOf P gs →
     ∃ xs,PFs (PTy P n) gs xs∧RPs w (fun _=>False) xs (cs.drop o):=fun gs=>by
    induction gs with
    | nil =>
     intro o _ _ _ hl
     refine ⟨[],rfl,?_⟩
     rw [List.drop_of_length_le (by simp [totOf] at hl; omega)]
     unfold RPs
     rfl
    | cons g gs ih =>
     intro o hg hpl ho hl
     simp only [offsOK,Bool.and_eq_true,beq_iff_eq] at ho
     obtain ⟨rfl,ho⟩:=ho
     obtain ⟨d,hd⟩:=hg g (by simp)
     obtain ⟨ys,g1,g2,_⟩:=open_plain n g.type n' _ _ (hpl g (by simp)) hd
     obtain ⟨zs,g3,g4⟩:=ih (g.offset+P.cellsOf g.type) (fun g' hg'=>hg g' (by simp [hg'])) (fun g' hg'=>hpl g' (by simp [hg'])) ho (by simp only [totOf] at hl; omega)
     refine ⟨ys++zs,⟨ys,zs,rfl,g1,g3⟩,?_⟩
     have:cs.drop g.offset=(cs.drop g.offset).take (P.cellsOf g.type)++cs.drop (g.offset+P.cellsOf g.type):=by
      rw [← List.drop_drop,List.take_append_drop]
     rw [this]
     exact RPs_app g2 g4
   obtain ⟨ys,g1,g2⟩:=key fs.toList 0 (fun g hg=>by
    obtain ⟨i,hi⟩:=List.getElem?_of_mem hg
    have hi':fs[i]? = some g:=by simpa using hi
    have hlt:i<xs.length:=by rw [hxl]; exact (Array.getElem?_eq_some_iff.1 hi').1
    exact ⟨_,(hf i g hi').trans (List.getElem?_eq_getElem hlt)⟩) hall ho (by rw [hcl,htot]; omega)
   refine ⟨ys,g1,g2,fun hag => ?_⟩
   simp [aggB,isAggP,ht] at hag
  ·cases hp
def isAggV:Value→Bool
 | .agg _=>true
 | _=>false
theorem open_arg {n:Nat}{t:TypeId}{v:Value}{d:DataW H}{ps:List MemPlace}(hp:plainT P n t=true)(ha:aggB P t=isAggV v)(h:DataW.Trod enc P w base spare held t v d ps) :
  ∃ xs,PTy P n t xs∧RP w (fun _=>False) (mkEl (aggB P t) xs) v:=by
 obtain ⟨fuel,hf⟩:=h
 obtain ⟨xs,h1,h2,h3⟩:=open_plain n t fuel _ _ hp hf
 refine ⟨xs,h1,?_⟩
 unfold mkEl
 cases hg:aggB P t with
 | true =>
  rw [hg] at ha
  cases v<;>simp [isAggV] at ha
  rename_i cs
  simp only [if_true]
  unfold RP
  exact ⟨cs.toList,by simp,h2⟩
 | false =>
  obtain ⟨y,rfl⟩:=List.length_eq_one_iff.1 (h3 hg)
  rw [hg] at ha
  have hc:v.cells.toList=[v]:=by cases v<;>first|rfl|cases ha
  rw [hc] at h2
  unfold RPs at h2
  obtain ⟨v',vs',e,_,h4,_⟩:=h2
  injection e with e1 e2
  subst e1
  simpa using h4
end
section
variable {P:Program} {n:Nat} {t:TypeId} {xs:List PV}
theorem pty_str (ht:P.underlying t=some .string)(h:PTy P (n+1) t xs) : ∃ s,xs=[.str s]∧s.length≤9223372036854775807:=by
 unfold PTy at h; rw [ht] at h; exact h
theorem pty_int {k:IntKind}(ht:P.underlying t=some (.int k))(h:PTy P (n+1) t xs) : ∃ m,xs=[.int k m]∧(Lit.int k m).wf=true:=by
 unfold PTy at h; rw [ht] at h; exact h
theorem pty_bool (ht:P.underlying t=some .bool)(h:PTy P (n+1) t xs) : ∃ b,xs=[.bool b]:=by
 unfold PTy at h; rw [ht] at h; exact h
theorem pty_slice {e:TypeId}(ht:P.underlying t=some (.slice e))(h:PTy P (n+1) t xs) : ∃ yss:List (List PV),xs=[.sl (P.cellsOf e) (yss.map (mkEl (aggB P e)))]∧yss.length≤9223372036854775807 ∧ ∀ ys∈yss,PTy P n e ys:=by
 unfold PTy at h; rw [ht] at h; exact h
theorem pty_struct {fs:Array Field}(ht:P.underlying t=some (.struct fs))(h:PTy P (n+1) t xs):PFs (PTy P n) fs.toList xs:=by
 unfold PTy at h; rw [ht] at h; exact h
theorem els_of {T:Type}{ag:Bool}{f:T→PV}{Q:List PV→Prop}{G:T→Prop}(h1 : ∀ ys,Q ys → ∃ a,mkEl ag ys=f a∧G a) : ∀ {yss:List (List PV)},(∀ ys∈yss,Q ys) → ∃ as:List T,yss.map (mkEl ag)=as.map f ∧ ∀ a∈as,G a
 | [],_=>⟨[],rfl,by simp⟩
 | ys::yss,h=>by
  obtain ⟨a,e1,g1⟩:=h1 ys (h ys (by simp))
  obtain ⟨as,e2,g2⟩:=els_of h1 (yss:=yss) fun z hz=>h z (by simp [hz])
  refine ⟨a::as,by simp [e1,e2],fun b hb => ?_⟩
  rcases List.mem_cons.1 hb with rfl|hb
  ·exact g1
  ·exact g2 b hb
end
end Go.Dv
