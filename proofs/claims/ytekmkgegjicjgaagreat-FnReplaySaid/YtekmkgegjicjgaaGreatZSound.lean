/- Sound: that the verification conditions are sound for the model; for every program of the model. Nothing here speaks of this translation. -/
import Derived.Test.YtekmkgegjicjgaaGreatZCore
import Derived.Maps.AppendAt
import Derived.Laws.StructEq
import Derived.Lib.ConvBytes
import Derived.Laws.IdiomStrings
import Derived.Laws.RangeString
import Derived.Deep.QuietTactic
namespace Go.Dv
structure Pres (w:World) (X:Nat→Prop) (w':World) (X':Nat→Prop):Prop where
 size:w.heap.size≤w'.heap.size
 keep : ∀ b,b<w.heap.size → ¬ X b→w'.heap[b]? = w.heap[b]? ∧ ¬ X' b
theorem Pres.refl (w X):Pres w X w X:=⟨Nat.le_refl _,fun _ _ h=>⟨rfl,h⟩⟩
theorem Pres.trans {w1 X1 w2 X2 w3 X3}(h:Pres w1 X1 w2 X2)(k:Pres w2 X2 w3 X3):Pres w1 X1 w3 X3 :=
 ⟨Nat.le_trans h.size k.size,fun b hb hx=>by
  obtain ⟨e1,n1⟩:=h.keep b hb hx
  obtain ⟨e2,n2⟩:=k.keep b (Nat.lt_of_lt_of_le hb h.size) n1
  exact ⟨e2.trans e1,n2⟩⟩
section
variable {w w':World} {X X':Nat→Prop}
theorem cell_of_heap {a:Addr}(h:w'.heap[a.block]? = w.heap[a.block]?):w'.cell? a=w.cell? a:=World.cell?_of_block h
mutual
theorem RP_mono (h:Pres w X w' X') : ∀ (x:PV) (v:Value),RP w X x v→RP w' X' x v
 | .int k n,v,hr=>by unfold RP at hr ⊢; exact hr
 | .bool b,v,hr=>by unfold RP at hr ⊢; exact hr
 | .str s,v,hr=>by unfold RP at hr ⊢; exact hr
 | .sl k xs,v,hr=>by
  unfold RP at hr ⊢
  obtain ⟨A,c,hv,h1,h2,h3⟩:=hr
  refine ⟨A,c,hv,h1,h2,fun hne => ?_⟩
  obtain ⟨b,o,hA,hb,hX,hrow⟩:=h3 hne
  obtain ⟨e,n⟩:=h.keep b hb hX
  exact ⟨b,o,hA,Nat.lt_of_lt_of_le hb h.size,n,RRow_mono h k b e o xs hrow⟩
 | .agg cs,v,hr=>by
  unfold RP at hr ⊢
  obtain ⟨vs,hv,h1⟩:=hr
  exact ⟨vs,hv,RPs_mono h cs vs h1⟩
theorem RPs_mono (h:Pres w X w' X') : ∀ (xs:List PV) (vs:List Value),RPs w X xs vs→RPs w' X' xs vs
 | [],vs,hr=>by unfold RPs at hr ⊢; exact hr
 | x::xs,vs,hr=>by
  unfold RPs at hr ⊢
  obtain ⟨v,vs',hv,h1,h3,h4⟩:=hr
  exact ⟨v,vs',hv,h1,RP_mono h x v h3,RPs_mono h xs vs' h4⟩
theorem RRow_mono (h:Pres w X w' X')(k b:Nat)(e:w'.heap[b]? = w.heap[b]?) : ∀ (o:Nat) (xs:List PV),RRow w X k b o xs→RRow w' X' k b o xs
 | _,[],_=>by unfold RRow; trivial
 | o,x::xs,hr=>by
  unfold RRow at hr ⊢
  obtain ⟨⟨vs,h1,h2,h3⟩,h4⟩:=hr
  exact ⟨⟨vs,h1,fun j u hu=>(cell_of_heap (a:=⟨b,o+j,none⟩) e).trans (h2 j u hu),RE_mono h x vs h3⟩,RRow_mono h k b e (o+k) xs h4⟩
theorem RE_mono (h:Pres w X w' X') : ∀ (x:PV) (vs:List Value),RE w X x vs→RE w' X' x vs
 | .agg cs,vs,hr=>by unfold RE at hr ⊢; exact RPs_mono h cs vs hr
 | .int k n,vs,hr=>by unfold RE at hr ⊢; exact hr
 | .bool b,vs,hr=>by unfold RE at hr ⊢; exact hr
 | .str s,vs,hr=>by unfold RE at hr ⊢; exact hr
 | .sl k xs,vs,hr=>by
  unfold RE at hr ⊢
  obtain ⟨v,hvs,A,c,hv,h1,h2,h3⟩:=hr
  refine ⟨v,hvs,A,c,hv,h1,h2,fun hne => ?_⟩
  obtain ⟨b,o,hA,hb,hX,hrow⟩:=h3 hne
  obtain ⟨e,n⟩:=h.keep b hb hX
  exact ⟨b,o,hA,Nat.lt_of_lt_of_le hb h.size,n,RRow_mono h k b e o xs hrow⟩
end
theorem RE_cells {x:PV}{vs:List Value}(h:RE w X x vs):RPs w X x.cells vs:=by
 cases x with
 | agg cs=>unfold RE at h; exact h
 | int k n=>unfold RE at h; subst h; exact ⟨_,[],rfl,rfl,rfl,rfl⟩
 | bool b=>unfold RE at h; subst h; exact ⟨_,[],rfl,rfl,rfl,rfl⟩
 | str s=>unfold RE at h; subst h; exact ⟨_,[],rfl,rfl,rfl,rfl⟩
 | sl k xs =>
  unfold RE at h
  obtain ⟨v,hvs,A,c,hv,h1⟩:=h
  subst hv
  rw [hvs]
  simp only [PV.cells,RPs]
  exact ⟨_,[],rfl,rfl,by unfold RP; exact ⟨A,c,rfl,h1⟩,rfl⟩
theorem RE_of_cells {x:PV}{vs:List Value}(h:RPs w X x.cells vs):RE w X x vs:=by
 cases x with
 | agg cs=>unfold RE; exact h
 | int k n=>obtain ⟨v,vs',hv,_,hr,hn⟩:=h; subst hn; subst hv; unfold RP at hr; subst hr; unfold RE; rfl
 | bool b=>obtain ⟨v,vs',hv,_,hr,hn⟩:=h; subst hn; subst hv; unfold RP at hr; subst hr; unfold RE; rfl
 | str s=>obtain ⟨v,vs',hv,_,hr,hn⟩:=h; subst hn; subst hv; unfold RP at hr; subst hr; unfold RE; rfl
 | sl k xs =>
  simp only [PV.cells,RPs] at h
  obtain ⟨v,vs',hv,_,hr,hn⟩:=h
  subst hn
  unfold RP at hr
  unfold RE
  exact ⟨v,hv,hr⟩
theorem RPs_length : ∀ {xs:List PV} {vs:List Value},RPs w X xs vs→vs.length=xs.length
 | [],vs,h=>by unfold RPs at h; subst h; rfl
 | x::xs,vs,h=>by
  unfold RPs at h
  obtain ⟨v,vs',hv,_,_,h'⟩:=h
  subst hv
  simp [RPs_length h']
theorem RPs_get : ∀ {xs:List PV} {vs:List Value} {j:Nat} {x:PV},RPs w X xs vs→xs[j]? = some x → ∃ v,vs[j]? = some v∧v.oneCell'=true∧RP w X x v
 | [],vs,j,x,h,hj=>by simp at hj
 | y::ys,vs,j,x,h,hj=>by
  unfold RPs at h
  obtain ⟨v,vs',hv,h1,h2,h'⟩:=h
  subst hv
  cases j with
  | zero=>simp at hj; subst hj; exact ⟨v,rfl,h1,h2⟩
  | succ j=>simp at hj; simpa using RPs_get h' hj
theorem oneCell_cells {v:Value}(h:v.oneCell'=true):v.cells = #[v]:=by
 cases v<;>first|rfl|(simp [Value.oneCell'] at h)
theorem RPs_of_get : ∀ {xs:List PV} {vs:List Value},vs.length=xs.length→(∀ (j:Nat) (x:PV),xs[j]? = some x → ∃ v:Value,vs[j]? = some v∧v.oneCell'=true∧RP w X x v)→RPs w X xs vs
 | [],vs,hl,_=>by unfold RPs; exact List.eq_nil_of_length_eq_zero hl
 | x::xs,[],hl,_=>by simp at hl
 | x::xs,v::vs,hl,h=>by
  unfold RPs
  obtain ⟨u,hu,h1,h2⟩:=h 0 x rfl
  simp at hu
  subst hu
  exact ⟨v,vs,rfl,h1,h2,RPs_of_get (by simpa using hl) fun j y hy=>by simpa using h (j+1) y (by simpa using hy)⟩
theorem RRow_get : ∀ {k b o:Nat} {xs:List PV} {j:Nat} {x:PV},RRow w X k b o xs→xs[j]? = some x →
  ∃ vs:List Value,vs.length=k∧(∀ i u,vs[i]? = some u→w.cell? ⟨b,o+j * k+i,none⟩=some u)∧RE w X x vs
 | k,b,o,[],j,x,h,hj=>by simp at hj
 | k,b,o,y::ys,j,x,h,hj=>by
  unfold RRow at h
  obtain ⟨⟨vs,h1,h2,h3⟩,h'⟩:=h
  cases j with
  | zero=>simp at hj; subst hj; exact ⟨vs,h1,by simpa using h2,h3⟩
  | succ j =>
   simp at hj
   obtain ⟨us,g1,g2,g3⟩:=RRow_get h' hj
   refine ⟨us,g1,fun i u hu => ?_,g3⟩
   have:=g2 i u hu
   rw [show o+(j+1) * k+i=o+k+j * k+i from by rw [Nat.add_mul]; omega]
   exact this
theorem RRow_of_get : ∀ {k b o:Nat} {xs:List PV},(∀ (j:Nat) (x:PV),xs[j]? = some x →
  ∃ vs:List Value,vs.length=k∧(∀ i u,vs[i]? = some u→w.cell? ⟨b,o+j * k+i,none⟩=some u)∧RE w X x vs)→RRow w X k b o xs
 | k,b,o,[],h=>by unfold RRow; trivial
 | k,b,o,y::ys,h=>by
  unfold RRow
  refine ⟨by simpa using h 0 y rfl,RRow_of_get fun j x hx => ?_⟩
  obtain ⟨vs,h1,h2,h3⟩:=h (j+1) x (by simpa using hx)
  refine ⟨vs,h1,fun i u hu => ?_,h3⟩
  have:=h2 i u hu
  rw [show o+k+j * k+i=o+(j+1) * k+i from by rw [Nat.add_mul]; omega]
  exact this
theorem RRow_width {k b o:Nat}{xs:List PV}{j:Nat}{x:PV}(h:RRow w X k b o xs)(hj:xs[j]? = some x):x.cells.length=k:=by
 obtain ⟨vs,h1,_,h3⟩:=RRow_get h hj
 rw [← h1,RPs_length (RE_cells h3)]
theorem RRow_drop {k b o n:Nat}{xs:List PV}(h:RRow w X k b o xs):RRow w X k b (o+n * k) (xs.drop n):=by
 refine RRow_of_get fun j x hx => ?_
 rw [List.getElem?_drop] at hx
 obtain ⟨vs,h1,h2,h3⟩:=RRow_get h hx
 refine ⟨vs,h1,fun i u hu => ?_,h3⟩
 rw [← h2 i u hu,Nat.add_mul]
 congr 2
 omega
theorem RRow_take {k b o n:Nat}{xs:List PV}(h:RRow w X k b o xs):RRow w X k b o (xs.take n):=by
 refine RRow_of_get fun j x hx => ?_
 rw [List.getElem?_take] at hx
 split at hx
 ·exact RRow_get h hx
 ·cases hx
theorem RRow_cells {k b o:Nat} : ∀ {xs:List PV},RRow w X k b o xs → ∃ vs:List Value,vs.length=xs.length * k∧(∀ i u,vs[i]? = some u→w.cell? ⟨b,o+i,none⟩=some u) ∧ ∀ u∈vs,u.oneCell'=true
 | [],_=>⟨[],by simp,by simp,by simp⟩
 | x::xs,h=>by
  unfold RRow at h
  obtain ⟨⟨vs,h1,h2,h3⟩,h'⟩:=h
  obtain ⟨us,g1,g2,g3⟩:=RRow_cells (o:=o+k) h'
  refine ⟨vs++us,by simp [h1,g1,Nat.add_mul,Nat.add_comm],fun i u hu => ?_,fun u hu => ?_⟩
  ·by_cases hi:i<vs.length
   ·rw [List.getElem?_append_left hi] at hu
    exact h2 i u hu
   ·rw [List.getElem?_append_right (by omega)] at hu
    have:=g2 _ u hu
    rw [← this]
    congr 2
    omega
  ·rcases List.mem_append.1 hu with hu|hu
   ·obtain ⟨j,hj⟩:=List.getElem?_of_mem hu
    have hc:=RE_cells h3
    have hl:=RPs_length hc
    have hjl:j<x.cells.length:=by
     rw [← hl]
     exact (List.getElem?_eq_some_iff.1 hj).1
    obtain ⟨v,hv,h1',_⟩:=RPs_get hc (List.getElem?_eq_getElem hjl)
    rw [hj] at hv
    injection hv with hv
    subst hv
    exact h1'
   ·exact g3 u hu
end
end Go.Dv
namespace Go.Dv
def OB.live:OB→Bool
 | .dead=>false
 | _=>true
def elT (e:TypeId):TypeId:=if e<1048576 then e else e - 1048576
def frOf (e n:Nat):Nat × Nat:=if e<1048576 then (0,0) else (n,n+1)
theorem boxT_lt {e:Nat}(h:e<1048576):boxT e=e:=Nat.mod_eq_of_lt h
theorem boxT_row {e k:Nat}(h:e<1048576):boxT (e+1048576 * k)=e:=by unfold boxT; omega
theorem rowK_row {e k:Nat}(h:e<1048576):rowK (e+1048576 * k)=k:=by unfold rowK; omega
theorem elT_lt {e:Nat}(h:e<1048576):elT e=e:=if_pos h
theorem frOf_lt {e n:Nat}(h:e<1048576):frOf e n=(0,0):=if_pos h
def ownB (ρ : Rho)(H:Heap)(b:Nat):Prop := ∃ (i:Nat) (ob:OB),H[i]? = some ob∧ob.live=true ∧ ρ[i]? = some (some b)
def ownRel (w:World)(ρ : Rho)(H:Heap)(i off len:Nat)(v:Value):Prop :=
 match H[i]? with
 | some (.arr e k xs)=>off+len≤xs.length ∧ ∃ A c,v = .slice A len c∧len≤c∧c≤maxLen ∧
   ((ρ[i]? = some none∧A=none∧c=0∧off=0) ∨
    ∃ (b:Nat) (cur:Array Value),ρ[i]? = some (some b)∧w.heap[b]? = some (.cells cur (elT e) (frOf e cur.size))∧(off+c) * k=cur.size∧(0<c∨off=0→A=some ⟨b,off * k,none⟩))
 | some .dead => ∃ A n c,v = .slice A n c
 | some (.box e _)=>0<rowK e∧off=0 ∧ ∃ b c,ρ[i]? = some (some b)∧v = .slice (some ⟨b,0,none⟩) len c∧len≤c∧c≤maxLen
 | _=>False
def ptrRel (ρ : Rho)(H:Heap)(i j f:Nat)(v:Value):Prop :=
 match H[i]? with
 | some (.arr _ k xs)=>j<xs.length ∧ ∃ b,ρ[i]? = some (some b)∧v = .pointer (some ⟨b,j * k+f,none⟩)
 | some (.box _ _) => ∃ b,ρ[i]? = some (some b)∧v = .pointer (some ⟨b,f,none⟩)
 | some (.iter _ _) => ∃ b,ρ[i]? = some (some b)∧v = .pointer (some ⟨b,f,none⟩)
 | some .dead=>True
 | _=>False
mutual
def RD (w:World)(X:Nat→Prop)(ρ : Rho)(H:Heap):DV→Value→Prop
 | .any,_=>True
 | .undef,v=>v=Go.undef
 | .p x,v=>RP w X x v
 | .nil,v=>v = .slice none 0 0
 | .own i off len,v=>ownRel w ρ H i off len v
 | .ptr i j f,v=>ptrRel ρ H i j f v
 | .rptr k xs j f,v => ∃ b o,v = .pointer (some ⟨b,o+j * k+f,none⟩)∧b<w.heap.size ∧ ¬ X b∧RRow w X k b o xs∧j<xs.length
 | .agg cs,v => ∃ vs,v = .agg vs.toArray∧RDs w X ρ H cs vs
 | .tup ds,v => ∃ vs,v = .tuple vs.toArray∧RDt w X ρ H ds vs
def RDs (w:World)(X:Nat→Prop)(ρ : Rho)(H:Heap):List DV→List Value→Prop
 | [],vs=>vs=[]
 | c::cs,vs => ∃ v vs',vs=v::vs'∧v.oneCell'=true∧RD w X ρ H c v∧RDs w X ρ H cs vs'
def RDt (w:World)(X:Nat→Prop)(ρ : Rho)(H:Heap):List DV→List Value→Prop
 | [],vs=>vs=[]
 | c::cs,vs => ∃ v vs',vs=v::vs'∧RD w X ρ H c v∧RDt w X ρ H cs vs'
end
structure HStep (w:World) (ρ : Rho) (H:Heap) (w':World) (ρ':Rho) (H':Heap):Prop where
 rho : ∀ i:Nat,i<H.length → ρ'[i]? = ρ[i]?
 dead : ∀ i:Nat,H[i]? = some .dead→H'[i]? = some .dead
 arr : ∀ (i:Nat) (e:TypeId) (k:Nat) (xs:List PV),H[i]? = some (.arr e k xs)→H'[i]? = some .dead ∨ ∃ xs':List PV,H'[i]? = some (.arr e k xs')∧xs.length≤xs'.length ∧
  ∀ (b:Nat) (cur:Array Value),ρ[i]? = some (some b)→w.heap[b]? = some (.cells cur (elT e) (frOf e cur.size)) → ∃ cur':Array Value,w'.heap[b]? = some (.cells cur' (elT e) (frOf e cur'.size))∧cur'.size=cur.size
 box : ∀ (i:Nat) (e:TypeId) (cs:List DV),H[i]? = some (.box e cs)→H'[i]? = some .dead ∨ ∃ cs':List DV,H'[i]? = some (.box e cs')
 iter : ∀ (i:Nat) (s:List UInt8) (p:Nat),H[i]? = some (.iter s p)→H'[i]? = some .dead ∨ ∃ p':Nat,H'[i]? = some (.iter s p')
theorem lt_of_get {α : Type}{l:List α}{i:Nat}{a : α}(h:l[i]? = some a):i<l.length:=(List.getElem?_eq_some_iff.1 h).1
section
variable {w w':World} {X X':Nat→Prop} {ρ ρ':Rho} {H H':Heap}
theorem ownRel_step (hs:HStep w ρ H w' ρ' H'){i off len:Nat}{v:Value}(h:ownRel w ρ H i off len v):ownRel w' ρ' H' i off len v:=by
 unfold ownRel at h ⊢
 cases hH:H[i]? with
 | none=>simp [hH] at h
 | some ob =>
  cases ob with
  | dead=>simpa [hs.dead i hH,hH] using h
  | box e cs =>
   simp only [hH] at h
   obtain ⟨h1,h2,b,c,r1,hv,r2,r3⟩:=h
   rcases hs.box i e cs hH with h'|⟨cs',h'⟩
   ·simp only [h']
    exact ⟨_,_,_,hv⟩
   ·simp only [h']
    exact ⟨h1,h2,b,c,by rw [hs.rho i (lt_of_get hH)]; exact r1,hv,r2,r3⟩
  | iter s p=>simp [hH] at h
  | arr e k xs =>
   simp only [hH] at h
   rcases hs.arr i e k xs hH with h'|⟨xs',h',hl,hc⟩
   ·simp only [h']
    obtain ⟨_,A,c,hv,_⟩:=h
    exact ⟨A,_,c,hv⟩
   ·simp only [h']
    obtain ⟨h1,A,c,hv,h2,h3,h4⟩:=h
    refine ⟨by omega,A,c,hv,h2,h3,?_⟩
    rw [hs.rho i (lt_of_get hH)]
    rcases h4 with h4|⟨b,cur,r1,r2,r3,r4⟩
    ·exact .inl h4
    ·obtain ⟨cur',g1,g2⟩:=hc b cur r1 r2
     exact .inr ⟨b,cur',r1,g1,by rw [g2]; exact r3,r4⟩
theorem ptrRel_step (hs:HStep w ρ H w' ρ' H'){i j f:Nat}{v:Value}(h:ptrRel ρ H i j f v):ptrRel ρ' H' i j f v:=by
 unfold ptrRel at h ⊢
 cases hH:H[i]? with
 | none=>simp [hH] at h
 | some ob =>
  cases ob with
  | dead=>simp [hs.dead i hH]
  | box e cs =>
   simp only [hH] at h
   rcases hs.box i e cs hH with h'|⟨cs',h'⟩
   ·simp [h']
   ·simp only [h',hs.rho i (lt_of_get hH)]
    exact h
  | iter s p =>
   simp only [hH] at h
   rcases hs.iter i s p hH with h'|⟨p',h'⟩
   ·simp [h']
   ·simp only [h',hs.rho i (lt_of_get hH)]
    exact h
  | arr e k xs =>
   simp only [hH] at h
   rcases hs.arr i e k xs hH with h'|⟨xs',h',hl,_⟩
   ·simp [h']
   ·simp only [h',hs.rho i (lt_of_get hH)]
    exact ⟨by omega,h.2⟩
mutual
theorem RD_mono (hp:Pres w X w' X')(hs:HStep w ρ H w' ρ' H') : ∀ (d:DV) (v:Value),RD w X ρ H d v→RD w' X' ρ' H' d v
 | .any,_,_=>by unfold RD; trivial
 | .undef,v,h=>by unfold RD at h ⊢; exact h
 | .p x,v,h=>by unfold RD at h ⊢; exact RP_mono hp x v h
 | .nil,v,h=>by unfold RD at h ⊢; exact h
 | .own i off len,v,h=>by unfold RD at h ⊢; exact ownRel_step hs h
 | .ptr i j f,v,h=>by unfold RD at h ⊢; exact ptrRel_step hs h
 | .rptr k xs j f,v,h=>by
  unfold RD at h ⊢
  obtain ⟨b,o,hv,hb,hX,hr,hj⟩:=h
  obtain ⟨e,n⟩:=hp.keep b hb hX
  exact ⟨b,o,hv,Nat.lt_of_lt_of_le hb hp.size,n,RRow_mono hp k b e o xs hr,hj⟩
 | .agg cs,v,h=>by
  unfold RD at h ⊢
  obtain ⟨vs,hv,h1⟩:=h
  exact ⟨vs,hv,RDs_mono hp hs cs vs h1⟩
 | .tup ds,v,h=>by
  unfold RD at h ⊢
  obtain ⟨vs,hv,h1⟩:=h
  exact ⟨vs,hv,RDt_mono hp hs ds vs h1⟩
theorem RDs_mono (hp:Pres w X w' X')(hs:HStep w ρ H w' ρ' H') : ∀ (cs:List DV) (vs:List Value),RDs w X ρ H cs vs→RDs w' X' ρ' H' cs vs
 | [],vs,h=>by unfold RDs at h ⊢; exact h
 | c::cs,vs,h=>by
  unfold RDs at h ⊢
  obtain ⟨v,vs',hv,h1,h2,h3⟩:=h
  exact ⟨v,vs',hv,h1,RD_mono hp hs c v h2,RDs_mono hp hs cs vs' h3⟩
theorem RDt_mono (hp:Pres w X w' X')(hs:HStep w ρ H w' ρ' H') : ∀ (cs:List DV) (vs:List Value),RDt w X ρ H cs vs→RDt w' X' ρ' H' cs vs
 | [],vs,h=>by unfold RDt at h ⊢; exact h
 | c::cs,vs,h=>by
  unfold RDt at h ⊢
  obtain ⟨v,vs',hv,h2,h3⟩:=h
  exact ⟨v,vs',hv,RD_mono hp hs c v h2,RDt_mono hp hs cs vs' h3⟩
end
theorem RDs_length : ∀ {xs:List DV} {vs:List Value},RDs w X ρ H xs vs→vs.length=xs.length
 | [],vs,h=>by unfold RDs at h; subst h; rfl
 | x::xs,vs,h=>by
  unfold RDs at h
  obtain ⟨v,vs',hv,_,_,h'⟩:=h
  subst hv
  simp [RDs_length h']
theorem RDs_get : ∀ {xs:List DV} {vs:List Value} {j:Nat} {x:DV},RDs w X ρ H xs vs→xs[j]? = some x → ∃ v,vs[j]? = some v∧v.oneCell'=true∧RD w X ρ H x v
 | [],vs,j,x,h,hj=>by simp at hj
 | y::ys,vs,j,x,h,hj=>by
  unfold RDs at h
  obtain ⟨v,vs',hv,h1,h2,h'⟩:=h
  subst hv
  cases j with
  | zero=>simp at hj; subst hj; exact ⟨v,rfl,h1,h2⟩
  | succ j=>simp at hj; simpa using RDs_get h' hj
theorem RDs_of_get : ∀ {xs:List DV} {vs:List Value},vs.length=xs.length→(∀ (j:Nat) (x:DV),xs[j]? = some x → ∃ v:Value,vs[j]? = some v∧v.oneCell'=true∧RD w X ρ H x v)→RDs w X ρ H xs vs
 | [],vs,hl,_=>by unfold RDs; exact List.eq_nil_of_length_eq_zero hl
 | x::xs,[],hl,_=>by simp at hl
 | x::xs,v::vs,hl,h=>by
  unfold RDs
  obtain ⟨u,hu,h1,h2⟩:=h 0 x rfl
  simp at hu
  subst hu
  exact ⟨v,vs,rfl,h1,h2,RDs_of_get (by simpa using hl) fun j y hy=>by simpa using h (j+1) y (by simpa using hy)⟩
theorem RDt_get : ∀ {xs:List DV} {vs:List Value} {j:Nat} {x:DV},RDt w X ρ H xs vs→xs[j]? = some x → ∃ v,vs[j]? = some v∧RD w X ρ H x v
 | [],vs,j,x,h,hj=>by simp at hj
 | y::ys,vs,j,x,h,hj=>by
  unfold RDt at h
  obtain ⟨v,vs',hv,h2,h'⟩:=h
  subst hv
  cases j with
  | zero=>simp at hj; subst hj; exact ⟨v,rfl,h2⟩
  | succ j=>simp at hj; simpa using RDt_get h' hj
theorem RDs_of_RPs : ∀ {xs:List PV} {vs:List Value},RPs w X xs vs→RDs w X ρ H (xs.map .p) vs
 | [],vs,h=>by unfold RPs at h; simpa [RDs] using h
 | x::xs,vs,h=>by
  unfold RPs at h
  obtain ⟨v,vs',hv,h1,h2,h'⟩:=h
  simp only [List.map_cons]
  unfold RDs
  exact ⟨v,vs',hv,h1,by unfold RD; exact h2,RDs_of_RPs h'⟩
mutual
theorem pvOf_rel : ∀ {d:DV} {x:PV} {v:Value},pvOf d=some x→RD w X ρ H d v→RP w X x v
 | .p y,x,v,he,h=>by
  simp [pvOf] at he
  subst he
  unfold RD at h
  exact h
 | .nil,x,v,he,h=>by
  simp [pvOf] at he
  subst he
  unfold RD at h
  subst h
  unfold RP
  exact ⟨none,0,rfl,Nat.le_refl _,Nat.zero_le _,fun h=>absurd rfl h⟩
 | .agg cs,x,v,he,h=>by
  simp only [pvOf,Option.map_eq_some_iff] at he
  obtain ⟨xs,he,rfl⟩:=he
  unfold RD at h
  obtain ⟨vs,hv,h1⟩:=h
  unfold RP
  exact ⟨vs,hv,pvOfs_rel he h1⟩
 | .any,x,v,he,_=>by simp [pvOf] at he
 | .undef,x,v,he,_=>by simp [pvOf] at he
 | .own ..,x,v,he,_=>by simp [pvOf] at he
 | .ptr ..,x,v,he,_=>by simp [pvOf] at he
 | .rptr ..,x,v,he,_=>by simp [pvOf] at he
 | .tup ..,x,v,he,_=>by simp [pvOf] at he
theorem pvOfs_rel : ∀ {ds:List DV} {xs:List PV} {vs:List Value},pvOfs ds=some xs→RDs w X ρ H ds vs→RPs w X xs vs
 | [],xs,vs,he,h=>by
  simp [pvOfs] at he
  subst he
  unfold RDs at h
  unfold RPs
  exact h
 | d::ds,xs,vs,he,h=>by
  simp only [pvOfs] at he
  cases h1:pvOf d with
  | none=>simp [h1] at he
  | some y =>
   cases h2:pvOfs ds with
   | none=>simp [h1,h2] at he
   | some ys =>
    simp [h1,h2] at he
    subst he
    unfold RDs at h
    obtain ⟨v,vs',hv,g1,g2,g3⟩:=h
    unfold RPs
    exact ⟨v,vs',hv,g1,pvOf_rel h1 g2,pvOfs_rel h2 g3⟩
end
theorem cellsD_rel {d:DV}{cs:List DV}{v:Value}(he:cellsD d=some cs)(h:RD w X ρ H d v):RDs w X ρ H cs v.cells.toList:=by
 cases d with
 | p x =>
  cases x with
  | agg ys =>
   simp [cellsD] at he
   subst he
   unfold RD RP at h
   obtain ⟨vs,hv,h1⟩:=h
   subst hv
   exact RDs_of_RPs h1
  | int k n=>simp [cellsD] at he; subst he; unfold RD RP at h; subst h; exact ⟨_,[],rfl,rfl,by unfold RD RP; rfl,rfl⟩
  | bool b=>simp [cellsD] at he; subst he; unfold RD RP at h; subst h; exact ⟨_,[],rfl,rfl,by unfold RD RP; rfl,rfl⟩
  | str s=>simp [cellsD] at he; subst he; unfold RD RP at h; subst h; exact ⟨_,[],rfl,rfl,by unfold RD RP; rfl,rfl⟩
  | sl k xs =>
   simp [cellsD] at he
   subst he
   have h0:=h
   unfold RD RP at h
   obtain ⟨A,c,hv,_⟩:=h
   subst hv
   exact ⟨_,[],rfl,rfl,h0,rfl⟩
 | agg ys =>
  simp [cellsD] at he
  subst he
  unfold RD at h
  obtain ⟨vs,hv,h1⟩:=h
  subst hv
  exact h1
 | nil =>
  simp [cellsD] at he
  subst he
  unfold RD at h
  subst h
  exact ⟨_,[],rfl,rfl,by unfold RD; rfl,rfl⟩
 | own i o l =>
  simp [cellsD] at he
  subst he
  have h0:=h
  unfold RD ownRel at h
  have hsl : ∃ A n c,v = .slice A n c:=by
   split at h
   ·obtain ⟨_,A,c,hv,_⟩:=h
    exact ⟨A,_,c,hv⟩
   ·exact h
   ·obtain ⟨_,_,b,c,_,hv,_⟩:=h
    exact ⟨_,_,_,hv⟩
   ·exact h.elim
  obtain ⟨A,n,c,hv⟩:=hsl
  subst hv
  exact ⟨_,[],rfl,rfl,h0,rfl⟩
 | any=>simp [cellsD] at he
 | undef=>simp [cellsD] at he
 | ptr=>simp [cellsD] at he
 | rptr=>simp [cellsD] at he
 | tup=>simp [cellsD] at he
end
end Go.Dv
namespace Go.Dv
section
variable {P:Program}
theorem run_ul {t:TypeId}{d:TypeDesc}(h:P.underlying t=some d)(w:World):(underlying t).run P w = .ok d w:=run_underlying h w
theorem run_ti {t:TypeId}{i:TypeInfo}(h:P.info? t=some i)(w:World):(typeInfo t).run P w = .ok i w:=by simp [typeInfo,h]
theorem run_size {t:TypeId}{n:Nat}(h:sizeP P t=some n)(w:World):(sizeOf t).run P w = .ok n w:=by
 unfold sizeP at h
 cases hi:P.info? t with
 | none=>simp [hi] at h
 | some i =>
  simp [hi] at h
  subst h
  simp [sizeOf,run_ti hi]
theorem run_agg {t:TypeId}{g:Bool}(h:isAggP P t=some g)(w:World):(isAgg t).run P w = .ok g w:=by
 unfold isAggP at h
 cases hu:P.underlying t with
 | none=>simp [hu] at h
 | some d =>
  simp [hu] at h
  simp only [isAgg,Sem.run_bind,run_ul hu,Result.andThen_ok]
  cases d<;>simp_all
theorem run_zero {t:TypeId}{z:List DV}(h:zeroP P t=some z)(w:World) : ∃ v,(zeroValue t).run P w = .ok v w∧dvOfs v.cells.toList=some z:=by
 unfold zeroP at h
 cases hi:P.info? t with
 | none=>simp [hi] at h
 | some i =>
  cases hz:i.zero with
  | none=>simp [hi,hz] at h
  | some v =>
   simp [hi,hz] at h
   exact ⟨v,by simp [zeroValue,run_ti hi,hz],h⟩
theorem add_mk (b o n:Nat):(⟨b,o,none⟩:Addr).add n=⟨b,o+n,none⟩:=by
 unfold Addr.add; split<;>simp_all
theorem run_cells {w:World}{b o:Nat}{cs:List Value}(h : ∀ j u,cs[j]? = some u→w.cell? ⟨b,o+j,none⟩=some u):(loadCells ⟨b,o,none⟩ cs.length).run P w = .ok cs.toArray w :=
 run_loadCells_list w ⟨b,o,none⟩ cs fun j v hj=>by rw [add_mk]; exact h j v hj
theorem run_lv {w:World}{t:TypeId}{g:Bool}{n b o:Nat}{cs:List Value}(hg:isAggP P t=some g)(hn:sizeP P t=some n)(hl:cs.length=n)
  (h : ∀ j u,cs[j]? = some u→w.cell? ⟨b,o+j,none⟩=some u) (h1:g=false → ∃ u,cs=[u]) :
  (loadVar t ⟨b,o,none⟩).run P w = .ok (if g then .agg cs.toArray else cs.getD 0 undef) w:=by
 cases g with
 | true =>
  subst hl
  simp only [loadVar,Sem.run_bind,run_agg hg,Result.andThen_ok,if_true,run_size hn,run_cells h,Sem.run_pure]
 | false =>
  obtain ⟨u,rfl⟩:=h1 rfl
  have:=h 0 u rfl
  simp only [loadVar,Sem.run_bind,run_agg hg,Result.andThen_ok,Bool.false_eq_true,if_false,run_load]
  simp at this
  simp [this]
theorem run_part {w:World}{t:TypeId}{g:Bool}{n:Nat}(hg:isAggP P t=some g)(hn:sizeP P t=some n)(cs:Array Value)(off:Nat) :
  (part t cs off).run P w=if g then .ok (.agg (cs.extract off (off+n))) w else match cs[off]? with
   | some v => .ok v w
   | none => .halt (.stuck "part: no such cell") w:=by
 cases g with
 | true=>simp only [part,Sem.run_bind,run_agg hg,Result.andThen_ok,if_true,run_size hn,Sem.run_pure]
 | false =>
  simp only [part,Sem.run_bind,run_agg hg,Result.andThen_ok,Bool.false_eq_true,if_false]
  cases cs[off]? <;> rfl
end
section
variable {w:World} {X:Nat→Prop} {ρ : Rho} {H:Heap}
theorem dvOf_rel {v:Value}{d:DV}(h:dvOf v=some d):RD w X ρ H d v∧v.oneCell'=true:=by
 unfold dvOf at h
 split at h<;>simp at h<;>subst h
 ·exact ⟨by unfold RD RP; rfl,rfl⟩
 ·exact ⟨by unfold RD RP; rfl,rfl⟩
 ·rename_i s
  refine ⟨?_,rfl⟩
  unfold RD RP
  cases s
  simp
 ·exact ⟨by unfold RD; rfl,rfl⟩
theorem dvOf_one {v:Value}{d:DV}(h:dvOf v=some d):v.oneCell'=true:=(dvOf_rel (w:=default) (X:=fun _=>True) (ρ := []) (H:=[]) h).2
theorem dvOfs_rel : ∀ {vs:List Value} {ds:List DV},dvOfs vs=some ds→RDs w X ρ H ds vs
 | [],ds,h=>by simp [dvOfs] at h; subst h; unfold RDs; rfl
 | v::vs,ds,h=>by
  simp only [dvOfs] at h
  cases h1:dvOf v with
  | none=>simp [h1] at h
  | some d =>
   cases h2:dvOfs vs with
   | none=>simp [h1,h2] at h
   | some ds' =>
    simp [h1,h2] at h
    subst h
    unfold RDs
    exact ⟨v,vs,rfl,dvOf_one h1,(dvOf_rel h1).1,dvOfs_rel h2⟩
theorem constOf_rel {v:Value}{d:DV}(h:constOf v=some d):RD w X ρ H d v:=by
 unfold constOf at h
 split at h
 ·rename_i cs
  simp only [Option.map_eq_some_iff] at h
  obtain ⟨ds,h,rfl⟩:=h
  unfold RD
  exact ⟨cs.toList,by simp,dvOfs_rel h⟩
 ·exact (dvOf_rel h).1
def EnvR (w:World)(X:Nat→Prop)(ρ : Rho)(H:Heap)(env:Env)(tmps:Array Value):Prop := ∀ n,RD w X ρ H (get env n) (tmps.getD n undef)
theorem compX_rel {env:Env}{a:Act}(he:EnvR w X ρ H env a.tmps){x:Operand}{y:Xp}(h:compX x=some y):RD w X ρ H (ev env y) (a.eval x):=by
 cases x with
 | tmp t=>simp [compX] at h; subst h; exact he t
 | const v =>
  simp only [compX,Option.map_eq_some_iff] at h
  obtain ⟨d,h,rfl⟩:=h
  exact constOf_rel h
 | global g=>simp [compX] at h
 | func f=>simp [compX] at h
theorem compXs_rel {env:Env}{a:Act}(he:EnvR w X ρ H env a.tmps) : ∀ {xs:List Operand} {ys:List Xp},compXs xs=some ys→RDt w X ρ H (ys.map (ev env)) (xs.map a.eval)
 | [],ys,h=>by simp [compXs] at h; subst h; simp only [List.map_nil]; unfold RDt; rfl
 | x::xs,ys,h=>by
  simp only [compXs] at h
  cases h1:compX x with
  | none=>simp [h1] at h
  | some y =>
   cases h2:compXs xs with
   | none=>simp [h1,h2] at h
   | some ys' =>
    simp [h1,h2] at h
    subst h
    simp only [List.map_cons]
    unfold RDt
    exact ⟨_,_,rfl,compX_rel he h1,compXs_rel he h2⟩
end
structure Agree (w w':World):Prop where
 size:w.heap.size≤w'.heap.size
 keep : ∀ b,b<w.heap.size→w'.heap[b]? = w.heap[b]?
theorem Agree.refl (w:World):Agree w w:=⟨Nat.le_refl _,fun _ _=>rfl⟩
theorem Agree.cell {w w':World}(h:Agree w w'){b o:Nat}{u:Value}(hc:w.cell? ⟨b,o,none⟩=some u):w'.cell? ⟨b,o,none⟩=some u :=
 (cell_of_heap (a:=⟨b,o,none⟩) (h.keep b (World.block_lt_of_cell? w _ hc))).trans hc
structure AgreeB (B:Nat→Prop) (w w':World):Prop where
 keep : ∀ b,b<w.heap.size→B b→w'.heap[b]? = w.heap[b]?
theorem Agree.b {B:Nat→Prop}{w w':World}(h:Agree w w'):AgreeB B w w':=⟨fun b hb _=>h.keep b hb⟩
theorem AgreeB.cell {B:Nat→Prop}{w w':World}(h:AgreeB B w w'){b o:Nat}(hB:B b){u:Value}(hc:w.cell? ⟨b,o,none⟩=some u):w'.cell? ⟨b,o,none⟩=some u :=
 (cell_of_heap (a:=⟨b,o,none⟩) (h.keep b (World.block_lt_of_cell? w _ hc) hB)).trans hc
def obRel (w:World)(X:Nat→Prop)(ρ : Rho)(H:Heap)(i:Nat)(ob:OB):Prop :=
 match ob with
 | .dead=>True
 | .arr e k xs=>0<k∧((ρ[i]? = some none∧xs=[]) ∨ ∃ (b:Nat) (cur:Array Value),ρ[i]? = some (some b)∧w.heap[b]? = some (.cells cur (elT e) (frOf e cur.size))∧xs.length * k≤cur.size∧RRow w X k b 0 xs)
 | .box e cs => ∃ (b:Nat) (cur:Array Value),ρ[i]? = some (some b)∧w.heap[b]? = some (.cells cur (boxT e) (0,0))∧RDs w X ρ H cs cur.toList
 | .iter s p => ∃ b:Nat,ρ[i]? = some (some b)∧w.heap[b]? = some (.stringIter ⟨s.toArray⟩ p)
structure HRel (w:World) (X:Nat→Prop) (ρ : Rho) (H:Heap):Prop where
 len : ρ.length=H.length
 ob : ∀ (i:Nat) (ob:OB),H[i]? = some ob→obRel w X ρ H i ob
 inj : ∀ (i j b:Nat) (oi oj:OB),H[i]? = some oi→oi.live=true→H[j]? = some oj→oj.live=true → ρ[i]? = some (some b) → ρ[j]? = some (some b)→i=j
 own : ∀ b,ownB ρ H b→X b
theorem cell_own {w:World}{b o:Nat}{cur:Array Value}{e:TypeId}{fr:Nat × Nat}(h:w.heap[b]? = some (.cells cur e fr)):w.cell? ⟨b,o,none⟩=cur[o]? := by
 simp [World.cell?,h]
section
variable {w:World} {X:Nat→Prop} {ρ : Rho} {H:Heap}
theorem part_rel {k b o:Nat}{xs:List PV}{j:Nat}{x y:PV}{ag:Bool}{f n:Nat}(hr:RRow w X k b o xs)(hx:xs[j]? = some x)(hy:partP ag f n x.cells=some y)(hn:ag=false→n=1) :
  ∃ vs:List Value,vs.length=n∧(∀ i u,vs[i]? = some u→w.cell? ⟨b,o+j * k+f+i,none⟩=some u)∧(ag=false → ∃ u,vs=[u])∧RP w X y (if ag then .agg vs.toArray else vs.getD 0 undef):=by
 obtain ⟨us,h1,h2,h3⟩:=RRow_get hr hx
 have hc:=RE_cells h3
 have hl:=RPs_length hc
 cases ag with
 | true =>
  simp only [partP,if_true] at hy
  split at hy
  ·rename_i hle
   simp at hy
   subst hy
   refine ⟨(us.drop f).take n,by simp [hl]; omega,fun i u hu => ?_,(fun h=>by cases h),?_⟩
   ·rw [List.getElem?_take] at hu
    split at hu
    ·rw [List.getElem?_drop] at hu
     have:=h2 _ u hu
     rwa [← Nat.add_assoc] at this
    ·cases hu
   ·unfold RP
    refine ⟨_,rfl,RPs_of_get (by simp [hl]) fun i z hz => ?_⟩
    rw [List.getElem?_take] at hz
    split at hz
    ·rename_i hi
     rw [List.getElem?_drop] at hz
     obtain ⟨v,g1,g2,g3⟩:=RPs_get hc hz
     exact ⟨v,by rw [List.getElem?_take,if_pos hi,List.getElem?_drop]; exact g1,g2,g3⟩
    ·cases hz
  ·cases hy
 | false =>
  simp only [partP,Bool.false_eq_true,if_false] at hy
  obtain ⟨v,g1,g2,g3⟩:=RPs_get hc hy
  have hn1:=hn rfl
  subst hn1
  refine ⟨[v],rfl,fun i u hu => ?_,fun _=>⟨v,rfl⟩,by simpa using g3⟩
  cases i with
  | zero=>simp at hu; subst hu; simpa using h2 _ v g1
  | succ i=>simp at hu
theorem partD_rel {cs:List DV}{cur:List Value}{d:DV}{ag:Bool}{f n:Nat}(hr:RDs w X ρ H cs cur)(hd:partD ag f n cs=some d)(hn:ag=false→n=1) :
  ∃ vs:List Value,vs.length=n∧(∀ i u,vs[i]? = some u→cur[f+i]? = some u)∧(ag=false → ∃ u,vs=[u])∧RD w X ρ H d (if ag then .agg vs.toArray else vs.getD 0 undef) ∧
   (ag=true→vs=(cur.drop f).take n):=by
 have hl:=RDs_length hr
 cases ag with
 | true =>
  simp only [partD,if_true] at hd
  split at hd
  ·rename_i hle
   simp at hd
   subst hd
   refine ⟨(cur.drop f).take n,by simp [hl]; omega,fun i u hu => ?_,(fun h=>by cases h),?_,fun _=>rfl⟩
   ·rw [List.getElem?_take] at hu
    split at hu
    ·rwa [List.getElem?_drop] at hu
    ·cases hu
   ·unfold RD
    refine ⟨_,rfl,RDs_of_get (by simp [hl]) fun i z hz => ?_⟩
    rw [List.getElem?_take] at hz
    split at hz
    ·rename_i hi
     rw [List.getElem?_drop] at hz
     obtain ⟨v,g1,g2,g3⟩:=RDs_get hr hz
     exact ⟨v,by rw [List.getElem?_take,if_pos hi,List.getElem?_drop]; exact g1,g2,g3⟩
    ·cases hz
  ·cases hd
 | false =>
  simp only [partD,Bool.false_eq_true,if_false] at hd
  obtain ⟨v,g1,g2,g3⟩:=RDs_get hr hd
  have hn1:=hn rfl
  subst hn1
  refine ⟨[v],rfl,fun i u hu => ?_,fun _=>⟨v,rfl⟩,by simpa using g3,(fun h=>by cases h)⟩
  cases i with
  | zero=>simp at hu; subst hu; simpa using g1
  | succ i=>simp at hu
end
end Go.Dv
namespace Go.Dv
section
variable {P:Program} {B:Nat→Prop} {w:World} {X:Nat→Prop} {ρ : Rho} {H:Heap} {M:Md} {q:Bool} {K:DV→Heap→Prop}
def Quiet (P:Program)(B:Nat→Prop)(w:World)(X:Nat→Prop)(ρ : Rho)(H:Heap)(K:DV→Heap→Prop)(s:Sem Value):Prop :=
 ∃ d v,K d H∧RD w X ρ H d v ∧ ∀ w',AgreeB B w w'→s.run P w' = .ok v w'
theorem quiet_ok {d:DV}{v:Value}{s:Sem Value}(h:(R.ok d H).run M q K)(hr:RD w X ρ H d v)(hs : ∀ w',AgreeB B w w'→s.run P w' = .ok v w'):Quiet P B w X ρ H K s :=
 ⟨d,v,h,hr,hs⟩
theorem eqGuard_int (op:BinOp)(t:TypeId)(x y:Operand)(k k':IntKind)(a b:Int)(w:World):(eqGuard op t x y (.int k a) (.int k' b)).run P w = .ok () w:=by
 unfold eqGuard
 cases op<;>simp
theorem eqGuard_str (op:BinOp)(t:TypeId)(x y:Operand)(a b:ByteArray)(w:World):(eqGuard op t x y (.string a) (.string b)).run P w = .ok () w:=by
 unfold eqGuard
 cases op<;>simp
theorem eqGuard_bool (op:BinOp)(t:TypeId)(x y:Operand)(a b:Bool)(w:World):(eqGuard op t x y (.bool a) (.bool b)).run P w = .ok () w:=by
 unfold eqGuard
 cases op<;>simp
theorem rp_int {k:IntKind}{n:Int}{v:Value}(h:RD w X ρ H (.p (.int k n)) v):v = .int k n:=by unfold RD RP at h; exact h
theorem rp_bool {b:Bool}{v:Value}(h:RD w X ρ H (.p (.bool b)) v):v = .bool b:=by unfold RD RP at h; exact h
theorem rp_str {s:List UInt8}{v:Value}(h:RD w X ρ H (.p (.str s)) v):v = .string ⟨s.toArray⟩:=by unfold RD RP at h; exact h
theorem rd_int {k:IntKind}{n:Int}:RD w X ρ H (.p (.int k n)) (.int k n):=by unfold RD RP; rfl
theorem rd_bool {b:Bool}:RD w X ρ H (.p (.bool b)) (.bool b):=by unfold RD RP; rfl
theorem rd_str {s:List UInt8}:RD w X ρ H (.p (.str s)) (.string ⟨s.toArray⟩):=by unfold RD RP; rfl
theorem shift_int {op:BinOp}{k k':IntKind}{a b:Int}(t:TypeId)(h:(shiftI op k a b H).run M q K):Quiet P B w X ρ H K (binOp op t (.int k a) (.int k' b)):=by
 unfold shiftI at h
 split at h
 ·exact quiet_ok h.2 rd_int fun w' _=>by have:=h.1; simp [binOp,Op.shift,show ¬ b<0 by omega]
 ·exact quiet_ok h.2 rd_int fun w' _=>by have:=h.1; simp [binOp,Op.shift,show ¬ b<0 by omega]
 ·exact h.elim
theorem bin_int {op:BinOp}{k:IntKind}{a b:Int}(t:TypeId)(h:(binI op k a b H).run M q K):Quiet P B w X ρ H K (binOp op t (.int k a) (.int k b)):=by
 unfold binI at h
 split at h
 ·exact quiet_ok h rd_int fun w' _=>by simp [binOp,Op.intArith]
 ·exact quiet_ok h rd_int fun w' _=>by simp [binOp,Op.intArith]
 ·exact quiet_ok h rd_int fun w' _=>by simp [binOp,Op.intArith]
 ·exact quiet_ok h.2 rd_int fun w' _=>by simp [binOp,Op.intDiv,h.1]
 ·exact quiet_ok h.2 rd_int fun w' _=>by simp [binOp,Op.intDiv,h.1]
 ·exact quiet_ok h rd_bool fun w' _=>by simp [binOp,Op.intCmp]
 ·exact quiet_ok h rd_bool fun w' _=>by simp [binOp,Op.intCmp]
 ·exact quiet_ok h rd_bool fun w' _=>by simp [binOp,Op.intCmp]
 ·exact quiet_ok h rd_bool fun w' _=>by simp [binOp,Op.intCmp]
 ·exact quiet_ok h rd_bool fun w' _=>by simp [binOp,Op.intCmp]
 ·exact quiet_ok h rd_bool fun w' _=>by simp [binOp,Op.intCmp]
 ·exact quiet_ok h rd_int fun w' _=>by simp [binOp,Op.intBits,bitsV]
 ·exact quiet_ok h rd_int fun w' _=>by simp [binOp,Op.intBits,bitsV]
 ·exact quiet_ok h rd_int fun w' _=>by simp [binOp,Op.intBits,bitsV]
 ·exact shift_int t h
theorem bin_str {op:BinOp}{a b:List UInt8}(t:TypeId)(h:(binS op a b H).run M q K):Quiet P B w X ρ H K (binOp op t (.string ⟨a.toArray⟩) (.string ⟨b.toArray⟩)):=by
 have hl : ∀ l:List UInt8,(⟨l.toArray⟩:ByteArray).toList=l:=fun l=>by rw [ByteArray.toList_eq]<;>simp
 unfold binS at h
 split at h
 ·obtain ⟨h1,h2⟩:=h
  refine quiet_ok h2 rd_str fun w' _ => ?_
  have hm : ¬ (((⟨a.toArray⟩:ByteArray).size+(⟨b.toArray⟩:ByteArray).size:Nat):Int) > IntKind.i64.max:=by
   have e1:(⟨a.toArray⟩:ByteArray).size=a.length:=by simp [ByteArray.size]
   have e2:(⟨b.toArray⟩:ByteArray).size=b.length:=by simp [ByteArray.size]
   rw [e1,e2]
   have:IntKind.i64.max=9223372036854775807:=by decide
   omega
  have e3:(⟨a.toArray⟩:ByteArray)++⟨b.toArray⟩=⟨(a++b).toArray⟩:=by
   refine ByteArray.ext ?_
   simp
  simp only [binOp,Op.stringOp,if_neg hm,Sem.run_pure,e3]
 ·exact quiet_ok h rd_bool fun w' _=>by simp [binOp,Op.stringOp,hl]
 ·exact quiet_ok h rd_bool fun w' _=>by simp [binOp,Op.stringOp,hl]
 ·exact quiet_ok h rd_bool fun w' _=>by simp [binOp,Op.stringOp,hl]
 ·exact quiet_ok h rd_bool fun w' _=>by simp [binOp,Op.stringOp,hl]
 ·exact quiet_ok h rd_bool fun w' _=>by simp [binOp,Op.stringOp,hl]
 ·exact quiet_ok h rd_bool fun w' _=>by simp [binOp,Op.stringOp,hl]
 ·exact h.elim
theorem quiet_un {op:UnOp}{x:DV}{v:Value}(hx:RD w X ρ H x v)(h:(unR op x H).run M q K):Quiet P B w X ρ H K (Op.unary op v):=by
 unfold unR at h
 split at h
 ·have:=rp_int hx
  subst this
  exact quiet_ok h rd_int fun w' _=>by simp [Op.unary,Op.intArith]
 ·have:=rp_bool hx
  subst this
  exact quiet_ok h rd_bool fun w' _=>by simp [Op.unary]
 ·exact h.elim
theorem quiet_conv {s d:TypeId}{ds:TypeDesc}{k:IntKind}(hs:P.underlying s=some ds)(hd:P.underlying d=some (.int k)){x:DV}{v:Value}(hx:RD w X ρ H x v)(h:(convR k x H).run M q K) :
  Quiet P B w X ρ H K (convert s d v):=by
 unfold convR at h
 split at h
 ·have:=rp_int hx
  subst this
  refine quiet_ok h rd_int fun w' _ => ?_
  simp only [convert,Sem.run_bind,run_ul hs,run_ul hd,Result.andThen_ok]
  cases ds<;>simp [Conv.intToInt]
 ·exact h.elim
theorem quiet_move {d:DV}{v:Value}(hr:RD w X ρ H d v)(h:K d H):Quiet P B w X ρ H K (pure v):=⟨d,v,h,hr,fun _ _=>rfl⟩
theorem quiet_pick {c a b:DV}{vc va vb:Value}(hc:RD w X ρ H c vc)(ha:RD w X ρ H a va)(hb:RD w X ρ H b vb)(h:(pickR c a b H).run M q K) :
  Quiet P B w X ρ H K (do pure (if ← asBool vc then va else vb)):=by
 unfold pickR at h
 split at h
 ·have:=rp_bool hc
  subst this
  exact quiet_ok h ha fun w' _=>by simp [asBool]
 ·have:=rp_bool hc
  subst this
  exact quiet_ok h hb fun w' _=>by simp [asBool]
 ·exact h.elim
theorem quiet_lenS {t ty:TypeId}{x:DV}{v:Value}(ht:P.underlying t=some .string)(hx:RD w X ρ H x v)(h:(lenSR x H).run M q K):Quiet P B w X ρ H K (Builtin.len_ #[t] ty #[v]):=by
 unfold lenSR at h
 split at h
 ·rename_i s
  have:=rp_str hx
  subst this
  refine quiet_ok h rd_int fun w' _ => ?_
  have e:(⟨s.toArray⟩:ByteArray).size=s.length:=by simp [ByteArray.size]
  simp only [Builtin.len_,List.getElem?_toArray,List.getElem?_cons_zero,Sem.run_bind,run_ul ht,Result.andThen_ok,Sem.run_pure,goInt,e]
 ·exact h.elim
theorem quiet_min {tys:Array TypeId}{ty:TypeId}{x y:DV}{u v:Value}(hx:RD w X ρ H x u)(hy:RD w X ρ H y v)(h:(minR x y H).run M q K):Quiet P B w X ρ H K (Builtin.min_ tys ty #[u,v]):=by
 unfold minR at h
 split at h
 ·have:=rp_int hx
  subst this
  have:=rp_int hy
  subst this
  refine quiet_ok h rd_int fun w' _ => ?_
  simp only [Builtin.min_,List.foldlM_cons,List.foldlM_nil,Builtin.min2,Sem.run_bind,Sem.run_pure,Result.andThen_ok]
  congr 2
  split<;>omega
 ·exact h.elim
theorem quiet_max {tys:Array TypeId}{ty:TypeId}{x y:DV}{u v:Value}(hx:RD w X ρ H x u)(hy:RD w X ρ H y v)(h:(maxR x y H).run M q K):Quiet P B w X ρ H K (Builtin.max_ tys ty #[u,v]):=by
 unfold maxR at h
 split at h
 ·have:=rp_int hx
  subst this
  have:=rp_int hy
  subst this
  refine quiet_ok h rd_int fun w' _ => ?_
  simp only [Builtin.max_,List.foldlM_cons,List.foldlM_nil,Builtin.max2,Sem.run_bind,Sem.run_pure,Result.andThen_ok]
  congr 2
  split<;>omega
 ·exact h.elim
theorem quiet_len {t ty e:TypeId}{x:DV}{v:Value}(ht:P.underlying t=some (.slice e))(hx:RD w X ρ H x v)(h:(lenR x H).run M q K):Quiet P B w X ρ H K (Builtin.len_ #[t] ty #[v]):=by
 have key : ∀ A n c (w':World),(Builtin.len_ #[t] ty #[.slice A n c]).run P w' = .ok (.int .i64 n) w':=fun A n c w'=>by
  simp only [Builtin.len_,List.getElem?_toArray,List.getElem?_cons_zero,Sem.run_bind,run_ul ht,Result.andThen_ok,Sem.run_pure,goInt]
 unfold lenR at h
 split at h
 ·unfold RD RP at hx
  obtain ⟨A,c,hv,_⟩:=hx
  subst hv
  exact quiet_ok h rd_int fun w' _=>key _ _ _ _
 ·unfold RD at hx
  subst hx
  exact quiet_ok h rd_int fun w' _=>key _ _ _ _
 ·split at h
  ·rename_i hH
   unfold RD ownRel at hx
   simp only [hH] at hx
   obtain ⟨_,A,c,hv,_⟩:=hx
   subst hv
   exact quiet_ok h rd_int fun w' _=>key _ _ _ _
  ·rename_i hH
   unfold RD ownRel at hx
   simp only [hH] at hx
   obtain ⟨_,_,b,c,_,hv,_⟩:=hx
   subst hv
   exact quiet_ok h rd_int fun w' _=>key _ _ _ _
  ·exact h.elim
 ·exact h.elim
theorem run_loadAt {t:TypeId}{a:Addr}(w:World):(Instr.loadAt t (.pointer (some a))).run P w=(loadVar t a).run P w:=by
 simp [Instr.loadAt,Instr.sureAddr]
theorem quiet_load {t:TypeId}{g:Bool}{n:Nat}(hg:isAggP P t=some g)(hn:sizeP P t=some n)(h1:g=false→n=1)(hh:HRel w X ρ H){x:DV}{v:Value}(hx:RD w X ρ H x v)(h:(loadR g n x H).run M q K)
  (hB : ∀ b,¬ X b→B b) (hBp : ∀ i j f b,x = .ptr i j f → ρ[i]? = some (some b)→B b):Quiet P B w X ρ H K (Instr.loadAt t v):=by
 unfold loadR at h
 split at h
 ·rename_i k xs j f
  obtain ⟨e,y,he,hy,hK⟩:=h
  unfold RD at hx
  obtain ⟨b,o,hv,hb,hX,hr,hj⟩:=hx
  subst hv
  obtain ⟨vs,g1,g2,g3,g4⟩:=part_rel hr he hy h1
  refine ⟨_,_,hK,by unfold RD; exact g4,fun w' ha => ?_⟩
  rw [run_loadAt]
  exact run_lv hg hn g1 (fun i u hu=>ha.cell (hB _ hX) (g2 i u hu)) g3
 ·rename_i i j f
  split at h
  ·rename_i e k xs hH
   obtain ⟨el,y,he,hy,hK⟩:=h
   have hob:=hh.ob i _ hH
   unfold RD ptrRel at hx
   simp only [hH] at hx
   obtain ⟨hj,b,hρ,hv⟩:=hx
   subst hv
   obtain ⟨_,hob⟩:=hob
   rcases hob with ⟨_,hnil⟩|⟨b',cur,hρ',hcur,hsz,hr⟩
   ·subst hnil
    simp at hj
   ·rw [hρ] at hρ'
    injection hρ' with hρ'
    injection hρ' with hρ'
    subst hρ'
    obtain ⟨vs,g1,g2,g3,g4⟩:=part_rel hr he hy h1
    refine ⟨_,_,hK,by unfold RD; exact g4,fun w' ha => ?_⟩
    rw [run_loadAt]
    exact run_lv hg hn g1 (fun i u hu=>ha.cell (hBp _ _ _ _ rfl hρ) (by simpa using g2 i u hu)) g3
  ·rename_i e cs hH
   split at h
   ·rename_i hj
    cases hp:partD g f n cs with
    | none=>simp [hp,R.ofO,R.run] at h
    | some d =>
     simp only [hp,R.ofO,R.run] at h
     have hob:=hh.ob i _ hH
     unfold RD ptrRel at hx
     simp only [hH] at hx
     obtain ⟨b,hρ,hv⟩:=hx
     subst hv
     obtain ⟨b',cur,hρ',hcur,hr⟩:=hob
     rw [hρ] at hρ'
     injection hρ' with hρ'
     injection hρ' with hρ'
     subst hρ'
     obtain ⟨vs,g1,g2,g3,g4,_⟩:=partD_rel hr hp h1
     refine ⟨_,_,h,g4,fun w' ha => ?_⟩
     rw [run_loadAt]
     refine run_lv hg hn g1 (fun i u hu=>ha.cell (hBp _ _ _ _ rfl hρ) ?_) g3
     rw [cell_own hcur]
     simpa using g2 i u hu
   ·exact h.elim
  ·exact h.elim
 ·exact h.elim
theorem run_fieldAt {s:TypeId}{fs:Array Field}{f n:Nat}{fd:Field}(hs:P.underlying s=some (.struct fs))(hf:fs[f]? = some fd)(hn:sizeP P fd.type=some (n+1))(b o:Nat)(w:World) :
  (Instr.fieldAt s (.pointer (some ⟨b,o,none⟩)) f).run P w = .ok (.pointer (some ⟨b,o+fd.offset,none⟩)) w:=by
 simp only [Instr.fieldAt,Sem.run_bind,run_ul hs,Result.andThen_ok,hf,Instr.sureAddr,Sem.run_pure,fieldPlace,run_size hn,Nat.add_eq_zero_iff,Nat.one_ne_zero,and_false,if_false,add_mk]
theorem liveR_run {i:Nat}{r:R}(h:(liveR H i r).run M q K):r.run M q K∧(∃ ob,H[i]? = some ob∧ob.live=true):=by
 unfold liveR at h
 split at h
 ·rename_i hH; exact ⟨h,_,hH,rfl⟩
 ·rename_i hH; exact ⟨h,_,hH,rfl⟩
 ·exact h.elim
theorem quiet_faddr {s:TypeId}{fs:Array Field}{f n:Nat}{fd:Field}(hs:P.underlying s=some (.struct fs))(hf:fs[f]? = some fd)(hn:sizeP P fd.type=some (n+1)){x:DV}{v:Value}(hx:RD w X ρ H x v)(h:(faddrR fd.offset x H).run M q K) :
  Quiet P B w X ρ H K (Instr.fieldAt s v f):=by
 unfold faddrR at h
 split at h
 ·rename_i i j g
  obtain ⟨h,ob,hob,hlive⟩:=liveR_run h
  unfold RD ptrRel at hx
  split at hx
  ·rename_i e k xs hH
   obtain ⟨hj,b,hρ,hv⟩:=hx
   subst hv
   exact quiet_ok h (by unfold RD ptrRel; simp only [hH]; exact ⟨hj,b,hρ,rfl⟩) fun w' _=>by rw [run_fieldAt hs hf hn,Nat.add_assoc]
  ·rename_i e cs hH
   obtain ⟨b,hρ,hv⟩:=hx
   subst hv
   exact quiet_ok h (by unfold RD ptrRel; simp only [hH]; exact ⟨b,hρ,rfl⟩) fun w' _=>by rw [run_fieldAt hs hf hn]
  ·rename_i hH
   obtain ⟨b,hρ,hv⟩:=hx
   subst hv
   exact quiet_ok h (by unfold RD ptrRel; simp only [hH]; exact ⟨b,hρ,rfl⟩) fun w' _=>by rw [run_fieldAt hs hf hn]
  ·rename_i hH
   rw [hH] at hob
   injection hob with hob
   subst hob
   cases hlive
  ·exact hx.elim
 ·rename_i k xs j g
  unfold RD at hx
  obtain ⟨b,o,hv,hb,hX,hr,hj⟩:=hx
  subst hv
  exact quiet_ok h (by unfold RD; exact ⟨b,o,rfl,hb,hX,hr,hj⟩) fun w' _=>by rw [run_fieldAt hs hf hn,Nat.add_assoc (o+j * k)]
 ·exact h.elim
theorem quiet_shift {S:Value→Sem Value}{off:Nat}(hS : ∀ b o (w':World),(S (.pointer (some ⟨b,o,none⟩))).run P w' = .ok (.pointer (some ⟨b,o+off,none⟩)) w'){x:DV}{v:Value}(hx:RD w X ρ H x v)(h:(faddrR off x H).run M q K) :
  Quiet P B w X ρ H K (S v):=by
 unfold faddrR at h
 split at h
 ·rename_i i j g
  obtain ⟨h,ob,hob,hlive⟩:=liveR_run h
  unfold RD ptrRel at hx
  split at hx
  ·rename_i e k xs hH
   obtain ⟨hj,b,hρ,hv⟩:=hx
   subst hv
   exact quiet_ok h (by unfold RD ptrRel; simp only [hH]; exact ⟨hj,b,hρ,rfl⟩) fun w' _=>by rw [hS,Nat.add_assoc]
  ·rename_i e cs hH
   obtain ⟨b,hρ,hv⟩:=hx
   subst hv
   exact quiet_ok h (by unfold RD ptrRel; simp only [hH]; exact ⟨b,hρ,rfl⟩) fun w' _=>by rw [hS]
  ·rename_i hH
   obtain ⟨b,hρ,hv⟩:=hx
   subst hv
   exact quiet_ok h (by unfold RD ptrRel; simp only [hH]; exact ⟨b,hρ,rfl⟩) fun w' _=>by rw [hS]
  ·rename_i hH
   rw [hH] at hob
   injection hob with hob
   subst hob
   cases hlive
  ·exact hx.elim
 ·rename_i k xs j g
  unfold RD at hx
  obtain ⟨b,o,hv,hb,hX,hr,hj⟩:=hx
  subst hv
  exact quiet_ok h (by unfold RD; exact ⟨b,o,rfl,hb,hX,hr,hj⟩) fun w' _=>by rw [hS,Nat.add_assoc (o+j * k)]
 ·exact h.elim
theorem quiet_nil {x:DV}{v:Value}(hx:RD w X ρ H x v)(h:(nilR x H).run M q K):(∃ a,v = .pointer (some a))∧K x H:=by
 unfold nilR at h
 split at h
 ·rename_i i j f
  obtain ⟨h,ob,hob,hlive⟩:=liveR_run h
  refine ⟨?_,h⟩
  unfold RD ptrRel at hx
  split at hx
  ·obtain ⟨_,b,_,hv⟩:=hx; exact ⟨_,hv⟩
  ·obtain ⟨b,_,hv⟩:=hx; exact ⟨_,hv⟩
  ·obtain ⟨b,_,hv⟩:=hx; exact ⟨_,hv⟩
  ·rename_i hH
   rw [hH] at hob
   injection hob with hob
   subst hob
   cases hlive
  ·exact hx.elim
 ·unfold RD at hx
  obtain ⟨b,o,hv,_⟩:=hx
  exact ⟨⟨_,hv⟩,h⟩
 ·exact h.elim
theorem run_indexAt {t e:TypeId}{k:Nat}(ht:P.underlying t=some (.slice e))(hk:sizeP P e=some k)(b o len cap:Nat)(kd:IntKind)(n:Int)(h:0≤n∧n<len)(w:World) :
  (Instr.indexAt t (.slice (some ⟨b,o,none⟩) len cap) (.int kd n)).run P w = .ok (.pointer (some ⟨b,o+n.toNat * k,none⟩)) w:=by
 simp [Instr.indexAt,asIntOf,run_ul ht,run_size hk,h,add_mk]
theorem quiet_aaddr {t e:TypeId}{k len:Nat}(ht:P.underlying t=some (.array len e))(hk:sizeP P e=some k){x i:DV}{v vi:Value}(hx:RD w X ρ H x v)(hi:RD w X ρ H i vi)(h:(aaddrR k len x i H).run M q K) :
  Quiet P B w X ρ H K (Instr.indexAt t v vi):=by
 unfold aaddrR at h
 split at h
 ·rename_i kd n
  obtain ⟨hb,hK⟩:=h
  have:=rp_int hi
  subst this
  exact quiet_shift (S:=fun v=>Instr.indexAt t v (.int kd n)) (fun b o w'=>by simp [Instr.indexAt,asIntOf,run_ul ht,run_size hk,hb,add_mk,Instr.sureAddr]) hx hK
 ·exact h.elim
theorem quiet_iaddr {t e:TypeId}{k:Nat}(ht:P.underlying t=some (.slice e))(hk:sizeP P e=some k){x i:DV}{v vi:Value}(hx:RD w X ρ H x v)(hi:RD w X ρ H i vi)(h:(iaddrR k x i H).run M q K) :
  Quiet P B w X ρ H K (Instr.indexAt t v vi):=by
 unfold iaddrR at h
 split at h
 ·rename_i k' xs kd n
  split at h
  ·rename_i hkk
   subst hkk
   obtain ⟨hb,hK⟩:=h
   have:=rp_int hi
   subst this
   unfold RD RP at hx
   obtain ⟨A,c,hv,h1,h2,h3⟩:=hx
   subst hv
   have hne:xs≠[]:=fun e=>by subst e; simp at hb; omega
   obtain ⟨b,o,hA,hbl,hX,hr⟩:=h3 hne
   subst hA
   exact quiet_ok hK (by unfold RD; exact ⟨b,o,rfl,hbl,hX,hr,by omega⟩) fun w' _=>by rw [run_indexAt ht hk _ _ _ _ _ _ hb]; rfl
  ·exact h.elim
 ·rename_i id off len kd n
  split at h
  ·rename_i e' k' xs hH
   split at h
   ·rename_i hkk
    subst hkk
    obtain ⟨hb,hK⟩:=h
    have:=rp_int hi
    subst this
    unfold RD ownRel at hx
    simp only [hH] at hx
    obtain ⟨hle,A,c,hv,h1,h2,h3⟩:=hx
    subst hv
    rcases h3 with ⟨_,_,hc,_⟩|⟨b,cur,hρ,hcur,hsz,hA⟩
    ·omega
    ·have hA':=hA (.inl (by omega))
     subst hA'
     refine quiet_ok hK (by unfold RD ptrRel; simp only [hH]; exact ⟨by omega,b,hρ,rfl⟩) fun w' _ => ?_
     rw [run_indexAt ht hk _ _ _ _ _ _ hb]
     simp [Nat.add_mul]
   ·exact h.elim
  ·rename_i e' cs hH
   split at h
   ·rename_i hkk
    obtain ⟨hb,hK⟩:=h
    have:=rp_int hi
    subst this
    unfold RD ownRel at hx
    simp only [hH] at hx
    obtain ⟨_,_,b,c,hρ,hv,_⟩:=hx
    subst hv
    refine quiet_ok hK (by unfold RD ptrRel; simp only [hH]; exact ⟨b,hρ,rfl⟩) fun w' _ => ?_
    rw [run_indexAt ht hk _ _ _ _ _ _ hb]
    simp
   ·exact h.elim
  ·exact h.elim
 ·exact h.elim
theorem quiet_idx {t:TypeId}(ht:P.underlying t=some .string){x i:DV}{v vi:Value}(hx:RD w X ρ H x v)(hi:RD w X ρ H i vi)(h:(idxR x i H).run M q K) :
  Quiet P B w X ρ H K (Instr.index t v vi):=by
 unfold idxR at h
 split at h
 ·rename_i s kd n
  obtain ⟨hn,b,hb,hK⟩:=h
  have:=rp_str hx
  subst this
  have:=rp_int hi
  subst this
  refine ⟨_,_,hK,rd_int,fun w' _ => ?_⟩
  have hlt:n.toNat<s.length:=lt_of_get hb
  have e:(⟨s.toArray⟩:ByteArray)[n.toNat]? = some b:=by
   rw [← hb]
   have hsz:n.toNat<(⟨s.toArray⟩:ByteArray).size:=by simpa [ByteArray.size] using hlt
   rw [getElem?_pos _ n.toNat hsz,getElem?_pos s n.toNat hlt]
   rfl
  simp [Instr.index,asIntOf,run_ul ht,hn,e]
 ·exact h.elim
theorem quiet_ext {x:DV}{i:Nat}{v:Value}(hx:RD w X ρ H x v)(h:(extR x i H).run M q K):Quiet P B w X ρ H K (Instr.extract v i):=by
 unfold extR at h
 split at h
 ·rename_i ds
  cases hd:ds[i]? with
  | none=>simp [hd,R.ofO,R.run] at h
  | some d =>
   simp only [hd,R.ofO,R.run] at h
   unfold RD at hx
   obtain ⟨vs,hv,hr⟩:=hx
   subst hv
   obtain ⟨u,hu,hru⟩:=RDt_get hr hd
   refine ⟨d,u,h,hru,fun w' _ => ?_⟩
   simp [Instr.extract,hu]
 ·exact h.elim
theorem run_bounds {isS:Bool}{len cap:Nat}{lo hi:Option DV}{vlo vhi:Option Value}{f:Nat→Nat→DV}(hlc:len≤cap)
  (hlo : ∀ d,lo=some d → ∃ v,vlo=some v∧RD w X ρ H d v) (hlo0:lo=none→vlo=none) (hhi : ∀ d,hi=some d → ∃ v,vhi=some v∧RD w X ρ H d v) (hhi0:hi=none→vhi=none)
  (h:(boundsR len lo hi f H).run M q K) : ∃ a b,a≤b∧b≤len∧K (f a b) H ∧ ∀ w':World,(Instr.sliceBounds isS len cap vlo vhi none).run P w' = .ok (a,b,cap) w':=by
 unfold boundsR at h
 split at h
 ·rw [hlo0 rfl,hhi0 rfl]
  exact ⟨0,len,Nat.zero_le _,Nat.le_refl _,h,fun w'=>by simp [Instr.sliceBounds]⟩
 ·rename_i k a
  obtain ⟨v,hv,hr⟩:=hlo _ rfl
  have:=rp_int hr
  subst this
  rw [hv,hhi0 rfl]
  obtain ⟨hb,hK⟩:=h
  exact ⟨a.toNat,len,by omega,Nat.le_refl _,hK,fun w'=>by simp [Instr.sliceBounds,Instr.sliceBound,asIntOf,hb]⟩
 ·rename_i k b
  obtain ⟨v,hv,hr⟩:=hhi _ rfl
  have:=rp_int hr
  subst this
  rw [hv,hlo0 rfl]
  obtain ⟨hb,hK⟩:=h
  have hb':b≤(cap:Int):=by omega
  exact ⟨0,b.toNat,Nat.zero_le _,by omega,hK,fun w'=>by simp [Instr.sliceBounds,Instr.sliceBound,asIntOf,hb.1,hb']⟩
 ·rename_i k a k' b
  obtain ⟨v,hv,hr⟩:=hlo _ rfl
  have:=rp_int hr
  subst this
  obtain ⟨v',hv',hr'⟩:=hhi _ rfl
  have:=rp_int hr'
  subst this
  rw [hv,hv']
  obtain ⟨hb,hK⟩:=h
  have h1:0≤b∧b≤(cap:Int):=by omega
  have h2:0≤a∧a≤(b.toNat:Int):=by omega
  exact ⟨a.toNat,b.toNat,by omega,by omega,hK,fun w'=>by simp only [Instr.sliceBounds,Instr.sliceBound,asIntOf,Sem.run_bind,Sem.run_pure,Result.andThen_ok,Sem.run_ite,if_pos h1,if_pos h2]⟩
 ·exact h.elim
theorem evO_none {env:Env}{x:Option Xp}(h:evO env x=none):x=none:=by
 cases x with
 | none=>rfl
 | some x=>simp [evO] at h
theorem opt_rel {env:Env}{a:Act}(he:EnvR w X ρ H env a.tmps){x:Option Operand}{y:Option Xp}(h:optX x=some y) :
  (∀ d,evO env y=some d → ∃ v,x.map a.eval=some v∧RD w X ρ H d v)∧(evO env y=none→x.map a.eval=none):=by
 cases x with
 | none =>
  simp [optX] at h
  subst h
  exact ⟨fun d hd=>by simp [evO] at hd,fun _=>rfl⟩
 | some x =>
  simp only [optX,Option.map_eq_some_iff] at h
  obtain ⟨y',hy,rfl⟩:=h
  refine ⟨fun d hd => ?_,fun hn=>by simp [evO] at hn⟩
  simp [evO] at hd
  subst hd
  exact ⟨_,rfl,compX_rel he hy⟩
theorem quiet_slcS {t:TypeId}(ht:P.underlying t=some .string){x:DV}{v:Value}{lo hi:Option DV}{vlo vhi:Option Value}(hx:RD w X ρ H x v)
  (hlo : ∀ d,lo=some d → ∃ v,vlo=some v∧RD w X ρ H d v) (hlo0:lo=none→vlo=none) (hhi : ∀ d,hi=some d → ∃ v,vhi=some v∧RD w X ρ H d v) (hhi0:hi=none→vhi=none)
  (h:(slcSR x lo hi H).run M q K):Quiet P B w X ρ H K (Instr.sliceAt t v vlo vhi none):=by
 unfold slcSR at h
 split at h
 ·rename_i s
  have:=rp_str hx
  subst this
  obtain ⟨a,b,hab,hbl,hK,hrun⟩:=run_bounds (P:=P) (isS:=false) (Nat.le_refl _) hlo hlo0 hhi hhi0 h
  have e:(⟨s.toArray⟩:ByteArray).size=s.length:=by simp [ByteArray.size]
  refine ⟨_,_,hK,rd_str,fun w' _ => ?_⟩
  have e2:(⟨s.toArray⟩:ByteArray).extract a b=⟨(cutL s a b).toArray⟩:=by
   refine ByteArray.ext ?_
   simp [cutL,ByteArray.data_extract]
  simp only [Instr.sliceAt,Sem.run_bind,run_ul ht,Result.andThen_ok,Instr.slice,Option.isSome_none,Bool.false_eq_true,if_false,Sem.run_pure,e,hrun,e2]
 ·exact h.elim
theorem quiet_slc {t e:TypeId}{k:Nat}(ht:P.underlying t=some (.slice e))(hk:sizeP P e=some k){x:DV}{v:Value}{lo hi:Option DV}{vlo vhi:Option Value}(hx:RD w X ρ H x v)
  (hlo : ∀ d,lo=some d → ∃ v,vlo=some v∧RD w X ρ H d v) (hlo0:lo=none→vlo=none) (hhi : ∀ d,hi=some d → ∃ v,vhi=some v∧RD w X ρ H d v) (hhi0:hi=none→vhi=none)
  (h:(slcR k x lo hi H).run M q K):Quiet P B w X ρ H K (Instr.sliceAt t v vlo vhi none):=by
 have key : ∀ (A:Option Addr) (len cap a b:Nat) (w':World),(Instr.sliceBounds true len cap vlo vhi none).run P w' = .ok (a,b,cap) w' →
   (Instr.sliceAt t (.slice A len cap) vlo vhi none).run P w' = .ok (.slice (if cap=a then A else A.map (·.add (a * k))) (b - a) (cap - a)) w':=fun A len cap a b w' hr=>by
  simp only [Instr.sliceAt,Sem.run_bind,run_ul ht,Result.andThen_ok,Instr.slice,hr,run_size hk,Sem.run_pure]
 unfold slcR at h
 split at h
 ·rename_i k' xs
  split at h
  ·rename_i hkk
   subst hkk
   unfold RD RP at hx
   obtain ⟨A,c,hv,h1,h2,h3⟩:=hx
   subst hv
   obtain ⟨a,b,hab,hbl,hK,hrun⟩:=run_bounds (P:=P) (isS:=true) h1 hlo hlo0 hhi hhi0 h
   refine ⟨_,_,hK,?_,fun w' _=>key A _ c a b w' (hrun w')⟩
   have hlen:(cutL xs a b).length=b - a:=by simp [cutL]; omega
   unfold RD RP
   rw [hlen]
   refine ⟨_,_,rfl,by omega,by omega,fun hne => ?_⟩
   have hba:0<b - a:=by
    rcases Nat.eq_zero_or_pos (b - a) with h0|h0
    ·exact absurd (List.eq_nil_of_length_eq_zero (by rw [hlen,h0])) hne
    ·exact h0
   have hne':xs≠[]:=fun e=>by subst e; simp at hbl; omega
   obtain ⟨bb,o,hA,hbb,hX,hr⟩:=h3 hne'
   subst hA
   rw [if_neg (by omega)]
   exact ⟨bb,o+a * k,by simp [add_mk],hbb,hX,RRow_take (RRow_drop hr)⟩
  ·exact h.elim
 ·rename_i i off len
  split at h
  ·rename_i e' k' xs hH
   split at h
   ·rename_i hkk
    subst hkk
    unfold RD ownRel at hx
    simp only [hH] at hx
    obtain ⟨hle,A,c,hv,h1,h2,h3⟩:=hx
    subst hv
    obtain ⟨a,b,hab,hbl,hK,hrun⟩:=run_bounds (P:=P) (isS:=true) h1 hlo hlo0 hhi hhi0 h
    refine ⟨_,_,hK,?_,fun w' _=>key A _ c a b w' (hrun w')⟩
    unfold RD ownRel
    simp only [hH]
    refine ⟨by omega,_,_,rfl,by omega,by omega,?_⟩
    rcases h3 with ⟨hρ,hA,hc,ho⟩|⟨bb,cur,hρ,hcur,hsz,hA⟩
    ·subst hA
     subst hc
     have ha0:a=0:=by omega
     subst ha0
     exact .inl ⟨hρ,by simp,by omega,by omega⟩
    ·refine .inr ⟨bb,cur,hρ,hcur,by rw [← hsz]; congr 1; omega,fun hor => ?_⟩
     by_cases hca:c=a
     ·have ha:a=0:=by omega
      subst ha
      rw [if_pos hca,hA (by omega)]
      simp
     ·rw [if_neg hca,hA (.inl (by omega))]
      simp [add_mk,Nat.add_mul]
   ·exact h.elim
  ·exact h.elim
 ·exact h.elim
theorem run_partD {w:World}{s:TypeId}{g:Bool}{n off:Nat}(hg:isAggP P s=some g)(hn:sizeP P s=some n)(h1:g=false→n=1){cs:List DV}{cur:Array Value}{d:DV}
  (hr:RDs w X ρ H cs cur.toList) (hp:partD g off n cs=some d) : ∃ v,RD w X ρ H d v ∧ ∀ w':World,(part s cur off).run P w' = .ok v w':=by
 obtain ⟨vs,g1,g2,g3,g4,g5⟩:=partD_rel hr hp h1
 refine ⟨_,g4,fun w' => ?_⟩
 simp only [run_part hg hn]
 cases g with
 | true =>
  simp only [if_true]
  rw [g5 rfl]
  congr 2
  refine Array.ext' ?_
  simp [Array.toList_extract]
 | false =>
  obtain ⟨u,rfl⟩:=g3 rfl
  have:=g2 0 u rfl
  simp at this
  simp [this]
theorem quiet_fld {s:TypeId}{fs:Array Field}{f n:Nat}{fd:Field}{g:Bool}(hs:P.underlying s=some (.struct fs))(hf:fs[f]? = some fd)(hg:isAggP P fd.type=some g)(hn:sizeP P fd.type=some n)(h1:g=false→n=1)
  {x:DV} {v:Value} (hx:RD w X ρ H x v) (h:(fldR g fd.offset n x H).run M q K):Quiet P B w X ρ H K (Instr.field s v f):=by
 have key : ∀ (cs:List DV) (cur:Array Value),v = .agg cur→RDs w X ρ H cs cur.toList→(R.ofO H (partD g fd.offset n cs)).run M q K→Quiet P B w X ρ H K (Instr.field s v f):=fun cs cur hv hr h=>by
  subst hv
  cases hp:partD g fd.offset n cs with
  | none=>simp [hp,R.ofO,R.run] at h
  | some d =>
   simp only [hp,R.ofO,R.run] at h
   obtain ⟨u,hu,hrun⟩:=run_partD (P:=P) hg hn h1 hr hp
   exact ⟨d,u,h,hu,fun w' _=>by simp only [Instr.field,Sem.run_bind,run_ul hs,Result.andThen_ok,hf,asAgg,Sem.run_pure,hrun]⟩
 unfold fldR at h
 split at h
 ·rename_i cs
  unfold RD RP at hx
  obtain ⟨vs,hv,hr⟩:=hx
  exact key _ _ hv (by simpa using RDs_of_RPs hr) h
 ·unfold RD at hx
  obtain ⟨vs,hv,hr⟩:=hx
  exact key _ _ hv (by simpa using hr) h
 ·exact h.elim
theorem quiet_idxA {t e:TypeId}{len k:Nat}{g:Bool}(ht:P.underlying t=some (.array len e))(hg:isAggP P e=some g)(hk:sizeP P e=some k)(h1:g=false→k=1)
  {x i:DV} {v vi:Value} (hx:RD w X ρ H x v) (hi:RD w X ρ H i vi) (h:(idxAR g k len x i H).run M q K):Quiet P B w X ρ H K (Instr.index t v vi):=by
 unfold idxAR at h
 split at h
 ·rename_i kd n
  have:=rp_int hi
  subst this
  have key : ∀ (cs:List DV) (cur:Array Value),v = .agg cur→RDs w X ρ H cs cur.toList→(R.need (0≤n∧n<len) (.ofO H (partD g (n.toNat * k) k cs))).run M q K→Quiet P B w X ρ H K (Instr.index t v (.int kd n)):=fun cs cur hv hr h=>by
   subst hv
   obtain ⟨hb,h⟩:=h
   cases hp:partD g (n.toNat * k) k cs with
   | none=>simp [hp,R.ofO,R.run] at h
   | some d =>
    simp only [hp,R.ofO,R.run] at h
    obtain ⟨u,hu,hrun⟩:=run_partD (P:=P) hg hk h1 hr hp
    exact ⟨d,u,h,hu,fun w' _=>by simp only [Instr.index,asIntOf,Sem.run_bind,run_ul ht,Result.andThen_ok,Sem.run_ite,if_pos hb,run_size hk,Sem.run_pure,hrun]⟩
  split at h
  ·rename_i cs
   unfold RD RP at hx
   obtain ⟨vs,hv,hr⟩:=hx
   exact key _ _ hv (by simpa using RDs_of_RPs hr) h
  ·unfold RD at hx
   obtain ⟨vs,hv,hr⟩:=hx
   exact key _ _ hv (by simpa using hr) h
  ·exact h.elim
 ·exact h.elim
theorem setL_length {α : Type} : ∀ (l:List α) (n:Nat) (a : α),(setL l n a).length=l.length
 | [],_,_=>rfl
 | _::_,0,_=>rfl
 | _::l,n+1,a=>by simp [setL,setL_length l n a]
theorem setL_get {α : Type} : ∀ (l:List α) (n:Nat) (a : α) (j:Nat),(setL l n a)[j]? = if j=n∧n<l.length then some a else l[j]?
 | [],n,a,j=>by simp [setL]
 | x::l,0,a,j=>by cases j<;>simp [setL]
 | x::l,n+1,a,j=>by
  cases j with
  | zero=>simp [setL]
  | succ j=>simp [setL,setL_get l n a j]
theorem setL_eq_set {α : Type}(l:List α)(n:Nat)(a : α):setL l n a=l.set n a:=by
 refine List.ext_getElem? ?_
 intro j
 rw [setL_get,List.getElem?_set]
 by_cases h:n=j
 ·subst h
  by_cases h2:n<l.length<;>simp [h2]
 ·simp [h,Ne.symm h]
theorem setCells_length {α : Type} : ∀ (cs:List α) (l:List α) (o:Nat),(setCells l o cs).length=l.length
 | [],l,o=>rfl
 | c::cs,l,o=>by simp [setCells,setCells_length cs,setL_length]
theorem setCells_get {α : Type} : ∀ (cs:List α) (l:List α) (o j:Nat),(setCells l o cs)[j]? = if o≤j∧j<o+cs.length∧j<l.length then cs[j - o]? else l[j]?
 | [],l,o,j=>by simp [setCells]; omega
 | c::cs,l,o,j=>by
  simp only [setCells,setCells_get cs,setL_length,setL_get,List.length_cons]
  by_cases h1:o+1≤j∧j<o+1+cs.length∧j<l.length
  ·rw [if_pos h1,if_pos (by omega)]
   obtain ⟨m,rfl⟩ : ∃ m,j=o+1+m:=⟨j - (o+1),by omega⟩
   rw [show o+1+m - (o+1)=m from by omega,show o+1+m - o=m+1 from by omega]
   rfl
  ·rw [if_neg h1]
   by_cases h2:j=o∧o<l.length
   ·rw [if_pos h2,if_pos (by omega),h2.1]
    simp
   ·rw [if_neg h2,if_neg (by omega)]
theorem RDs_setCells {cs ds:List DV}{cur us:List Value}{o:Nat}(h:RDs w X ρ H cs cur)(h2:RDs w X ρ H ds us):RDs w X ρ H (setCells cs o ds) (setCells cur o us):=by
 have l1:=RDs_length h
 have l2:=RDs_length h2
 refine RDs_of_get (by simp [setCells_length,l1]) fun j d hd => ?_
 rw [setCells_get] at hd ⊢
 rw [l1,l2]
 split at hd
 ·rename_i hc
  rw [if_pos hc]
  exact RDs_get h2 hd
 ·rename_i hc
  rw [if_neg hc]
  exact RDs_get h hd
theorem foldl_setCells : ∀ (cs:List Value) (off:Nat) (base:Array Value) (k:Nat),((cs.zipIdx k).foldl (fun a (c,j)=>a.setIfInBounds (off+j) c) base).toList=setCells base.toList (off+k) cs
 | [],_,_,_=>rfl
 | c::cs,off,base,k=>by
  simp only [List.zipIdx_cons,List.foldl_cons,setCells]
  rw [foldl_setCells cs off _ (k+1)]
  simp [setL_eq_set,Nat.add_assoc]
theorem places_get : ∀ {fs:List Field} {pl:List (Nat × Nat)} {i:Nat},places P fs=some pl→(∀ o n,pl[i]? = some (o,n) → ∃ fd,fs[i]? = some fd∧fd.offset=o∧sizeP P fd.type=some n)∧pl.length=fs.length
 | [],pl,i,h=>by simp [places] at h; subst h; simp
 | f::fs,pl,i,h=>by
  simp only [places] at h
  cases h1:sizeP P f.type with
  | none=>simp [h1] at h
  | some n =>
   cases h2:places P fs with
   | none=>simp [h1,h2] at h
   | some r =>
    simp [h1,h2] at h
    subst h
    refine ⟨fun o m hg => ?_,by simp [(places_get (i:=0) h2).2]⟩
    cases i with
    | zero=>simp at hg; exact ⟨f,rfl,hg.1,by rw [h1,hg.2]⟩
    | succ i=>simpa using (places_get (i:=i) h2).1 o m (by simpa using hg)
end
end Go.Dv
namespace Go.Dv
section
variable {P:Program} {w:World} {X:Nat→Prop} {ρ : Rho} {H:Heap} {M:Md} {q:Bool} {K:DV→Heap→Prop}
theorem zipIdx_fold (v base:Array Value)(off:Nat):(v.zipIdx.foldl (fun cs (c,j)=>cs.setIfInBounds (off+j) c) base).toList=setCells base.toList off v.toList:=by
 rw [← Array.foldl_toList,Array.toList_zipIdx]
 simpa using foldl_setCells v.toList off base 0
theorem fill_rel (place:Nat→Option (Nat × Nat)){env:Env}{a:Act}(he:EnvR w X ρ H env a.tmps) : ∀ (ps:List (Nat × Operand)) (rs:List (Nat × Nat × Xp)) (z:List DV) (cur:Array Value),compParts place ps=some rs→RDs w X ρ H z cur.toList →
  (bldR H z (evParts env rs)).run M q K → ∃ cur' z',Instr.fill place cur (ps.map fun (i,x)=>(i,a.eval x))=some cur'∧RDs w X ρ H z' cur'.toList∧K (.agg z') H
 | [],rs,z,cur,hc,hz,h=>by
  simp [compParts] at hc
  subst hc
  exact ⟨cur,z,rfl,hz,h⟩
 | (i,x)::ps,rs,z,cur,hc,hz,h=>by
  simp only [compParts] at hc
  cases hp:place i with
  | none=>simp [hp] at hc
  | some on =>
   obtain ⟨o,n⟩:=on
   cases hx:compX x with
   | none=>simp [hp,hx] at hc
   | some y =>
    cases hr:compParts place ps with
    | none=>simp [hp,hx,hr] at hc
    | some r =>
     simp [hp,hx,hr] at hc
     subst hc
     simp only [evParts,bldR] at h
     cases hcd:cellsD (ev env y) with
     | none=>simp [hcd,R.run] at h
     | some cs =>
      simp only [hcd] at h
      split at h
      ·rename_i hcond
       have hre:=cellsD_rel hcd (compX_rel he hx)
       have l1:=RDs_length hre
       have l2:=RDs_length hz
       have hsz:(a.eval x).cells.size=n:=by rw [← hcond.1,← l1]; simp
       obtain ⟨cur',z',h1,h2,h3⟩:=fill_rel place he ps r (setCells z o cs) ((a.eval x).cells.zipIdx.foldl (fun cs (c,j)=>cs.setIfInBounds (o+j) c) cur) hr (by rw [zipIdx_fold]; exact RDs_setCells hz hre) h
       refine ⟨cur',z',?_,h2,h3⟩
       simp only [List.map_cons,Instr.fill,hp]
       rw [if_neg]
       ·exact h1
       ·simp only [Bool.or_eq_true,decide_eq_true_eq,ne_eq,not_or,Decidable.not_not]
        simp at l2
        omega
      ·exact h.elim
theorem mapM_places {fs:List Field}{pl:List (Nat × Nat)}(h:places P fs=some pl)(w':World):(fs.mapM fun f=>(do pure (f.offset,← sizeOf f.type):Sem (Nat × Nat))).run P w' = .ok pl w':=by
 induction fs generalizing pl with
 | nil=>simp [places] at h; subst h; simp
 | cons f fs ih =>
  simp only [places] at h
  cases h1:sizeP P f.type with
  | none=>simp [h1] at h
  | some n =>
   cases h2:places P fs with
   | none=>simp [h1,h2] at h
   | some r =>
    simp [h1,h2] at h
    subst h
    simp only [List.mapM_cons,Sem.run_bind,run_size h1,Result.andThen_ok,Sem.run_pure,ih h2]
theorem quiet_bld {t:TypeId}{z:List DV}{ps:Array (Nat × Operand)}{rs:List (Nat × Nat × Xp)}{env:Env}{a:Act}(he:EnvR w X ρ H env a.tmps)(hz:zeroP P t=some z)
  (hp:(∃ fs pl,P.underlying t=some (.struct fs)∧places P fs.toList=some pl∧compParts (fun i=>pl[i]?) ps.toList=some rs) ∨
   (∃ n e k,P.underlying t=some (.array n e)∧sizeP P e=some k∧compParts (fun i=>some (i * k,k)) ps.toList=some rs))
  {B:Nat→Prop} (h:(bldR H z (evParts env rs)).run M q K):Quiet P B w X ρ H K (Instr.build t (ps.map fun (i,x)=>(i,a.eval x))):=by
 obtain ⟨zv,hzr,hzd⟩:=run_zero hz w
 have hzr' : ∀ w':World,(zeroValue t).run P w' = .ok zv w':=fun w'=>by
  obtain ⟨v',h1,h2⟩:=run_zero hz w'
  have:v'=zv:=by
   unfold zeroP at hz
   cases hi:P.info? t with
   | none=>simp [hi] at hz
   | some i =>
    cases hzz:i.zero with
    | none=>simp [hi,hzz] at hz
    | some u =>
     simp [zeroValue,run_ti hi,hzz] at h1 hzr
     rw [← h1,← hzr]
  rw [h1,this]
 have hzrel:RDs w X ρ H z zv.cells.toList:=dvOfs_rel hzd
 rcases hp with ⟨fs,pl,ht,hpl,hc⟩|⟨n,e,k,ht,hk,hc⟩
 ·obtain ⟨cur',z',h1,h2,h3⟩:=fill_rel _ he _ _ z zv.cells hc hzrel h
  refine ⟨_,.agg cur',h3,by unfold RD; exact ⟨cur'.toList,by simp,h2⟩,fun w' _ => ?_⟩
  have hm:(fs.mapM fun f=>(do pure (f.offset,← sizeOf f.type):Sem (Nat × Nat))).run P w' = .ok pl.toArray w':=by
   have:=mapM_places hpl w'
   rw [Array.mapM_eq_mapM_toList]
   simp only [Sem.run_map,this,Result.andThen_ok]
  simp only [Instr.build,Sem.run_bind,hzr',Result.andThen_ok,run_ul ht,hm]
  have hpe:(fun x:Nat=>pl.toArray[x]?)=fun i:Nat=>pl[i]? := by funext i; simp
  simp only [hpe,Array.toList_map,h1,Sem.run_pure]
 ·obtain ⟨cur',z',h1,h2,h3⟩:=fill_rel _ he _ _ z zv.cells hc hzrel h
  refine ⟨_,.agg cur',h3,by unfold RD; exact ⟨cur'.toList,by simp,h2⟩,fun w' _ => ?_⟩
  simp only [Instr.build,Sem.run_bind,hzr',Result.andThen_ok,run_ul ht,run_size hk,Array.toList_map,h1,Sem.run_pure]
end
structure Cx where
 w0:World
 O0:Nat→Prop
 ρ0:Rho
 H0:Heap
def Cx.X (c:Cx)(ρ : Rho)(H:Heap):Nat→Prop:=fun b=>c.O0 b∨ownB ρ H b
structure Keep (c:Cx) (ρ : Rho) (H:Heap) (w:World):Prop where
 os:w.os=c.w0.os
 tape:w.tape=c.w0.tape
 output:w.output=c.w0.output
 size:c.w0.heap.size≤w.heap.size
 keep : ∀ b,b<c.w0.heap.size → ¬ ownB c.ρ0 c.H0 b→w.heap[b]? = c.w0.heap[b]? ∧ ¬ ownB ρ H b
structure StR (c:Cx) (ρ : Rho) (env:Env) (H:Heap) (tmps:Array Value) (w:World):Prop where
 h:HRel w (c.X ρ H) ρ H
 e:EnvR w (c.X ρ H) ρ H env tmps
 k:Keep c ρ H w
 s:HStep c.w0 c.ρ0 c.H0 w ρ H
 o : ∀ b,c.O0 b→b<c.w0.heap.size ∧ ¬ ownB c.ρ0 c.H0 b
theorem HStep.trans {w1 ρ1 H1 w2 ρ2 H2 w3 ρ3 H3}(h:HStep w1 ρ1 H1 w2 ρ2 H2)(k:HStep w2 ρ2 H2 w3 ρ3 H3)(hl:H1.length≤H2.length):HStep w1 ρ1 H1 w3 ρ3 H3 where
 rho i hi:=(k.rho i (by omega)).trans (h.rho i hi)
 dead i hi:=k.dead i (h.dead i hi)
 arr i e kk xs hi:=by
  rcases h.arr i e kk xs hi with h1|⟨xs',h1,h2,h3⟩
  ·exact .inl (k.dead i h1)
  ·rcases k.arr i e kk xs' h1 with g1|⟨xs'',g1,g2,g3⟩
   ·exact .inl g1
   ·refine .inr ⟨xs'',g1,by omega,fun b cur hb hc => ?_⟩
    obtain ⟨cur',e1,e2⟩:=h3 b cur hb hc
    obtain ⟨cur'',f1,f2⟩:=g3 b cur' (by rw [h.rho i (lt_of_get hi)]; exact hb) e1
    exact ⟨cur'',f1,f2.trans e2⟩
 box i e cs hi:=by
  rcases h.box i e cs hi with h1|⟨cs',h1⟩
  ·exact .inl (k.dead i h1)
  ·rcases k.box i e cs' h1 with g1|⟨cs'',g1⟩
   ·exact .inl g1
   ·exact .inr ⟨cs'',g1⟩
 iter i s p hi:=by
  rcases h.iter i s p hi with h1|⟨p',h1⟩
  ·exact .inl (k.dead i h1)
  ·exact k.iter i s p' h1
theorem HStep.refl (w:World)(ρ : Rho)(H:Heap):HStep w ρ H w ρ H where
 rho _ _:=rfl
 dead _ h:=h
 arr _ _ _ xs h := .inr ⟨xs,h,Nat.le_refl _,fun _ cur _ hc=>⟨cur,hc,rfl⟩⟩
 box _ _ cs h := .inr ⟨cs,h⟩
 iter _ _ p h := .inr ⟨p,h⟩
theorem StR.next {c:Cx}{ρ ρ':Rho}{env:Env}{H H':Heap}{tmps:Array Value}{w w':World}(st:StR c ρ env H tmps w)
  (hos:w'.os=w.os) (htape:w'.tape=w.tape) (hout:w'.output=w.output) (hsz:w.heap.size≤w'.heap.size)
  (hk : ∀ b,b<w.heap.size → ¬ ownB ρ H b→w'.heap[b]? = w.heap[b]? ∧ ¬ ownB ρ' H' b)
  (hs:HStep w ρ H w' ρ' H') (hl:c.H0.length≤H.length) (hr:Pres w (c.X ρ H) w' (c.X ρ' H')→HRel w' (c.X ρ' H') ρ' H'):StR c ρ' env H' tmps w':=by
 have hp:Pres w (c.X ρ H) w' (c.X ρ' H'):=⟨hsz,fun b hb hx=>by
  obtain ⟨e,n⟩:=hk b hb fun h=>hx (.inr h)
  exact ⟨e,fun h=>h.elim (fun h=>hx (.inl h)) n⟩⟩
 refine ⟨hr hp,fun n=>RD_mono hp hs _ _ (st.e n),⟨hos.trans st.k.os,htape.trans st.k.tape,hout.trans st.k.output,Nat.le_trans st.k.size hsz,fun b hb h0 => ?_⟩,st.s.trans hs hl,st.o⟩
 obtain ⟨e,n⟩:=st.k.keep b hb h0
 obtain ⟨e',n'⟩:=hk b (Nat.lt_of_lt_of_le hb st.k.size) n
 exact ⟨e'.trans e,n'⟩
theorem StR.lenH0 {c ρ env H tmps w}(st:StR c ρ env H tmps w):c.H0.length≤H.length:=by
 rcases Nat.lt_or_ge H.length c.H0.length with h|h
 ·have hlt:H.length<c.H0.length:=h
  have hg:=List.getElem?_eq_getElem hlt
  have hn:H[H.length]? = none:=by simp
  cases hob:c.H0[H.length] with
  | dead =>
   rw [hob] at hg
   have:=st.s.dead _ hg
   rw [hn] at this
   cases this
  | arr e k xs =>
   rw [hob] at hg
   rcases st.s.arr _ _ _ _ hg with h'|⟨_,h',_⟩<;>rw [hn] at h'<;>cases h'
  | box e cs =>
   rw [hob] at hg
   rcases st.s.box _ _ _ hg with h'|⟨_,h'⟩<;>rw [hn] at h'<;>cases h'
  | iter s p =>
   rw [hob] at hg
   rcases st.s.iter _ _ _ hg with h'|⟨_,h'⟩<;>rw [hn] at h'<;>cases h'
 ·exact h
section
variable {c:Cx} {ρ : Rho} {env:Env} {H:Heap} {tmps:Array Value} {w w':World}
theorem obRel_mono {X X':Nat→Prop}{ρ':Rho}{H':Heap}{i:Nat}{ob:OB}(hp:Pres w X w' X')(hs:HStep w ρ H w' ρ' H')(hρ : ρ'[i]? = ρ[i]?)(hb:ob.live=true → ∀ b,ρ[i]? = some (some b)→w'.heap[b]? = w.heap[b]?)
  (h:obRel w X ρ H i ob):obRel w' X' ρ' H' i ob:=by
 cases ob with
 | dead=>trivial
 | arr e k xs =>
  obtain ⟨hk,h⟩:=h
  refine ⟨hk,?_⟩
  rw [hρ]
  rcases h with h|⟨b,cur,h1,h2,h3,h4⟩
  ·exact .inl h
  ·have e:=hb rfl b h1
   exact .inr ⟨b,cur,h1,e.trans h2,h3,RRow_mono hp k b e 0 xs h4⟩
 | box e cs =>
  obtain ⟨b,cur,h1,h2,h3⟩:=h
  exact ⟨b,cur,hρ.trans h1,(hb rfl b h1).trans h2,RDs_mono hp hs _ _ h3⟩
 | iter s p =>
  obtain ⟨b,h1,h2⟩:=h
  exact ⟨b,hρ.trans h1,(hb rfl b h1).trans h2⟩
theorem live_dead {ob:OB}(h:ob.live=true):ob ≠ .dead:=by
 rintro rfl
 cases h
theorem own_lt (st:StR c ρ env H tmps w){i b:Nat}{ob:OB}(h:H[i]? = some ob)(hl:ob.live=true)(hρ : ρ[i]? = some (some b)):b<w.heap.size:=by
 cases ob with
 | dead=>cases hl
 | arr e k xs =>
  obtain ⟨_,h⟩:=st.h.ob i _ h
  rcases h with ⟨h,_⟩|⟨b',cur,k1,k2,_⟩
  ·rw [h] at hρ; cases hρ
  ·rw [k1] at hρ
   injection hρ with hρ
   injection hρ with hρ
   subst hρ
   exact (Array.getElem?_eq_some_iff.1 k2).1
 | box e cs =>
  obtain ⟨b',cur,k1,k2,_⟩:=st.h.ob i _ h
  rw [k1] at hρ
  injection hρ with hρ
  injection hρ with hρ
  subst hρ
  exact (Array.getElem?_eq_some_iff.1 k2).1
 | iter s p =>
  obtain ⟨b',k1,k2⟩:=st.h.ob i _ h
  rw [k1] at hρ
  injection hρ with hρ
  injection hρ with hρ
  subst hρ
  exact (Array.getElem?_eq_some_iff.1 k2).1
theorem StR.app (st:StR c ρ env H tmps w){i:Nat}{r:Option Nat}(hr : ∀ b,r=some b → ∃ ob,H[i]? = some ob∧ob.live=true ∧ ρ[i]? = some (some b))(hg:w.grownBy w' r)
  {g:Option Nat} (hgg : ∀ b,g=some b→(r=some b∨w.heap.size≤b)) {ob:OB}
  (hob:Pres w (c.X ρ H) w' (c.X (ρ ++ [g]) (setL H i .dead++[ob]))→HStep w ρ H w' (ρ ++ [g]) (setL H i .dead++[ob]) →
   obRel w' (c.X (ρ ++ [g]) (setL H i .dead++[ob])) (ρ ++ [g]) (setL H i .dead++[ob]) H.length ob) :
  StR c (ρ ++ [g]) env (setL H i .dead++[ob]) tmps w':=by
 have hlen:=st.h.len
 have hget : ∀ j ob',(setL H i .dead++[ob])[j]? = some ob'→ob'.live=true→(j<H.length∧j≠i∧H[j]? = some ob')∨(j=H.length∧ob'=ob):=by
  intro j ob' hj hl
  by_cases hjl:j<H.length
  ·rw [List.getElem?_append_left (by rw [setL_length]; exact hjl),setL_get] at hj
   split at hj
   ·injection hj with hj
    exact absurd hj.symm (live_dead hl)
   ·rename_i hne
    exact .inl ⟨hjl,fun e=>hne ⟨e,e ▸ hjl⟩,hj⟩
  ·have hje:j=H.length:=by
    have:=lt_of_get hj
    simp [setL_length] at this
    omega
   subst hje
   rw [List.getElem?_append_right (by rw [setL_length]; exact Nat.le_refl _),setL_length,Nat.sub_self] at hj
   simp at hj
   exact .inr ⟨rfl,hj.symm⟩
 have hρ : ∀ j,j<H.length→(ρ ++ [g])[j]? = ρ[j]? := fun j hj=>List.getElem?_append_left (by omega)
 have hρn:(ρ ++ [g])[H.length]? = some g:=by
  rw [List.getElem?_append_right (by omega),hlen,Nat.sub_self]; rfl
 have hs:HStep w ρ H w' (ρ ++ [g]) (setL H i .dead++[ob]):=by
  have hold : ∀ j,j<H.length→(setL H i .dead++[ob])[j]? = if j=i then some .dead else H[j]? := fun j hj=>by
   rw [List.getElem?_append_left (by rw [setL_length]; exact hj),setL_get]
   by_cases e:j=i
   ·subst e
    simp [hj]
   ·simp [e]
  refine ⟨hρ,fun j hj => ?_,fun j e k xs hj => ?_,fun j e cs hj => ?_,fun j s p hj => ?_⟩
  ·rw [hold j (lt_of_get hj)]
   split
   ·rfl
   ·exact hj
  ·rw [hold j (lt_of_get hj)]
   by_cases hji:j=i
   ·exact .inl (by rw [if_pos hji])
   ·refine .inr ⟨xs,by rw [if_neg hji]; exact hj,Nat.le_refl _,fun b cur hb hc=>⟨cur,?_,rfl⟩⟩
    rw [hg.block b (Array.getElem?_eq_some_iff.1 hc).1 fun e => ?_]
    ·exact hc
    ·obtain ⟨ob',h1,h2,h3⟩:=hr b e.symm
     exact hji (st.h.inj j i b _ _ hj rfl h1 h2 hb h3)
  ·rw [hold j (lt_of_get hj)]
   by_cases hji:j=i
   ·exact .inl (by rw [if_pos hji])
   ·exact .inr ⟨cs,by rw [if_neg hji]; exact hj⟩
  ·rw [hold j (lt_of_get hj)]
   by_cases hji:j=i
   ·exact .inl (by rw [if_pos hji])
   ·exact .inr ⟨p,by rw [if_neg hji]; exact hj⟩
 refine st.next hg.os hg.tape hg.output hg.size (fun b hb hn=>⟨hg.block b hb fun e => ?_,?_⟩) hs st.lenH0 fun hp => ?_
 ·obtain ⟨ob',h1,h2,h3⟩:=hr b e.symm
  exact hn ⟨i,ob',h1,h2,h3⟩
 ·rintro ⟨j,ob',h1,h2,h3⟩
  rcases hget j ob' h1 h2 with ⟨g1,g2,g3⟩|⟨g1,g2⟩
  ·rw [hρ j g1] at h3
   exact hn ⟨j,ob',g3,h2,h3⟩
  ·subst g1
   rw [hρn] at h3
   injection h3 with h3
   rcases hgg b h3 with e|e
   ·obtain ⟨ob'',k1,k2,k3⟩:=hr b e
    exact hn ⟨i,ob'',k1,k2,k3⟩
   ·omega
 ·refine ⟨by simp [setL_length,hlen],fun j ob' hj => ?_,fun j1 j2 b o1 o2 h1 l1 h2 l2 r1 r2 => ?_,fun b hb => .inr hb⟩
  ·by_cases hl:ob'.live=true
   ·rcases hget j ob' hj hl with ⟨g1,g2,g3⟩|⟨g1,g2⟩
    ·refine obRel_mono hp hs (hρ j g1) (fun _ b hb => ?_) (st.h.ob j ob' g3)
     have hbx:b<w.heap.size:=own_lt st g3 hl hb
     refine hg.block b hbx fun e => ?_
     obtain ⟨ob'',k1,k2,k3⟩:=hr b e.symm
     exact g2 (st.h.inj j i b _ _ g3 hl k1 k2 hb k3)
    ·subst g1
     subst g2
     exact hob hp hs
   ·cases ob' with
    | dead=>trivial
    | arr=>exact absurd rfl hl
    | box=>exact absurd rfl hl
    | iter=>exact absurd rfl hl
  ·rcases hget j1 o1 h1 l1 with ⟨a1,a2,a3⟩|⟨a1,a2⟩<;>rcases hget j2 o2 h2 l2 with ⟨b1,b2,b3⟩|⟨b1,b2⟩
   ·rw [hρ j1 a1] at r1
    rw [hρ j2 b1] at r2
    exact st.h.inj j1 j2 b o1 o2 a3 l1 b3 l2 r1 r2
   ·rw [hρ j1 a1] at r1
    subst b1
    rw [hρn] at r2
    injection r2 with r2
    rcases hgg b r2 with e|e
    ·obtain ⟨ob'',k1,k2,k3⟩:=hr b e
     exact absurd (st.h.inj j1 i b _ _ a3 l1 k1 k2 r1 k3) a2
    ·have:=st.h.own b ⟨j1,o1,a3,l1,r1⟩
     exfalso
     have hbx:b<w.heap.size:=own_lt st a3 l1 r1
     omega
   ·rw [hρ j2 b1] at r2
    subst a1
    rw [hρn] at r1
    injection r1 with r1
    rcases hgg b r1 with e|e
    ·obtain ⟨ob'',k1,k2,k3⟩:=hr b e
     exact absurd (st.h.inj j2 i b _ _ b3 l2 k1 k2 r2 k3) b2
    ·exfalso
     have hbx:b<w.heap.size:=own_lt st b3 l2 r2
     omega
   ·omega
theorem StR.set (st:StR c ρ env H tmps w){i b:Nat}{ob ob':OB}(hH:H[i]? = some ob)(hl:ob.live=true)(hρ : ρ[i]? = some (some b))(hg:w.grownBy w' (some b))
  {o o':Obj} (hcur:w.heap[b]? = some o) (hcur':w'.heap[b]? = some o')
  (hkind:(∃ (e:TypeId) (k:Nat) (xs xs':List PV) (cur cur':Array Value),ob = .arr e k xs∧ob' = .arr e k xs'∧xs.length≤xs'.length∧o = .cells cur (elT e) (frOf e cur.size)∧o' = .cells cur' (elT e) (frOf e cur'.size)∧cur'.size=cur.size) ∨
   (∃ e cs cs',ob = .box e cs∧ob' = .box e cs') ∨ ∃ s p p',ob = .iter s p∧ob' = .iter s p')
  (hob:Pres w (c.X ρ H) w' (c.X ρ (setL H i ob'))→HStep w ρ H w' ρ (setL H i ob')→obRel w' (c.X ρ (setL H i ob')) ρ (setL H i ob') i ob') :
  StR c ρ env (setL H i ob') tmps w':=by
 have hi:=lt_of_get hH
 have hget : ∀ j,(setL H i ob')[j]? = if j=i then some ob' else H[j]? := fun j=>by
  rw [setL_get]
  by_cases e:j=i
  ·simp [e,hi]
  ·simp [e]
 have hs:HStep w ρ H w' ρ (setL H i ob'):=by
  refine ⟨fun _ _=>rfl,fun j hj => ?_,fun j e2 k xs hj => ?_,fun j e2 cs hj => ?_,fun j s p hj => ?_⟩
  ·rw [hget]
   split
   ·rename_i e1
    subst e1
    rw [hH] at hj
    injection hj with hj
    exact absurd hj (live_dead hl)
   ·exact hj
  ·rw [hget]
   by_cases e1:j=i
   ·subst e1
    rw [hH] at hj
    injection hj with hj
    subst hj
    rcases hkind with ⟨e',k',ys,ys',cur,cur',g1,g2,g3,rfl,rfl,hcs⟩|⟨_,cs,cs',g1,_⟩|⟨_,_,_,g1,_⟩
    ·injection g1 with a1 a2 a3
     subst a1
     subst a2
     subst a3
     refine .inr ⟨ys',by rw [if_pos rfl,g2],g3,fun b' cur2 hb' hc' => ?_⟩
     rw [hρ] at hb'
     injection hb' with hb'
     injection hb' with hb'
     subst hb'
     rw [hcur] at hc'
     injection hc' with hc'
     injection hc' with hc'
     subst hc'
     exact ⟨cur',hcur',hcs⟩
    ·cases g1
    ·cases g1
   ·refine .inr ⟨xs,by rw [if_neg e1]; exact hj,Nat.le_refl _,fun b' cur2 hb' hc'=>⟨cur2,?_,rfl⟩⟩
    rw [hg.block b' (Array.getElem?_eq_some_iff.1 hc').1 fun e3 => ?_]
    ·exact hc'
    ·injection e3 with e3
     subst e3
     exact e1 (st.h.inj j i b' _ _ hj rfl hH hl hb' hρ)
  ·rw [hget]
   by_cases e1:j=i
   ·subst e1
    rw [hH] at hj
    injection hj with hj
    subst hj
    rcases hkind with ⟨_,k',ys,ys',_,_,g1,_⟩|⟨_,cs1,cs',g1,g2⟩|⟨_,_,_,g1,_⟩
    ·cases g1
    ·injection g1 with a1 a2
     subst a1
     exact .inr ⟨cs',by rw [if_pos rfl,g2]⟩
    ·cases g1
   ·exact .inr ⟨cs,by rw [if_neg e1]; exact hj⟩
  ·rw [hget]
   by_cases e1:j=i
   ·subst e1
    rw [hH] at hj
    injection hj with hj
    subst hj
    rcases hkind with ⟨_,k',ys,ys',_,_,g1,_⟩|⟨_,cs1,cs',g1,g2⟩|⟨_,_,p',g1,g2⟩
    ·cases g1
    ·cases g1
    ·injection g1 with a1 a2
     subst a1
     exact .inr ⟨p',by rw [if_pos rfl,g2]⟩
   ·exact .inr ⟨p,by rw [if_neg e1]; exact hj⟩
 have hownb:ownB ρ H b:=⟨i,ob,hH,hl,hρ⟩
 refine st.next hg.os hg.tape hg.output hg.size (fun b' hb hn=>⟨hg.block b' hb fun e1 => ?_,?_⟩) hs st.lenH0 fun hp => ?_
 ·injection e1 with e1
  subst e1
  exact hn hownb
 ·rintro ⟨j,o,h1,h2,h3⟩
  rw [hget] at h1
  by_cases e1:j=i
  ·subst e1
   exact hn ⟨j,ob,hH,hl,h3⟩
  ·rw [if_neg e1] at h1
   exact hn ⟨j,o,h1,h2,h3⟩
 ·refine ⟨by simp [setL_length,st.h.len],fun j o hj => ?_,fun j1 j2 b' o1 o2 h1 l1 h2 l2 r1 r2 => ?_,fun b' hb => .inr hb⟩
  ·rw [hget] at hj
   by_cases e1:j=i
   ·rw [if_pos e1] at hj
    injection hj with hj
    subst hj
    subst e1
    exact hob hp hs
   ·rw [if_neg e1] at hj
    refine obRel_mono hp hs rfl (fun hlo b' hb'=>hg.block b' (own_lt st hj hlo hb') fun e2 => ?_) (st.h.ob j o hj)
    injection e2 with e2
    subst e2
    exact e1 (st.h.inj j i b' _ _ hj hlo hH hl hb' hρ)
  ·have hx : ∀ (j:Nat) (o:OB),(setL H i ob')[j]? = some o→o.live=true → ∃ o':OB,H[j]? = some o'∧o'.live=true:=fun j o hj hlo=>by
    rw [hget] at hj
    by_cases e1:j=i
    ·subst e1
     exact ⟨ob,hH,hl⟩
    ·rw [if_neg e1] at hj
     exact ⟨o,hj,hlo⟩
   obtain ⟨p1,q1,q2⟩:=hx j1 o1 h1 l1
   obtain ⟨p2,q3,q4⟩:=hx j2 o2 h2 l2
   exact st.h.inj j1 j2 b' p1 p2 q1 q2 q3 q4 r1 r2
theorem StR.drew (st:StR c ρ env H tmps w)(hh:w'.heap=w.heap)(hos:w'.os=w.os)(htape:w'.tape=w.tape)(hout:w'.output=w.output):StR c ρ env H tmps w':=by
 refine st.next hos htape hout (by rw [hh]; exact Nat.le_refl _) (fun b _ hn=>⟨by rw [hh],hn⟩) ⟨fun _ _=>rfl,fun _ h=>h,fun i e k xs h => .inr ⟨xs,h,Nat.le_refl _,fun _ cur _ hc=>⟨cur,by rw [hh]; exact hc,rfl⟩⟩,fun i e cs h => .inr ⟨cs,h⟩,fun i s p h => .inr ⟨p,h⟩⟩ st.lenH0 fun hp => ?_
 refine ⟨st.h.len,fun i ob hi=>obRel_mono hp ⟨fun _ _=>rfl,fun _ h=>h,fun i e k xs h => .inr ⟨xs,h,Nat.le_refl _,fun _ cur _ hc=>⟨cur,by rw [hh]; exact hc,rfl⟩⟩,fun i e cs h => .inr ⟨cs,h⟩,fun i s p h => .inr ⟨p,h⟩⟩ rfl (fun _ b _=>by rw [hh]) (st.h.ob i ob hi),st.h.inj,st.h.own⟩
theorem StR.agree (st:StR c ρ env H tmps w)(ha:Agree w w')(hos:w'.os=w.os)(htape:w'.tape=w.tape)(hout:w'.output=w.output):StR c ρ env H tmps w':=by
 have hs:HStep w ρ H w' ρ H:=⟨fun _ _=>rfl,fun _ h=>h,fun _ _ _ xs h => .inr ⟨xs,h,Nat.le_refl _,fun b cur _ hc=>⟨cur,(ha.keep b (Array.getElem?_eq_some_iff.1 hc).1).trans hc,rfl⟩⟩,fun _ _ cs h => .inr ⟨cs,h⟩,fun _ _ p h => .inr ⟨p,h⟩⟩
 refine st.next hos htape hout ha.size (fun b hb hn=>⟨ha.keep b hb,hn⟩) hs st.lenH0 fun hp => ?_
 exact ⟨st.h.len,fun i ob hi=>obRel_mono hp hs rfl (fun hl b hb=>ha.keep b (own_lt st hi hl hb)) (st.h.ob i ob hi),st.h.inj,st.h.own⟩
theorem setRow_grown {b:Nat}{cs:Array Value}:w.grownBy (w.setRow b cs) (some b) :=
 ⟨rfl,rfl,rfl,by simp,fun k _ hk=>setRow_other w b k cs fun e=>hk (by rw [e])⟩
theorem run_storeCells_atE (P:Program)(g o:Nat)(t:TypeId)(fz:Nat × Nat) : ∀ (vs:List Value) (i:Nat) (cur:Array Value) (w:World),w.heap[g]? = some (.cells cur t fz)→(fz=(0,0)∨cur.size≤fz.1)→o+i+vs.length≤cur.size→(∀ v∈vs,v.oneCell'=true) →
  (storeCells ⟨g,o,none⟩ vs i).run P w = .ok () (w.setRow g (cur.toList.take (o+i)++vs++cur.toList.drop (o+i+vs.length)).toArray)
 | [],i,cur,w,hg,_,_,_=>by
  simp only [storeCells,List.append_nil,List.length_nil,Nat.add_zero,List.take_append_drop,Array.toArray_toList]
  rw [setRow_self w g cur t fz hg]
  rfl
 | v::rest,i,cur,w,hg,hfz,hl,h1=>by
  have hi:o+i<cur.size:=by simp at hl; omega
  have hadd:(⟨g,o,none⟩:Addr).add i=⟨g,o+i,none⟩:=by unfold Addr.add; split<;>simp_all
  have hcell:w.cell? ⟨g,o+i,none⟩=some cur[o+i]:=by simp [World.cell?,hg,hi]
  have hfro:w.frozen? ⟨g,o+i,none⟩=false:=by
   obtain ⟨lo,hi'⟩:=fz
   simp only [World.frozen?,hg,Bool.and_eq_false_iff,decide_eq_false_iff_not]
   rcases hfz with hfz|hfz
   ·injection hfz with h1 h2
    right
    omega
   ·left
    simp only at hfz
    omega
  have hst:(store ((⟨g,o,none⟩:Addr).add i) v).run P w = .ok () (w.setRow g (cur.setIfInBounds (o+i) v)):=by
   rw [hadd,run_store P w _ v _ (h1 v (by simp)),hcell]
   simp [hfro,setCell_eq_setRow w g (o+i) cur t fz v hg]
  have ih:=run_storeCells_atE P g o t fz rest (i+1) (cur.setIfInBounds (o+i) v) (w.setRow g (cur.setIfInBounds (o+i) v)) (setRow_heap w g cur _ t _ hg) (by simpa using hfz) (by simp at hl ⊢; omega) (fun x hx=>h1 x (by simp [hx]))
  simp only [storeCells,Sem.run_bind,hst,Result.andThen_ok,ih,setRow_setRow]
  congr 3
  have e:=list_seg_step cur.toList (o+i) v rest (by simp at hl ⊢; omega)
  simpa [Array.toList_setIfInBounds,Nat.add_assoc] using e
theorem frOf_ok (e n:Nat):frOf e n=(0,0)∨n≤(frOf e n).1:=by
 unfold frOf
 split
 ·exact .inl rfl
 ·exact .inr (Nat.le_refl _)
theorem run_storeAt {P:Program}{t:TypeId}{n b o:Nat}{v:Value}{cur:Array Value}{e:TypeId}(hn:sizeP P t=some n)(hv:v.cells.size=n)(h1 : ∀ u∈v.cells.toList,u.oneCell'=true)
  {fr:Nat × Nat} (hcur:w.heap[b]? = some (.cells cur e fr)) (hfr:fr=(0,0)∨cur.size≤fr.1) (hfit:o+n≤cur.size) :
  (Instr.storeAt t (.pointer (some ⟨b,o,none⟩)) v).run P w = .ok () (w.setRow b (setCells cur.toList o v.cells.toList).toArray):=by
 have hst:=run_storeCells_atE P b o e fr v.cells.toList 0 cur w hcur hfr (by simp [hv]; omega) h1
 have he:(cur.toList.take (o+0)++v.cells.toList++cur.toList.drop (o+0+v.cells.toList.length))=setCells cur.toList o v.cells.toList:=by
  refine List.ext_getElem? ?_
  intro j
  rw [setCells_get]
  simp only [Nat.add_zero,Array.length_toList,hv]
  by_cases h1:j<o
  ·rw [if_neg (by omega),List.append_assoc,List.getElem?_append_left (by simp; omega),List.getElem?_take,if_pos h1]
  ·by_cases h2:j<o+n
   ·rw [if_pos (by omega),List.append_assoc,List.getElem?_append_right (by simp; omega),List.getElem?_append_left (by simp [hv]; omega)]
    congr 1
    simp; omega
   ·rw [if_neg (by omega),List.getElem?_append_right (by simp [hv]; omega),List.getElem?_drop]
    congr 1
    simp [hv]; omega
 simp only [Instr.storeAt,Instr.sureAddr,Sem.run_bind,Sem.run_pure,Result.andThen_ok,storeVar,run_size hn,hv,ne_eq,not_true,if_false,hst,he]
end
end Go.Dv
namespace Go.Dv
section
variable {c:Cx} {ρ : Rho} {env:Env} {H:Heap} {w:World} {tmps:Array Value}
theorem hideH_length : ∀ (hs:List Nat) (H:Heap),(hideH hs H).length=H.length
 | [],_=>rfl
 | i::is,H=>by simp only [hideH,setL_length,hideH_length is H]
theorem hideH_get : ∀ (hs:List Nat) (H:Heap) (i:Nat),(hideH hs H)[i]? = if i∈hs then (H[i]?).map (fun _=>OB.dead) else H[i]?
 | [],H,i=>by simp [hideH]
 | j::is,H,i=>by
  simp only [hideH,setL_get,hideH_get is H i,hideH_length,List.mem_cons]
  by_cases h1:i=j
  ·subst h1
   by_cases h2:i<H.length
   ·simp [h2]
   ·simp [h2]
  ·simp [h1]
theorem hide_step (hs:List Nat):HStep w ρ H w ρ (hideH hs H) where
 rho _ _:=rfl
 dead i hi:=by
  rw [hideH_get,hi]
  split<;>rfl
 arr i e k xs hi:=by
  rw [hideH_get,hi]
  split
  ·exact .inl rfl
  ·exact .inr ⟨xs,rfl,Nat.le_refl _,fun b cur _ hc=>⟨cur,hc,rfl⟩⟩
 box i e cs hi:=by
  rw [hideH_get,hi]
  split
  ·exact .inl rfl
  ·exact .inr ⟨cs,rfl⟩
 iter i s p hi:=by
  rw [hideH_get,hi]
  split
  ·exact .inl rfl
  ·exact .inr ⟨p,rfl⟩
theorem hide_live {hs:List Nat}{i:Nat}{ob:OB}(h:(hideH hs H)[i]? = some ob)(hl:ob.live=true):i ∉ hs∧H[i]? = some ob:=by
 rw [hideH_get] at h
 split at h
 ·cases hh:H[i]? with
  | none=>rw [hh] at h; cases h
  | some o=>rw [hh] at h; injection h with h; subst h; cases hl
 ·exact ⟨by assumption,h⟩
theorem hide_own {hs:List Nat}{b:Nat}(h:ownB ρ (hideH hs H) b):ownB ρ H b:=by
 obtain ⟨i,ob,h1,h2,h3⟩:=h
 exact ⟨i,ob,(hide_live h1 h2).2,h2,h3⟩
structure Vis (w:World) (X:Nat→Prop) (ρ : Rho) (H:Heap) (X':Nat→Prop) (Hv:Heap):Prop where
 hh:HRel w X ρ H
 hp:Pres w X w X'
 hv : ∀ (i:Nat) (ob:OB),Hv[i]? = some ob→ob.live=true→H[i]? = some ob ∧ ∀ b,ρ[i]? = some (some b) → ¬ X' b
theorem own_arr0 {X X':Nat→Prop}(hh:HRel w X ρ H)(hp:Pres w X w X'){i off len:Nat}{e k:Nat}{xs:List PV}(hH:H[i]? = some (.arr e k xs))(hX : ∀ b,ρ[i]? = some (some b) → ¬ X' b){v:Value}(h:ownRel w ρ H i off len v):RP w X' (.sl k ((xs.drop off).take len)) v:=by
 unfold ownRel at h
 simp only [hH] at h
 obtain ⟨hle,A,m,hv,h1,h2,h3⟩:=h
 have hlen:((xs.drop off).take len).length=len:=by simp; omega
 unfold RP
 rw [hlen]
 refine ⟨A,m,hv,h1,h2,fun hne => ?_⟩
 have hl0:0<len:=by
  rcases Nat.eq_zero_or_pos len with h0|h0
  ·exact absurd (List.eq_nil_of_length_eq_zero (by rw [hlen,h0])) hne
  ·exact h0
 rcases h3 with ⟨_,_,hm,_⟩|⟨b,cur,hρ,hcur,hsz,hA⟩
 ·omega
 ·obtain ⟨hk,hob⟩:=hh.ob i _ hH
  rcases hob with ⟨hρ',_⟩|⟨b',cur',r1,r2,r3,r4⟩
  ·rw [hρ'] at hρ; cases hρ
  ·rw [hρ] at r1
   injection r1 with r1
   injection r1 with r1
   subst r1
   refine ⟨b,off * k,hA (.inl (by omega)),(Array.getElem?_eq_some_iff.1 hcur).1,hX b hρ,?_⟩
   have:=RRow_take (n:=len) (RRow_drop (n:=off) r4)
   rw [Nat.zero_add] at this
   exact RRow_mono hp k b rfl _ _ this
theorem own_arr {X X':Nat→Prop}{Hv:Heap}(vs:Vis w X ρ H X' Hv){i off len:Nat}{e k:Nat}{xs:List PV}(hv:Hv[i]? = some (.arr e k xs)){v:Value}(h:ownRel w ρ H i off len v):RP w X' (.sl k ((xs.drop off).take len)) v :=
 own_arr0 vs.hh vs.hp (vs.hv i _ hv rfl).1 (vs.hv i _ hv rfl).2 h
theorem nil_view {X':Nat→Prop}:RP w X' (.sl 1 []) (.slice none 0 0):=by
 unfold RP
 exact ⟨none,0,rfl,Nat.le_refl _,Nat.zero_le _,fun h=>absurd rfl h⟩
theorem cellV_rel {X X':Nat→Prop}{Hv:Heap}(vs:Vis w X ρ H X' Hv){d:DV}{x:PV}{v:Value}(he:cellV Hv d=some x)(h:RD w X ρ H d v):RP w X' x v:=by
 unfold cellV at he
 split at he
 ·injection he with he
  subst he
  unfold RD at h
  exact RP_mono vs.hp _ _ h
 ·injection he with he
  subst he
  unfold RD at h
  subst h
  exact nil_view
 ·split at he
  ·rename_i hv
   injection he with he
   subst he
   unfold RD at h
   exact own_arr vs hv h
  ·cases he
 ·cases he
theorem cellVs_rel {X X':Nat→Prop}{Hv:Heap}(vs:Vis w X ρ H X' Hv) : ∀ {ds:List DV} {xs:List PV} {us:List Value},cellVs Hv ds=some xs→RDs w X ρ H ds us→RPs w X' xs us
 | [],xs,us,he,h=>by
  simp [cellVs] at he
  subst he
  unfold RDs at h
  unfold RPs
  exact h
 | d::ds,xs,us,he,h=>by
  simp only [cellVs] at he
  cases h1:cellV Hv d with
  | none=>simp [h1] at he
  | some y =>
   cases h2:cellVs Hv ds with
   | none=>simp [h1,h2] at he
   | some ys =>
    simp [h1,h2] at he
    subst he
    unfold RDs at h
    obtain ⟨v,vs',hv,g1,g2,g3⟩:=h
    unfold RPs
    exact ⟨v,vs',hv,g1,cellV_rel vs h1 g2,cellVs_rel vs h2 g3⟩
theorem RDs_cut {X:Nat→Prop}{k:Nat}{ds:List DV}{us:List Value}(h:RDs w X ρ H ds us):RDs w X ρ H (ds.take k) (us.take k)∧RDs w X ρ H (ds.drop k) (us.drop k):=by
 have hl:=RDs_length h
 refine ⟨RDs_of_get (by simp [hl]) fun j x hx => ?_,RDs_of_get (by simp [hl]) fun j x hx => ?_⟩
 ·rw [List.getElem?_take] at hx
  split at hx
  ·rename_i hj
   obtain ⟨v,g1,g2,g3⟩:=RDs_get h hx
   exact ⟨v,by rw [List.getElem?_take,if_pos hj]; exact g1,g2,g3⟩
  ·cases hx
 ·rw [List.getElem?_drop] at hx
  obtain ⟨v,g1,g2,g3⟩:=RDs_get h hx
  exact ⟨v,by rw [List.getElem?_drop]; exact g1,g2,g3⟩
theorem chunk_len {Hv:Heap}{k:Nat} : ∀ {n:Nat} {cs:List DV} {xs:List PV},chunkV Hv k n cs=some xs→xs.length=n
 | 0,cs,xs,h=>by simp [chunkV] at h; subst h; rfl
 | n+1,cs,xs,h=>by
  simp only [chunkV] at h
  split at h
  ·rename_i h1 h2
   injection h with h
   subst h
   simp [chunk_len h2]
  ·cases h
theorem chunk_row {X X':Nat→Prop}{Hv:Heap}(vs:Vis w X ρ H X' Hv){k b:Nat} : ∀ {n o:Nat} {cs:List DV} {us:List Value} {xs:List PV},chunkV Hv k n cs=some xs→n * k≤cs.length→RDs w X ρ H cs us →
  (∀ i u,us[i]? = some u→w.cell? ⟨b,o+i,none⟩=some u)→RRow w X' k b o xs
 | 0,o,cs,us,xs,h,_,_,_=>by
  simp [chunkV] at h
  subst h
  unfold RRow
  trivial
 | n+1,o,cs,us,xs,h,hl,hr,hc=>by
  simp only [chunkV] at h
  split at h
  ·rename_i ys r h1 h2
   injection h with h
   subst h
   obtain ⟨r1,r2⟩:=RDs_cut (k:=k) hr
   have hul:=RDs_length hr
   rw [Nat.add_mul] at hl
   unfold RRow
   refine ⟨⟨us.take k,by simp; omega,fun i u hu => ?_,by unfold RE; exact cellVs_rel vs h1 r1⟩,chunk_row vs h2 (by simp; omega) r2 fun i u hu => ?_⟩
   ·rw [List.getElem?_take] at hu
    split at hu
    ·exact hc i u hu
    ·cases hu
   ·rw [List.getElem?_drop] at hu
    rw [Nat.add_assoc]
    exact hc _ u hu
  ·cases h
mutual
theorem view_rel {X X':Nat→Prop}{Hv:Heap}(vs:Vis w X ρ H X' Hv) : ∀ {d:DV} {x:PV} {v:Value},viewOf Hv d=some x→RD w X ρ H d v→RP w X' x v
 | .p y,x,v,he,h=>by
  simp [viewOf] at he
  subst he
  unfold RD at h
  exact RP_mono vs.hp _ _ h
 | .nil,x,v,he,h=>by
  simp [viewOf] at he
  subst he
  unfold RD at h
  subst h
  exact nil_view
 | .own i off len,x,v,he,h=>by
  simp only [viewOf] at he
  unfold RD at h
  split at he
  ·rename_i hv
   injection he with he
   subst he
   exact own_arr vs hv h
  ·rename_i e cs hv
   split at he
   ·rename_i hle
    simp only [Option.map_eq_some_iff] at he
    obtain ⟨xs,he,rfl⟩:=he
    obtain ⟨hH,hX⟩:=vs.hv i _ hv rfl
    unfold ownRel at h
    simp only [hH] at h
    obtain ⟨hk,rfl,b,c,hρ,hv,h1,h2⟩:=h
    have hlen:=chunk_len he
    obtain ⟨b',cur,r1,r2,r3⟩:=vs.hh.ob i _ hH
    rw [hρ] at r1
    injection r1 with r1
    injection r1 with r1
    subst r1
    unfold RP
    rw [hlen]
    refine ⟨_,c,hv,h1,h2,fun _=>⟨b,0,rfl,(Array.getElem?_eq_some_iff.1 r2).1,hX b hρ,chunk_row vs he hle r3 fun i u hu => ?_⟩⟩
    rw [Nat.zero_add,cell_own r2]
    simpa using hu
   ·cases he
  ·cases he
 | .agg cs,x,v,he,h=>by
  simp only [viewOf,Option.map_eq_some_iff] at he
  obtain ⟨xs,he,rfl⟩:=he
  unfold RD at h
  obtain ⟨us,hv,h1⟩:=h
  unfold RP
  exact ⟨us,hv,views_rel vs he h1⟩
 | .any,x,v,he,_=>by simp [viewOf] at he
 | .undef,x,v,he,_=>by simp [viewOf] at he
 | .ptr ..,x,v,he,_=>by simp [viewOf] at he
 | .rptr ..,x,v,he,_=>by simp [viewOf] at he
 | .tup ..,x,v,he,_=>by simp [viewOf] at he
theorem views_rel {X X':Nat→Prop}{Hv:Heap}(vs:Vis w X ρ H X' Hv) : ∀ {ds:List DV} {xs:List PV} {us:List Value},viewOfs Hv ds=some xs→RDs w X ρ H ds us→RPs w X' xs us
 | [],xs,us,he,h=>by
  simp [viewOfs] at he
  subst he
  unfold RDs at h
  unfold RPs
  exact h
 | d::ds,xs,us,he,h=>by
  simp only [viewOfs] at he
  cases h1:viewOf Hv d with
  | none=>simp [h1] at he
  | some y =>
   cases h2:viewOfs Hv ds with
   | none=>simp [h1,h2] at he
   | some ys =>
    simp [h1,h2] at he
    subst he
    unfold RDs at h
    obtain ⟨v,vs',hv,g1,g2,g3⟩:=h
    unfold RPs
    exact ⟨v,vs',hv,g1,view_rel vs h1 g2,views_rel vs h2 g3⟩
end
theorem StR.kill (st:StR c ρ env H tmps w)(hl:c.H0.length≤H.length)(is:List Nat):StR c ρ env (hideH is H) tmps w:=by
 have hp:Pres w (c.X ρ H) w (c.X ρ (hideH is H)):=⟨Nat.le_refl _,fun b _ hn=>⟨rfl,fun h=>hn (h.imp id hide_own)⟩⟩
 have hstep:=hide_step (w:=w) (ρ := ρ) (H:=H) is
 refine ⟨⟨by rw [hideH_length]; exact st.h.len,fun i ob hi => ?_,fun i j b oi oj hi li hj lj ri rj => ?_,fun b hb => .inr hb⟩,fun n=>RD_mono hp hstep _ _ (st.e n),⟨st.k.os,st.k.tape,st.k.output,st.k.size,fun b hb hx=>⟨(st.k.keep b hb hx).1,fun h=>(st.k.keep b hb hx).2 (hide_own h)⟩⟩,st.s.trans hstep hl,st.o⟩
 ·by_cases hl:ob.live=true
  ·exact obRel_mono hp hstep rfl (fun _ _ _=>rfl) (st.h.ob i ob (hide_live hi hl).2)
  ·cases ob with
   | dead=>trivial
   | arr=>exact (hl rfl).elim
   | box=>exact (hl rfl).elim
   | iter=>exact (hl rfl).elim
 ·exact st.h.inj i j b oi oj (hide_live hi li).2 li (hide_live hj lj).2 lj ri rj
theorem cell0 {X X':Nat→Prop}(hh:HRel w X ρ H)(hp:Pres w X w X'){d:DV}{x:PV}{v:Value}(hX : ∀ i∈refs d,∀ (ob:OB) (b:Nat),H[i]? = some ob→ob.live=true → ρ[i]? = some (some b) → ¬ X' b)(he:cellV H d=some x)(h:RD w X ρ H d v):RP w X' x v:=by
 unfold cellV at he
 split at he
 ·injection he with he
  subst he
  unfold RD at h
  exact RP_mono hp _ _ h
 ·injection he with he
  subst he
  unfold RD at h
  subst h
  exact nil_view
 ·split at he
  ·rename_i hv
   injection he with he
   subst he
   unfold RD at h
   exact own_arr0 hh hp hv (fun b hb=>hX _ (by simp [refs]) _ b hv rfl hb) h
  ·cases he
 ·cases he
theorem cells0 {X X':Nat→Prop}(hh:HRel w X ρ H)(hp:Pres w X w X') : ∀ {ds:List DV} {xs:List PV} {us:List Value},(∀ i∈refsL ds,∀ (ob:OB) (b:Nat),H[i]? = some ob→ob.live=true → ρ[i]? = some (some b) → ¬ X' b)→cellVs H ds=some xs→RDs w X ρ H ds us→RPs w X' xs us
 | [],xs,us,_,he,h=>by
  simp [cellVs] at he
  subst he
  unfold RDs at h
  unfold RPs
  exact h
 | d::ds,xs,us,hX,he,h=>by
  simp only [cellVs] at he
  cases h1:cellV H d with
  | none=>simp [h1] at he
  | some y =>
   cases h2:cellVs H ds with
   | none=>simp [h1,h2] at he
   | some ys =>
    simp [h1,h2] at he
    subst he
    unfold RDs at h
    obtain ⟨v,vs',hv,g1,g2,g3⟩:=h
    unfold RPs
    exact ⟨v,vs',hv,g1,cell0 hh hp (fun i hi=>hX i (by simp only [refsL,List.mem_append]; exact .inl hi)) h1 g2,cells0 hh hp (fun i hi=>hX i (by simp only [refsL,List.mem_append]; exact .inr hi)) h2 g3⟩
theorem frz_rel (st:StR c ρ env H tmps w){ids:List Nat}{d:DV}{v:Value}(hi:pvOf d=none → ∀ i∈refs d,i∈ids)(h:RD w (c.X ρ H) ρ H d v):RD w (c.X ρ (hideH ids H)) ρ (hideH ids H) (frzD H d) v:=by
 have hp:Pres w (c.X ρ H) w (c.X ρ (hideH ids H)):=⟨Nat.le_refl _,fun b _ hn=>⟨rfl,fun h=>hn (h.imp id hide_own)⟩⟩
 have hstep:=hide_step (w:=w) (ρ := ρ) (H:=H) ids
 have hsame:=RD_mono hp hstep d v h
 unfold frzD
 cases hpv:pvOf d with
 | some x=>exact hsame
 | none =>
  have hX : ∀ i∈refs d,∀ (ob:OB) (b:Nat),H[i]? = some ob→ob.live=true → ρ[i]? = some (some b) → ¬ c.X ρ (hideH ids H) b:=by
   intro i hir ob b hH hl hρ hx
   rcases hx with hx|⟨j,oj,k1,k2,k3⟩
   ·obtain ⟨m1,m2⟩:=st.o b hx
    exact (st.k.keep b m1 m2).2 ⟨i,ob,hH,hl,hρ⟩
   ·obtain ⟨n1,n2⟩:=hide_live k1 k2
    have:=st.h.inj i j b ob oj hH hl n2 k2 hρ k3
    subst this
    exact n1 (hi hpv i hir)
  simp only []
  split
  ·rename_i cs
   cases hc:cellVs H cs with
   | none=>exact hsame
   | some xs =>
    unfold RD at h
    obtain ⟨us,hv,hr⟩:=h
    simp only []
    unfold RD RP
    exact ⟨us,hv,cells0 st.h hp (fun i hir=>hX i (by simpa [refs] using hir)) hc hr⟩
  ·cases hc:cellV H d with
   | none=>exact hsame
   | some x =>
    simp only []
    unfold RD
    exact cell0 st.h hp hX hc h
end
end Go.Dv
namespace Go.Dv
def Eff (P:Program)(c:Cx)(env:Env)(tmps:Array Value)(K:DV→Heap→Prop)(w:World)(s:Sem Value):Prop :=
 ∃ v w' d ρ' H',s.run P w = .ok v w'∧K d H'∧StR c ρ' env H' tmps w'∧RD w' (c.X ρ' H') ρ' H' d v
section
variable {P:Program} {c:Cx} {ρ : Rho} {env:Env} {H:Heap} {tmps:Array Value} {w:World} {M:Md} {q:Bool} {K:DV→Heap→Prop}
theorem RPs_one {X:Nat→Prop}{xs:List PV}{vs:List Value}(h:RPs w X xs vs) : ∀ u∈vs,u.oneCell'=true:=by
 intro u hu
 obtain ⟨j,hj⟩:=List.getElem?_of_mem hu
 have hl:=RPs_length h
 have hjl:j<xs.length:=by rw [← hl]; exact lt_of_get hj
 obtain ⟨v,hv,h1,_⟩:=RPs_get h (List.getElem?_eq_getElem hjl)
 rw [hj] at hv
 injection hv with hv
 rw [hv]
 exact h1
theorem RDs_one {X:Nat→Prop}{xs:List DV}{vs:List Value}(h:RDs w X ρ H xs vs) : ∀ u∈vs,u.oneCell'=true:=by
 intro u hu
 obtain ⟨j,hj⟩:=List.getElem?_of_mem hu
 have hl:=RDs_length h
 have hjl:j<xs.length:=by rw [← hl]; exact lt_of_get hj
 obtain ⟨v,hv,h1,_⟩:=RDs_get h (List.getElem?_eq_getElem hjl)
 rw [hj] at hv
 injection hv with hv
 rw [hv]
 exact h1
theorem RP_cells {X:Nat→Prop}{x:PV}{v:Value}(h:RP w X x v):RPs w X x.cells v.cells.toList:=by
 cases x with
 | agg cs =>
  unfold RP at h
  obtain ⟨vs,hv,h⟩:=h
  subst hv
  exact h
 | int k n=>have h0:=h; unfold RP at h; subst h; exact ⟨_,[],rfl,rfl,h0,rfl⟩
 | bool b=>have h0:=h; unfold RP at h; subst h; exact ⟨_,[],rfl,rfl,h0,rfl⟩
 | str s=>have h0:=h; unfold RP at h; subst h; exact ⟨_,[],rfl,rfl,h0,rfl⟩
 | sl k xs =>
  have h0:=h
  unfold RP at h
  obtain ⟨A,cc,hv,_⟩:=h
  subst hv
  exact ⟨_,[],rfl,rfl,h0,rfl⟩
theorem RPs_setCells {X:Nat→Prop}{cs ds:List PV}{cur us:List Value}{o:Nat}(h:RPs w X cs cur)(h2:RPs w X ds us):RPs w X (setCells cs o ds) (setCells cur o us):=by
 have l1:=RPs_length h
 have l2:=RPs_length h2
 refine RPs_of_get (by simp [setCells_length,l1]) fun j d hd => ?_
 rw [setCells_get] at hd ⊢
 rw [l1,l2]
 split at hd
 ·rename_i hc
  rw [if_pos hc]
  exact RPs_get h2 hd
 ·rename_i hc
  rw [if_neg hc]
  exact RPs_get h hd
theorem putP_cells {f:Nat}{e z:PV}{ys:List PV}(h:putP f e ys=some z)(hy : ∀ y,ys=[y]→y.cells=[y]):z.cells=setCells e.cells f ys∧f+ys.length≤e.cells.length:=by
 unfold putP at h
 split at h
 ·rename_i cs
  split at h
  ·rename_i hle
   injection h with h
   subst h
   exact ⟨rfl,hle⟩
  ·cases h
 ·rename_i hne
  split at h
  ·rename_i y
   injection h with h
   subst h
   have:=hy y rfl
   have hc:e.cells=[e]:=by
    cases e<;>first|rfl|exact absurd rfl (hne _)
   rw [this,hc]
   exact ⟨rfl,Nat.le_refl _⟩
  ·cases h
theorem eff_store {t:TypeId}{n:Nat}(hn:sizeP P t=some n)(st:StR c ρ env H tmps w){x y:DV}{vx vy:Value}(hx:RD w (c.X ρ H) ρ H x vx)(hy:RD w (c.X ρ H) ρ H y vy)(h:(storeR n x y H).run M q K) :
  ∃ w' ρ' H',(Instr.storeAt t vx vy).run P w = .ok () w'∧K .undef H'∧StR c ρ' env H' tmps w':=by
 unfold storeR at h
 split at h
 ·rename_i i j f
  split at h
  ·rename_i e k xs hH
   split at h
   ·rename_i py hpy
    obtain ⟨el,z,he,hyn,hz,h⟩:=h
    simp only [hH] at h
    unfold RD ptrRel at hx
    simp only [hH] at hx
    obtain ⟨hj,b,hρ,hv⟩:=hx
    subst hv
    have hry:=RP_cells (pvOf_rel hpy hy)
    have ly:=RPs_length hry
    obtain ⟨hk,hob⟩:=st.h.ob i _ hH
    rcases hob with ⟨hh,_⟩|⟨b',cur,h1,h2,h3,h4⟩
    ·rw [hh] at hρ; cases hρ
    ·rw [hρ] at h1
     injection h1 with h1
     injection h1 with h1
     subst h1
     have hw:=RRow_width h4 he
     have hcy : ∀ y,py.cells=[y]→y.cells=[y]:=fun y hy=>by
      cases py with
      | agg cs =>
       simp [PV.cells] at hy
       subst hy
       simp only [PV.cells] at hry
       unfold RPs at hry
       obtain ⟨v,_,_,ho,hr,_⟩:=hry
       cases y with
       | agg cs =>
        unfold RP at hr
        obtain ⟨vs,hvs,_⟩:=hr
        subst hvs
        simp [Value.oneCell'] at ho
       | _=>rfl
      | _=>simp [PV.cells] at hy; subst hy; rfl
     obtain ⟨hzc,hfit⟩:=putP_cells hz hcy
     have hjk:j * k+k≤xs.length * k:=by
      have:(j+1) * k≤xs.length * k:=Nat.mul_le_mul_right _ (by omega)
      rwa [Nat.add_mul,Nat.one_mul] at this
     have hrun:=run_storeAt (P:=P) (t:=t) (o:=j * k+f) hn (by simp at ly; omega) (RPs_one hry) h2 (frOf_ok _ _) (by omega)
     have hset:=setRow_heap w b cur (setCells cur.toList (j * k+f) vy.cells.toList).toArray (elT e) (frOf e cur.size) h2
     have hsz2:(setCells cur.toList (j * k+f) vy.cells.toList).toArray.size=cur.size:=by simp [setCells_length]
     have hset2:(w.setRow b (setCells cur.toList (j * k+f) vy.cells.toList).toArray).heap[b]? = some (.cells (setCells cur.toList (j * k+f) vy.cells.toList).toArray (elT e) (frOf e (setCells cur.toList (j * k+f) vy.cells.toList).toArray.size)):=by rw [hsz2]; exact hset
     refine ⟨_,ρ,_,hrun,h,st.set hH rfl hρ setRow_grown h2 hset2 (.inl ⟨e,k,xs,_,cur,_,rfl,rfl,by simp [setL_length],rfl,rfl,hsz2⟩) fun hp hs => ?_⟩
     refine ⟨hk,.inr ⟨b,_,hρ,hset2,by simpa [setL_length,setCells_length] using h3,RRow_of_get fun j' x' hx' => ?_⟩⟩
     rw [setL_get] at hx'
     split at hx'
     ·rename_i hjj
      injection hx' with hx'
      subst hx'
      obtain ⟨rfl,_⟩:=hjj
      obtain ⟨us,g1,g2,g3⟩:=RRow_get h4 he
      refine ⟨setCells us f vy.cells.toList,by rw [setCells_length,g1],fun m u hu => ?_,RE_of_cells ?_⟩
      ·rw [cell_own hset]
       simp only [List.getElem?_toArray,Nat.zero_add]
       have e1:vy.cells.toList.length=vy.cells.size:=by simp
       have e2:cur.toList.length=cur.size:=by simp
       have hm:m<k:=by
        have:=lt_of_get hu
        rwa [setCells_length,g1] at this
       rw [setCells_get] at hu ⊢
       split at hu
       ·rename_i hc
        rw [if_pos (by omega),← hu]
        congr 1
        omega
       ·rename_i hc
        rw [if_neg (by omega)]
        have:=g2 m u hu
        rw [cell_own h2] at this
        simpa using this
      ·rw [hzc]
       exact RPs_setCells (RPs_mono hp _ _ (RE_cells g3)) (RPs_mono hp _ _ hry)
     ·rename_i hjj
      have hj'l:=lt_of_get hx'
      have hjne:j'≠j:=fun e=>hjj ⟨e,by rw [← e]; exact hj'l⟩
      obtain ⟨us,g1,g2,g3⟩:=RRow_get h4 hx'
      refine ⟨us,g1,fun m u hu => ?_,RE_mono hp _ _ g3⟩
      have:=g2 m u hu
      rw [cell_own h2] at this
      rw [cell_own hset]
      simp only [List.getElem?_toArray,Nat.zero_add] at this ⊢
      have hm:m<k:=by
       have:=lt_of_get hu
       rwa [g1] at this
      rw [setCells_get]
      have hout : ¬ (j * k+f≤j' * k+m∧j' * k+m<j * k+f+vy.cells.toList.length∧j' * k+m<cur.toList.length):=by
       rw [ly]
       rcases Nat.lt_or_gt_of_ne hjne with hlt|hgt
       ·have:(j'+1) * k≤j * k:=Nat.mul_le_mul_right _ hlt
        rw [Nat.add_mul,Nat.one_mul] at this
        omega
       ·have:(j+1) * k≤j' * k:=Nat.mul_le_mul_right _ hgt
        rw [Nat.add_mul,Nat.one_mul] at this
        omega
      rw [if_neg hout]
      simpa using this
   ·exact h.elim
  ·rename_i e cs hH
   cases hcd:cellsD y with
   | none=>simp [hcd,R.ofCells,R.run] at h
   | some ys =>
    simp only [hcd,R.ofCells] at h
    split at h
    ·rename_i hcond
     obtain ⟨hj0,hyl,hfit⟩:=hcond
     unfold RD ptrRel at hx
     simp only [hH] at hx
     obtain ⟨b,hρ,hv⟩:=hx
     subst hv
     have hry:=cellsD_rel hcd hy
     have ly:=RDs_length hry
     obtain ⟨b',cur,h1,h2,h3⟩:=st.h.ob i _ hH
     rw [hρ] at h1
     injection h1 with h1
     injection h1 with h1
     subst h1
     have lc:=RDs_length h3
     simp at lc ly
     have hrun:=run_storeAt (P:=P) (t:=t) (o:=f) hn (by omega) (RDs_one hry) h2 (.inl rfl) (by omega)
     have hset:=setRow_heap w b cur (setCells cur.toList f vy.cells.toList).toArray (boxT e) (0,0) h2
     refine ⟨_,ρ,_,hrun,h,st.set hH rfl hρ setRow_grown h2 hset (.inr (.inl ⟨e,cs,_,rfl,rfl⟩)) fun hp hs => ?_⟩
     exact ⟨b,_,hρ,hset,by simpa using RDs_setCells (RDs_mono hp hs _ _ h3) (RDs_mono hp hs _ _ hry)⟩
    ·exact h.elim
  ·exact h.elim
 ·exact h.elim
def RL (w:World)(X:Nat→Prop)(k:Nat)(ys:List PV)(cs:List Value):Prop :=
 cs.length=ys.length * k ∧ ∀ (j:Nat) (x:PV),ys[j]? = some x→RE w X x ((cs.drop (j * k)).take k)
theorem RL_mono {X X':Nat→Prop}{w':World}{k:Nat}{ys:List PV}{cs:List Value}(hp:Pres w X w' X')(h:RL w X k ys cs):RL w' X' k ys cs :=
 ⟨h.1,fun j x hx=>RE_mono hp _ _ (h.2 j x hx)⟩
theorem RL_one {X:Nat→Prop}{k:Nat}{ys:List PV}{cs:List Value}(hk:0<k)(h:RL w X k ys cs) : ∀ u∈cs,u.oneCell'=true:=by
 intro u hu
 obtain ⟨j,hj⟩:=List.getElem?_of_mem hu
 have hjl:=lt_of_get hj
 rw [h.1] at hjl
 have hd:j / k<ys.length:=(Nat.div_lt_iff_lt_mul hk).2 hjl
 have hre:=RPs_one (RE_cells (h.2 (j / k) _ (List.getElem?_eq_getElem hd)))
 refine hre u (List.mem_of_getElem? (i:=j % k) ?_)
 rw [List.getElem?_take,if_pos (Nat.mod_lt _ hk),List.getElem?_drop,← hj]
 congr 1
 rw [Nat.mul_comm]
 exact Nat.div_add_mod j k
theorem RL_of_row {X:Nat→Prop}{k b o:Nat}{ys:List PV}(h:RRow w X k b o ys) : ∃ cs:List Value,RL w X k ys cs ∧ ∀ (j:Nat) (u:Value),cs[j]? = some u→w.cell? ⟨b,o+j,none⟩=some u:=by
 induction ys generalizing o with
 | nil=>exact ⟨[],⟨by simp,by simp⟩,by simp⟩
 | cons y ys ih =>
  unfold RRow at h
  obtain ⟨⟨vs,h1,h2,h3⟩,h'⟩:=h
  obtain ⟨cs,⟨g1,g2⟩,g3⟩:=ih h'
  refine ⟨vs++cs,⟨by simp [h1,g1,Nat.add_mul,Nat.add_comm],fun j x hx => ?_⟩,fun j u hu => ?_⟩
  ·cases j with
   | zero =>
    simp at hx
    subst hx
    simpa [← h1] using h3
   | succ j =>
    have:=g2 j x (by simpa using hx)
    rwa [Nat.add_mul,Nat.one_mul,Nat.add_comm (j * k) k,← h1,List.drop_length_add_append,h1]
  ·by_cases hj:j<vs.length
   ·rw [List.getElem?_append_left hj] at hu
    exact h2 j u hu
   ·rw [List.getElem?_append_right (by omega)] at hu
    have:=g3 _ u hu
    rw [← this]
    congr 2
    omega
theorem RL_row {X:Nat→Prop}{k g:Nat}{ys:List PV}{cs:List Value}{cur:Array Value}{e:TypeId}{fr:Nat × Nat}(h:RL w X k ys cs)(hg:w.heap[g]? = some (.cells cur e fr))(hc:cur.toList.take cs.length=cs):RRow w X k g 0 ys:=by
 refine RRow_of_get fun j x hx=>⟨(cs.drop (j * k)).take k,?_,fun i u hu => ?_,h.2 j x hx⟩
 ·have hj:=lt_of_get hx
  have:(j+1) * k≤ys.length * k:=Nat.mul_le_mul_right _ hj
  rw [Nat.add_mul,Nat.one_mul] at this
  simp [h.1]
  omega
 ·rw [cell_own hg]
  rw [List.getElem?_take] at hu
  split at hu
  ·rw [List.getElem?_drop] at hu
   rw [← hc,List.getElem?_take] at hu
   split at hu
   ·simpa using hu
   ·cases hu
  ·cases hu
theorem RL_append {X:Nat→Prop}{k:Nat}{ys zs:List PV}{cs ds:List Value}(h:RL w X k ys cs)(h2:RL w X k zs ds):RL w X k (ys++zs) (cs++ds):=by
 refine ⟨by simp [h.1,h2.1,Nat.add_mul],fun j x hx => ?_⟩
 by_cases hj:j<ys.length
 ·rw [List.getElem?_append_left hj] at hx
  have:=h.2 j x hx
  have hle:(j+1) * k≤ys.length * k:=Nat.mul_le_mul_right _ hj
  rw [Nat.add_mul,Nat.one_mul,← h.1] at hle
  rw [List.drop_append_of_le_length (by omega),List.take_append_of_le_length (by simp; omega)]
  exact this
 ·rw [List.getElem?_append_right (by omega)] at hx
  have:=h2.2 _ x hx
  have e:j * k=cs.length+(j - ys.length) * k:=by
   rw [h.1,← Nat.add_mul]
   congr 1
   omega
  rw [e,List.drop_length_add_append]
  exact this
theorem RL_take {X:Nat→Prop}{k n:Nat}{ys:List PV}{cs:List Value}(h:RL w X k ys cs):RL w X k (ys.take n) (cs.take (n * k)):=by
 refine ⟨?_,fun j x hx => ?_⟩
 ·simp only [List.length_take,h.1]
  rcases Nat.le_total n ys.length with h1|h1
  ·rw [Nat.min_eq_left h1,Nat.min_eq_left (Nat.mul_le_mul_right _ h1)]
  ·rw [Nat.min_eq_right h1,Nat.min_eq_right (Nat.mul_le_mul_right _ h1)]
 ·rw [List.getElem?_take] at hx
  split at hx
  ·rename_i hj
   have:=h.2 j x hx
   have hle:(j+1) * k≤n * k:=Nat.mul_le_mul_right _ hj
   rw [Nat.add_mul,Nat.one_mul] at hle
   rw [List.drop_take,List.take_take,Nat.min_eq_left (by omega)]
   exact this
  ·cases hx
theorem news_rel {k:Nat}{y:DV}{vy:Value}{ys:List PV}(hh:HRel w (c.X ρ H) ρ H)(hy:RD w (c.X ρ H) ρ H y vy)(h:newsOf k y H=some ys) :
  ∃ A m cs,vy = .slice A ys.length m∧RL w (c.X ρ H) k ys cs∧(ys≠[] → ∃ b o,A=some ⟨b,o,none⟩ ∧ ∀ (j:Nat) (u:Value),cs[j]? = some u→w.cell? ⟨b,o+j,none⟩=some u)∧(∀ a,A=some a → ∃ b o,a=⟨b,o,none⟩∨ys=[]):=by
 unfold newsOf at h
 split at h
 ·rename_i k' ys'
  split at h
  ·rename_i hk
   subst hk
   injection h with h
   obtain rfl:ys'=ys:=h
   unfold RD RP at hy
   obtain ⟨A,m,hv,_,_,h3⟩:=hy
   by_cases hne:ys'=[]
   ·subst hne
    exact ⟨A,m,[],hv,⟨by simp,by simp⟩,fun h=>absurd rfl h,fun a _=>⟨0,0,.inr rfl⟩⟩
   ·obtain ⟨b,o,hA,hb,hX,hr⟩:=h3 hne
    obtain ⟨cs,g1,g2⟩:=RL_of_row hr
    exact ⟨A,m,cs,hv,g1,fun _=>⟨b,o,hA,g2⟩,fun a ha=>by rw [hA] at ha; injection ha with ha; exact ⟨b,o,.inl ha.symm⟩⟩
  ·cases h
 ·injection h with h
  subst h
  unfold RD at hy
  exact ⟨none,0,[],hy,⟨by simp,by simp⟩,fun h=>absurd rfl h,fun a h=>by cases h⟩
 ·rename_i i off len
  split at h
  ·rename_i e k' xs hH
   split at h
   ·rename_i hk
    subst hk
    injection h with h
    subst h
    unfold RD ownRel at hy
    simp only [hH] at hy
    obtain ⟨hle,A,m,hv,h1,h2,h3⟩:=hy
    have hlen:((xs.drop off).take len).length=len:=by simp; omega
    rw [hlen]
    rcases h3 with ⟨hρ,hA,hm,ho⟩|⟨b,cur,hρ,hcur,hsz,hA⟩
    ·have:len=0:=by omega
     subst this
     exact ⟨A,m,[],hv,⟨by simp,by simp⟩,fun h=>absurd (by simp) h,fun a h=>by rw [hA] at h; cases h⟩
    ·obtain ⟨hk,hob⟩:=hh.ob i _ hH
     rcases hob with ⟨hρ',_⟩|⟨b',cur',h1',h2',h3',h4'⟩
     ·rw [hρ'] at hρ; cases hρ
     ·rw [hρ] at h1'
      injection h1' with h1'
      injection h1' with h1'
      subst h1'
      obtain ⟨cs,g1,g2⟩:=RL_of_row (RRow_take (n:=len) (RRow_drop (n:=off) h4'))
      by_cases hl0:len=0
      ·subst hl0
       exact ⟨A,m,[],hv,⟨by simp,by simp⟩,fun h=>absurd (by simp) h,fun a h=>⟨0,0,.inr (by simp)⟩⟩
      ·have hA':=hA (.inl (by omega))
       exact ⟨A,m,cs,hv,g1,fun _=>⟨b,off * k,hA',by simpa using g2⟩,fun a ha=>by rw [hA'] at ha; injection ha with ha; exact ⟨b,off * k,.inl ha.symm⟩⟩
   ·cases h
  ·cases h
 ·cases h
theorem run_append_nothing {t ty e:TypeId}{i:TypeInfo}{size:Nat}(ht:P.underlying t=some (.slice e))(hi:P.info? e=some i)(v:Value)(n:Nat)(xs:List Value)(hown:w.ownsRow 0 e size v n xs)(m:Nat)(A:Option Addr) :
  A=none→(Builtin.append_ #[t,t] ty #[v,.slice A 0 m]).run P w = .ok v w:=by
 rintro rfl
 rcases hown.2 with ⟨rfl,rfl⟩|⟨g,cap,cur,rfl,_,_,hnc,_⟩
 ·simp [Builtin.append_,run_underlying ht,sizeOf,typeInfo,hi,Builtin.lenOf,Builtin.firstCells]
 ·simp [Builtin.append_,run_underlying ht,sizeOf,typeInfo,hi,Builtin.lenOf,Builtin.firstCells,hnc,storeCells]
theorem run_app {t ty e:TypeId}{i:TypeInfo}{z:Value}{k bytes:Nat}(ht:P.underlying t=some (.slice e))(hi:P.info? e=some i)(hz:i.zero=some z)(hsize:i.size=k)(hby:i.bytes=bytes)(hzs:z.cells.size=k)(hk:0<k)(hb:0<bytes)
  {y:DV} {vy:Value} {ys:List PV} (hh:HRel w (c.X ρ H) ρ H) (hy:RD w (c.X ρ H) ρ H y vy) (hn:newsOf k y H=some ys) (v:Value) (n:Nat) (xs:List Value) (hown:w.ownsRow 0 e k v n xs) (hbytes:(n+ys.length) * bytes≤140737488355328) :
  ∃ v' w' cs,(Builtin.append_ #[t,t] ty #[v,vy]).run P w = .ok v' w'∧RL w (c.X ρ H) k ys cs∧w'.ownsRow 0 e k v' (n+ys.length) (xs++cs)∧w.grownBy w' v.ownBlock∧(v'.ownBlock=v.ownBlock∨v'.ownBlock=some w.heap.size):=by
 obtain ⟨A,m,cs,hv,hrl,hA,hA2⟩:=news_rel hh hy hn
 subst hv
 have hle:n+ys.length≤maxLen:=by
  have:(n+ys.length) * 1≤(n+ys.length) * bytes:=Nat.mul_le_mul_left _ hb
  unfold maxLen
  omega
 by_cases hne:ys=[]
 ·subst hne
  have hcs:cs=[]:=List.eq_nil_of_length_eq_zero (by simpa using hrl.1)
  subst hcs
  cases A with
  | none=>exact ⟨v,w,[],run_append_nothing ht hi v n xs hown m none rfl,hrl,by simpa using hown,World.grownBy.refl w _,.inl rfl⟩
  | some a =>
   obtain ⟨v',w',h1,h2,h3,_,h5⟩:=run_append_own_at (P:=P) w 0 t ty e i z k bytes ht hi hz hsize hby hzs hk v n xs hown a 0 m [] (by simp) (by simp) (by simp) (by simpa using hle) (by simpa using hbytes) (Nat.zero_le _)
   exact ⟨v',w',[],h1,hrl,h2,h3,h5⟩
 ·obtain ⟨b,o,rfl,hc⟩:=hA hne
  obtain ⟨v',w',h1,h2,h3,_,h5⟩:=run_append_own_at (P:=P) w 0 t ty e i z k bytes ht hi hz hsize hby hzs hk v n xs hown ⟨b,o,none⟩ ys.length m cs hrl.1 (fun j u hu=>by rw [add_mk]; exact hc j u hu) (RL_one hk hrl) hle hbytes (Nat.zero_le _)
  exact ⟨v',w',cs,h1,hrl,h2,h3,h5⟩
theorem own_new {w':World}{e:TypeId}(he:e<1048576){k n:Nat}{v':Value}{cs:List Value}{zs:List PV}(hk:0<k)(hown:w'.ownsRow 0 e k v' n cs)(hn:zs.length=n){X:Nat→Prop}(hrl:RL w X k zs cs) :
  (∀ (X':Nat→Prop) (ρ':Rho) (H':Heap),Pres w X w' X' → ρ'[H.length]? = some v'.ownBlock→obRel w' X' ρ' H' H.length (.arr e k zs)) ∧
  ∀ (ρ':Rho) (H':Heap),ρ'[H.length]? = some v'.ownBlock→H'[H.length]? = some (.arr e k zs)→ownRel w' ρ' H' H.length 0 n v':=by
 rcases hown.2 with ⟨rfl,rfl⟩|⟨g,cap,cur,rfl,_,hg,hnc,hcm,hcs,htake⟩
 ·have hz:zs=[]:=List.eq_nil_of_length_eq_zero hn
  subst hz
  refine ⟨fun X' ρ' H' _ hρ => ⟨hk,.inl ⟨hρ,rfl⟩⟩,fun ρ' H' hρ hH => ?_⟩
  unfold ownRel
  simp only [hH]
  exact ⟨by simp,none,0,rfl,Nat.le_refl _,Nat.zero_le _,.inl ⟨hρ,rfl,by simp,by simp⟩⟩
 ·have hg':w'.heap[g]? = some (.cells cur (elT e) (frOf e cur.size)):=by rw [elT_lt he,frOf_lt he]; exact hg
  refine ⟨fun X' ρ' H' hp hρ => ⟨hk,.inr ⟨g,cur,hρ,hg',by rw [hn,hcs]; exact Nat.mul_le_mul_right _ hnc,?_⟩⟩,fun ρ' H' hρ hH => ?_⟩
  ·refine RL_row (RL_mono hp hrl) hg ?_
   rw [hown.1,htake]
  ·unfold ownRel
   simp only [hH]
   exact ⟨by omega,_,cap,rfl,hnc,hcm,.inr ⟨g,cur,hρ,hg',by rw [Nat.zero_add,hcs],fun _=>by simp⟩⟩
theorem append_get {α : Type}(l:List α)(a : α):(l++[a])[l.length]? = some a:=by simp
theorem eff_app {t ty e:TypeId}{i:TypeInfo}{z:Value}{k bytes:Nat}(ht:P.underlying t=some (.slice e))(hi:P.info? e=some i)(hz:i.zero=some z)(hsize:i.size=k)(hby:i.bytes=bytes)(hzs:z.cells.size=k)(hk:0<k)(hb:0<bytes)(he:e<1048576)
  (st:StR c ρ env H tmps w) {x y:DV} {vx vy:Value} (hx:RD w (c.X ρ H) ρ H x vx) (hy:RD w (c.X ρ H) ρ H y vy) (h:(R.news (newsOf k y H) (appR e k bytes x H)).run M q K) :
  Eff P c env tmps K w (Builtin.append_ #[t,t] ty #[vx,vy]):=by
 obtain ⟨ys,hn,h⟩:=h
 unfold appR at h
 have hlen:=st.h.len
 split at h
 ·obtain ⟨hbytes,h⟩:=h
  unfold RD at hx
  subst hx
  have hown:w.ownsRow 0 e k (.slice none 0 0) 0 []:=World.ownsRow_nil w 0 e k
  obtain ⟨v',w',cs,h1,h2,h3,h4,h5⟩:=run_app (ty:=ty) ht hi hz hsize hby hzs hk hb st.h hy hn _ _ _ hown (by simpa using hbytes)
  simp only [Nat.zero_add,List.nil_append] at h3
  obtain ⟨g1,g2⟩:=own_new (H:=H) he hk h3 rfl h2
  have hst:=st.app (i:=H.length) (r:=none) (fun b hb=>by cases hb) h4 (g:=v'.ownBlock) (ob := .arr e k ys) (fun b hb=>by
   rcases h5 with h5|h5
   ·rw [h5] at hb; cases hb
   ·rw [h5] at hb; injection hb with hb; exact .inr (by omega)) fun hp _=>g1 _ _ _ hp (by rw [← hlen]; exact append_get _ _)
  have hset:setL H H.length OB.dead=H:=(setL_eq_set _ _ _).trans (List.set_eq_of_length_le (Nat.le_refl _))
  rw [hset] at hst
  exact ⟨v',w',_,_,_,h1,h,hst,by unfold RD; exact g2 _ _ (by rw [← hlen]; exact append_get _ _) (append_get _ _)⟩
 ·rename_i i0 off len
  split at h
  ·rename_i e' k' xs hH
   split at h
   ·rename_i hcond
    obtain ⟨rfl,rfl,rfl⟩:=hcond
    obtain ⟨hbytes,h⟩:=h
    unfold RD ownRel at hx
    simp only [hH] at hx
    obtain ⟨hle,A,cap,hv,q1,q2,q3⟩:=hx
    subst hv
    have hrow : ∃ cs0,w.ownsRow 0 e k (.slice A len cap) len cs0∧RL w (c.X ρ H) k (xs.take len) cs0∧(∀ b,(Value.slice A len cap).ownBlock=some b → ρ[i0]? = some (some b)) ∧ ρ[i0]? = some (Value.slice A len cap).ownBlock:=by
     rw [elT_lt he] at q3
     simp only [frOf_lt he] at q3
     rcases q3 with ⟨hρ,hA,hc0,_⟩|⟨b,cur,hρ,hcur,hsz,hA⟩
     ·subst hA
      subst hc0
      have hl0:len=0:=by omega
      subst hl0
      exact ⟨[],World.ownsRow_nil w 0 e k,⟨by simp,by simp⟩,(fun b hb=>by cases hb),hρ⟩
     ·have hA':=hA (by simp)
      simp at hA'
      subst hA'
      obtain ⟨_,hob⟩:=st.h.ob i0 _ hH
      rcases hob with ⟨hρ',_⟩|⟨b',cur',r1,r2,r3,r4⟩
      ·rw [hρ'] at hρ; cases hρ
      ·rw [hρ] at r1
       injection r1 with r1
       injection r1 with r1
       subst r1
       rw [hcur] at r2
       injection r2 with r2
       injection r2 with r2
       subst r2
       obtain ⟨cs,g1,g2⟩:=RL_of_row r4
       have htk:cur.toList.take cs.length=cs:=by
        refine List.ext_getElem? ?_
        intro j
        rw [List.getElem?_take]
        split
        ·rename_i hj
         have:=g2 j _ (List.getElem?_eq_getElem hj)
         rw [cell_own hcur] at this
         rw [List.getElem?_eq_getElem hj,← this]
         simp
        ·rename_i hj
         rw [List.getElem?_eq_none (by omega)]
       have hlk:len * k≤cs.length:=by rw [g1.1]; exact Nat.mul_le_mul_right _ (by omega)
       refine ⟨cs.take (len * k),⟨by simp; omega,.inr ⟨b,cap,cur,rfl,Nat.zero_le _,hcur,q1,q2,by rw [← hsz,Nat.zero_add],?_⟩⟩,RL_take g1,fun b1 hb1=>by simp [Value.ownBlock] at hb1; rw [← hb1]; exact hρ,hρ⟩
       rw [← htk,List.take_take,Nat.min_eq_left hlk]
    obtain ⟨cs0,hown,hrl0,hob1,hob2⟩:=hrow
    obtain ⟨v',w',cs,h1,h2,h3,h4,h5⟩:=run_app (ty:=ty) ht hi hz hsize hby hzs hk hb st.h hy hn _ _ _ hown hbytes
    have hlt:(xs.take len).length=len:=by simp; omega
    obtain ⟨g1,g2⟩:=own_new (H:=H) he hk h3 (zs:=xs.take len++ys) (by simp; omega) (RL_append hrl0 h2)
    have hst:=st.app (i:=i0) (r:=(Value.slice A len cap).ownBlock) (fun b hb=>⟨_,hH,rfl,hob1 b hb⟩) h4 (g:=v'.ownBlock) (ob := .arr e k (xs.take len++ys)) (fun b hb=>by
     rcases h5 with h5|h5
     ·rw [h5] at hb; exact .inl hb
     ·rw [h5] at hb; injection hb with hb; exact .inr (by omega)) fun hp _=>g1 _ _ _ hp (by rw [← hlen]; exact append_get _ _)
    have hget:(setL H i0 OB.dead++[OB.arr e k (xs.take len++ys)])[H.length]? = some (OB.arr e k (xs.take len++ys)):=by
     have:=append_get (setL H i0 OB.dead) (OB.arr e k (xs.take len++ys))
     rwa [setL_length] at this
    exact ⟨v',w',_,_,_,h1,h,hst,by unfold RD; exact g2 _ _ (by rw [← hlen]; exact append_get _ _) hget⟩
   ·exact h.elim
  ·exact h.elim
 ·exact h.elim
theorem setL_end (b:OB):setL H H.length b=H:=(setL_eq_set _ _ _).trans (List.set_eq_of_length_le (Nat.le_refl _))
theorem StR.new {w':World}(st:StR c ρ env H tmps w)(hg:w.grownBy w' none){ob:OB}
  (hob:Pres w (c.X ρ H) w' (c.X (ρ ++ [some w.heap.size]) (H++[ob]))→HStep w ρ H w' (ρ ++ [some w.heap.size]) (H++[ob]) →
   obRel w' (c.X (ρ ++ [some w.heap.size]) (H++[ob])) (ρ ++ [some w.heap.size]) (H++[ob]) H.length ob) :
  StR c (ρ ++ [some w.heap.size]) env (H++[ob]) tmps w':=by
 have:=st.app (w':=w') (i:=H.length) (r:=none) (g:=some w.heap.size) (ob:=ob) (fun b hb=>by cases hb) hg (fun b hb=>by injection hb with hb; exact .inr (by omega))
 rw [setL_end] at this
 exact this hob
theorem rho_new (st:StR c ρ env H tmps w)(g:Option Nat):(ρ ++ [g])[H.length]? = some g:=by rw [← st.h.len]; exact append_get _ _
theorem eff_box {e:TypeId}(he5:e<1048576)(st:StR c ρ env H tmps w){x:DV}{vx:Value}(hx:RD w (c.X ρ H) ρ H x vx)(h:(R.ofCells (cellsD x) fun cs => .ok (.ptr H.length 0 0) (H++[.box e cs])).run M q K) :
  Eff P c env tmps K w (Instr.box e vx):=by
 cases hc:cellsD x with
 | none=>simp [hc,R.ofCells,R.run] at h
 | some cs =>
  simp only [hc,R.ofCells,R.run] at h
  have hr:=cellsD_rel hc hx
  refine ⟨.pointer (some ⟨w.heap.size,0,none⟩),w.alloc (.cells vx.cells e),_,_,_,?_,h,st.new (World.grownBy_alloc w _ none) fun hp hs=>⟨w.heap.size,vx.cells,rho_new st _,(boxT_lt he5).symm ▸ heap_alloc_new w _,RDs_mono hp hs _ _ hr⟩,?_⟩
  ·simp [Instr.box,newVar,newRow]
  ·unfold RD ptrRel
   simp only [append_get]
   exact ⟨_,rho_new st _,rfl⟩
theorem heap_alloc_lt {w:World}{e:TypeId}{cur:Array Value}(he:e<1048576):(w.alloc (.cells cur e)).heap[w.heap.size]? = some (.cells cur (elT e) (frOf e cur.size)):=by
 rw [elT_lt he,frOf_lt he]
 exact heap_alloc_new w _
theorem zeroEl_cells {z:List PV}(h : ∀ x∈z,x.cells=[x]):(zeroEl z).cells=z:=by
 match z with
 | []=>rfl
 | [x]=>exact h x (by simp)
 | x::y::r=>rfl
theorem RPs_single {X:Nat→Prop}{xs:List PV}{vs:List Value}(h:RPs w X xs vs) : ∀ x∈xs,x.cells=[x]:=by
 intro x hx
 obtain ⟨j,hj⟩:=List.getElem?_of_mem hx
 obtain ⟨v,hv,h1,h2⟩:=RPs_get h hj
 cases x with
 | agg cs =>
  unfold RP at h2
  obtain ⟨vs,hvs,_⟩:=h2
  subst hvs
  simp [Value.oneCell'] at h1
 | _=>rfl
theorem rep_get (z:Array Value)(n i:Nat)(hz:0<z.size)(hi:i<n * z.size):((Array.range (n * z.size)).map (z[· % z.size]!))[i]? = z[i % z.size]? := by
 rw [Array.getElem?_map,Array.getElem?_range,if_pos hi]
 have:=Nat.mod_lt i hz
 simp [this,getElem!_pos]
theorem RL_zero {X:Nat→Prop}{z:List PV}{zv:Array Value}(n:Nat)(hz:RPs w X z zv.toList)(hk:0<z.length):RL w X z.length (List.replicate n (zeroEl z)) ((Array.range (n * zv.size)).map (zv[· % zv.size]!)).toList:=by
 have hl:zv.size=z.length:=by simpa using RPs_length hz
 refine ⟨by simp [hl],fun j x hx => ?_⟩
 have hj:j<n:=by
  have:=lt_of_get hx
  simpa using this
 have hx':x=zeroEl z:=by
  rw [List.getElem?_replicate,if_pos hj] at hx
  injection hx with hx
  exact hx.symm
 subst hx'
 refine RE_of_cells ?_
 rw [zeroEl_cells (RPs_single hz)]
 have:(((Array.range (n * zv.size)).map (zv[· % zv.size]!)).toList.drop (j * z.length)).take z.length=zv.toList:=by
  refine List.ext_getElem? ?_
  intro i
  rw [List.getElem?_take]
  by_cases hi:i<z.length
  ·rw [if_pos hi,List.getElem?_drop]
   have hle:(j+1) * z.length≤n * z.length:=Nat.mul_le_mul_right _ hj
   rw [Nat.add_mul,Nat.one_mul] at hle
   have:=rep_get zv n (j * z.length+i) (by omega) (by rw [hl]; omega)
   rw [Array.getElem?_toList,this,hl]
   rw [Nat.mul_add_mod',Nat.mod_eq_of_lt hi]
   simp
  ·rw [if_neg hi,List.getElem?_eq_none (by simp [hl]; omega)]
 rw [this]
 exact hz
theorem RL_set {X:Nat→Prop}{k j:Nat}{ys:List PV}{cs us:List Value}{y:PV}(h:RL w X k ys cs)(hy:RPs w X y.cells us)(hw:y.cells.length=k)(hj:j<ys.length):RL w X k (setL ys j y) (setCells cs (j * k) us):=by
 have lu:=RPs_length hy
 refine ⟨by rw [setCells_length,setL_length,h.1],fun m x hx => ?_⟩
 have hm:=lt_of_get hx
 rw [setL_length] at hm
 have hle:(m+1) * k≤ys.length * k:=Nat.mul_le_mul_right _ hm
 rw [Nat.add_mul,Nat.one_mul,← h.1] at hle
 rw [setL_get] at hx
 split at hx
 ·rename_i hc
  injection hx with hx
  subst hx
  obtain ⟨rfl,_⟩:=hc
  refine RE_of_cells ?_
  have:((setCells cs (m * k) us).drop (m * k)).take k=us:=by
   refine List.ext_getElem? ?_
   intro i
   rw [List.getElem?_take]
   split
   ·rw [List.getElem?_drop,setCells_get,if_pos (by omega)]
    congr 1
    omega
   ·rw [List.getElem?_eq_none (by omega)]
  rw [this]
  exact hy
 ·rename_i hc
  have hmj:m≠j:=fun e=>hc ⟨e,by rw [← e]; exact hm⟩
  have:((setCells cs (j * k) us).drop (m * k)).take k=(cs.drop (m * k)).take k:=by
   refine List.ext_getElem? ?_
   intro i
   rw [List.getElem?_take,List.getElem?_take]
   split
   ·rw [List.getElem?_drop,List.getElem?_drop,setCells_get,if_neg]
    rcases Nat.lt_or_gt_of_ne hmj with hlt|hgt
    ·have:(m+1) * k≤j * k:=Nat.mul_le_mul_right _ hlt
     rw [Nat.add_mul,Nat.one_mul] at this
     omega
    ·have:(j+1) * k≤m * k:=Nat.mul_le_mul_right _ hgt
     rw [Nat.add_mul,Nat.one_mul] at this
     omega
   ·rfl
  rw [this]
  exact h.2 m x hx
def evP2 (F:DV→DV)(env:Env):List (Nat × Xp)→List (Nat × DV)
 | []=>[]
 | (o,x)::ps=>(o,F (ev env x))::evP2 F env ps
theorem fill_rows {e k n:Nat}{a:Act}(F:DV→DV) : ∀ (ps:List (Nat × Operand)) (rs:List (Nat × Xp)) (els:List PV) (cur:Array Value),(∀ x y i,(i,y)∈rs→compX x=some y→RD w (c.X ρ H) ρ H (F (ev env y)) (a.eval x))→compParts2 ps=some rs→RL w (c.X ρ H) k els cur.toList→els.length=n →
  (bslR e k n H els (evP2 F env rs)).run M q K → ∃ cur' els',Instr.fill (fun i=>some (i * k,k)) cur (ps.map fun (i,x)=>(i,a.eval x))=some cur'∧RL w (c.X ρ H) k els' cur'.toList∧els'.length=n∧K (.own H.length 0 n) (H++[.arr e k els'])
 | [],rs,els,cur,_,hc,hz,hn,h=>by
  simp [compParts2] at hc
  subst hc
  exact ⟨cur,els,rfl,hz,hn,h⟩
 | (i,x)::ps,rs,els,cur,he,hc,hz,hn,h=>by
  simp only [compParts2] at hc
  cases hx:compX x with
  | none=>simp [hx] at hc
  | some y =>
   cases hr:compParts2 ps with
   | none=>simp [hx,hr] at hc
   | some r =>
    simp [hx,hr] at hc
    subst hc
    simp only [evP2,bslR] at h
    cases hpv:pvOf (F (ev env y)) with
    | none=>simp [hpv,R.run] at h
    | some py =>
     simp only [hpv] at h
     split at h
     ·rename_i hcond
      have hre:=RP_cells (pvOf_rel hpv (he _ _ i (by simp) hx))
      have l1:=RPs_length hre
      have hsz:(a.eval x).cells.size=k:=by rw [← hcond.2,← l1]; simp
      obtain ⟨cur',els',h1,h2,h3,h4⟩:=fill_rows F ps r (setL els i py) ((a.eval x).cells.zipIdx.foldl (fun cs (c,j)=>cs.setIfInBounds (i * k+j) c) cur) (fun x y i hi hx=>he x y i (List.mem_cons_of_mem _ hi) hx) hr (by rw [zipIdx_fold]; exact RL_set hz hre hcond.2 (by omega)) (by rw [setL_length,hn]) h
      refine ⟨cur',els',?_,h2,h3,h4⟩
      simp only [List.map_cons,Instr.fill]
      rw [if_neg]
      ·exact h1
      ·simp only [Bool.or_eq_true,decide_eq_true_eq,ne_eq,not_or,Decidable.not_not]
       have hl:=hz.1
       simp only [Array.length_toList] at hl
       have:(i+1) * k≤els.length * k:=Nat.mul_le_mul_right _ (by omega)
       rw [Nat.add_mul,Nat.one_mul] at this
       omega
     ·exact h.elim
theorem eff_bslF (F:DV→DV){t e:TypeId}{k n:Nat}{z:List DV}{ps:Array (Nat × Operand)}{rs:List (Nat × Xp)}{a:Act}(ht:P.underlying t=some (.slice e))(hk:sizeP P e=some k)(hz:zeroP P e=some z)(hc:compParts2 ps.toList=some rs)
  (he5:e<1048576) (st:StR c ρ env H a.tmps w) (hF : ∀ x y i,(i,y)∈rs→compX x=some y→RD w (c.X ρ H) ρ H (F (ev env y)) (a.eval x)) (h:(match pvOfs z with
   | some z=>if z.length=k∧0<k∧n * k≤16777216 then bslR e k n H (List.replicate n (zeroEl z)) (evP2 F env rs) else R.fail
   | none => .fail).run M q K):Eff P c env a.tmps K w (Instr.buildSlice t n (ps.map fun (i,x)=>(i,a.eval x))):=by
 cases hpz:pvOfs z with
 | none=>simp [hpz,R.run] at h
 | some zp =>
  simp only [hpz] at h
  split at h
  ·rename_i hcond
   obtain ⟨rfl,hk0,hcap⟩:=hcond
   obtain ⟨zv,hzr,hzd⟩:=run_zero hz w
   have hzp:RPs w (c.X ρ H) zp zv.cells.toList:=pvOfs_rel hpz (dvOfs_rel (w:=w) (X:=c.X ρ H) (ρ := ρ) (H:=H) hzd)
   have hl:zv.cells.size=zp.length:=by simpa using RPs_length hzp
   obtain ⟨cur',els',h1,h2,h3,h4⟩:=fill_rows F _ _ _ ((Array.range (n * zv.cells.size)).map (zv.cells[· % zv.cells.size]!)) hF hc (RL_zero n hzp hk0) (by simp) h
   have hcl:cur'.size=n * zp.length:=by simpa [h3] using h2.1
   refine ⟨.slice (some ⟨w.heap.size,0,none⟩) n n,w.alloc (.cells cur' e),_,_,_,?_,h4,st.new (World.grownBy_alloc w _ none) fun hp hs=>⟨hk0,.inr ⟨w.heap.size,cur',rho_new st _,(heap_alloc_lt he5),by rw [h3,hcl]; exact Nat.le_refl _,RL_row (RL_mono hp h2) ((heap_alloc_lt he5)) (List.take_length)⟩⟩,?_⟩
   ·have hnz : ¬ n * zp.length > 2 ^ 24:=by omega
    simp only [Instr.buildSlice,Sem.run_bind,run_ul ht,Result.andThen_ok,run_size hk,if_neg hnz]
    by_cases h0:n * zp.length=0
    ·have hA : ∀ g:Nat→Value,Array.map g (Array.range (n * zp.length)) = #[]:=fun g=>by
      rw [h0]
      refine Array.ext' ?_
      simp
     rw [hl,hA] at h1
     simp only [if_pos h0,Sem.run_bind,Sem.run_pure,Result.andThen_ok,hA,Array.toList_map,h1,newRow,run_newObj]
     rfl
    ·simp only [if_neg h0,Sem.run_bind,hzr,Result.andThen_ok,Sem.run_pure]
     rw [hl] at h1
     rw [hl]
     simp only [Array.toList_map,h1,newRow,Sem.run_bind,run_newObj,Result.andThen_ok,Sem.run_pure]
     rfl
   ·have hmx:n≤maxLen:=by
     have:n * 1≤n * zp.length:=Nat.mul_le_mul_left _ hk0
     unfold maxLen
     omega
    unfold RD ownRel
    simp only [append_get]
    exact ⟨by omega,_,n,rfl,Nat.le_refl _,hmx,.inr ⟨w.heap.size,cur',rho_new st _,(heap_alloc_lt he5),by rw [Nat.zero_add,hcl],fun _=>by simp⟩⟩
  ·exact h.elim
theorem evP2_id {env:Env} : ∀ rs:List (Nat × Xp),evP2 id env rs=evParts2 env rs
 | []=>rfl
 | (o,x)::rs=>by rw [evP2,evParts2,evP2_id rs]; rfl
theorem evP2_frz {env:Env}{H:Heap} : ∀ rs:List (Nat × Xp),evP2 (frzD H) env rs=frzPs H (evParts2 env rs)
 | []=>rfl
 | (o,x)::rs=>by rw [evP2,evParts2,frzPs,evP2_frz rs]
theorem frz_in {env:Env} : ∀ {rs:List (Nat × Xp)} {i:Nat} {y:Xp},(i,y)∈rs→pvOf (ev env y)=none → ∀ j∈refs (ev env y),j∈frzIds (evParts2 env rs)
 | [],i,y,h,_,_,_=>by simp at h
 | (o,x)::rs,i,y,h,hp,j,hj=>by
  simp only [List.mem_cons] at h
  simp only [evParts2,frzIds,List.mem_append]
  rcases h with h|h
  ·injection h with h1 h2
   subst h2
   rw [hp]
   exact .inl hj
  ·exact .inr (frz_in h hp j hj)
theorem eff_bsl {t e:TypeId}{k n:Nat}{z:List DV}{ps:Array (Nat × Operand)}{rs:List (Nat × Xp)}{a:Act}(ht:P.underlying t=some (.slice e))(hk:sizeP P e=some k)(hz:zeroP P e=some z)(hc:compParts2 ps.toList=some rs)
  (he5:e<1048576) (st:StR c ρ env H a.tmps w) (h:(match pvOfs z with
   | some z=>if z.length=k∧0<k∧n * k≤16777216 then frzR (evParts2 env rs) H (fun ps H=>bslR e k n H (List.replicate n (zeroEl z)) ps) else R.fail
   | none => .fail).run M q K):Eff P c env a.tmps K w (Instr.buildSlice t n (ps.map fun (i,x)=>(i,a.eval x))):=by
 cases hpz:pvOfs z with
 | none=>simp [hpz,R.run] at h
 | some zp =>
  simp only [hpz] at h
  split at h
  ·rename_i hcond
   unfold frzR at h
   split at h
   ·refine eff_bslF (M:=M) (q:=q) id ht hk hz hc he5 st (fun x y _ _ hx=>compX_rel st.e hx) ?_
    simp only [hpz]
    rw [if_pos hcond,evP2_id]
    exact h
   ·refine eff_bslF (M:=M) (q:=q) (frzD H) ht hk hz hc he5 (st.kill st.lenH0 (frzIds (evParts2 env rs))) (fun x y i hi hx=>frz_rel st (fun hp=>frz_in hi hp) (compX_rel st.e hx)) ?_
    simp only [hpz]
    rw [if_pos hcond,evP2_frz]
    exact h
  ·exact h.elim
theorem eff_mks {t e:TypeId}{i:TypeInfo}{z:List DV}(ht:P.underlying t=some (.slice e))(hi:P.info? e=some i)(hz:zeroP P e=some z)(hb:0<i.bytes)
  (he5:e<1048576) (st:StR c ρ env H tmps w) {l m:DV} {vl vm:Value} (hl:RD w (c.X ρ H) ρ H l vl) (hm:RD w (c.X ρ H) ρ H m vm) (h:(mksR e i.size i.bytes z l m H).run M q K):Eff P c env tmps K w (Instr.makeSlice t vl vm):=by
 unfold mksR at h
 split at h
 ·rename_i n n' zp hpz
  split at h
  ·rename_i hcond
   obtain ⟨hzl,hk0⟩:=hcond
   obtain ⟨⟨hn0,hnn,hby⟩,h⟩:=h
   have:=rp_int hl
   subst this
   have:=rp_int hm
   subst this
   obtain ⟨zv,hzr,hzd⟩:=run_zero hz w
   have hzi:i.zero=some zv:=by
    cases hzz:i.zero with
    | none=>simp [zeroValue,run_ti hi,hzz] at hzr
    | some u =>
     simp [zeroValue,run_ti hi,hzz] at hzr
     rw [hzr]
   have hzp:RPs w (c.X ρ H) zp zv.cells.toList:=pvOfs_rel hpz (dvOfs_rel (w:=w) (X:=c.X ρ H) (ρ := ρ) (H:=H) hzd)
   have hzs:zv.cells.size=zp.length:=by simpa using RPs_length hzp
   have hnb:n'≤281474976710656:=by
    have:n' * 1≤n' * i.bytes:=Int.mul_le_mul_of_nonneg_left (by omega) (by omega)
    omega
   have hrun:=run_make (P:=P) w t e i zv ht hi hzi .i64 .i64 n n' hn0 hnn (by rw [Int.mul_comm]; exact hby) (by omega)
   have hmc:madeCells zv.cells (n'.toNat * i.size)=(Array.range (n'.toNat * zv.cells.size)).map (zv.cells[· % zv.cells.size]!):=by
    rw [show n'.toNat * i.size=n'.toNat * zv.cells.size from by rw [hzs,hzl]]
    rfl
   have hrl:RL w (c.X ρ H) i.size (List.replicate n'.toNat (zeroEl zp)) (madeCells zv.cells (n'.toNat * i.size)).toList:=by
    rw [hmc,← hzl]
    exact RL_zero n'.toNat hzp (by omega)
   have hcl:(madeCells zv.cells (n'.toNat * i.size)).size=n'.toNat * i.size:=by simpa using hrl.1
   have hnn':n.toNat≤n'.toNat:=by omega
   refine ⟨_,_,_,_,_,hrun,h,st.new (World.grownBy_alloc w _ none) fun hp hs=>⟨hk0,.inr ⟨w.heap.size,_,rho_new st _,(heap_alloc_lt he5),by rw [hcl]; simp only [List.length_replicate]; exact Nat.mul_le_mul_right _ hnn',RRow_of_get fun j x hx=>RRow_get (RL_row (RL_mono hp hrl) ((heap_alloc_lt he5)) (List.take_length)) (by
    have hj:=lt_of_get hx
    rw [List.length_replicate] at hj
    rw [List.getElem?_replicate,if_pos hj] at hx
    rw [List.getElem?_replicate,if_pos (by omega)]
    exact hx)⟩⟩,?_⟩
   unfold RD ownRel
   simp only [append_get]
   exact ⟨by simp,_,n'.toNat,rfl,hnn',by unfold maxLen; omega,.inr ⟨w.heap.size,_,rho_new st _,(heap_alloc_lt he5),by rw [Nat.zero_add,hcl],fun _=>by simp⟩⟩
  ·exact h.elim
 ·exact h.elim
theorem flat_rep {z:List DV} : ∀ {n j:Nat},0<z.length→(List.replicate n z).flatten[j]? = if j<n * z.length then z[j % z.length]? else none
 | 0,j,_=>by simp
 | n+1,j,hz=>by
  rw [List.replicate_succ,List.flatten_cons]
  by_cases h:j<z.length
  ·rw [List.getElem?_append_left h,if_pos (by rw [Nat.add_mul]; omega),Nat.mod_eq_of_lt h]
  ·have e:(n+1) * z.length=n * z.length+z.length:=by rw [Nat.add_mul]; omega
   have e2:j % z.length=(j - z.length) % z.length:=Nat.mod_eq_sub_mod (by omega)
   rw [List.getElem?_append_right (by omega),flat_rep hz,e2]
   by_cases h2:j<(n+1) * z.length
   ·rw [if_pos (by omega),if_pos h2]
   ·rw [if_neg (by omega),if_neg h2]
theorem eff_mkb {t e:TypeId}{i:TypeInfo}{z:List DV}(ht:P.underlying t=some (.slice e))(hi:P.info? e=some i)(hz:zeroP P e=some z)(hb:0<i.bytes)
  (he5:e<1048576) (st:StR c ρ env H tmps w) {l m:DV} {vl vm:Value} (hl:RD w (c.X ρ H) ρ H l vl) (hm:RD w (c.X ρ H) ρ H m vm) (h:(mkbR e i.size i.bytes z l m H).run M q K):Eff P c env tmps K w (Instr.makeSlice t vl vm):=by
 unfold mkbR at h
 split at h
 ·rename_i n n'
  split at h
  ·rename_i hcond
   obtain ⟨hzl,hk0,_⟩:=hcond
   obtain ⟨⟨hn0,hnn,hby⟩,h⟩:=h
   subst hnn
   have:=rp_int hl
   subst this
   have:=rp_int hm
   subst this
   obtain ⟨zv,hzr,hzd⟩:=run_zero hz w
   have hzi:i.zero=some zv:=by
    cases hzz:i.zero with
    | none=>simp [zeroValue,run_ti hi,hzz] at hzr
    | some u =>
     simp [zeroValue,run_ti hi,hzz] at hzr
     rw [hzr]
   have hzp:RDs w (c.X ρ H) ρ H z zv.cells.toList:=dvOfs_rel (w:=w) (X:=c.X ρ H) (ρ := ρ) (H:=H) hzd
   have hzs:zv.cells.size=z.length:=by simpa using RDs_length hzp
   have hnb:n≤281474976710656:=by
    have:n * 1≤n * i.bytes:=Int.mul_le_mul_of_nonneg_left (by omega) (by omega)
    omega
   have hrun:=run_make (P:=P) w t e i zv ht hi hzi .i64 .i64 n n hn0 (Int.le_refl _) (by rw [Int.mul_comm]; exact hby) (by omega)
   have hmc:madeCells zv.cells (n.toNat * i.size)=(Array.range (n.toNat * zv.cells.size)).map (zv.cells[· % zv.cells.size]!):=by
    rw [show n.toNat * i.size=n.toNat * zv.cells.size from by rw [hzs,hzl]]
    rfl
   have hcl:(madeCells zv.cells (n.toNat * i.size)).size=n.toNat * i.size:=by rw [hmc,hzs,hzl]; simp
   have hfl:(List.replicate n.toNat z).flatten.length=n.toNat * z.length:=by simp
   have hrl:RDs w (c.X ρ H) ρ H (List.replicate n.toNat z).flatten (madeCells zv.cells (n.toNat * i.size)).toList:=by
    refine RDs_of_get (by rw [Array.length_toList,hcl,hfl,hzl]) fun j x hx => ?_
    have hj:j<n.toNat * z.length:=by
     have:=lt_of_get hx
     omega
    rw [flat_rep (by omega),if_pos hj] at hx
    obtain ⟨u,hu,h1,h2⟩:=RDs_get hzp hx
    refine ⟨u,?_,h1,h2⟩
    rw [Array.getElem?_toList] at hu ⊢
    rw [hmc,rep_get zv.cells n.toNat j (by omega) (by rw [hzs]; exact hj),hzs]
    exact hu
   refine ⟨_,_,_,_,_,hrun,h,st.new (World.grownBy_alloc w _ none) fun hp hs=>⟨w.heap.size,_,rho_new st _,(boxT_row he5).symm ▸ heap_alloc_new w _,RDs_mono hp hs _ _ hrl⟩,?_⟩
   unfold RD ownRel
   simp only [append_get]
   exact ⟨by rw [rowK_row he5]; exact hk0,trivial,w.heap.size,n.toNat,rho_new st _,rfl,Nat.le_refl _,by unfold maxLen; omega⟩
  ·exact h.elim
 ·exact h.elim
theorem setL_self {α : Type}{l:List α}{i:Nat}{a : α}(h:l[i]? = some a):setL l i a=l:=by
 refine List.ext_getElem? ?_
 intro j
 rw [setL_get]
 split
 ·rename_i hc
  rw [hc.1,h]
 ·rfl
theorem RL_drop {X:Nat→Prop}{k n:Nat}{ys:List PV}{cs:List Value}(h:RL w X k ys cs):RL w X k (ys.drop n) (cs.drop (n * k)):=by
 refine ⟨by simp [h.1,Nat.sub_mul],fun j x hx => ?_⟩
 rw [List.getElem?_drop] at hx
 have:=h.2 _ x hx
 rwa [Nat.add_mul,← List.drop_drop] at this
theorem own_cells {i b:Nat}{e:TypeId}{k:Nat}{xs:List PV}{cur:Array Value}(hh:HRel w (c.X ρ H) ρ H)(hH:H[i]? = some (.arr e k xs))(hρ : ρ[i]? = some (some b))(hcur:w.heap[b]? = some (.cells cur (elT e) (frOf e cur.size))) :
  ∃ cs,RL w (c.X ρ H) k xs cs∧cur.toList.take cs.length=cs∧xs.length * k≤cur.size∧0<k:=by
 obtain ⟨hk,hob⟩:=hh.ob i _ hH
 rcases hob with ⟨hρ',_⟩|⟨b',cur',r1,r2,r3,r4⟩
 ·rw [hρ'] at hρ; cases hρ
 ·rw [hρ] at r1
  injection r1 with r1
  injection r1 with r1
  subst r1
  rw [hcur] at r2
  injection r2 with r2
  injection r2 with r2
  subst r2
  obtain ⟨cs,g1,g2⟩:=RL_of_row r4
  refine ⟨cs,g1,?_,r3,hk⟩
  refine List.ext_getElem? ?_
  intro j
  rw [List.getElem?_take]
  split
  ·rename_i hj
   have:=g2 j _ (List.getElem?_eq_getElem hj)
   rw [cell_own hcur] at this
   rw [List.getElem?_eq_getElem hj,← this]
   simp
  ·rename_i hj
   rw [List.getElem?_eq_none (by omega)]
theorem run_first {k n m:Nat}{A:Option Addr}{cs:List Value}{len:Nat}(hl:cs.length=n * k)(hA:n≠0 → ∃ b o,A=some ⟨b,o,none⟩ ∧ ∀ (j:Nat) (u:Value),cs[j]? = some u→w.cell? ⟨b,o+j,none⟩=some u)(hA0:n=0→True) :
  (Builtin.firstCells k n (.slice A len m)).run P w = .ok cs.toArray w:=by
 cases A with
 | none =>
  have hn:n=0:=by
   rcases Nat.eq_zero_or_pos n with h|h
   ·exact h
   ·obtain ⟨b,o,h,_⟩:=hA (by omega)
    cases h
  subst hn
  have:cs=[]:=List.eq_nil_of_length_eq_zero (by simpa using hl)
  subst this
  simp [Builtin.firstCells]
 | some a =>
  by_cases hn:n=0
  ·subst hn
   have:cs=[]:=List.eq_nil_of_length_eq_zero (by simpa using hl)
   subst this
   simp [Builtin.firstCells,loadCells,loadCellsFrom]
  ·obtain ⟨b,o,h,hc⟩:=hA hn
   injection h with h
   subst h
   exact run_firstCells_some w k n ⟨b,o,none⟩ len m cs hl fun j u hu=>by rw [add_mk]; exact hc j u hu
theorem eff_cpy {t ty e:TypeId}{k:Nat}(ht:P.underlying t=some (.slice e))(hk:sizeP P e=some k)(st:StR c ρ env H tmps w){x y:DV}{vx vy:Value}(hx:RD w (c.X ρ H) ρ H x vx)(hy:RD w (c.X ρ H) ρ H y vy)
  (h:(R.news (newsOf k y H) (cpyR k x H)).run M q K):Eff P c env tmps K w (Builtin.copy_ #[t,t] ty #[vx,vy]):=by
 obtain ⟨ys,hn,h⟩:=h
 unfold cpyR at h
 split at h
 ·rename_i i off len
  split at h
  ·rename_i e' k' xs hH
   split at h
   ·rename_i hkk
    subst hkk
    unfold RD ownRel at hx
    simp only [hH] at hx
    obtain ⟨hle,A,cap,hv,q1,q2,q3⟩:=hx
    subst hv
    obtain ⟨Ay,my,cs,hvy,hrl,hAy,hAy2⟩:=news_rel st.h hy hn
    subst hvy
    have hread:(Builtin.firstCells k (Nat.min ys.length len) (.slice Ay ys.length my)).run P w = .ok (cs.take (Nat.min ys.length len * k)).toArray w:=by
     refine run_first ?_ (fun hne => ?_) (fun _=>trivial)
     ·rw [List.length_take,hrl.1]
      exact Nat.min_eq_left (Nat.mul_le_mul_right _ (Nat.min_le_left _ _))
     ·have hyne:ys≠[]:=fun e=>by subst e; simp at hne
      obtain ⟨b,o,hA,hc⟩:=hAy hyne
      refine ⟨b,o,hA,fun j u hu => ?_⟩
      rw [List.getElem?_take] at hu
      split at hu
      ·exact hc j u hu
      ·cases hu
    have hrunhead : ∀ r,(match A with|some a=>storeCells a (cs.take (Nat.min ys.length len * k)).toArray.toList|none=>pure ()).run P w = .ok () r →
      (Builtin.copy_ #[t,t] ty #[.slice A len cap,.slice Ay ys.length my]).run P w = .ok (.int .i64 (Nat.min ys.length len:Nat)) r:=fun r hr=>by
     simp only [Builtin.copy_,List.getElem?_toArray,List.getElem?_cons_zero,List.getElem?_cons_succ,Sem.run_bind,run_ul ht,Result.andThen_ok,Builtin.lenOf,Sem.run_pure,run_size hk,hread]
     cases A with
     | none=>simp only [Sem.run_pure] at hr ⊢; injection hr with _ hr; subst hr; rfl
     | some a=>simp only [Sem.run_bind,hr,Result.andThen_ok,Sem.run_pure]; rfl
    have hmin:min ys.length len=Nat.min ys.length len:=rfl
    by_cases hm0:Nat.min ys.length len=0
    ·
     have hrun:=hrunhead w (by
      rw [hm0]
      cases A with
      | none=>rfl
      | some a=>simp [storeCells])
     have hsame:xs.take off++ys.take len++xs.drop (off+min ys.length len)=xs:=by
      have:ys.take len=[]:=by
       refine List.eq_nil_of_length_eq_zero ?_
       rw [List.length_take,Nat.min_comm]
       exact hm0
      rw [this,hmin,hm0]
      simp
     rw [hsame,hmin,hm0] at h
     rw [hm0] at hrun
     have hset:setL H i (.arr e' k xs)=H:=setL_self hH
     rw [hset] at h
     exact ⟨_,w,_,ρ,H,hrun,h,st,rd_int⟩
    ·have hl0:0<len:=by
      rcases Nat.eq_zero_or_pos len with h0|h0
      ·subst h0
       exact absurd (Nat.min_zero _) hm0
      ·exact h0
     rcases q3 with ⟨_,_,hc0,_⟩|⟨b,cur,hρ,hcur,hsz,hA⟩
     ·omega
     ·have hA':=hA (.inl (by omega))
      subst hA'
      obtain ⟨csx,g1,g2,g3,hk0⟩:=own_cells st.h hH hρ hcur
      have hml:Nat.min ys.length len≤len:=Nat.min_le_right _ _
      have hmy:Nat.min ys.length len≤ys.length:=Nat.min_le_left _ _
      have hkl:(off+Nat.min ys.length len) * k≤xs.length * k:=Nat.mul_le_mul_right _ (by omega)
      rw [Nat.add_mul] at hkl
      have hcsl:(cs.take (Nat.min ys.length len * k)).length=Nat.min ys.length len * k:=by
       rw [List.length_take,hrl.1]
       exact Nat.min_eq_left (Nat.mul_le_mul_right _ hmy)
      have hone : ∀ v∈cs.take (Nat.min ys.length len * k),v.oneCell'=true:=fun v hv=>RL_one hk0 hrl v (List.mem_of_mem_take hv)
      have hst:=run_storeCells_atE P b (off * k) (elT e') (frOf e' cur.size) (cs.take (Nat.min ys.length len * k)) 0 cur w hcur (frOf_ok _ _) (by rw [hcsl]; omega) hone
      have hrun:=hrunhead _ hst
      rw [hcsl] at hrun
      have hset0:=setRow_heap w b cur (cur.toList.take (off * k+0)++cs.take (Nat.min ys.length len * k)++cur.toList.drop (off * k+0+Nat.min ys.length len * k)).toArray (elT e') (frOf e' cur.size) hcur
      have hcs':(cur.toList.take (off * k+0)++cs.take (Nat.min ys.length len * k)++cur.toList.drop (off * k+0+Nat.min ys.length len * k)).toArray.size=cur.size:=by
       simp only [List.size_toArray,List.length_append,List.length_take,hcsl,List.length_drop,Array.length_toList]
       have:Nat.min ys.length len * k≤ys.length * k:=Nat.mul_le_mul_right _ hmy
       omega
      have hset:=hset0
      rw [← congrArg (frOf e') hcs'] at hset
      have hyt:ys.take len=ys.take (Nat.min ys.length len):=by
       rcases Nat.le_total ys.length len with h1|h1
       ·rw [show Nat.min ys.length len=ys.length from Nat.min_eq_left h1,List.take_of_length_le h1,List.take_length]
       ·rw [show Nat.min ys.length len=len from Nat.min_eq_right h1]
      have hnew:RL w (c.X ρ H) k (xs.take off++ys.take len++xs.drop (off+min ys.length len)) (csx.take (off * k)++cs.take (Nat.min ys.length len * k)++csx.drop ((off+Nat.min ys.length len) * k)):=by
       rw [hyt]
       exact RL_append (RL_append (RL_take g1) (RL_take hrl)) (RL_drop g1)
      have hxl:(xs.take off++ys.take len++xs.drop (off+min ys.length len)).length=xs.length:=by
       rw [hyt]
       simp only [List.length_append,List.length_take,List.length_drop]
       omega
      refine ⟨_,_,_,ρ,_,hrun,h,st.set hH rfl hρ setRow_grown hcur hset (.inl ⟨e',k,xs,_,cur,_,rfl,rfl,by rw [hxl]; exact Nat.le_refl _,rfl,rfl,hcs'⟩) fun hp hs => ?_,rd_int⟩
      refine ⟨hk0,.inr ⟨b,_,hρ,hset,by rw [hcs',hxl]; exact g3,RL_row (RL_mono hp hnew) hset ?_⟩⟩
      have hl2:=hnew.1
      rw [hxl] at hl2
      rw [hl2]
      have hcx:csx.length=xs.length * k:=g1.1
      have hcut:cur.toList.take (xs.length * k)=csx:=by rw [← hcx]; exact g2
      have e1:cur.toList.take (off * k)=csx.take (off * k):=by
       rw [← hcut,List.take_take,Nat.min_eq_left (by omega)]
      have e2:(cur.toList.drop (off * k+Nat.min ys.length len * k)).take (xs.length * k - (off * k+Nat.min ys.length len * k))=csx.drop ((off+Nat.min ys.length len) * k):=by
       rw [← hcut,Nat.add_mul,List.drop_take]
      have hal:(cur.toList.take (off * k)++cs.take (Nat.min ys.length len * k)).length=off * k+Nat.min ys.length len * k:=by
       rw [List.length_append,hcsl,List.length_take,Array.length_toList,Nat.min_eq_left (by omega)]
      simp only [Nat.add_zero]
      rw [List.take_append,hal,List.take_of_length_le (by omega),e2,e1]
   ·exact h.elim
  ·exact h.elim
 ·exact h.elim
end
end Go.Dv
namespace Go.Dv
section
variable {P:Program} {c:Cx} {ρ : Rho} {env:Env} {H:Heap} {tmps:Array Value} {w:World} {M:Md} {q:Bool} {K:DV→Heap→Prop} {X:Nat→Prop} {B:Nat→Prop}
theorem RPs_cons {x:PV}{xs:List PV}{vs:List Value}(h:RPs w X (x::xs) vs) : ∃ v vs',vs=v::vs'∧RP w X x v∧RPs w X xs vs':=by
 unfold RPs at h
 obtain ⟨v,vs',h1,_,h2,h3⟩:=h
 exact ⟨v,vs',h1,h2,h3⟩
theorem part_at {t:TypeId}(hg:isAggP P t=some false){us:Array Value}{o:Nat}{u:Value}{r:List Value}(h:us.toList.drop o=u::r)(w':World):(part t us o).run P w' = .ok u w'∧us.toList.drop (o+1)=r:=by
 have h0:us[o]? = some u:=by
  have:(us.toList.drop o)[0]? = some u:=by rw [h]; rfl
  rw [List.getElem?_drop] at this
  simpa using this
 refine ⟨?_,?_⟩
 ·simp only [part,Sem.run_bind,run_agg hg,Result.andThen_ok,Bool.false_eq_true,if_false,h0,Sem.run_pure]
 ·have:us.toList.drop (o+1)=(us.toList.drop o).drop 1:=by rw [List.drop_drop]
  rw [this,h]
  rfl
theorem beq_bytes (a b:List UInt8):((⟨a.toArray⟩:ByteArray).toList == (⟨b.toArray⟩:ByteArray).toList)=(a == b):=by
 rw [ByteArray.toList_eq,ByteArray.toList_eq]
theorem run_eqFields (m:Nat)(us vs:Array Value)(w':World) : ∀ (fs:List Field) (o:Nat) (ks:List Nat) (cs ds:List PV) (b:Bool),fieldKs P o fs=some ks→RPs w X cs (us.toList.drop o)→RPs w X ds (vs.toList.drop o)→eqCs ks cs ds=some b →
  (Op.eqFields (m+1) us vs fs).run P w' = .ok b w'
 | [],o,ks,cs,ds,b,hk,hc,hd,he=>by
  simp only [fieldKs,Option.some.injEq] at hk
  subst hk
  cases cs with
  | nil=>cases ds with
   | nil=>simp only [eqCs,Option.some.injEq] at he; subst he; simp [Op.eqFields]
   | cons d ds=>simp [eqCs] at he
  | cons c cs=>simp [eqCs] at he
 | f::fs,o,ks,cs,ds,b,hk,hc,hd,he=>by
  simp only [fieldKs] at hk
  split at hk
  ·rename_i hcond
   obtain ⟨hn,rfl,hg⟩:=hcond
   have hn':f.name ≠ "_" := by simpa using hn
   have step : ∀ (c d:PV) (cs' ds':List PV) (ks':List Nat) (r b':Bool),cs=c::cs'→ds=d::ds'→fieldKs P (f.offset+1) fs=some ks'→eqCs ks' cs' ds'=some b' →
     (∀ u v,RP w X c u→RP w X d v→(Op.equalIn (m+1) f.type u v).run P w' = .ok r w')→(Op.eqFields (m+1) us vs (f::fs)).run P w' = .ok (r && b') w':=fun c d cs' ds' ks' r b' h1 h2 h3 h4 h5=>by
    subst h1
    subst h2
    obtain ⟨u,us',e1,r1,r2⟩:=RPs_cons hc
    obtain ⟨v,vs',e2,r3,r4⟩:=RPs_cons hd
    obtain ⟨p1,p2⟩:=part_at hg e1 w'
    obtain ⟨p3,p4⟩:=part_at hg e2 w'
    have ih:=run_eqFields m us vs w' fs (f.offset+1) ks' cs' ds' b' h3 (by rw [p2]; exact r2) (by rw [p4]; exact r4) h4
    simp only [Op.eqFields,if_pos hn',Sem.run_bind,p1,Result.andThen_ok,p3,h5 u v r1 r3]
    cases r
    ·simp
    ·simp [ih]
   split at hk
   ·rename_i ks' hu hk'
    simp only [Option.some.injEq] at hk
    subst hk
    unfold eqCs at he
    split at he<;>first|(simp at he; done)|skip
    all_goals first
     | (rename_i a xs b2 ys heq
        simp only [Option.map_eq_some_iff] at he
        obtain ⟨b',he,rfl⟩:=he
        injection heq with heq1 heq
        subst heq
        exact step _ _ _ _ _ _ _ rfl rfl hk' he fun u v hru hrv=>by
         unfold RP at hru hrv; subst hru; subst hrv; exact run_equalIn_bool' w' m f.type _ _ hu)
     | (exfalso; simp_all; done)
   ·rename_i ks' hu hk'
    simp only [Option.some.injEq] at hk
    subst hk
    unfold eqCs at he
    split at he<;>first|(simp at he; done)|skip
    all_goals first
     | (rename_i a xs b2 ys heq
        simp only [Option.map_eq_some_iff] at he
        obtain ⟨b',he,rfl⟩:=he
        injection heq with heq1 heq
        subst heq
        exact step _ _ _ _ _ _ _ rfl rfl hk' he fun u v hru hrv=>by
         unfold RP at hru hrv; subst hru; subst hrv; rw [run_equalIn_string w' m f.type _ _ hu,beq_bytes])
     | (exfalso; simp_all; done)
   ·rename_i kk ks' hu hk'
    simp only [Option.some.injEq] at hk
    subst hk
    unfold eqCs at he
    split at he<;>first|(simp at he; done)|skip
    all_goals first
     | (rename_i k1 a xs k2 b2 ys heq
        split at he
        ·rename_i hkk
         subst hkk
         simp only [Option.map_eq_some_iff] at he
         obtain ⟨b',he,rfl⟩:=he
         injection heq with heq1 heq
         subst heq
         exact step _ _ _ _ _ _ _ rfl rfl hk' he fun u v hru hrv=>by
          unfold RP at hru hrv; subst hru; subst hrv; exact run_equalIn_int w' m f.type _ _ _ _ hu
        ·cases he)
     | (exfalso; simp_all; done)
   ·cases hk
  ·cases hk
theorem eqCs_app : ∀ (a:List Nat) {b:List Nat} {cs ds:List PV} {r:Bool},eqCs (a++b) cs ds=some r → ∃ r1 r2,eqCs a (cs.take a.length) (ds.take a.length)=some r1∧eqCs b (cs.drop a.length) (ds.drop a.length)=some r2∧r=(r1 && r2)
 | [],b,cs,ds,r,h=>⟨true,r,by simp [eqCs],by simpa using h,by simp⟩
 | k::a,b,cs,ds,r,h=>by
  rw [List.cons_append] at h
  unfold eqCs at h
  split at h
  ·rename_i heq; cases heq
  ·rename_i heq
   injection heq with e1 e4
   subst e1
   subst e4
   simp only [Option.map_eq_some_iff] at h
   obtain ⟨r',h,rfl⟩:=h
   obtain ⟨r1,r2,h1,h2,rfl⟩:=eqCs_app a h
   exact ⟨_,r2,by simp only [List.length_cons,List.take_succ_cons,eqCs,h1,Option.map_some]; rfl,by simpa using h2,by simp [Bool.and_assoc]⟩
  ·rename_i heq
   injection heq with e1 e4
   subst e1
   subst e4
   simp only [Option.map_eq_some_iff] at h
   obtain ⟨r',h,rfl⟩:=h
   obtain ⟨r1,r2,h1,h2,rfl⟩:=eqCs_app a h
   exact ⟨_,r2,by simp only [List.length_cons,List.take_succ_cons,eqCs,h1,Option.map_some]; rfl,by simpa using h2,by simp [Bool.and_assoc]⟩
  ·rename_i heq
   injection heq with e1 e4
   subst e1
   subst e4
   split at h
   ·rename_i hij
    simp only [Option.map_eq_some_iff] at h
    obtain ⟨r',h,rfl⟩:=h
    obtain ⟨r1,r2,h1,h2,rfl⟩:=eqCs_app a h
    exact ⟨_,r2,by simp only [List.length_cons,List.take_succ_cons,eqCs,if_pos hij,h1,Option.map_some]; rfl,by simpa using h2,by simp [Bool.and_assoc]⟩
   ·cases h
  ·cases h
theorem RPs_part : ∀ (n:Nat) {cs:List PV} {vs:List Value},RPs w X cs vs→RPs w X (cs.take n) (vs.take n)∧RPs w X (cs.drop n) (vs.drop n)
 | 0,cs,vs,h=>⟨by rw [List.take_zero,List.take_zero]; unfold RPs; rfl,by simpa using h⟩
 | n+1,[],vs,h=>by
  unfold RPs at h
  subst h
  simp only [List.take_nil,List.drop_nil]
  exact ⟨by unfold RPs; rfl,by unfold RPs; rfl⟩
 | n+1,c::cs,vs,h=>by
  unfold RPs at h
  obtain ⟨v,vs',rfl,h1,h2,h3⟩:=h
  obtain ⟨g1,g2⟩:=RPs_part n h3
  refine ⟨?_,by simpa using g2⟩
  simp only [List.take_succ_cons]
  unfold RPs
  exact ⟨v,_,rfl,h1,h2,g1⟩
theorem ext_list {us:Array Value}{o k:Nat}:(us.extract o (o+k)).toList=(us.toList.drop o).take k:=by
 rw [Array.toList_extract,List.extract_eq_take_drop,Nat.add_sub_cancel_left]
theorem run_eqFields2 (m:Nat)(us vs:Array Value)(w':World) : ∀ (fs:List Field) (o:Nat) (ks:List Nat) (cs ds:List PV) (b:Bool),fieldKs2 P o fs=some ks→RPs w X cs (us.toList.drop o)→RPs w X ds (vs.toList.drop o)→eqCs ks cs ds=some b →
  (Op.eqFields (m+2) us vs fs).run P w' = .ok b w'
 | [],o,ks,cs,ds,b,hk,hc,hd,he=>by
  simp only [fieldKs2,Option.some.injEq] at hk
  subst hk
  cases cs with
  | nil=>cases ds with
   | nil=>simp only [eqCs,Option.some.injEq] at he; subst he; simp [Op.eqFields]
   | cons d ds=>simp [eqCs] at he
  | cons c cs=>simp [eqCs] at he
 | f::fs,o,ks,cs,ds,b,hk,hc,hd,he=>by
  simp only [fieldKs2] at hk
  split at hk
  ·rename_i hcond
   obtain ⟨hn,rfl⟩:=hcond
   have hn':f.name ≠ "_" := by simpa using hn
   cases hg:isAggP P f.type with
   | none=>rw [hg] at hk; cases hk
   | some g =>
   cases g with
   | true =>
    rw [hg] at hk
    simp only [] at hk
    split at hk
    ·rename_i gs k hu hk0
     split at hk
     ·rename_i hst
      split at hk
      ·rename_i a b' ha hb
       split at hk
       ·rename_i hak
        simp only [Option.some.injEq] at hk
        subst hk
        obtain ⟨r1,r2,e1,e2,rfl⟩:=eqCs_app a he
        obtain ⟨c1,c2⟩:=RPs_part a.length hc
        obtain ⟨d1,d2⟩:=RPs_part a.length hd
        have hf:P.fieldsOf f.type=gs:=by simp only [Program.fieldsOf,hu]
        have p1:=run_part (w:=w') hg hk0 us f.offset
        have p2:=run_part (w:=w') hg hk0 vs f.offset
        have ih:=run_eqFields2 m us vs w' fs (f.offset+k) b' _ _ r2 hb (by rw [← hak,← List.drop_drop]; exact c2) (by rw [← hak,← List.drop_drop]; exact d2) e2
        have hin:(Op.equalIn (m+2) f.type (.agg (us.extract f.offset (f.offset+k))) (.agg (vs.extract f.offset (f.offset+k)))).run P w' = .ok r1 w':=by
         rw [run_equalIn_agg w' (m+1) f.type _ _ (by rw [hf]; exact hu) hst,hf]
         refine run_eqFields (w:=w) (X:=X) m _ _ w' gs.toList 0 a _ _ r1 ha ?_ ?_ e1
         ·rw [List.drop_zero,ext_list,← hak]; exact c1
         ·rw [List.drop_zero,ext_list,← hak]; exact d1
        simp only [Op.eqFields,if_pos hn',Sem.run_bind,p1,if_true,Result.andThen_ok,p2,hin]
        cases r1
        ·simp
        ·simp [ih]
       ·cases hk
      ·cases hk
     ·cases hk
    ·cases hk
   | false =>
   rw [hg] at hk
   simp only [] at hk
   have step : ∀ (c d:PV) (cs' ds':List PV) (ks':List Nat) (r b':Bool),cs=c::cs'→ds=d::ds'→fieldKs2 P (f.offset+1) fs=some ks'→eqCs ks' cs' ds'=some b' →
     (∀ u v,RP w X c u→RP w X d v→(Op.equalIn (m+2) f.type u v).run P w' = .ok r w')→(Op.eqFields (m+2) us vs (f::fs)).run P w' = .ok (r && b') w':=fun c d cs' ds' ks' r b' h1 h2 h3 h4 h5=>by
    subst h1
    subst h2
    obtain ⟨u,us',e1,r1,r2⟩:=RPs_cons hc
    obtain ⟨v,vs',e2,r3,r4⟩:=RPs_cons hd
    obtain ⟨p1,p2⟩:=part_at hg e1 w'
    obtain ⟨p3,p4⟩:=part_at hg e2 w'
    have ih:=run_eqFields2 m us vs w' fs (f.offset+1) ks' cs' ds' b' h3 (by rw [p2]; exact r2) (by rw [p4]; exact r4) h4
    simp only [Op.eqFields,if_pos hn',Sem.run_bind,p1,Result.andThen_ok,p3,h5 u v r1 r3]
    cases r
    ·simp
    ·simp [ih]
   split at hk
   ·rename_i ks' hu hk'
    simp only [Option.some.injEq] at hk
    subst hk
    unfold eqCs at he
    split at he<;>first|(simp at he; done)|skip
    all_goals first
     | (rename_i a xs b2 ys heq
        simp only [Option.map_eq_some_iff] at he
        obtain ⟨b',he,rfl⟩:=he
        injection heq with heq1 heq
        subst heq
        exact step _ _ _ _ _ _ _ rfl rfl hk' he fun u v hru hrv=>by
         unfold RP at hru hrv; subst hru; subst hrv; exact run_equalIn_bool' w' (m+1) f.type _ _ hu)
     | (exfalso; simp_all; done)
   ·rename_i ks' hu hk'
    simp only [Option.some.injEq] at hk
    subst hk
    unfold eqCs at he
    split at he<;>first|(simp at he; done)|skip
    all_goals first
     | (rename_i a xs b2 ys heq
        simp only [Option.map_eq_some_iff] at he
        obtain ⟨b',he,rfl⟩:=he
        injection heq with heq1 heq
        subst heq
        exact step _ _ _ _ _ _ _ rfl rfl hk' he fun u v hru hrv=>by
         unfold RP at hru hrv; subst hru; subst hrv; rw [run_equalIn_string w' (m+1) f.type _ _ hu,beq_bytes])
     | (exfalso; simp_all; done)
   ·rename_i kk ks' hu hk'
    simp only [Option.some.injEq] at hk
    subst hk
    unfold eqCs at he
    split at he<;>first|(simp at he; done)|skip
    all_goals first
     | (rename_i k1 a xs k2 b2 ys heq
        split at he
        ·rename_i hkk
         subst hkk
         simp only [Option.map_eq_some_iff] at he
         obtain ⟨b',he,rfl⟩:=he
         injection heq with heq1 heq
         subst heq
         exact step _ _ _ _ _ _ _ rfl rfl hk' he fun u v hru hrv=>by
          unfold RP at hru hrv; subst hru; subst hrv; exact run_equalIn_int w' (m+1) f.type _ _ _ _ hu
        ·cases he)
     | (exfalso; simp_all; done)
   ·cases hk
  ·cases hk
theorem quiet_eqA {neg:Bool}{t:TypeId}{fs:Array Field}{ks:List Nat}(ht:P.underlying t=some (.struct fs))(hp:P.stoodInHeld t=false)(hks:fieldKs2 P 0 fs.toList=some ks){x y:DV}{u v:Value}(hx:RD w X ρ H x u)(hy:RD w X ρ H y v)
  (h:(eqAR neg ks x y H).run M q K):(∃ us vs,u = .agg us∧v = .agg vs)∧Quiet P B w X ρ H K (binOp (if neg then .neq else .eql) t u v):=by
 unfold eqAR at h
 split at h
 ·rename_i cs ds h1 h2
  split at h
  ·rename_i b hb
   have r1:=pvOf_rel h1 hx
   have r2:=pvOf_rel h2 hy
   unfold RP at r1 r2
   obtain ⟨us,e1,r1⟩:=r1
   obtain ⟨vs,e2,r2⟩:=r2
   subst e1
   subst e2
   refine ⟨⟨_,_,rfl,rfl⟩,_,_,h,rd_bool,fun w' _ => ?_⟩
   have hf:P.fieldsOf t=fs:=by simp only [Program.fieldsOf,ht]
   have hrun:(Op.equalIn 10000 t (.agg us.toArray) (.agg vs.toArray)).run P w' = .ok b w':=by
    rw [run_equalIn_agg w' 9999 t _ _ (by rw [hf]; exact ht) hp,hf]
    exact run_eqFields2 9997 us.toArray vs.toArray w' fs.toList 0 ks cs ds b hks (by simpa using r1) (by simpa using r2) hb
   cases neg
   ·simp only [Bool.false_eq_true,if_false,run_eql_struct,hrun,Result.andThen_ok]
   ·simp only [if_true,run_neq_struct,hrun,Result.andThen_ok]
  ·exact h.elim
 ·exact h.elim
theorem bytesP_rl (s:List UInt8):RL w X 1 (bytesP s) (s.map fun b=>Value.int .u8 b.toNat):=by
 refine ⟨by simp [bytesP],fun j x hx => ?_⟩
 simp only [bytesP,List.getElem?_map,Option.map_eq_some_iff] at hx
 obtain ⟨b,hb,rfl⟩:=hx
 unfold RE
 refine List.ext_getElem? fun i => ?_
 rw [List.getElem?_take,Nat.mul_one]
 cases i with
 | zero=>simp [hb]
 | succ i=>simp
theorem eff_s2b {s d e:TypeId}(hs:P.underlying s=some .string)(hd:P.underlying d=some (.slice e))(he:P.underlying e=some (.int .u8))
  (st:StR c ρ env H tmps w) {x:DV} {vx:Value} (hx:RD w (c.X ρ H) ρ H x vx) (h:(s2bR e x H).run M q K):Eff P c env tmps K w (convert s d vx):=by
 unfold s2bR at h
 split at h
 ·rename_i l
  have:=rp_str hx
  subst this
  have hrun:=Lib.run_convert_string_bytes (P:=P) w s d e ⟨l.toArray⟩ hs hd he
  have hnew:=Lib.bytesWorld_at_new w e ⟨l.toArray⟩
  obtain ⟨hlen,h⟩:=h
  have hge:=grownCap_ge w l.length 0 e
  have hle:=grownCap_le_maxLen w l.length 0 e (by unfold maxLen; omega)
  have hsz:(⟨l.toArray⟩:ByteArray).size=l.length:=by simp [ByteArray.size]
  have hcs:(Lib.bytesCells w e ⟨l.toArray⟩).size=grownCap w l.length 0 e:=by
   simp only [Lib.bytesCells,Array.size_append,Array.size_map,Array.size_replicate,hsz,List.size_toArray]
   omega
  have hno : ¬ (e+1048576<1048576):=by exact Nat.not_lt.2 (Nat.le_add_left _ _)
  have hel:elT (e+1048576)=e:=by unfold elT; rw [if_neg hno]; exact Nat.add_sub_cancel ..
  have hfr : ∀ n,frOf (e+1048576) n=(n,n+1):=fun n=>by unfold frOf; rw [if_neg hno]
  have hnew':(Lib.bytesWorld w e ⟨l.toArray⟩).heap[w.heap.size]? = some (.cells (Lib.bytesCells w e ⟨l.toArray⟩) (elT (e+1048576)) (frOf (e+1048576) (Lib.bytesCells w e ⟨l.toArray⟩).size)):=by rw [hel,hfr]; exact hnew
  have hgr:w.grownBy (Lib.bytesWorld w e ⟨l.toArray⟩) none:=⟨rfl,rfl,rfl,by rw [Lib.bytesWorld_size]; omega,fun k hk _=>Lib.bytesWorld_at_old w e _ k hk⟩
  have htake:(Lib.bytesCells w e ⟨l.toArray⟩).toList.take (l.map fun b=>Value.int .u8 b.toNat).length=l.map fun b=>Value.int .u8 b.toNat:=by
   simp [Lib.bytesCells]
  refine ⟨_,_,_,_,_,hrun,h,st.new hgr fun hp hs=>⟨by omega,.inr ⟨w.heap.size,_,rho_new st _,hnew',by rw [hcs]; simpa [bytesP] using hge,RL_row (RL_mono hp (bytesP_rl l)) hnew' htake⟩⟩,?_⟩
  unfold RD ownRel
  simp only [append_get]
  exact ⟨by simp [bytesP],some ⟨w.heap.size,0,none⟩,grownCap w l.length 0 e,by rw [hsz],by first|exact hge|(rw [hsz]; exact hge),by first|exact hle|(rw [hsz]; exact hle),.inr ⟨w.heap.size,_,rho_new st _,hnew',by rw [hcs]; first|omega|(rw [hsz]; omega),fun _=>by simp⟩⟩
 ·exact h.elim
theorem bytesOf_rl : ∀ {ys:List PV} {s:List UInt8},bytesOf ys=some s→ys=bytesP s
 | [],s,h=>by simp only [bytesOf,Option.some.injEq] at h; subst h; rfl
 | y::ys,s,h=>by
  unfold bytesOf at h
  split at h
  ·simp_all
  ·rename_i n xs heq
   injection heq with h1 h2
   subst h1
   subst h2
   split at h
   ·rename_i hn
    simp only [Option.map_eq_some_iff] at h
    obtain ⟨t,ht,rfl⟩:=h
    rw [bytesOf_rl ht]
    unfold bytesP
    simp only [List.map_cons,List.cons.injEq,and_true]
    congr 1
    have:(UInt8.ofNat n.toNat).toNat=n.toNat:=UInt8.toNat_ofNat_of_lt' (by show n.toNat<256; omega)
    rw [this]
    omega
   ·cases h
  ·cases h
theorem eff_b2s {s d e:TypeId}(hs:P.underlying s=some (.slice e))(he:P.underlying e=some (.int .u8))(hd:P.underlying d=some .string)
  (st:StR c ρ env H tmps w) {x:DV} {vx:Value} (hx:RD w (c.X ρ H) ρ H x vx) (h:(R.news (newsOf 1 x H) (b2sR H)).run M q K):Eff P c env tmps K w (convert s d vx):=by
 obtain ⟨ys,hn,h⟩:=h
 unfold b2sR at h
 split at h
 ·rename_i l hb
  obtain ⟨A,m,cs,hv,hrl,hA,_⟩:=news_rel st.h hx hn
  subst hv
  have hys:=bytesOf_rl hb
  subst hys
  have hl:(bytesP l).length=l.length:=by simp [bytesP]
  cases A with
  | none =>
   have hnil:l=[]:=by
    cases l with
    | nil=>rfl
    | cons b l=>obtain ⟨_,_,h1,_⟩:=hA (by simp [bytesP]); cases h1
   subst hnil
   refine ⟨_,w,_,ρ,H,?_,h,st,rd_str⟩
   rw [run_convert_bytes_string w s d e none _ m hs he hd]
   rfl
  | some a =>
   by_cases hne:bytesP l=[]
   ·have hnil:l=[]:=by simpa [bytesP] using hne
    subst hnil
    refine ⟨_,w,_,ρ,H,?_,h,st,rd_str⟩
    exact run_convert_bytes_back w s d e a m [] hs he hd (fun j hj=>by simp at hj)
   ·obtain ⟨b,o,h1,h2⟩:=hA hne
    injection h1 with h1
    subst h1
    refine ⟨_,w,_,ρ,H,?_,h,st,rd_str⟩
    rw [hl]
    refine run_convert_bytes_back w s d e ⟨b,o,none⟩ m l hs he hd fun j hj => ?_
    rw [add_mk]
    refine h2 j _ ?_
    have h3:=hrl.2 j (.int .u8 l[j].toNat) (by simp [bytesP,hj])
    unfold RE at h3
    have h4:((cs.drop (j * 1)).take 1)[0]? = some (Value.int .u8 l[j].toNat):=by rw [h3]; rfl
    simpa using h4
 ·exact h.elim
theorem eff_rng {t:TypeId}(ht:P.underlying t=some .string)(st:StR c ρ env H tmps w){x:DV}{vx:Value}(hx:RD w (c.X ρ H) ρ H x vx)(h:(rngR x H).run M q K):Eff P c env tmps K w (Instr.range t vx):=by
 unfold rngR at h
 split at h
 ·rename_i l
  have:=rp_str hx
  subst this
  refine ⟨.pointer (some ⟨w.heap.size,0,none⟩),w.alloc (.stringIter ⟨l.toArray⟩ 0),_,_,_,?_,h,st.new (World.grownBy_alloc w _ none) fun hp hs=>⟨w.heap.size,rho_new st _,heap_alloc_new w _⟩,?_⟩
  ·simp [Instr.range,run_ul ht]
  ·unfold RD ptrRel
   simp only [append_get]
   exact ⟨_,rho_new st _,rfl⟩
 ·exact h.elim
theorem eff_nxt {ty:TypeId}(st:StR c ρ env H tmps w){x:DV}{vx:Value}(hx:RD w (c.X ρ H) ρ H x vx)(h:(nxtR x H).run M q K):Eff P c env tmps K w (Instr.next vx true ty):=by
 unfold nxtR at h
 split at h
 ·rename_i i j f
  split at h
  ·rename_i l pos hH
   split at h
   ·rename_i hf
    subst hf
    unfold RD ptrRel at hx
    simp only [hH] at hx
    obtain ⟨b,hρ,hv⟩:=hx
    subst hv
    obtain ⟨b',h1,h2⟩:=st.h.ob i _ hH
    rw [hρ] at h1
    injection h1 with h1
    injection h1 with h1
    subst h1
    split at h
    ·rename_i u hu
     obtain ⟨hasc,h⟩:=h
     have hsz:(⟨l.toArray⟩:ByteArray).size=l.length:=by simp [ByteArray.size]
     have hlt:pos<(⟨l.toArray⟩:ByteArray).size:=by rw [hsz]; exact lt_of_get hu
     have hget:(⟨l.toArray⟩:ByteArray)[pos]'hlt=u:=by
      have:l[pos]? = some ((⟨l.toArray⟩:ByteArray)[pos]'hlt):=by
       rw [List.getElem?_eq_getElem (lt_of_get hu)]
       rfl
      rw [hu] at this
      injection this with this
      exact this.symm
     have hdec:=decode_ascii ⟨l.toArray⟩ pos hlt (by rw [hget]; exact hasc)
     have hbs:b<w.heap.size:=(Array.getElem?_eq_some_iff.1 h2).1
     have hrun:(Instr.next (.pointer (some ⟨b,0,none⟩)) true ty).run P w = .ok (.tuple #[.bool true,.int .i64 pos,.int .i32 u.toNat]) { w with heap:=w.heap.setIfInBounds b (.stringIter ⟨l.toArray⟩ (pos+1)) }:=by
      simp only [Instr.next,getObj,setObj,Sem.run_bind,Sem.run,h2,Result.andThen,hlt,if_true,hdec,hget]
      simp [goInt]
     have hset:({ w with heap:=w.heap.setIfInBounds b (.stringIter ⟨l.toArray⟩ (pos+1)) }:World).heap[b]? = some (.stringIter ⟨l.toArray⟩ (pos+1)):=by
      simp [hbs]
     have hgr:w.grownBy { w with heap:=w.heap.setIfInBounds b (.stringIter ⟨l.toArray⟩ (pos+1)) } (some b):=⟨rfl,rfl,rfl,by simp,fun k hk hne=>by
      have:b≠k:=fun e=>hne (by rw [e])
      simp [Array.getElem?_setIfInBounds_ne this]⟩
     refine ⟨_,_,_,ρ,_,hrun,h,st.set hH rfl hρ hgr h2 hset (.inr (.inr ⟨l,pos,_,rfl,rfl⟩)) fun hp hs=>⟨b,hρ,hset⟩,?_⟩
     unfold RD
     exact ⟨_,rfl,_,_,rfl,rd_bool,_,_,rfl,rd_int,_,_,rfl,rd_int,rfl⟩
    ·rename_i hu
     have hsz:(⟨l.toArray⟩:ByteArray).size=l.length:=by simp [ByteArray.size]
     have hlt : ¬ pos<(⟨l.toArray⟩:ByteArray).size:=by rw [hsz]; have:=List.getElem?_eq_none_iff.1 hu; omega
     have hrun:(Instr.next (.pointer (some ⟨b,0,none⟩)) true ty).run P w = .ok (.tuple #[.bool false]) w:=by
      simp [Instr.next,getObj,Sem.run,h2,hlt]
     refine ⟨_,_,_,ρ,_,hrun,h,st,?_⟩
     unfold RD
     exact ⟨_,rfl,_,_,rfl,rd_bool,rfl⟩
   ·exact h.elim
  ·exact h.elim
 ·exact h.elim
theorem run_first_string (n:Nat)(l:List UInt8)(w':World):(Builtin.firstCells 1 n (.string ⟨l.toArray⟩)).run P w' = .ok ((l.take n).map fun b=>Value.int .u8 b.toNat).toArray w':=by
 simp only [Builtin.firstCells,Sem.run_pure]
 congr 1
 refine Array.ext' ?_
 simp [ByteArray.data_extract]
theorem eff_cpyS {t t' ty e:TypeId}(ht:P.underlying t=some (.slice e))(hk:sizeP P e=some 1)(st:StR c ρ env H tmps w){x y:DV}{vx vy:Value}(hx:RD w (c.X ρ H) ρ H x vx)(hy:RD w (c.X ρ H) ρ H y vy)
  (h:(cpySR x y H).run M q K):Eff P c env tmps K w (Builtin.copy_ #[t,t'] ty #[vx,vy]):=by
 unfold cpySR at h
 split at h
 ·rename_i l
  have:=rp_str hy
  subst this
  have hsz:(⟨l.toArray⟩:ByteArray).size=l.length:=by simp [ByteArray.size]
  unfold cpyR at h
  split at h
  ·rename_i i off len
   split at h
   ·rename_i e' k' xs hH
    split at h
    ·rename_i hkk
     subst hkk
     unfold RD ownRel at hx
     simp only [hH] at hx
     obtain ⟨hle,A,cap,hv,q1,q2,q3⟩:=hx
     subst hv
     have hrl:=bytesP_rl (w:=w) (X:=c.X ρ H) l
     have hbl:(bytesP l).length=l.length:=by simp [bytesP]
     generalize hcs:(l.map fun b=>Value.int .u8 b.toNat)=cs at hrl
     generalize hys:bytesP l=ys at *
     have hread:(Builtin.firstCells 1 (Nat.min ys.length len) (.string ⟨l.toArray⟩)).run P w = .ok (cs.take (Nat.min ys.length len * 1)).toArray w:=by
      rw [run_first_string,← hcs,← List.map_take,Nat.mul_one]
     have hrunhead : ∀ r,(match A with|some a=>storeCells a (cs.take (Nat.min ys.length len * 1)).toArray.toList|none=>pure ()).run P w = .ok () r →
       (Builtin.copy_ #[t,t'] ty #[.slice A len cap,.string ⟨l.toArray⟩]).run P w = .ok (.int .i64 (Nat.min ys.length len:Nat)) r:=fun r hr=>by
      have hl2:(Builtin.lenOf (.string ⟨l.toArray⟩)).run P w = .ok ys.length w:=by simp only [Builtin.lenOf,Sem.run_pure,hbl,hsz]
      simp only [Builtin.copy_,List.getElem?_toArray,List.getElem?_cons_zero,List.getElem?_cons_succ,Sem.run_bind,run_ul ht,Result.andThen_ok,hl2,run_size hk,hread]
      cases A with
      | none=>simp only [Sem.run_pure] at hr ⊢; injection hr with _ hr; subst hr; rfl
      | some a=>simp only [Sem.run_bind,hr,Result.andThen_ok,Sem.run_pure]; rfl
     have hmin:min ys.length len=Nat.min ys.length len:=rfl
     by_cases hm0:Nat.min ys.length len=0
     ·
      have hrun:=hrunhead w (by
       rw [hm0]
       cases A with
       | none=>rfl
       | some a=>simp [storeCells])
      have hsame:xs.take off++ys.take len++xs.drop (off+min ys.length len)=xs:=by
       have:ys.take len=[]:=by
        refine List.eq_nil_of_length_eq_zero ?_
        rw [List.length_take,Nat.min_comm]
        exact hm0
       rw [this,hmin,hm0]
       simp
      rw [hsame,hmin,hm0] at h
      rw [hm0] at hrun
      have hset:setL H i (.arr e' 1 xs)=H:=setL_self hH
      rw [hset] at h
      exact ⟨_,w,_,ρ,H,hrun,h,st,rd_int⟩
     ·have hl0:0<len:=by
       rcases Nat.eq_zero_or_pos len with h0|h0
       ·subst h0
        exact absurd (Nat.min_zero _) hm0
       ·exact h0
      rcases q3 with ⟨_,_,hc0,_⟩|⟨b,cur,hρ,hcur,hsz,hA⟩
      ·omega
      ·have hA':=hA (.inl (by omega))
       subst hA'
       obtain ⟨csx,g1,g2,g3,hk0⟩:=own_cells st.h hH hρ hcur
       have hml:Nat.min ys.length len≤len:=Nat.min_le_right _ _
       have hmy:Nat.min ys.length len≤ys.length:=Nat.min_le_left _ _
       have hkl:(off+Nat.min ys.length len) * 1≤xs.length * 1:=Nat.mul_le_mul_right _ (by omega)
       rw [Nat.add_mul] at hkl
       have hcsl:(cs.take (Nat.min ys.length len * 1)).length=Nat.min ys.length len * 1:=by
        rw [List.length_take,hrl.1]
        exact Nat.min_eq_left (Nat.mul_le_mul_right _ hmy)
       have hone : ∀ v∈cs.take (Nat.min ys.length len * 1),v.oneCell'=true:=fun v hv=>RL_one hk0 hrl v (List.mem_of_mem_take hv)
       have hst:=run_storeCells_atE P b (off * 1) (elT e') (frOf e' cur.size) (cs.take (Nat.min ys.length len * 1)) 0 cur w hcur (frOf_ok _ _) (by rw [hcsl]; omega) hone
       have hrun:=hrunhead _ hst
       rw [hcsl] at hrun
       have hset0:=setRow_heap w b cur (cur.toList.take (off * 1+0)++cs.take (Nat.min ys.length len * 1)++cur.toList.drop (off * 1+0+Nat.min ys.length len * 1)).toArray (elT e') (frOf e' cur.size) hcur
       have hcs':(cur.toList.take (off * 1+0)++cs.take (Nat.min ys.length len * 1)++cur.toList.drop (off * 1+0+Nat.min ys.length len * 1)).toArray.size=cur.size:=by
        simp only [List.size_toArray,List.length_append,List.length_take,hcsl,List.length_drop,Array.length_toList]
        have:Nat.min ys.length len * 1≤ys.length * 1:=Nat.mul_le_mul_right _ hmy
        omega
       have hset:=hset0
       rw [← congrArg (frOf e') hcs'] at hset
       have hyt:ys.take len=ys.take (Nat.min ys.length len):=by
        rcases Nat.le_total ys.length len with h1|h1
        ·rw [show Nat.min ys.length len=ys.length from Nat.min_eq_left h1,List.take_of_length_le h1,List.take_length]
        ·rw [show Nat.min ys.length len=len from Nat.min_eq_right h1]
       have hnew:RL w (c.X ρ H) 1 (xs.take off++ys.take len++xs.drop (off+min ys.length len)) (csx.take (off * 1)++cs.take (Nat.min ys.length len * 1)++csx.drop ((off+Nat.min ys.length len) * 1)):=by
        rw [hyt]
        exact RL_append (RL_append (RL_take g1) (RL_take hrl)) (RL_drop g1)
       have hxl:(xs.take off++ys.take len++xs.drop (off+min ys.length len)).length=xs.length:=by
        rw [hyt]
        simp only [List.length_append,List.length_take,List.length_drop]
        omega
       refine ⟨_,_,_,ρ,_,hrun,h,st.set hH rfl hρ setRow_grown hcur hset (.inl ⟨e',1,xs,_,cur,_,rfl,rfl,by rw [hxl]; exact Nat.le_refl _,rfl,rfl,hcs'⟩) fun hp hs => ?_,rd_int⟩
       refine ⟨hk0,.inr ⟨b,_,hρ,hset,by rw [hcs',hxl]; exact g3,RL_row (RL_mono hp hnew) hset ?_⟩⟩
       have hl2:=hnew.1
       rw [hxl] at hl2
       rw [hl2]
       have hcx:csx.length=xs.length * 1:=g1.1
       have hcut:cur.toList.take (xs.length * 1)=csx:=by rw [← hcx]; exact g2
       have e1:cur.toList.take (off * 1)=csx.take (off * 1):=by
        rw [← hcut,List.take_take,Nat.min_eq_left (by omega)]
       have e2:(cur.toList.drop (off * 1+Nat.min ys.length len * 1)).take (xs.length * 1 - (off * 1+Nat.min ys.length len * 1))=csx.drop ((off+Nat.min ys.length len) * 1):=by
        rw [← hcut,Nat.add_mul,List.drop_take]
       have hal:(cur.toList.take (off * 1)++cs.take (Nat.min ys.length len * 1)).length=off * 1+Nat.min ys.length len * 1:=by
        rw [List.length_append,hcsl,List.length_take,Array.length_toList,Nat.min_eq_left (by omega)]
       simp only [Nat.add_zero]
       rw [List.take_append,hal,List.take_of_length_le (by omega),e2,e1]
    ·exact h.elim
   ·exact h.elim
  ·exact h.elim
 ·exact h.elim
end
end Go.Dv
namespace Go.Dv
section
variable {P:Program} {c:Cx} {ρ : Rho} {env:Env} {H:Heap} {w:World} {M:Md} {q:Bool} {K:DV→Heap→Prop} {a:Act} {B:Nat→Prop}
theorem andThen_value {s:Sem Value}{v:Value}{w w':World}(h:s.run P w = .ok v w'):(do pure (Next.value (← s)):Sem Next).run P w = .ok (.value v) w':=by
 simp [h]
def QuietOp (P:Program)(B:Nat→Prop)(w:World)(X:Nat→Prop)(ρ : Rho)(H:Heap)(K:DV→Heap→Prop)(a:Act)(o:Oper):Prop :=
 ∃ d v,K d H∧RD w X ρ H d v ∧ ∀ w',AgreeB B w w'→(execOp a.eval o).run P w' = .ok (.value v) w'
theorem QuietOp.of {X:Nat→Prop}{s:Sem Value}{o:Oper}(h:Quiet P B w X ρ H K s)(ho:execOp a.eval o=(do pure (Next.value (← s)))):QuietOp P B w X ρ H K a o:=by
 obtain ⟨d,v,h1,h2,h3⟩:=h
 exact ⟨d,v,h1,h2,fun w' ha=>by rw [ho]; exact andThen_value (h3 w' ha)⟩
theorem run_equalIn_bool (d:Nat){t:TypeId}(ht:P.underlying t=some .bool)(m n:Bool)(w:World):(Op.equalIn (d+1) t (.bool m) (.bool n)).run P w = .ok (m == n) w:=by
 simp only [Op.equalIn,Sem.run_bind,run_ul ht,Result.andThen_ok,Sem.run_pure]
theorem run_equal_bool {t:TypeId}(ht:P.underlying t=some .bool)(m n:Bool)(w:World):(Op.equal t (.bool m) (.bool n)).run P w = .ok (m == n) w:=run_equalIn_bool 9999 ht m n w
theorem bin_bool_eql {t:TypeId}(ht:P.underlying t=some .bool)(m n:Bool)(w:World):(binOp .eql t (.bool m) (.bool n)).run P w = .ok (.bool (m == n)) w:=by
 show (do pure (Value.bool (← Op.equal t (.bool m) (.bool n))):Sem Value).run P w=_
 simp only [Sem.run_bind,run_equal_bool ht,Result.andThen_ok,Sem.run_pure]
theorem bin_bool_neq {t:TypeId}(ht:P.underlying t=some .bool)(m n:Bool)(w:World):(binOp .neq t (.bool m) (.bool n)).run P w = .ok (.bool (!(m == n))) w:=by
 show (do pure (Value.bool (!(← Op.equal t (.bool m) (.bool n)))):Sem Value).run P w=_
 simp only [Sem.run_bind,run_equal_bool ht,Result.andThen_ok,Sem.run_pure]
theorem op_quiet {op:Op}{io:IOp}(hc:compOp P op=some io)(hq:io.quiet=true)(hcall : ∀ f as,io ≠ .call f as)(st:StR c ρ env H a.tmps w)(h:(dop io env H).run M q K)(o:Oper)(ho:o.op=op)
  (hB:io.isLoad=true → ∀ b,¬ c.X ρ H b→B b) (hBp : ∀ g n x i j f b,io = .load g n x→ev env x = .ptr i j f → ρ[i]? = some (some b)→B b):QuietOp P B w (c.X ρ H) ρ H K a o:=by
 cases op with
 | move x =>
  simp only [compOp,Option.map_eq_some_iff] at hc
  obtain ⟨y,hy,rfl⟩:=hc
  exact ⟨_,_,h,compX_rel st.e hy,fun w' _=>by simp [execOp,ho]⟩
 | assign x =>
  simp only [compOp,Option.map_eq_some_iff] at hc
  obtain ⟨y,hy,rfl⟩:=hc
  exact ⟨_,_,h,compX_rel st.e hy,fun w' _=>by simp [execOp,ho]⟩
 | pick cc x y =>
  simp only [compOp] at hc
  split at hc
  ·rename_i c' x' y' h1 h2 h3
   injection hc with hc
   subst hc
   have hp:=quiet_pick (B:=B) (P:=P) (compX_rel st.e h1) (compX_rel st.e h2) (compX_rel st.e h3) h
   obtain ⟨d,v,g1,g2,g3⟩:=hp
   refine ⟨d,v,g1,g2,fun w' ha => ?_⟩
   have:=g3 w' ha
   simp only [execOp,ho]
   simp only [Sem.run_bind] at this ⊢
   cases hb:(asBool (a.eval cc)).run P w' with
   | ok b w2=>simp [hb] at this ⊢; exact this
   | halt x w2=>simp [hb] at this
  ·cases hc
 | binOp op t x y ty =>
  simp only [compOp] at hc
  have key : ∀ x' y',compX x=some x'→compX y=some y'→(binR op (ev env x') (ev env y') H).run M q K→QuietOp P B w (c.X ρ H) ρ H K a o:=fun x' y' h1 h2 h=>by
   have r1:=compX_rel st.e h1
   have r2:=compX_rel st.e h2
   unfold binR at h
   split at h
   ·rename_i k m k' n e1 e2
    split at h
    ·rename_i hk
     subst hk
     rw [e1] at r1
     rw [e2] at r2
     have v1:=rp_int r1
     have v2:=rp_int r2
     obtain ⟨d,v,g1,g2,g3⟩:=bin_int (B:=B) (P:=P) (w:=w) (X:=c.X ρ H) (ρ := ρ) t h
     refine ⟨d,v,g1,g2,fun w' ha => ?_⟩
     simp only [execOp,ho,v1,v2,Sem.run_bind,eqGuard_int,Result.andThen_ok,g3 w' ha,Sem.run_pure]
    ·rw [e1] at r1
     rw [e2] at r2
     have v1:=rp_int r1
     have v2:=rp_int r2
     obtain ⟨d,v,g1,g2,g3⟩:=shift_int (B:=B) (P:=P) (w:=w) (X:=c.X ρ H) (ρ := ρ) (k':=k') t h
     refine ⟨d,v,g1,g2,fun w' ha => ?_⟩
     simp only [execOp,ho,v1,v2,Sem.run_bind,eqGuard_int,Result.andThen_ok,g3 w' ha,Sem.run_pure]
   ·rename_i s s' e1 e2
    rw [e1] at r1
    rw [e2] at r2
    have v1:=rp_str r1
    have v2:=rp_str r2
    obtain ⟨d,v,g1,g2,g3⟩:=bin_str (B:=B) (P:=P) (w:=w) (X:=c.X ρ H) (ρ := ρ) t h
    refine ⟨d,v,g1,g2,fun w' ha => ?_⟩
    simp only [execOp,ho,v1,v2,Sem.run_bind,eqGuard_str,Result.andThen_ok,g3 w' ha,Sem.run_pure]
   ·exact h.elim
  split at hc
  ·rename_i x' y' h0 h1 h2
   injection hc with hc
   subst hc
   exact key x' y' h1 h2 h
  ·rename_i x' y' h0 h1 h2
   injection hc with hc
   subst hc
   exact key x' y' h1 h2 h
  ·rename_i x' y' h0 h1 h2
   injection hc with hc
   subst hc
   have r1:=compX_rel st.e h1
   have r2:=compX_rel st.e h2
   simp only [dop] at h
   unfold binBR at h
   split at h
   ·rename_i m n e1 e2
    rw [e1] at r1
    rw [e2] at r2
    have v1:=rp_bool r1
    have v2:=rp_bool r2
    refine ⟨_,_,h,rd_bool,fun w' ha => ?_⟩
    simp only [execOp,ho,v1,v2,Sem.run_bind,eqGuard_bool,Result.andThen_ok,bin_bool_eql h0,Sem.run_pure]
   ·rename_i m n e1 e2
    rw [e1] at r1
    rw [e2] at r2
    have v1:=rp_bool r1
    have v2:=rp_bool r2
    refine ⟨_,_,h,rd_bool,fun w' ha => ?_⟩
    simp only [execOp,ho,v1,v2,Sem.run_bind,eqGuard_bool,Result.andThen_ok,bin_bool_neq h0,Sem.run_pure]
   ·exact h.elim
  ·rename_i fs x' y' h0 h1 h2
   split at hc
   ·rename_i hcond
    have r1:=compX_rel st.e h1
    have r2:=compX_rel st.e h2
    split at hc
    ·rename_i ks hks
     injection hc with hc
     subst hc
     obtain ⟨⟨us,vs,e1,e2⟩,d,v,g1,g2,g3⟩:=quiet_eqA (B:=B) h0 hcond.1 hks r1 r2 h
     refine ⟨d,v,g1,g2,fun w' ha => ?_⟩
     have:=g3 w' ha
     rw [e1,e2] at this
     simp only [Bool.false_eq_true,if_false] at this
     simp only [execOp,ho,e1,e2,Sem.run_bind,run_eqGuard_agg w' _ t x y us vs hcond.2,Result.andThen_ok,this,Sem.run_pure]
    ·rename_i ks hks
     injection hc with hc
     subst hc
     obtain ⟨⟨us,vs,e1,e2⟩,d,v,g1,g2,g3⟩:=quiet_eqA (B:=B) h0 hcond.1 hks r1 r2 h
     refine ⟨d,v,g1,g2,fun w' ha => ?_⟩
     have:=g3 w' ha
     rw [e1,e2] at this
     simp only [if_true] at this
     simp only [execOp,ho,e1,e2,Sem.run_bind,run_eqGuard_agg w' _ t x y us vs hcond.2,Result.andThen_ok,this,Sem.run_pure]
    ·cases hc
   ·cases hc
  ·cases hc
 | unOp op t x =>
  simp only [compOp,Option.map_eq_some_iff] at hc
  obtain ⟨y,hy,rfl⟩:=hc
  exact .of (quiet_un (compX_rel st.e hy) h) (by simp only [execOp,ho])
 | convert s d x =>
  simp only [compOp] at hc
  split at hc
  ·rename_i k0 k x' h0 h1 h2
   injection hc with hc
   subst hc
   exact .of (quiet_conv h0 h1 (compX_rel st.e h2) h) (by simp only [execOp,ho])
  ·split at hc
   ·injection hc with hc
    subst hc
    cases hq
   ·cases hc
  ·split at hc
   ·split at hc
    ·injection hc with hc
     subst hc
     cases hq
    ·cases hc
   ·cases hc
  ·cases hc
 | load t x =>
  simp only [compOp] at hc
  split at hc
  ·rename_i g n x' h0 h1 h2
   split at hc
   ·rename_i hg
    injection hc with hc
    subst hc
    exact .of (quiet_load h0 h1 hg st.h (compX_rel st.e h2) h (hB rfl) fun i j f b e=>hBp _ _ _ i j f b rfl e) (by simp only [execOp,ho])
   ·cases hc
  ·cases hc
 | nilCheck x =>
  simp only [compOp,Option.map_eq_some_iff] at hc
  obtain ⟨y,hy,rfl⟩:=hc
  have hr:=compX_rel st.e hy
  obtain ⟨⟨ad,hv⟩,hK⟩:=quiet_nil hr h
  exact ⟨_,_,hK,hr,fun w' _=>by simp [execOp,ho,hv]⟩
 | fieldAddr s x f =>
  simp only [compOp] at hc
  split at hc
  ·rename_i fs x' h0 h1
   split at hc
   ·rename_i fd h2
    split at hc
    ·rename_i n h3
     injection hc with hc
     subst hc
     exact .of (quiet_faddr h0 h2 h3 (compX_rel st.e h1) h) (by simp only [execOp,ho])
    ·cases hc
   ·cases hc
  ·cases hc
 | field s x f =>
  simp only [compOp] at hc
  split at hc
  ·rename_i fs x' h0 h1
   split at hc
   ·rename_i fd h2
    split at hc
    ·rename_i g n h3 h4
     split at hc
     ·rename_i hg
      injection hc with hc
      subst hc
      exact .of (quiet_fld h0 h2 h3 h4 hg (compX_rel st.e h1) h) (by simp only [execOp,ho])
     ·cases hc
    ·cases hc
   ·cases hc
  ·cases hc
 | indexAddr t x i =>
  simp only [compOp] at hc
  split at hc
  ·rename_i e x' i' h0 h1 h2
   simp only [Option.map_eq_some_iff] at hc
   obtain ⟨k,hk,rfl⟩:=hc
   exact .of (quiet_iaddr h0 hk (compX_rel st.e h1) (compX_rel st.e h2) h) (by simp only [execOp,ho])
  ·rename_i n e x' i' h0 h1 h2
   simp only [Option.map_eq_some_iff] at hc
   obtain ⟨k,hk,rfl⟩:=hc
   exact .of (quiet_aaddr h0 hk (compX_rel st.e h1) (compX_rel st.e h2) h) (by simp only [execOp,ho])
  ·cases hc
 | index t x i =>
  simp only [compOp] at hc
  split at hc
  ·rename_i x' i' h0 h1 h2
   injection hc with hc
   subst hc
   exact .of (quiet_idx h0 (compX_rel st.e h1) (compX_rel st.e h2) h) (by simp only [execOp,ho])
  ·rename_i n e x' i' h0 h1 h2
   split at hc
   ·rename_i g k h3 h4
    split at hc
    ·rename_i hg
     injection hc with hc
     subst hc
     exact .of (quiet_idxA h0 h3 h4 hg (compX_rel st.e h1) (compX_rel st.e h2) h) (by simp only [execOp,ho])
    ·cases hc
   ·cases hc
  ·cases hc
 | slice t x lo hi mx =>
  cases mx with
  | some m=>simp [compOp] at hc
  | none =>
   simp only [compOp] at hc
   split at hc
   ·rename_i e x' lo' hi' h0 h1 h2 h3
    simp only [Option.map_eq_some_iff] at hc
    obtain ⟨k,hk,rfl⟩:=hc
    obtain ⟨a1,a2⟩:=opt_rel st.e h2
    obtain ⟨b1,b2⟩:=opt_rel st.e h3
    exact .of (quiet_slc h0 hk (compX_rel st.e h1) a1 a2 b1 b2 h) (by simp only [execOp,ho,Option.map_none])
   ·rename_i x' lo' hi' h0 h1 h2 h3
    injection hc with hc
    subst hc
    obtain ⟨a1,a2⟩:=opt_rel st.e h2
    obtain ⟨b1,b2⟩:=opt_rel st.e h3
    exact .of (quiet_slcS h0 (compX_rel st.e h1) a1 a2 b1 b2 h) (by simp only [execOp,ho,Option.map_none])
   ·cases hc
 | extract x i =>
  simp only [compOp,Option.map_eq_some_iff] at hc
  obtain ⟨y,hy,rfl⟩:=hc
  exact .of (quiet_ext (compX_rel st.e hy) h) (by simp only [execOp,ho])
 | build t ps =>
  simp only [compOp] at hc
  split at hc
  ·rename_i fs z h0 h1
   split at hc
   ·rename_i pl h2
    simp only [Option.map_eq_some_iff] at hc
    obtain ⟨rs,hr,rfl⟩:=hc
    exact .of (quiet_bld st.e h1 (.inl ⟨fs,pl,h0,h2,hr⟩) h) (by simp only [execOp,ho])
   ·cases hc
  ·rename_i n e z h0 h1
   split at hc
   ·rename_i k h2
    simp only [Option.map_eq_some_iff] at hc
    obtain ⟨rs,hr,rfl⟩:=hc
    exact .of (quiet_bld st.e h1 (.inr ⟨n,e,k,h0,h2,hr⟩) h) (by simp only [execOp,ho])
   ·cases hc
  ·cases hc
 | call cl =>
  obtain ⟨callee,args,tys⟩:=cl
  cases callee with
  | invoke r m=>simp [compOp] at hc
  | value f =>
   cases f with
   | func f =>
    simp only [compOp] at hc
    split at hc
    ·split at hc
     ·cases hc
     ·simp only [Option.map_eq_some_iff] at hc
      obtain ⟨as,_,rfl⟩:=hc
      exact absurd rfl (hcall f as)
    ·cases hc
   | tmp t=>simp [compOp] at hc
   | const v=>simp [compOp] at hc
   | global g=>simp [compOp] at hc
  | builtin b =>
   cases b with
   | len =>
    simp only [compOp] at hc
    split at hc
    ·rename_i x t hx ht
     have ea:args = #[x]:=by refine Array.ext' ?_; simpa using hx
     have et:tys = #[t]:=by refine Array.ext' ?_; simpa using ht
     subst ea
     subst et
     split at hc
     ·rename_i x' h0 h1
      injection hc with hc
      subst hc
      obtain ⟨d,v,g1,g2,g3⟩:=quiet_lenS (B:=B) (P:=P) (ty:=o.type) h0 (compX_rel st.e h1) h
      exact ⟨d,v,g1,g2,fun w' ha=>by simp only [execOp,ho,resolve,invoke,builtin,Sem.run_bind,Sem.run_pure,Result.andThen_ok,List.map_toArray,List.map_cons,List.map_nil,g3 w' ha]⟩
     ·rename_i e x' h0 h1
      injection hc with hc
      subst hc
      obtain ⟨d,v,g1,g2,g3⟩:=quiet_len (B:=B) (P:=P) (ty:=o.type) h0 (compX_rel st.e h1) h
      exact ⟨d,v,g1,g2,fun w' ha=>by simp only [execOp,ho,resolve,invoke,builtin,Sem.run_bind,Sem.run_pure,Result.andThen_ok,List.map_toArray,List.map_cons,List.map_nil,g3 w' ha]⟩
     ·cases hc
    ·cases hc
   | min =>
    simp only [compOp] at hc
    split at hc
    ·rename_i x y hx
     have ea:args = #[x,y]:=by refine Array.ext' ?_; simpa using hx
     subst ea
     split at hc
     ·rename_i x' y' h1 h2
      injection hc with hc
      subst hc
      obtain ⟨d,v,g1,g2,g3⟩:=quiet_min (B:=B) (P:=P) (tys:=tys) (ty:=o.type) (compX_rel st.e h1) (compX_rel st.e h2) h
      exact ⟨d,v,g1,g2,fun w' ha=>by simp only [execOp,ho,resolve,invoke,builtin,Sem.run_bind,Sem.run_pure,Result.andThen_ok,List.map_toArray,List.map_cons,List.map_nil,g3 w' ha]⟩
     ·cases hc
    ·cases hc
   | max =>
    simp only [compOp] at hc
    split at hc
    ·rename_i x y hx
     have ea:args = #[x,y]:=by refine Array.ext' ?_; simpa using hx
     subst ea
     split at hc
     ·rename_i x' y' h1 h2
      injection hc with hc
      subst hc
      obtain ⟨d,v,g1,g2,g3⟩:=quiet_max (B:=B) (P:=P) (tys:=tys) (ty:=o.type) (compX_rel st.e h1) (compX_rel st.e h2) h
      exact ⟨d,v,g1,g2,fun w' ha=>by simp only [execOp,ho,resolve,invoke,builtin,Sem.run_bind,Sem.run_pure,Result.andThen_ok,List.map_toArray,List.map_cons,List.map_nil,g3 w' ha]⟩
     ·cases hc
    ·cases hc
   | append =>
    simp only [compOp] at hc
    split at hc
    ·split at hc
     ·split at hc
      ·split at hc
       ·split at hc
        ·split at hc
         ·injection hc with hc
          subst hc
          cases hq
         ·cases hc
        ·cases hc
       ·cases hc
      ·cases hc
     ·cases hc
    ·cases hc
   | copy =>
    simp only [compOp] at hc
    split at hc
    ·split at hc
     ·split at hc
      ·split at hc
       ·injection hc with hc
        subst hc
        cases hq
       ·cases hc
      ·cases hc
     ·split at hc
      ·split at hc
       ·injection hc with hc
        subst hc
        cases hq
       ·cases hc
      ·cases hc
    ·cases hc
   | _=>simp [compOp] at hc
 | _ =>
  first
  | (simp [compOp] at hc; done)
  | (simp only [compOp] at hc
     repeat' split at hc
     all_goals first
      | (cases hc; done)
      | (injection hc with hc; subst hc; cases hq; done)
      | (simp only [Option.map_eq_some_iff] at hc; obtain ⟨_,_,rfl⟩:=hc; cases hq; done))
end
end Go.Dv
namespace Go.Dv
structure Later (w w':World):Prop where
 a:Agree w w'
 os:w'.os=w.os
 tape:w'.tape=w.tape
 output:w'.output=w.output
theorem Later.refl (w:World):Later w w:=⟨Agree.refl w,rfl,rfl,rfl⟩
theorem Later.trans {w1 w2 w3:World}(h:Later w1 w2)(k:Later w2 w3):Later w1 w3 :=
 ⟨⟨Nat.le_trans h.a.size k.a.size,fun b hb=>(k.a.keep b (Nat.lt_of_lt_of_le hb h.a.size)).trans (h.a.keep b hb)⟩,k.os.trans h.os,k.tape.trans h.tape,k.output.trans h.output⟩
structure Sane (P:Program) (M:Md):Prop where
 plain : ∀ {f args H K},M.call false f args H K → ∀ {c:Cx} {ρ env tmps w vs},StR c ρ env H tmps w→RDt w (c.X ρ H) ρ H args vs →
  Calls P f vs.toArray w fun e w' => ∃ v d ρ' H',e = .returned v∧K d H'∧StR c ρ' env H' tmps w'∧RD w' (c.X ρ' H') ρ' H' d v
 quiet : ∀ {f args H K},M.call true f args H K → ∀ {c:Cx} {ρ env tmps w vs},StR c ρ env H tmps w→RDt w (c.X ρ H) ρ H args vs →
  ∃ d v,K d H∧RD w (c.X ρ H) ρ H d v ∧ ∀ w',Later w w'→Calls P f vs.toArray w' fun e w''=>e = .returned v∧Later w' w''
def Fr (c:Cx)(nt:Nat)(ρ : Rho)(env:Env)(H:Heap)(a:Act)(w:World):Prop:=StR c ρ env H a.tmps w∧a.defers=[]∧a.tmps.size=nt
section
variable {P:Program} {c:Cx} {nt:Nat} {ρ : Rho} {env:Env} {H:Heap} {w:World} {M:Md} {a:Act}
theorem rd_undef {X:Nat→Prop}:RD w X ρ H .undef undef:=by unfold RD; rfl
theorem EnvR.put {X:Nat→Prop}{d:DV}{v:Value}{dst:Option Nat}(he:EnvR w X ρ H env a.tmps)(hd:RD w X ρ H d v)(hdst : ∀ n,dst=some n→n<a.tmps.size):EnvR w X ρ H (setE env dst d) (a.put dst v).tmps:=by
 cases dst with
 | none=>exact he
 | some n =>
  intro m
  have hn:=hdst n rfl
  simp only [setE,get,Act.put]
  by_cases e:n=m
  ·subst e
   simpa [hn] using hd
  ·have:=he m
   simpa [e,Array.getElem?_setIfInBounds] using this
theorem Fr.put (h:Fr c nt ρ env H a w){d:DV}{v:Value}{dst:Option Nat}(hd:RD w (c.X ρ H) ρ H d v)(hdst : ∀ n,dst=some n→n<nt):Fr c nt ρ (setE env dst d) H (a.put dst v) w:=by
 obtain ⟨st,h1,h2⟩:=h
 refine ⟨⟨st.h,st.e.put hd fun n hn=>by rw [h2]; exact hdst n hn,st.k,st.s,st.o⟩,?_,?_⟩
 ·cases dst<;>simpa [Act.put] using h1
 ·cases dst<;>simpa [Act.put] using h2
theorem split_rel {X:Nat→Prop}{sp:Bool}{d:DV}{v:Value}{K:DV→Prop}(h:splitK sp d K)(hd:RD w X ρ H d v) : ∃ d',K d'∧RD w X ρ H d' v:=by
 unfold splitK at h
 split at h
 ·rename_i b
  cases b with
  | true=>exact ⟨_,h.1 rfl,hd⟩
  | false=>exact ⟨_,h.2 rfl,hd⟩
 ·exact ⟨d,h,hd⟩
theorem guard_rel {X:Nat→Prop}{ops:Array Oper}{j n:Nat}{b:Bool}{o:Oper}{A B:Prop}(he:EnvR w X ρ H env a.tmps)(hn:n<a.tmps.size)(hj:(ops[j]?).bind (·.dst)=some n)(hg:o.guard=some (j,b))(h:guardK (get env n) b A B) :
  (Region.wanted o (yielded ops a.tmps)=true∧A)∨(Region.wanted o (yielded ops a.tmps)=false∧B):=by
 have hr:=he n
 have hget:a.tmps[n]? = some (a.tmps.getD n undef):=by simp [hn]
 unfold guardK at h
 split at h
 ·rename_i cc e
  rw [e] at hr
  have hv:=rp_bool hr
  have hy:yielded ops a.tmps j=some cc:=by
   simp only [yielded,hj,Option.bind_some,hget,hv]
  by_cases hbc:b=cc
  ·exact .inl ⟨by simp [Region.wanted,hg,hy,hbc],h.1 hbc⟩
  ·refine .inr ⟨?_,h.2 hbc⟩
   simp [Region.wanted,hg,hy,Ne.symm hbc]
 ·rename_i e
  rw [e] at hr
  unfold RD at hr
  have hy:yielded ops a.tmps j=none:=by
   simp only [yielded,hj,Option.bind_some,hget,hr]
   rfl
  exact .inr ⟨by simp [Region.wanted,hg,hy],h⟩
 ·exact h.elim
theorem run_call {f:FuncId}{fn:Func}{args:Array Operand}{tys:Array TypeId}(hf:P.funcs[f]? = some fn)(hb:(fn.name == "runtime.NumGoroutine" || fn.body.isNone)=false) (o:Oper) (ho:o.op = .call { callee := .value (.func f), args, argTypes:=tys }) (w:World) :
  (execOp a.eval o).run P w = .ok (.enter f (args.map a.eval)) w:=by
 simp only [Bool.or_eq_false_iff] at hb
 simp only [execOp,ho,resolve,Act.eval,Deferred.ofValue,Sem.run_bind,Sem.run_pure,Result.andThen_ok,invoke,callFunc,run_program,hf,hb.1,hb.2,Bool.false_eq_true,if_false,Array.empty_append,Array.append_empty]
theorem compXs_toArray {xs:Array Operand}{ys:List Xp}{X:Nat→Prop}(he:EnvR w X ρ H env a.tmps)(h:compXs xs.toList=some ys):RDt w X ρ H (ys.map (ev env)) (xs.map a.eval).toList:=by
 have:=compXs_rel he h
 simpa using this
theorem compOp_call {op:Op}{f:FuncId}{as:List Xp}(hc:compOp P op=some (.call f as)) :
  ∃ args tys fn, op = .call { callee := .value (.func f), args, argTypes:=tys }∧P.funcs[f]? = some fn∧(fn.name == "runtime.NumGoroutine" || fn.body.isNone)=false∧compXs args.toList=some as:=by
 cases op with
 | call cl =>
  obtain ⟨callee,args,tys⟩:=cl
  cases callee with
  | invoke r m=>simp [compOp] at hc
  | builtin b =>
   exfalso
   cases b<;>simp only [compOp] at hc<;>first|(cases hc; done)|((repeat' split at hc)<;>cases hc)
  | value g =>
   cases g with
   | func g =>
    simp only [compOp] at hc
    split at hc
    ·rename_i fn hf
     split at hc
     ·cases hc
     ·rename_i hb
      simp only [Option.map_eq_some_iff] at hc
      obtain ⟨as',hxs,he⟩:=hc
      injection he with e1 e2
      subst e1
      subst e2
      exact ⟨args,tys,fn,rfl,hf,by simpa only [Bool.not_eq_true] using hb,hxs⟩
    ·cases hc
   | tmp t=>simp [compOp] at hc
   | const v=>simp [compOp] at hc
   | global g=>simp [compOp] at hc
 | slice t x lo hi mx =>
  exfalso
  cases mx<;>simp only [compOp] at hc
  ·(repeat' split at hc)<;>first|(cases hc; done)|(simp only [Option.map_eq_some_iff] at hc; obtain ⟨_,_,hc⟩:=hc; cases hc; done)
  ·cases hc
 | _=>exfalso; simp only [compOp] at hc; first|(cases hc; done)|(simp only [Option.map_eq_some_iff] at hc; obtain ⟨_,_,hc⟩:=hc; cases hc; done)|((repeat' split at hc)<;>first|(cases hc; done)|(simp only [Option.map_eq_some_iff] at hc; obtain ⟨_,_,hc⟩:=hc; cases hc; done))
theorem eff_cells {tmps:Array Value}{K:DV→Heap→Prop}{e:TypeId}(he5:e<1048576){cs:List DV}{cells:Array Value}{s:Sem Value}(st:StR c ρ env H tmps w)(hr:RDs w (c.X ρ H) ρ H cs cells.toList)(h:K (.ptr H.length 0 0) (H++[.box e cs]))
  (hs:s.run P w = .ok (.pointer (some ⟨w.heap.size,0,none⟩)) (w.alloc (.cells cells e))):Eff P c env tmps K w s:=by
 refine ⟨_,_,_,_,_,hs,h,st.new (World.grownBy_alloc w _ none) fun hp hs=>⟨w.heap.size,cells,rho_new st _,(boxT_lt he5).symm ▸ heap_alloc_new w _,RDs_mono hp hs _ _ hr⟩,?_⟩
 unfold RD ptrRel
 simp only [append_get]
 exact ⟨_,rho_new st _,rfl⟩
theorem dvOf_cells {v:Value}{d:DV}(h:dvOf v=some d):cellsD d=some [d]:=by
 unfold dvOf at h
 split at h<;>simp at h<;>subst h<;>rfl
theorem op_plain (hM:Sane P M){op:Op}{io:IOp}(hc:compOp P op=some io){K:DV→Heap→Prop}(st:StR c ρ env H a.tmps w)(h:(dop io env H).run M false K)(o:Oper)(ho:o.op=op)(next:Act→World→Prop)(Q:Exit→Act→World→Prop)
  (hn : ∀ v d ρ' H' w',K d H'→StR c ρ' env H' a.tmps w'→RD w' (c.X ρ' H') ρ' H' d v→next (a.put o.dst v) w'):o.wp P a w next Q:=by
 by_cases hcall : ∃ f as,io = .call f as
 ·obtain ⟨f,as,rfl⟩:=hcall
  obtain ⟨args,tys,fn,rfl,hf,hb,hxs⟩:=compOp_call hc
  unfold Oper.wp
  rw [run_call hf hb o ho]
  simp only [Oper.upon]
  refine (hM.plain h st (compXs_toArray st.e hxs)).mono fun e w' hh => ?_
  obtain ⟨v,d,ρ',H',rfl,h1,h2,h3⟩:=hh
  exact hn v d ρ' H' w' h1 h2 h3
 ·by_cases hq:io.quiet=true
  ·obtain ⟨d,v,h1,h2,h3⟩:=op_quiet (B:=fun _=>True) hc hq (fun f as e=>hcall ⟨f,as,e⟩) st h o ho (fun _ _ _=>trivial) (fun _ _ _ _ _ _ _ _ _ _=>trivial)
   unfold Oper.wp
   rw [h3 w (Agree.refl w).b]
   exact hn v d ρ H w h1 st h2
  ·have key : ∀ s:Sem Value,(∀ r,s.run P w=r→(execOp a.eval o).run P w=r.andThen fun v w' => .ok (.value v) w')→Eff P c env a.tmps K w s→o.wp P a w next Q:=fun s hs he=>by
    obtain ⟨v,w',d,ρ',H',h1,h2,h3,h4⟩:=he
    unfold Oper.wp
    rw [hs _ h1]
    exact hn v d ρ' H' w' h2 h3 h4
   cases op with
   | store t x y =>
    simp only [compOp] at hc
    split at hc
    ·rename_i n x' y' h0 h1 h2
     injection hc with hc
     subst hc
     obtain ⟨w',ρ',H',g1,g2,g3⟩:=eff_store h0 st (compX_rel st.e h1) (compX_rel st.e h2) h
     unfold Oper.wp
     have:(execOp a.eval o).run P w = .ok .skip w':=by simp only [execOp,ho,Sem.run_bind,g1,Result.andThen_ok,Sem.run_pure]
     rw [this]
     exact hn undef .undef ρ' H' w' g2 g3 rd_undef
    ·cases hc
   | box e x =>
    simp only [compOp] at hc
    split at hc
    ·rename_i he5
     simp only [Option.map_eq_some_iff] at hc
     obtain ⟨y,hy,rfl⟩:=hc
     exact key _ (fun r hr=>by simp only [execOp,ho,Sem.run_bind,hr]; rfl) (eff_box he5 st (compX_rel st.e hy) h)
    ·cases hc
   | alloc e =>
    simp only [compOp] at hc
    have hal : ∀ zv:Value,(zeroValue e).run P w = .ok zv w→(Instr.alloc e true (.tuple #[])).run P w = .ok (.pointer (some ⟨w.heap.size,0,none⟩)) (w.alloc (.cells zv.cells e)):=fun zv hz=>by
     simp [Instr.alloc,hz,newVar,newRow]
    split at hc
    ·rename_i he5
     split at hc
     ·rename_i z h0 h1
      injection hc with hc
      subst hc
      obtain ⟨zv,hzr,hzd⟩:=run_zero h1 w
      exact key _ (fun r hr=>by simp only [execOp,ho,Sem.run_bind,hr]; rfl) (eff_cells he5 st (dvOfs_rel hzd) h (hal zv hzr))
     ·rename_i z h0 h1
      injection hc with hc
      subst hc
      obtain ⟨zv,hzr,hzd⟩:=run_zero h1 w
      have hz2 : ∃ u,zv.cells.toList=[u]∧dvOf u=some z:=by
       cases hl:zv.cells.toList with
       | nil=>simp [hl,dvOfs] at hzd
       | cons u r =>
        rw [hl] at hzd
        simp only [dvOfs] at hzd
        cases k1:dvOf u with
        | none=>simp [k1] at hzd
        | some d =>
         cases k2:dvOfs r with
         | none=>simp [k1,k2] at hzd
         | some ds =>
          simp [k1,k2] at hzd
          obtain ⟨rfl,rfl⟩:=hzd
          cases r with
          | nil=>exact ⟨u,rfl,k1⟩
          | cons v r =>
           simp only [dvOfs] at k2
           cases k3:dvOf v<;>cases k4:dvOfs r<;>simp [k3,k4] at k2
      obtain ⟨u,hu,hd⟩:=hz2
      simp only [dop,ev,dvOf_cells hd,R.ofCells,R.run] at h
      exact key _ (fun r hr=>by simp only [execOp,ho,Sem.run_bind,hr]; rfl) (eff_cells he5 st (dvOfs_rel hzd) h (hal zv hzr))
     ·cases hc
    ·cases hc
   | buildSlice t n ps =>
    simp only [compOp] at hc
    split at hc
    ·rename_i e h0
     split at hc
     ·rename_i k z r h1 h2 h3
      split at hc
      ·rename_i he5
       injection hc with hc
       subst hc
       exact key _ (fun r hr=>by simp only [execOp,ho,Sem.run_bind,hr]; rfl) (eff_bsl h0 h1 h2 h3 he5 st h)
      ·cases hc
     ·cases hc
    ·cases hc
   | makeSlice t l m =>
    simp only [compOp] at hc
    split at hc
    ·rename_i e h0
     split at hc
     ·rename_i i z l' m' h1 h2 h3 h4
      split at hc
      ·rename_i hcond
       split at hc
       ·injection hc with hc
        subst hc
        exact key _ (fun r hr=>by simp only [execOp,ho,Sem.run_bind,hr]; rfl) (eff_mkb h0 h1 h2 hcond.1 hcond.2.2.2 st (compX_rel st.e h3) (compX_rel st.e h4) h)
       ·injection hc with hc
        subst hc
        exact key _ (fun r hr=>by simp only [execOp,ho,Sem.run_bind,hr]; rfl) (eff_mks h0 h1 h2 hcond.1 hcond.2.2.2 st (compX_rel st.e h3) (compX_rel st.e h4) h)
      ·cases hc
     ·cases hc
    ·cases hc
   | convert s d x =>
    simp only [compOp] at hc
    split at hc
    ·injection hc with hc; subst hc; exact absurd rfl hq
    ·rename_i e x' h0 h1 h2
     split at hc
     ·rename_i h3
      injection hc with hc
      subst hc
      exact key _ (fun r hr=>by simp only [execOp,ho,Sem.run_bind,hr]; rfl) (eff_b2s h0 h3 h1 st (compX_rel st.e h2) h)
     ·cases hc
    ·rename_i e x' h0 h1 h2
     split at hc
     ·rename_i h3
      split at hc
      ·injection hc with hc
       subst hc
       exact key _ (fun r hr=>by simp only [execOp,ho,Sem.run_bind,hr]; rfl) (eff_s2b h0 h1 h3 st (compX_rel st.e h2) h)
      ·cases hc
     ·cases hc
    ·cases hc
   | range t x =>
    simp only [compOp] at hc
    split at hc
    ·rename_i h0
     simp only [Option.map_eq_some_iff] at hc
     obtain ⟨x',h1,rfl⟩:=hc
     exact key _ (fun r hr=>by simp only [execOp,ho,Sem.run_bind,hr]; rfl) (eff_rng h0 st (compX_rel st.e h1) h)
    ·cases hc
   | next x b =>
    simp only [compOp] at hc
    split at hc
    ·rename_i hb
     subst hb
     simp only [Option.map_eq_some_iff] at hc
     obtain ⟨x',h1,rfl⟩:=hc
     exact key _ (fun r hr=>by simp only [execOp,ho,Sem.run_bind,hr]; rfl) (eff_nxt (ty:=o.type) st (compX_rel st.e h1) h)
    ·cases hc
   | slice t x lo hi mx =>
    exfalso
    cases mx<;>simp only [compOp] at hc
    ·(repeat' split at hc)<;>first|(cases hc; done)|(cases hc; exact absurd rfl hq)|(simp only [Option.map_eq_some_iff] at hc; obtain ⟨_,_,hc⟩:=hc; cases hc; exact absurd rfl hq)
    ·cases hc
   | call cl =>
    obtain ⟨callee,args,tys⟩:=cl
    cases callee with
    | invoke r m=>simp [compOp] at hc
    | value f =>
     cases f with
     | func f =>
      simp only [compOp] at hc
      split at hc
      ·split at hc
       ·cases hc
       ·simp only [Option.map_eq_some_iff] at hc
        obtain ⟨as,_,rfl⟩:=hc
        exact absurd ⟨f,as,rfl⟩ hcall
      ·cases hc
     | tmp t=>simp [compOp] at hc
     | const v=>simp [compOp] at hc
     | global g=>simp [compOp] at hc
    | builtin b =>
     cases b with
     | append =>
      simp only [compOp] at hc
      split at hc
      ·rename_i x y t t' hx ht
       have ea:args = #[x,y]:=by refine Array.ext' ?_; simpa using hx
       have et:tys = #[t,t']:=by refine Array.ext' ?_; simpa using ht
       subst ea
       subst et
       split at hc
       ·rename_i htt
        subst htt
        split at hc
        ·rename_i e h0
         split at hc
         ·rename_i i x' y' h1 h2 h3
          split at hc
          ·rename_i z h4
           split at hc
           ·rename_i hcond
            injection hc with hc
            subst hc
            exact key _ (fun r hr=>by simp only [execOp,ho,resolve,invoke,builtin,Sem.run_bind,Sem.run_pure,Result.andThen_ok,List.map_toArray,List.map_cons,List.map_nil,hr]) (eff_app (ty:=o.type) h0 h1 h4 rfl rfl hcond.1 hcond.2.1 hcond.2.2.1 hcond.2.2.2 st (compX_rel st.e h2) (compX_rel st.e h3) h)
           ·cases hc
          ·cases hc
         ·cases hc
        ·cases hc
       ·cases hc
      ·cases hc
     | copy =>
      simp only [compOp] at hc
      split at hc
      ·rename_i x y t t' hx ht
       have ea:args = #[x,y]:=by refine Array.ext' ?_; simpa using hx
       have et:tys = #[t,t']:=by refine Array.ext' ?_; simpa using ht
       subst ea
       subst et
       split at hc
       ·rename_i htt
        subst htt
        split at hc
        ·rename_i e h0
         split at hc
         ·rename_i k x' y' h1 h2 h3
          injection hc with hc
          subst hc
          exact key _ (fun r hr=>by simp only [execOp,ho,resolve,invoke,builtin,Sem.run_bind,Sem.run_pure,Result.andThen_ok,List.map_toArray,List.map_cons,List.map_nil,hr]) (eff_cpy (ty:=o.type) h0 h1 st (compX_rel st.e h2) (compX_rel st.e h3) h)
         ·cases hc
        ·cases hc
       ·split at hc
        ·rename_i e x' y' h0 h0' h2 h3
         split at hc
         ·rename_i h1
          injection hc with hc
          subst hc
          exact key _ (fun r hr=>by simp only [execOp,ho,resolve,invoke,builtin,Sem.run_bind,Sem.run_pure,Result.andThen_ok,List.map_toArray,List.map_cons,List.map_nil,hr]) (eff_cpyS (t':=t') (ty:=o.type) h0 h1 st (compX_rel st.e h2) (compX_rel st.e h3) h)
         ·cases hc
        ·cases hc
      ·cases hc
     | min =>
      simp only [compOp] at hc
      repeat' split at hc
      all_goals first
       | (cases hc; done)
       | (injection hc with hc; subst hc; exact absurd rfl hq)
     | max =>
      simp only [compOp] at hc
      repeat' split at hc
      all_goals first
       | (cases hc; done)
       | (injection hc with hc; subst hc; exact absurd rfl hq)
     | len =>
      simp only [compOp] at hc
      repeat' split at hc
      all_goals first
       | (cases hc; done)
       | (injection hc with hc; subst hc; exact absurd rfl hq)
     | _=>simp [compOp] at hc
   | _ =>
    exfalso
    simp only [compOp] at hc
    first
    | (cases hc; done)
    | (simp only [Option.map_eq_some_iff] at hc; obtain ⟨_,_,hc⟩:=hc; cases hc; exact absurd rfl hq)
    | ((repeat' split at hc)<;>first
       | (cases hc; done)
       | (cases hc; exact absurd rfl hq)
       | (simp only [Option.map_eq_some_iff] at hc; obtain ⟨_,_,hc⟩:=hc; cases hc; exact absurd rfl hq))
end
end Go.Dv
