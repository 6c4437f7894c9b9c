/- Core: the compact code, its compiler and its verification conditions; for every program of the model. Nothing here speaks of this translation. -/
import Derived.WalkKit
import Derived.Orders
import Derived.Deep.QuietTactic
import Derived.Laws.CopyOwn
namespace Go.Dv
inductive PV where
 | int (k:IntKind) (n:Int)
 | bool (b:Bool)
 | str (s:List UInt8)
 | sl (k:Nat) (xs:List PV)
 | agg (cs:List PV)
instance:Inhabited PV:=⟨.bool false⟩
def PV.cells:PV→List PV
 | .agg cs=>cs
 | x=>[x]
inductive DV where
 | any
 | undef
 | p (x:PV)
 | nil
 | own (i off len:Nat)
 | ptr (i j f:Nat)
 | rptr (k:Nat) (xs:List PV) (j f:Nat)
 | agg (cs:List DV)
 | tup (ds:List DV)
instance:Inhabited DV:=⟨.any⟩
inductive OB where
 | dead
 | arr (e:TypeId) (k:Nat) (xs:List PV)
 | box (e:TypeId) (cs:List DV)
 | iter (s:List UInt8) (pos:Nat)
abbrev Heap:=List OB
abbrev Env:=List (Nat × DV)
abbrev Rho:=List (Option Nat)
mutual
def RP (w:World)(X:Nat→Prop):PV→Value→Prop
 | .int k n,v=>v = .int k n
 | .bool b,v=>v = .bool b
 | .str s,v=>v = .string ⟨s.toArray⟩
 | .sl k xs,v => ∃ A c,v = .slice A xs.length c∧xs.length≤c∧c≤maxLen∧(xs≠[] → ∃ b o,A=some ⟨b,o,none⟩∧b<w.heap.size ∧ ¬ X b∧RRow w X k b o xs)
 | .agg cs,v => ∃ vs,v = .agg vs.toArray∧RPs w X cs vs
def RPs (w:World)(X:Nat→Prop):List PV→List Value→Prop
 | [],vs=>vs=[]
 | c::cs,vs => ∃ v vs',vs=v::vs'∧v.oneCell'=true∧RP w X c v∧RPs w X cs vs'
def RRow (w:World)(X:Nat→Prop)(k b:Nat):Nat→List PV→Prop
 | _,[]=>True
 | o,x::xs=>(∃ vs:List Value,vs.length=k∧(∀ j u,vs[j]? = some u→w.cell? ⟨b,o+j,none⟩=some u)∧RE w X x vs)∧RRow w X k b (o+k) xs
def RE (w:World)(X:Nat→Prop):PV→List Value→Prop
 | .agg cs,vs=>RPs w X cs vs
 | .int k n,vs=>vs=[.int k n]
 | .bool b,vs=>vs=[.bool b]
 | .str s,vs=>vs=[.string ⟨s.toArray⟩]
 | .sl k xs,vs => ∃ v,vs=[v] ∧ ∃ A c,v = .slice A xs.length c∧xs.length≤c∧c≤maxLen∧(xs≠[] → ∃ b o,A=some ⟨b,o,none⟩∧b<w.heap.size ∧ ¬ X b∧RRow w X k b o xs)
end
end Go.Dv
namespace Go.Dv
inductive Xp where
 | t (n:Nat)
 | k (d:DV)
instance:Inhabited Xp:=⟨.k .any⟩
inductive IOp where
 | mv (x:Xp)
 | pick (c a b:Xp)
 | bin (op:BinOp) (x y:Xp)
 | binB (op:BinOp) (x y:Xp)
 | eqA (neg:Bool) (ks:List Nat) (x y:Xp)
 | un (op:UnOp) (x:Xp)
 | conv (k:IntKind) (x:Xp)
 | b2s (x:Xp)
 | s2b (e:TypeId) (x:Xp)
 | load (ag:Bool) (n:Nat) (x:Xp)
 | store (n:Nat) (x y:Xp)
 | nilchk (x:Xp)
 | faddr (x:Xp) (off:Nat)
 | fld (ag:Bool) (off n:Nat) (x:Xp)
 | iaddr (k:Nat) (x i:Xp)
 | aaddr (k len:Nat) (x i:Xp)
 | idx (x i:Xp)
 | idxA (ag:Bool) (k len:Nat) (x i:Xp)
 | slc (k:Nat) (x:Xp) (lo hi:Option Xp)
 | slcS (x:Xp) (lo hi:Option Xp)
 | len (x:Xp)
 | lenS (x:Xp)
 | app (e k bytes:Nat) (x y:Xp)
 | cpy (k:Nat) (x y:Xp)
 | cpyS (x y:Xp)
 | rng (x:Xp)
 | nxt (x:Xp)
 | box (e:TypeId) (x:Xp)
 | bld (zero:List DV) (parts:List (Nat × Nat × Xp))
 | bsl (e k n:Nat) (zero:List DV) (parts:List (Nat × Xp))
 | mks (e k bytes:Nat) (zero:List DV) (l c:Xp)
 | mkb (e k bytes:Nat) (zero:List DV) (l c:Xp)
 | ext (x:Xp) (i:Nat)
 | mm (mx:Bool) (x y:Xp)
 | call (f:FuncId) (args:List Xp)
structure GOp where
 g:Option (Nat × Bool)
 d:Option Nat
 op:IOp
inductive DT where
 | fin
 | bad
 | op (g:GOp) (t:DT)
 | both (a b:DT)
inductive DC where
 | skip
 | reg (quiet:Bool) (ops:List GOp)
 | hard (id:Nat)
 | draw (hd:List GOp) (t:DT) (tl:List GOp)
 | seq (a b:DC)
 | cond (c:Xp) (a b:DC)
 | block (id:Nat) (c:DC)
 | loop (c:DC)
 | exit (id:Nat)
 | ret
def dvOf:Value→Option DV
 | .int k n=>some (.p (.int k n))
 | .bool b=>some (.p (.bool b))
 | .string s=>some (.p (.str s.data.toList))
 | .slice none 0 0=>some .nil
 | _=>none
def dvOfs:List Value→Option (List DV)
 | []=>some []
 | v::vs=>match dvOf v,dvOfs vs with
  | some d,some ds=>some (d::ds)
  | _,_=>none
def constOf:Value→Option DV
 | .agg cs=>(dvOfs cs.toList).map .agg
 | v=>dvOf v
def compX:Operand→Option Xp
 | .tmp t=>some (.t t)
 | .const v=>(constOf v).map .k
 | _=>none
def compXs:List Operand→Option (List Xp)
 | []=>some []
 | x::xs=>match compX x,compXs xs with
  | some a,some as=>some (a::as)
  | _,_=>none
def sizeP (P:Program)(t:TypeId):Option Nat:=(P.info? t).map (·.size)
def isAggP (P:Program)(t:TypeId):Option Bool:=(P.underlying t).map fun | .struct _ | .array _ _=>true | _=>false
def zeroP (P:Program)(t:TypeId):Option (List DV):=((P.info? t).bind (·.zero)).bind fun v=>dvOfs v.cells.toList
def optX:Option Operand→Option (Option Xp)
 | none=>some none
 | some x=>(compX x).map some
def compParts (place:Nat→Option (Nat × Nat)):List (Nat × Operand)→Option (List (Nat × Nat × Xp))
 | []=>some []
 | (i,x)::ps=>match place i,compX x,compParts place ps with
  | some (o,n),some a,some r=>some ((o,n,a)::r)
  | _,_,_=>none
def compParts2:List (Nat × Operand)→Option (List (Nat × Xp))
 | []=>some []
 | (i,x)::ps=>match compX x,compParts2 ps with
  | some a,some r=>some ((i,a)::r)
  | _,_=>none
def places (P:Program):List Field→Option (List (Nat × Nat))
 | []=>some []
 | f::fs=>match sizeP P f.type,places P fs with
  | some n,some r=>some ((f.offset,n)::r)
  | _,_=>none
def fieldKs (P:Program):Nat→List Field→Option (List Nat)
 | _,[]=>some []
 | o, f::fs=>if (f.name != "_")=true∧f.offset=o∧isAggP P f.type=some false then
   match P.underlying f.type,fieldKs P (o+1) fs with
   | some .bool,some ks=>some (0::ks)
   | some .string,some ks=>some (1::ks)
   | some (.int _),some ks=>some (2::ks)
   | _,_=>none
  else none
def fieldKs2 (P:Program):Nat→List Field→Option (List Nat)
 | _,[]=>some []
 | o, f::fs=>if (f.name != "_")=true∧f.offset=o then
   (match isAggP P f.type with
   | some false=>match P.underlying f.type,fieldKs2 P (o+1) fs with
    | some .bool,some ks=>some (0::ks)
    | some .string,some ks=>some (1::ks)
    | some (.int _),some ks=>some (2::ks)
    | _,_=>none
   | some true=>match P.underlying f.type,sizeP P f.type with
    | some (.struct gs),some k=>if P.stoodInHeld f.type=false then (match fieldKs P 0 gs.toList,fieldKs2 P (o+k) fs with
      | some a,some b=>if a.length=k then some (a++b) else none
      | _,_=>none) else none
    | _,_=>none
   | none=>none)
  else none
def heldTy (P:Program):Nat→TypeId→Bool
 | 0,_=>true
 | n+1,t=>match P.underlying t with
  | some (.slice _)=>true
  | some (.struct fs)=>fs.toList.any fun f=>heldTy P n f.type
  | _=>false
def compOp (P:Program)(op:Op):Option IOp :=
 match op with
 | .move x | .assign x=>(compX x).map .mv
 | .pick c a b=>match compX c,compX a,compX b with
  | some c,some a,some b=>some (.pick c a b)
  | _,_,_=>none
 | .binOp o t x y _=>match P.underlying t,compX x,compX y with
  | some (.int _),some x,some y=>some (.bin o x y)
  | some .string,some x,some y=>some (.bin o x y)
  | some .bool,some x,some y=>some (.binB o x y)
  | some (.struct fs),some x,some y=>if P.stoodInHeld t=false∧P.eqGuardType P.depth t=false then match o,fieldKs2 P 0 fs.toList with
   | .eql,some ks=>some (.eqA false ks x y)
   | .neq,some ks=>some (.eqA true ks x y)
   | _,_=>none
   else none
  | _,_,_=>none
 | .unOp o _ x=>(compX x).map (.un o)
 | .convert s d x=>match P.underlying s,P.underlying d,compX x with
  | some (.int _),some (.int k),some x=>some (.conv k x)
  | some (.slice e),some .string,some x=>match P.underlying e with
   | some (.int .u8)=>some (.b2s x)
   | _=>none
  | some .string,some (.slice e),some x=>match P.underlying e with
   | some (.int .u8)=>if sizeP P e=some 1∧e<1048576 then some (.s2b e x) else none
   | _=>none
  | _,_,_=>none
 | .load t x=>match isAggP P t,sizeP P t,compX x with
  | some g,some n,some x=>if g=false→n=1 then some (.load g n x) else none
  | _,_,_=>none
 | .store t x y=>match sizeP P t,compX x,compX y with
  | some n,some x,some y=>some (.store n x y)
  | _,_,_=>none
 | .nilCheck x=>(compX x).map .nilchk
 | .fieldAddr s x f=>match P.underlying s,compX x with
  | some (.struct fs),some x=>match fs[f]? with
   | some fd=>match sizeP P fd.type with
    | some (_+1)=>some (.faddr x fd.offset)
    | _=>none
   | none=>none
  | _,_=>none
 | .field s x f=>match P.underlying s,compX x with
  | some (.struct fs),some x=>match fs[f]? with
   | some fd=>match isAggP P fd.type,sizeP P fd.type with
    | some g,some n=>if g=false→n=1 then some (.fld g fd.offset n x) else none
    | _,_=>none
   | none=>none
  | _,_=>none
 | .indexAddr t x i=>match P.underlying t,compX x,compX i with
  | some (.slice e),some x,some i=>(sizeP P e).map fun k => .iaddr k x i
  | some (.array n e),some x,some i=>(sizeP P e).map fun k => .aaddr k n x i
  | _,_,_=>none
 | .index t x i=>match P.underlying t,compX x,compX i with
  | some .string,some x,some i=>some (.idx x i)
  | some (.array n e),some x,some i=>match isAggP P e,sizeP P e with
   | some g,some k=>if g=false→k=1 then some (.idxA g k n x i) else none
   | _,_=>none
  | _,_,_=>none
 | .slice t x lo hi none=>match P.underlying t,compX x,optX lo,optX hi with
  | some (.slice e),some x,some lo,some hi=>(sizeP P e).map fun k => .slc k x lo hi
  | some .string,some x,some lo,some hi=>some (.slcS x lo hi)
  | _,_,_,_=>none
 | .extract x i=>(compX x).map fun x => .ext x i
 | .box e x=>if e<1048576 then (compX x).map (.box e) else none
 | .range t x=>match P.underlying t with
  | some .string=>(compX x).map .rng
  | _=>none
 | .next x b=>if b=true then (compX x).map .nxt else none
 | .alloc e=>if e<1048576 then (match isAggP P e,zeroP P e with
  | some true,some z=>some (.box e (.k (.agg z)))
  | some false,some [z]=>some (.box e (.k z))
  | _,_=>none) else none
 | .build t ps=>match P.underlying t,zeroP P t with
  | some (.struct fs),some z=>match places P fs.toList with
   | some pl=>(compParts (fun i=>pl[i]?) ps.toList).map (.bld z)
   | none=>none
  | some (.array _ e),some z=>match sizeP P e with
   | some k=>(compParts (fun i=>some (i * k,k)) ps.toList).map (.bld z)
   | none=>none
  | _,_=>none
 | .buildSlice t n ps=>match P.underlying t with
  | some (.slice e)=>match sizeP P e,zeroP P e,compParts2 ps.toList with
   | some k,some z,some r=>if e<1048576 then some (.bsl e k n z r) else none
   | _,_,_=>none
  | _=>none
 | .makeSlice t l c=>match P.underlying t with
  | some (.slice e)=>match P.info? e,zeroP P e,compX l,compX c with
   | some i,some z,some l,some c=>if 0<i.bytes∧0<i.size∧z.length=i.size∧e<1048576 then (if heldTy P 6 e then some (.mkb e i.size i.bytes z l c) else some (.mks e i.size i.bytes z l c)) else none
   | _,_,_,_=>none
  | _=>none
 | .call c=>match c.callee with
  | .builtin .len=>match c.args.toList,c.argTypes.toList with
   | [x],[t]=>match P.underlying t,compX x with
    | some .string,some x=>some (.lenS x)
    | some (.slice _),some x=>some (.len x)
    | _,_=>none
   | _,_=>none
  | .builtin .min=>match c.args.toList with
   | [x,y]=>match compX x,compX y with
    | some x,some y=>some (.mm false x y)
    | _,_=>none
   | _=>none
  | .builtin .max=>match c.args.toList with
   | [x,y]=>match compX x,compX y with
    | some x,some y=>some (.mm true x y)
    | _,_=>none
   | _=>none
  | .builtin .append=>match c.args.toList,c.argTypes.toList with
   | [x,y],[t,t']=>if t=t' then match P.underlying t with
     | some (.slice e)=>match P.info? e,compX x,compX y with
      | some i,some x,some y=>match i.zero with
       | some z=>if z.cells.size=i.size∧0<i.size∧0<i.bytes∧e<1048576 then some (.app e i.size i.bytes x y) else none
       | none=>none
      | _,_,_=>none
     | _=>none
    else none
   | _,_=>none
  | .builtin .copy=>match c.args.toList,c.argTypes.toList with
   | [x,y],[t,t']=>if t=t' then match P.underlying t with
     | some (.slice e)=>match sizeP P e,compX x,compX y with
      | some k,some x,some y=>some (.cpy k x y)
      | _,_,_=>none
     | _=>none
    else match P.underlying t,P.underlying t',compX x,compX y with
     | some (.slice e),some .string,some x,some y=>if sizeP P e=some 1 then some (.cpyS x y) else none
     | _,_,_,_=>none
   | _,_=>none
  | .value (.func f)=>match P.funcs[f]? with
   | some fn=>if fn.name == "runtime.NumGoroutine" || fn.body.isNone then none else (compXs c.args.toList).map (.call f)
   | none=>none
  | _=>none
 | _=>none
def IOp.quiet:IOp→Bool
 | .s2b .. | .b2s .. | .store .. | .app .. | .cpy .. | .cpyS .. | .rng .. | .nxt .. | .box .. | .bsl .. | .mks .. | .mkb .. => false
 | _=>true
def compGuard (ops:Array Oper)(nt:Nat):Option (Nat × Bool)→Option (Option (Nat × Bool))
 | none=>some none
 | some (j,b)=>match (ops[j]?).bind (·.dst) with
  | some d=>if d<nt then some (some (d,b)) else none
  | none=>none
def compGOp (P:Program)(nt:Nat)(ops:Array Oper)(o:Oper):Option GOp :=
 match compGuard ops nt o.guard,compOp P o.op with
 | some g,some io=>match o.dst with
  | none=>some ⟨g,none,io⟩
  | some d=>if d<nt then some ⟨g,some d,io⟩ else none
 | _,_=>none
def compGOps (P:Program)(nt:Nat)(ops:Array Oper):List Oper→Option (List GOp)
 | []=>some []
 | o::os=>match compGOp P nt ops o,compGOps P nt ops os with
  | some a,some r=>some (a::r)
  | _,_=>none
def IOp.isLoad:IOp→Bool
 | .load .. => true
 | _=>false
def IOp.isCall:IOp→Bool
 | .call .. => true
 | _=>false
def waits (ops:Array Oper)(j i:Nat):Bool:=match ops[j]? with
 | some oj=>oj.after.any fun e=>Region.binds .any e && e.on == i
 | none=>false
def tailFrom (ops:Array Oper)(n:Nat):Bool:=(List.range ops.size).all fun j=>decide (j<n) || (List.range j).all fun i=>waits ops j i
def headN (ops:Array Oper):Nat:=((List.range (ops.size+1)).find? (tailFrom ops)).getD ops.size
def okL (gs:List GOp):IOp→Bool
 | .load _ _ (.t x)=>gs.all fun g=>g.g.isNone || (match g.op with
  | .load _ _ (.t y) => !(x == y)
  | _=>true)
 | _=>true
def sliced (gs:List GOp):Bool:=(gs.any fun g=>match g.op with
 | .iaddr .. => true
 | _=>false) && gs.any fun g=>match g.op with
 | .slc .. => true
 | .app _ _ _ (.t x) _=>gs.any fun h=>h.op.isLoad && (match h.d with
  | some y=>x == y
  | none=>false)
 | _=>false
def noSt (gs:List GOp)(n:Nat):Bool := !sliced (gs.take n) && (gs.take n).all fun g=>match g.op with
 | .store _ (.t x) _=>gs.any fun h=>(match h.op with
  | .box .. => true
  | _=>false) && (match h.d with
  | some y=>x == y
  | none=>false)
 | .store .. => false
 | _=>true
def fldLd (gs:List GOp)(n:Nat):IOp→Bool
 | .load _ _ (.t x)=>decide (5≤((gs.take n).filter fun h=>h.op.isLoad).length) && (gs.any fun h=>(match h.op with
   | .faddr .. => true
   | _=>false) && (match h.d with
   | some y=>x == y
   | none=>false)) && (gs.take n).all fun h=>match h.op with
  | .store _ (.t y) _=>gs.any fun k=>(match k.op with
    | .iaddr .. => true
    | _=>false) && (match k.d with
    | some z=>y == z
    | none=>false)
  | .store .. => false
  | _=>true
 | _=>false
def takes (gs:List GOp)(ops:Array Oper)(n:Nat)(ld:Bool)(listed:Array Bool)(i:Nat):Bool :=
 decide (i<n) && (match gs[i]? with
  | some g=>g.op.quiet && !g.op.isCall && ((ld && okL gs g.op && (noSt gs n || fldLd gs n g.op)) || !g.op.isLoad)
  | none=>false) && Region.free .any ops listed i
def hdPlan (ld:Bool)(gs:List GOp)(ops:Array Oper)(n:Nat):Nat→Array Bool→List Nat
 | 0,_=>[]
 | f+1,listed=>match (Region.ready .any ops listed).find? (takes gs ops n ld listed) with
  | some i=>i::hdPlan ld gs ops n f (listed.setIfInBounds i true)
  | none=>[]
def tailOK (ops:Array Oper):Nat→Nat→Array Bool→Bool
 | 0,_,listed=>Region.ready .any ops listed == []
 | f+1,k,listed=>Region.ready .any ops listed == [k] && tailOK ops f (k+1) (listed.setIfInBounds k true)
def alts (f:Nat→Option DT):List Nat→Option DT
 | []=>none
 | [i]=>f i
 | i::is=>match f i,alts f is with
  | some a,some b=>some (.both a b)
  | _,_=>none
def treeOf (gs:List GOp)(ops:Array Oper)(n:Nat):Nat→Array Bool→Option DT
 | 0,listed=>if tailOK ops (ops.size - n) n listed then some .fin else none
 | f+1,listed=>match (Region.ready .any ops listed).find? (takes gs ops n false listed) with
  | some i=>match gs[i]?,treeOf gs ops n f (listed.setIfInBounds i true) with
   | some g,some t=>some (.op g t)
   | _,_=>none
  | none=>if (Region.ready .any ops listed).all fun i=>decide (i<n) then
    alts (fun i=>match gs[i]?,treeOf gs ops n f (listed.setIfInBounds i true) with
     | some g,some t=>some (.op g t)
     | _,_=>none) (Region.ready .any ops listed)
   else none
def listAll (listed:Array Bool):List Nat→Array Bool
 | []=>listed
 | i::is=>listAll (listed.setIfInBounds i true) is
def pickG (gs:List GOp):List Nat→Option (List GOp)
 | []=>some []
 | i::is=>match gs[i]?,pickG gs is with
  | some g,some r=>some (g::r)
  | _,_=>none
def compDraw (ops:Array Oper)(gs:List GOp):Option DC :=
 let n:=headN ops
 let hd:=hdPlan true gs ops n n (Array.replicate ops.size false)
 if Region.noSelect ops && decide (n≤ops.size) && tailFrom ops n && decide (hd.length≤n) then
  match pickG gs hd,treeOf gs ops n (n - hd.length) (listAll (Array.replicate ops.size false) hd) with
  | some h,some t=>some (.draw h t (gs.drop n))
  | _,_=>none
 else none
def isPtrTy (P:Program)(t:TypeId):Bool:=match P.underlying t with
 | some (.pointer _)=>true
 | _=>false
def gives (P:Program):IOp→Bool
 | .call f _=>match P.funcs[f]? with
  | some fn=>(fn.resultTypes.toList.any fun t=>heldTy P 6 t) || (fn.params.toList.any fun t=>isPtrTy P t)
  | none=>false
 | _=>false
def comp (P:Program)(nt:Nat):Code→Option DC
 | .skip=>some .skip
 | .region id ops draw=>match compGOps P nt ops ops.toList with
  | some r=>if draw then (if r.all (·.op.quiet) && Region.lexB .any ops && !(r.any (fun g=>gives P g.op) && (compDraw ops r).isSome) then some (.reg true r) else match compDraw ops r with
    | some c=>some c
    | none=>some (.hard id)) else some (.reg false r)
  | none=>some (.hard id)
 | .seq a b=>match comp P nt a,comp P nt b with
  | some a,some b=>some (.seq a b)
  | _,_=>none
 | .cond c a b=>match compX c,comp P nt a,comp P nt b with
  | some c,some a,some b=>some (.cond c a b)
  | _,_,_=>none
 | .block id a=>(comp P nt a).map (.block id)
 | .loop a=>(comp P nt a).map .loop
 | .exit id=>some (.exit id)
 | .ret=>some .ret
 | _=>none
def compF (P:Program)(f:FuncId):Option DC :=
 match P.funcs[f]? with
 | some fn=>match fn.body with
  | some c=>comp P fn.ntmps c
  | none=>none
 | none=>none
end Go.Dv
namespace Go.Dv
def get:Env→Nat→DV
 | [],_ => .any
 | (m,v)::e,n=>if m=n then v else get e n
def ev (env:Env):Xp→DV
 | .t n=>get env n
 | .k d=>d
def evO (env:Env):Option Xp→Option DV
 | none=>none
 | some x=>some (ev env x)
mutual
def pvOf:DV→Option PV
 | .p x=>some x
 | .nil=>some (.sl 1 [])
 | .agg cs=>(pvOfs cs).map .agg
 | _=>none
def pvOfs:List DV→Option (List PV)
 | []=>some []
 | d::ds=>match pvOf d,pvOfs ds with
  | some x,some xs=>some (x::xs)
  | _,_=>none
end
def rowK (e:Nat):Nat:=e / 1048576
def boxT (e:Nat):Nat:=e % 1048576
def cellV (H:Heap):DV→Option PV
 | .p x=>some x
 | .nil=>some (.sl 1 [])
 | .own i off len=>match H[i]? with
  | some (.arr _ k xs)=>some (.sl k ((xs.drop off).take len))
  | _=>none
 | _=>none
def cellVs (H:Heap):List DV→Option (List PV)
 | []=>some []
 | d::ds=>match cellV H d,cellVs H ds with
  | some x,some xs=>some (x::xs)
  | _,_=>none
def chunkV (H:Heap)(k:Nat):Nat→List DV→Option (List PV)
 | 0,_=>some []
 | n+1,cs=>match cellVs H (cs.take k),chunkV H k n (cs.drop k) with
  | some xs,some r=>some (.agg xs::r)
  | _,_=>none
mutual
def viewOf (H:Heap):DV→Option PV
 | .p x=>some x
 | .nil=>some (.sl 1 [])
 | .own i off len=>match H[i]? with
  | some (.arr _ k xs)=>some (.sl k ((xs.drop off).take len))
  | some (.box e cs)=>if len * rowK e≤cs.length then (chunkV H (rowK e) len cs).map (.sl (rowK e)) else none
  | _=>none
 | .agg cs=>(viewOfs H cs).map .agg
 | _=>none
def viewOfs (H:Heap):List DV→Option (List PV)
 | []=>some []
 | d::ds=>match viewOf H d,viewOfs H ds with
  | some x,some xs=>some (x::xs)
  | _,_=>none
end
def setL {α : Type}:List α → Nat → α → List α
 | [],_,_=>[]
 | _::l,0,a=>a::l
 | x::l,n+1,a=>x::setL l n a
def setCells {α : Type}:List α → Nat→List α → List α
 | l,_,[]=>l
 | l,o,c::cs=>setCells (setL l o c) (o+1) cs
inductive R where
 | ok (v:DV) (H:Heap)
 | fail
 | need (c:Prop) (r:R)
 | part (e:Option PV) (ag:Bool) (f n:Nat) (H:Heap)
 | put (i:Nat) (e:Option PV) (j f n:Nat) (y:PV) (H:Heap)
 | byte (o:Option UInt8) (H:Heap)
 | news (o:Option (List PV)) (k:List PV→R)
 | call (f:FuncId) (args:List DV) (H:Heap)
def partD (ag:Bool)(off n:Nat)(cs:List DV):Option DV :=
 if ag then (if off+n≤cs.length then some (.agg ((cs.drop off).take n)) else none) else cs[off]?
def partP (ag:Bool)(off n:Nat)(cs:List PV):Option PV :=
 if ag then (if off+n≤cs.length then some (.agg ((cs.drop off).take n)) else none) else cs[off]?
def putP (f:Nat)(e:PV)(ys:List PV):Option PV :=
 match e with
 | .agg cs=>if f+ys.length≤cs.length then some (.agg (setCells cs f ys)) else none
 | _=>match f,ys with
  | 0,[y]=>some y
  | _,_=>none
def cellsD:DV→Option (List DV)
 | .p (.agg cs)=>some (cs.map .p)
 | .agg cs=>some cs
 | .p x=>some [.p x]
 | .nil=>some [.nil]
 | .own i o l=>some [.own i o l]
 | _=>none
structure Md where
 call:Bool→FuncId→List DV→Heap→(DV→Heap→Prop)→Prop
 nin:Nat
def R.run (M:Md)(q:Bool):R→(DV→Heap→Prop)→Prop
 | .ok v H,K=>K v H
 | .fail,_=>False
 | .need c r,K=>c∧r.run M q K
 | .part e ag f n H,K => ∃ x y,e=some x∧partP ag f n x.cells=some y∧K (.p y) H
 | .put i e j f n y H,K => ∃ x z,e=some x∧y.cells.length=n∧putP f x y.cells=some z∧(match H[i]? with
   | some (.arr t k xs)=>K .undef (setL H i (.arr t k (setL xs j z)))
   | _=>False)
 | .byte o H,K => ∃ b:UInt8,o=some b∧K (.p (.int .u8 b.toNat)) H
 | .news o k,K => ∃ ys,o=some ys∧(k ys).run M q K
 | .call f args H,K=>M.call q f args H K
def R.ofO (H:Heap):Option DV→R
 | some v => .ok v H
 | none => .fail
def R.ofCells (o:Option (List DV))(k:List DV→R):R:=match o with
 | some cs=>k cs
 | none => .fail
def bitsV (op:BinOp)(k:IntKind)(x y:Int):Int :=
 match op with
 | .and=>k.wrap (BitVec.ofInt k.bits x &&& BitVec.ofInt k.bits y).toNat
 | .or=>k.wrap (BitVec.ofInt k.bits x ||| BitVec.ofInt k.bits y).toNat
 | _=>k.wrap (BitVec.ofInt k.bits x ^^^ BitVec.ofInt k.bits y).toNat
def shiftI (op:BinOp)(k:IntKind)(a b:Int)(H:Heap):R :=
 match op with
 | .shl => .need (0≤b) (.ok (.p (.int k (k.wrap (a * 2 ^ (min b.toNat k.bits))))) H)
 | .shr => .need (0≤b) (.ok (.p (.int k (a.fdiv (2 ^ (min b.toNat k.bits))))) H)
 | _ => .fail
def binI (op:BinOp)(k:IntKind)(a b:Int)(H:Heap):R :=
 match op with
 | .add => .ok (.p (.int k (k.wrap (a+b)))) H
 | .sub => .ok (.p (.int k (k.wrap (a - b)))) H
 | .mul => .ok (.p (.int k (k.wrap (a * b)))) H
 | .quo => .need (b≠0) (.ok (.p (.int k (k.wrap (a.tdiv b)))) H)
 | .rem => .need (b≠0) (.ok (.p (.int k (a.tmod b))) H)
 | .eql => .ok (.p (.bool (a == b))) H
 | .neq => .ok (.p (.bool (a != b))) H
 | .lss => .ok (.p (.bool (decide (a<b)))) H
 | .leq => .ok (.p (.bool (decide (a≤b)))) H
 | .gtr => .ok (.p (.bool (decide (a > b)))) H
 | .geq => .ok (.p (.bool (decide (a ≥ b)))) H
 | .and => .ok (.p (.int k (bitsV .and k a b))) H
 | .or => .ok (.p (.int k (bitsV .or k a b))) H
 | .xor => .ok (.p (.int k (bitsV .xor k a b))) H
 | _=>shiftI op k a b H
def binS (op:BinOp)(a b:List UInt8)(H:Heap):R :=
 match op with
 | .add => .need (a.length+b.length≤9223372036854775807) (.ok (.p (.str (a++b))) H)
 | .eql => .ok (.p (.bool (a == b))) H
 | .neq => .ok (.p (.bool (!(a == b)))) H
 | .lss => .ok (.p (.bool (Op.bytesLess a b))) H
 | .leq => .ok (.p (.bool (Op.bytesLess a b || a == b))) H
 | .gtr => .ok (.p (.bool (!(Op.bytesLess a b || a == b)))) H
 | .geq => .ok (.p (.bool (!(Op.bytesLess a b)))) H
 | _ => .fail
def binR (op:BinOp)(x y:DV)(H:Heap):R :=
 match x,y with
 | .p (.int k a),.p (.int k' b)=>if k=k' then binI op k a b H else shiftI op k a b H
 | .p (.str a),.p (.str b)=>binS op a b H
 | _,_ => .fail
def binBR (op:BinOp)(x y:DV)(H:Heap):R :=
 match op,x,y with
 | .eql,.p (.bool a),.p (.bool b) => .ok (.p (.bool (a == b))) H
 | .neq,.p (.bool a),.p (.bool b) => .ok (.p (.bool (!(a == b)))) H
 | _,_,_ => .fail
def unR (op:UnOp)(x:DV)(H:Heap):R :=
 match op,x with
 | .neg,.p (.int k n) => .ok (.p (.int k (k.wrap (0 - n)))) H
 | .not,.p (.bool b) => .ok (.p (.bool !b)) H
 | _,_ => .fail
def minR (x y:DV)(H:Heap):R :=
 match x,y with
 | .p (.int k a),.p (.int _ b) => .ok (.p (.int k (min a b))) H
 | _,_ => .fail
def maxR (x y:DV)(H:Heap):R :=
 match x,y with
 | .p (.int k a),.p (.int _ b) => .ok (.p (.int k (max a b))) H
 | _,_ => .fail
def convR (k:IntKind)(x:DV)(H:Heap):R :=
 match x with
 | .p (.int _ n) => .ok (.p (.int k (k.wrap n))) H
 | _ => .fail
def pickR (c a b:DV)(H:Heap):R :=
 match c with
 | .p (.bool true) => .ok a H
 | .p (.bool false) => .ok b H
 | _ => .fail
def loadR (ag:Bool)(n:Nat)(x:DV)(H:Heap):R :=
 match x with
 | .rptr _ xs j f => .part (xs[j]?) ag f n H
 | .ptr i j f=>match H[i]? with
  | some (.arr _ _ xs) => .part (xs[j]?) ag f n H
  | some (.box _ cs)=>if j=0 then .ofO H (partD ag f n cs) else .fail
  | _ => .fail
 | _ => .fail
def storeR (n:Nat)(x y:DV)(H:Heap):R :=
 match x with
 | .ptr i j f=>match H[i]? with
  | some (.arr _ _ xs)=>match pvOf y with
   | some y => .put i (xs[j]?) j f n y H
   | none => .fail
  | some (.box e cs) => .ofCells (cellsD y) fun ys=>if j=0∧ys.length=n∧f+n≤cs.length then .ok .undef (setL H i (.box e (setCells cs f ys))) else .fail
  | _ => .fail
 | _ => .fail
def liveR (H:Heap)(i:Nat)(r:R):R:=match H[i]? with
 | some (.arr _ _ _)=>r
 | some (.box _ _)=>r
 | _ => .fail
def nilR (x:DV)(H:Heap):R :=
 match x with
 | .ptr i j f=>liveR H i (.ok (.ptr i j f) H)
 | .rptr k xs j f => .ok (.rptr k xs j f) H
 | _ => .fail
def faddrR (off:Nat)(x:DV)(H:Heap):R :=
 match x with
 | .ptr i j f=>liveR H i (.ok (.ptr i j (f+off)) H)
 | .rptr k xs j f => .ok (.rptr k xs j (f+off)) H
 | _ => .fail
def iaddrR (k:Nat)(x i:DV)(H:Heap):R :=
 match x,i with
 | .p (.sl k' xs),.p (.int _ n)=>if k=k' then .need (0≤n∧n<xs.length) (.ok (.rptr k xs n.toNat 0) H) else .fail
 | .own id off len,.p (.int _ n)=>match H[id]? with
  | some (.arr _ k' _)=>if k=k' then .need (0≤n∧n<len) (.ok (.ptr id (off+n.toNat) 0) H) else .fail
  | some (.box e _)=>if k=rowK e then .need (0≤n∧n<len) (.ok (.ptr id 0 (n.toNat * k)) H) else .fail
  | _ => .fail
 | _,_ => .fail
def aaddrR (k len:Nat)(x i:DV)(H:Heap):R :=
 match i with
 | .p (.int _ n) => .need (0≤n∧n<len) (faddrR (n.toNat * k) x H)
 | _ => .fail
def idxR (x i:DV)(H:Heap):R :=
 match x,i with
 | .p (.str s),.p (.int _ n) => .need (0≤n) (.byte (s[n.toNat]?) H)
 | _,_ => .fail
def idxAR (ag:Bool)(k len:Nat)(x i:DV)(H:Heap):R :=
 match i with
 | .p (.int _ n)=>match x with
  | .p (.agg cs) => .need (0≤n∧n<len) (.ofO H (partD ag (n.toNat * k) k (cs.map .p)))
  | .agg cs => .need (0≤n∧n<len) (.ofO H (partD ag (n.toNat * k) k cs))
  | _ => .fail
 | _ => .fail
def boundsR (len:Nat)(lo hi:Option DV)(K:Nat→Nat→DV)(H:Heap):R :=
 match lo,hi with
 | none,none => .ok (K 0 len) H
 | some (.p (.int _ a)),none => .need (0≤a∧a≤len) (.ok (K a.toNat len) H)
 | none,some (.p (.int _ b)) => .need (0≤b∧b≤len) (.ok (K 0 b.toNat) H)
 | some (.p (.int _ a)),some (.p (.int _ b)) => .need (0≤a∧a≤b∧b≤len) (.ok (K a.toNat b.toNat) H)
 | _,_ => .fail
def cutL {α : Type}(xs:List α)(a b:Nat):List α := (xs.drop a).take (b - a)
def slcR (k:Nat)(x:DV)(lo hi:Option DV)(H:Heap):R :=
 match x with
 | .p (.sl k' xs)=>if k=k' then boundsR xs.length lo hi (fun a b => .p (.sl k (cutL xs a b))) H else .fail
 | .own i off len=>match H[i]? with
  | some (.arr _ k' _)=>if k=k' then boundsR len lo hi (fun a b => .own i (off+a) (b - a)) H else .fail
  | _ => .fail
 | _ => .fail
def slcSR (x:DV)(lo hi:Option DV)(H:Heap):R :=
 match x with
 | .p (.str s)=>boundsR s.length lo hi (fun a b => .p (.str (cutL s a b))) H
 | _ => .fail
def lenR (x:DV)(H:Heap):R :=
 match x with
 | .p (.sl _ xs) => .ok (.p (.int .i64 xs.length)) H
 | .nil => .ok (.p (.int .i64 0)) H
 | .own i _ len=>match H[i]? with
  | some (.arr _ _ _) => .ok (.p (.int .i64 len)) H
  | some (.box _ _) => .ok (.p (.int .i64 len)) H
  | _ => .fail
 | _ => .fail
def lenSR (x:DV)(H:Heap):R :=
 match x with
 | .p (.str s) => .ok (.p (.int .i64 s.length)) H
 | _ => .fail
def newsOf (k:Nat)(y:DV)(H:Heap):Option (List PV) :=
 match y with
 | .p (.sl k' ys)=>if k=k' then some ys else none
 | .nil=>some []
 | .own i off len=>match H[i]? with
  | some (.arr _ k' xs)=>if k=k' then some ((xs.drop off).take len) else none
  | _=>none
 | _=>none
def appR (e k bytes:Nat)(x:DV)(H:Heap)(ys:List PV):R :=
 match x with
 | .nil => .need (ys.length * bytes≤140737488355328) (.ok (.own H.length 0 ys.length) (H++[.arr e k ys]))
 | .own i off len=>match H[i]? with
  | some (.arr e' k' xs)=>if e=e'∧k=k'∧off=0 then .need ((len+ys.length) * bytes≤140737488355328)
    (.ok (.own H.length 0 (len+ys.length)) (setL H i .dead++[.arr e k (xs.take len++ys)])) else .fail
  | _ => .fail
 | _ => .fail
def cpyR (k:Nat)(x:DV)(H:Heap)(ys:List PV):R :=
 match x with
 | .own i off len=>match H[i]? with
  | some (.arr e k' xs)=>if k=k' then .ok (.p (.int .i64 (min ys.length len:Nat)))
    (setL H i (.arr e k (xs.take off++ys.take len++xs.drop (off+min ys.length len)))) else .fail
  | _ => .fail
 | _ => .fail
def bytesP (s:List UInt8):List PV:=s.map fun b => .int .u8 b.toNat
def s2bR (e:Nat)(x:DV)(H:Heap):R :=
 match x with
 | .p (.str s) => .need (s.length≤140737488355328) (.ok (.own H.length 0 s.length) (H++[.arr (e+1048576) 1 (bytesP s)]))
 | _ => .fail
def cpySR (x y:DV)(H:Heap):R :=
 match y with
 | .p (.str s)=>cpyR 1 x H (bytesP s)
 | _ => .fail
def rngR (x:DV)(H:Heap):R :=
 match x with
 | .p (.str s) => .ok (.ptr H.length 0 0) (H++[.iter s 0])
 | _ => .fail
def nxtR (x:DV)(H:Heap):R :=
 match x with
 | .ptr i _ f=>match H[i]? with
  | some (.iter s pos)=>if f=0 then (match s[pos]? with
   | some b => .need (b.toNat<128) (.ok (.tup [.p (.bool true),.p (.int .i64 pos),.p (.int .i32 b.toNat)]) (setL H i (.iter s (pos+1))))
   | none => .ok (.tup [.p (.bool false)]) H) else .fail
  | _ => .fail
 | _ => .fail
def bytesOf:List PV→Option (List UInt8)
 | []=>some []
 | .int .u8 n::xs=>if 0≤n∧n<256 then (bytesOf xs).map (UInt8.ofNat n.toNat :: ·) else none
 | _=>none
def b2sR (H:Heap)(ys:List PV):R:=match bytesOf ys with
 | some s => .ok (.p (.str s)) H
 | none => .fail
def eqCs:List Nat→List PV→List PV→Option Bool
 | [],[],[]=>some true
 | 0::ks,.bool a::xs,.bool b::ys=>(eqCs ks xs ys).map (a == b && ·)
 | 1::ks,.str a::xs,.str b::ys=>(eqCs ks xs ys).map (a == b && ·)
 | 2::ks,.int k a::xs,.int k' b::ys=>if k=k' then (eqCs ks xs ys).map (a == b && ·) else none
 | _,_,_=>none
def eqAR (neg:Bool)(ks:List Nat)(x y:DV)(H:Heap):R :=
 match pvOf x,pvOf y with
 | some (.agg cs),some (.agg ds)=>match eqCs ks cs ds with
  | some b => .ok (.p (.bool (if neg then !b else b))) H
  | none => .fail
 | _,_ => .fail
def zeroEl (zero:List PV):PV:=match zero with
 | [x]=>x
 | xs => .agg xs
def mksR (e k bytes:Nat)(zero:List DV)(l c:DV)(H:Heap):R :=
 match l,c,pvOfs zero with
 | .p (.int .i64 n),.p (.int .i64 m),some z=>if z.length=k∧0<k then .need (0≤n∧n≤m∧m * bytes≤281474976710656)
   (.ok (.own H.length 0 n.toNat) (H++[.arr e k (List.replicate n.toNat (zeroEl z))])) else .fail
 | _,_,_ => .fail
def mkbR (e k bytes:Nat)(zero:List DV)(l c:DV)(H:Heap):R :=
 match l,c with
 | .p (.int .i64 n),.p (.int .i64 m)=>if zero.length=k∧0<k∧e<1048576 then .need (0≤n∧n=m∧m * bytes≤281474976710656)
   (.ok (.own H.length 0 n.toNat) (H++[.box (e+1048576 * k) (List.replicate n.toNat zero).flatten])) else .fail
 | _,_ => .fail
def extR (x:DV)(i:Nat)(H:Heap):R :=
 match x with
 | .tup ds => .ofO H (ds[i]?)
 | _ => .fail
def fldR (ag:Bool)(off n:Nat)(x:DV)(H:Heap):R :=
 match x with
 | .p (.agg cs) => .ofO H (partD ag off n (cs.map .p))
 | .agg cs => .ofO H (partD ag off n cs)
 | _ => .fail
def evParts (env:Env):List (Nat × Nat × Xp)→List (Nat × Nat × DV)
 | []=>[]
 | (o,n,x)::ps=>(o,n,ev env x)::evParts env ps
def bldR (H:Heap):List DV→List (Nat × Nat × DV)→R
 | z,[] => .ok (.agg z) H
 | z,(o,n,d)::ps=>match cellsD d with
  | some cs=>if cs.length=n∧o+n≤z.length then bldR H (setCells z o cs) ps else .fail
  | none => .fail
def evParts2 (env:Env):List (Nat × Xp)→List (Nat × DV)
 | []=>[]
 | (o,x)::ps=>(o,ev env x)::evParts2 env ps
def bslR (e k n:Nat)(H:Heap):List PV→List (Nat × DV)→R
 | els,[] => .ok (.own H.length 0 n) (H++[.arr e k els])
 | els,(i,d)::ps=>match pvOf d with
  | some x=>if i<n∧x.cells.length=k then bslR e k n H (setL els i x) ps else .fail
  | none => .fail
mutual
def refs:DV→List Nat
 | .own i _ _=>[i]
 | .ptr i _ _=>[i]
 | .agg cs=>refsL cs
 | .tup cs=>refsL cs
 | _=>[]
def refsL:List DV→List Nat
 | []=>[]
 | d::ds=>refs d++refsL ds
end
def hideH:List Nat→Heap→Heap
 | [],H=>H
 | i::is,H=>setL (hideH is H) i .dead
def frzD (H:Heap)(d:DV):DV:=match pvOf d with
 | some _=>d
 | none=>match d with
  | .agg cs=>match cellVs H cs with
   | some xs => .p (.agg xs)
   | none=>d
  | _=>match cellV H d with
   | some x => .p x
   | none=>d
def frzIds:List (Nat × DV)→List Nat
 | []=>[]
 | (_,d)::ps=>(match pvOf d with
  | some _=>[]
  | none=>refs d)++frzIds ps
def frzPs (H:Heap):List (Nat × DV)→List (Nat × DV)
 | []=>[]
 | (i,d)::ps=>(i,frzD H d)::frzPs H ps
def frzR (ps:List (Nat × DV))(H:Heap)(f:List (Nat × DV)→Heap→R):R:=if frzIds ps=[] then f ps H else f (frzPs H ps) (hideH (frzIds ps) H)
def dop (op:IOp)(env:Env)(H:Heap):R :=
 match op with
 | .mv x => .ok (ev env x) H
 | .pick c a b=>pickR (ev env c) (ev env a) (ev env b) H
 | .bin op x y=>binR op (ev env x) (ev env y) H
 | .binB op x y=>binBR op (ev env x) (ev env y) H
 | .un op x=>unR op (ev env x) H
 | .conv k x=>convR k (ev env x) H
 | .load ag n x=>loadR ag n (ev env x) H
 | .store n x y=>storeR n (ev env x) (ev env y) H
 | .nilchk x=>nilR (ev env x) H
 | .faddr x off=>faddrR off (ev env x) H
 | .fld ag off n x=>fldR ag off n (ev env x) H
 | .iaddr k x i=>iaddrR k (ev env x) (ev env i) H
 | .aaddr k len x i=>aaddrR k len (ev env x) (ev env i) H
 | .idx x i=>idxR (ev env x) (ev env i) H
 | .idxA ag k len x i=>idxAR ag k len (ev env x) (ev env i) H
 | .slc k x lo hi=>slcR k (ev env x) (evO env lo) (evO env hi) H
 | .slcS x lo hi=>slcSR (ev env x) (evO env lo) (evO env hi) H
 | .len x=>lenR (ev env x) H
 | .lenS x=>lenSR (ev env x) H
 | .app e k b x y => .news (newsOf k (ev env y) H) (appR e k b (ev env x) H)
 | .cpy k x y => .news (newsOf k (ev env y) H) (cpyR k (ev env x) H)
 | .cpyS x y=>cpySR (ev env x) (ev env y) H
 | .s2b e x=>s2bR e (ev env x) H
 | .b2s x => .news (newsOf 1 (ev env x) H) (b2sR H)
 | .rng x=>rngR (ev env x) H
 | .nxt x=>nxtR (ev env x) H
 | .eqA neg ks x y=>eqAR neg ks (ev env x) (ev env y) H
 | .box e x => .ofCells (cellsD (ev env x)) fun cs => .ok (.ptr H.length 0 0) (H++[.box e cs])
 | .bld z ps=>bldR H z (evParts env ps)
 | .bsl e k n z ps=>match pvOfs z with
  | some z=>if z.length=k∧0<k∧n * k≤16777216 then frzR (evParts2 env ps) H (fun ps H=>bslR e k n H (List.replicate n (zeroEl z)) ps) else .fail
  | none => .fail
 | .mks e k b z l c=>mksR e k b z (ev env l) (ev env c) H
 | .mkb e k b z l c=>mkbR e k b z (ev env l) (ev env c) H
 | .ext x i=>extR (ev env x) i H
 | .mm false x y=>minR (ev env x) (ev env y) H
 | .mm true x y=>maxR (ev env x) (ev env y) H
 | .call f args => .call f (args.map (ev env)) H
def setE (env:Env)(d:Option Nat)(v:DV):Env:=match d with
 | some n=>(n,v)::env
 | none=>env
def asked (d:Option Nat):List GOp→Bool
 | []=>false
 | o::os=>(match d,o.g with
  | some n,some (m,_)=>n == m
  | _,_=>false) || asked d os
def splitK (sp:Bool)(v:DV)(K:DV→Prop):Prop :=
 match sp,v with
 | true,.p (.bool b)=>(b=true→K (.p (.bool true)))∧(b=false→K (.p (.bool false)))
 | _,_=>K v
def guardK (g:DV)(b:Bool)(A B:Prop):Prop :=
 match g with
 | .p (.bool c)=>(b=c→A)∧(b≠c→B)
 | .undef=>B
 | _=>False
def condK (c:DV)(A B:Prop):Prop :=
 match c with
 | .p (.bool b)=>(b=true→A)∧(b=false→B)
 | _=>False
def dops (M:Md)(q:Bool):List GOp→Env→Heap→(Env→Heap→Prop)→Prop
 | [],env,H,K=>K env H
 | ⟨none,d,op⟩::os,env,H,K=>(dop op env H).run M q fun v H'=>splitK (asked d os) v fun v=>dops M q os (setE env d v) H' K
 | ⟨some (n,b),d,op⟩::os,env,H,K=>guardK (get env n) b
   ((dop op env H).run M q fun v H'=>splitK (asked d os) v fun v=>dops M q os (setE env d v) H' K)
   (dops M q os (setE env d .undef) H K)
inductive Ex where
 | normal|exit (id:Nat)|ret
abbrev PostD:=Ex→Env→Heap→Prop
def seqQ (K:Env→Heap→Prop)(Q:PostD):PostD
 | .normal=>K
 | e=>Q e
def blockQ (id:Nat)(Q:PostD):PostD
 | .exit i=>if i=id then Q .normal else Q (.exit i)
 | e=>Q e
def refsB (H:Heap)(i:Nat):List Nat:=match H[i]? with
 | some (.box _ cs)=>refsL cs
 | _=>[]
def addIds:List Nat→List Nat→List Nat
 | acc,[]=>acc
 | acc,i::is=>if acc.contains i then addIds acc is else addIds (acc++[i]) is
def idsOf (nin:Nat)(ds:List DV)(H:Heap):List Nat :=
 let a:=addIds (List.range nin) (refsL ds)
 addIds a (a.flatMap (refsB H))
mutual
def ren (ids:List Nat):DV→DV
 | .own i o l=>if ids.contains i then .own (ids.idxOf i) o l else .any
 | .ptr i j f=>if ids.contains i then .ptr (ids.idxOf i) j f else .any
 | .agg cs => .agg (renL ids cs)
 | .tup cs => .tup (renL ids cs)
 | d=>d
def renL (ids:List Nat):List DV→List DV
 | []=>[]
 | d::ds=>ren ids d::renL ids ds
end
def renB (ids:List Nat):OB→OB
 | .box e cs => .box e (renL ids cs)
 | b=>b
def packD (nin:Nat)(keep:List Nat)(env:Env)(H:Heap):List DV :=
 let ds:=keep.map (get env)
 renL (idsOf nin ds H) ds
def packH (nin:Nat)(keep:List Nat)(env:Env)(H:Heap):Heap :=
 let ids:=idsOf nin (keep.map (get env)) H
 ids.map fun i=>renB ids (H.getD i .dead)
def inB:List Nat→Nat→Prop
 | [],_=>False
 | j::js,i=>i=j∨inB js i
def loadIn (hs:List Nat)(op:IOp)(env:Env):Prop:=match op with
 | .load _ _ x=>match ev env x with
  | .ptr i _ _=>inB hs i
  | _=>True
 | _=>True
def dhead (M:Md)(hs:List Nat):List GOp→Env→Heap→(Env→Heap→Prop)→Prop
 | [],env,H,K=>K env H
 | g::os,env,H,K=>loadIn hs g.op env∧dops M true [g] env H fun env H=>dhead M hs os env H K
def dtree (M:Md):DT→Env→Heap→(Env→Heap→Prop)→Prop
 | .fin,env,H,K=>K env H
 | .bad,_,_,_=>False
 | .op g t,env,H,K=>dops M false [g] env H fun env H=>dtree M t env H K
 | .both a b,env,H,K=>dtree M a env H K∧dtree M b env H K
def unhide:List Nat→Heap→Heap→Heap
 | [],_,H'=>H'
 | i::is,H,H'=>setL (unhide is H H') i (H.getD i .dead)
def newsE (env1 env:Env):Env:=env.take (env.length - env1.length)
def hideOK (hs:List Nat)(news:Env)(H':Heap):Prop := ∀ i∈hs,i ∉ refsL (news.map (·.2))∧i ∉ H'.flatMap (fun | .box _ cs=>refsL cs | _=>[])
def D (M:Md):DC→Env→Heap→PostD→Prop
 | .skip,env,H,Q=>Q .normal env H
 | .reg q ops,env,H,Q=>dops M q ops env H (Q .normal)
 | .hard _,_,_,_=>False
 | .draw hd t tl,env,H,Q => ∃ hs:List Nat,(∀ i∈hs,i<H.length)∧dhead M hs hd env H fun env1 H1=>dtree M t env1 (hideH hs H1) fun env2 H2 =>
   hideOK hs (newsE env1 env2) H2∧dops M false tl (newsE env1 env2++env1) (unhide hs H1 H2) (Q .normal)
 | .seq a b,env,H,Q=>D M a env H (seqQ (fun env H=>D M b env H Q) Q)
 | .cond c a b,env,H,Q=>condK (ev env c) (D M a env H Q) (D M b env H Q)
 | .block id c,env,H,Q=>D M c env H (blockQ id Q)
 | .loop c,env,H,Q => ∃ (keep:List Nat) (I:Nat→List DV→Heap→Prop),(∃ n,I n (packD M.nin keep env H) (packH M.nin keep env H)) ∧
   ∀ n ds H',I n ds H'→ds.length=keep.length→D M c (keep.zip ds) H' (seqQ (fun env H => ∃ m,m<n∧I m (packD M.nin keep env H) (packH M.nin keep env H)) Q)
 | .exit id,env,H,Q=>Q (.exit id) env H
 | .ret,env,H,Q=>Q .ret env H
end Go.Dv
namespace Go.Dv
inductive RV where
 | t (n:Nat)
 | c (n:Nat) (ag:Bool) (sz:Nat)
structure FnC where
 np:Nat
 nt:Nat
 rs:List RV
 ir:DC
def compRVs (P:Program):List ResultVar→Option (List RV)
 | []=>some []
 | .tmp t::rs=>(compRVs P rs).map (.t t :: ·)
 | .cell a t::rs=>match isAggP P t,sizeP P t,compRVs P rs with
  | some g,some n,some r=>if g=false→n=1 then some (.c a g n::r) else none
  | _,_,_=>none
def compFn (P:Program)(f:FuncId):Option FnC :=
 match P.funcs[f]? with
 | some fn=>match fn.body with
  | some b=>match comp P fn.ntmps b,compRVs P fn.results.toList with
   | some ir,some rs=>some ⟨fn.params.size,fn.ntmps,rs,ir⟩
   | _,_=>none
  | none=>none
 | none=>none
def resOne (env:Env)(H:Heap):RV→Option DV
 | .t n=>some (get env n)
 | .c n ag sz=>match get env n with
  | .ptr i j f=>match H[i]? with
   | some (.box _ cs)=>if j=0 then partD ag f sz cs else none
   | _=>none
  | _=>none
def resAll (env:Env)(H:Heap):List RV→Option (List DV)
 | []=>some []
 | r::rs=>match resOne env H r,resAll env H rs with
  | some d,some ds=>some (d::ds)
  | _,_=>none
def resD (env:Env)(H:Heap)(rs:List RV):Option DV:=match resAll env H rs with
 | some [d]=>some d
 | some ds=>some (.tup ds)
 | none=>none
def envFrom:Nat→List DV→Env
 | _,[]=>[]
 | n,d::ds=>(n,d)::envFrom (n+1) ds
def envOf (ds:List DV):Env:=envFrom 0 ds
def heapOf (ids:List Nat)(H:Heap):Heap:=ids.map fun i=>renB ids (H.getD i .dead)
def retK (nin:Nat)(rs:List RV)(Q:DV→Heap→Prop)(env:Env)(H:Heap):Prop:=match resD env H rs with
 | some d=>Q (ren (idsOf nin [d] H) d) (heapOf (idsOf nin [d] H) H)
 | none=>False
def retQ (nin:Nat)(rs:List RV)(Q:DV→Heap→Prop):PostD
 | .exit _=>fun _ _=>False
 | .normal=>retK nin rs Q
 | .ret=>retK nin rs Q
def backI (ids:List Nat)(base j:Nat):Nat:=if j<ids.length then ids.getD j 0 else base+(j - ids.length)
mutual
def bk (ids:List Nat)(base:Nat):DV→DV
 | .own i o l => .own (backI ids base i) o l
 | .ptr i j f => .ptr (backI ids base i) j f
 | .agg cs => .agg (bkL ids base cs)
 | .tup ds => .tup (bkL ids base ds)
 | d=>d
def bkL (ids:List Nat)(base:Nat):List DV→List DV
 | []=>[]
 | d::ds=>bk ids base d::bkL ids base ds
end
def bkB (ids:List Nat)(base:Nat):OB→OB
 | .box e cs => .box e (bkL ids base cs)
 | b=>b
def putAll:Heap→List Nat→List OB→Heap
 | H,i::is,b::bs=>putAll (setL H i b) is bs
 | H,_,_=>H
def mergeH (ids:List Nat)(H H2:Heap):Heap :=
 putAll H ids ((H2.take ids.length).map (bkB ids H.length))++(H2.drop ids.length).map (bkB ids H.length)
mutual
def flatP:PV→Prop
 | .sl _ xs=>xs=[]
 | .agg cs=>flatPs cs
 | _=>True
def flatPs:List PV→Prop
 | []=>True
 | x::xs=>flatP x∧flatPs xs
end
mutual
def flatD:DV→Prop
 | .p x=>flatP x
 | .rptr _ _ _ _=>False
 | .agg cs=>flatDs cs
 | .tup ds=>flatDs ds
 | _=>True
def flatDs:List DV→Prop
 | []=>True
 | d::ds=>flatD d∧flatDs ds
end
def flatB:OB→Prop
 | .dead=>True
 | .arr _ _ xs=>flatPs xs
 | .box _ cs=>flatDs cs
 | .iter _ _=>True
def flatH:Heap→Prop
 | []=>True
 | b::bs=>flatB b∧flatH bs
def ArgsP (ids:List Nat):List DV→List DV→Prop
 | [],as'=>as'=[]
 | d::ds,as' => ∃ d' ds',as'=d'::ds'∧(d'=ren ids d ∨ ∃ x,pvOf d=some x∧d' = .p x)∧ArgsP ids ds ds'
def ArgsB (H:Heap):List DV→List DV→Prop
 | [],as'=>as'=[]
 | d::ds,as' => ∃ d' ds',as'=d'::ds'∧(∃ x,viewOf H d=some x∧d' = .p x)∧ArgsB H ds ds'
abbrev gO (d:Nat)(o:IOp):GOp:=⟨none,some d,o⟩
abbrev gN (o:IOp):GOp:=⟨none,none,o⟩
abbrev gM (d s:Nat):GOp:=⟨none,some d,.mv (.t s)⟩
abbrev gG (c:Nat)(b:Bool)(d:Nat)(o:IOp):GOp:=⟨some (c,b),some d,o⟩
abbrev gP (d s i:Nat):GOp:=⟨none,some d,.ext (.t s) i⟩
abbrev gF (d s i:Nat):GOp:=⟨none,some d,.faddr (.t s) i⟩
abbrev gL (d w s:Nat):GOp:=⟨none,some d,.load false w (.t s)⟩
abbrev gW (d w s:Nat):GOp:=⟨none,some d,.load true w (.t s)⟩
abbrev gB (d:Nat)(f:BinOp)(a b:Nat):GOp:=⟨none,some d,.bin f (.t a) (.t b)⟩
abbrev gI (n:Int):Xp := .k (.p (.int .i64 n))
abbrev gZ (s:List UInt8):Xp := .k (.p (.str s))
abbrev gt:Xp := .k (.p (.bool true))
abbrev gf:Xp := .k (.p (.bool false))
abbrev gS (l:List GOp)(c:DC):DC := .seq (.reg false l) c
abbrev gE (l:List GOp):DC := .seq (.reg false l) .ret
attribute [go_sem] gO gN gM gG gP gF gL gW gB gI gZ gt gf gS gE
end Go.Dv
