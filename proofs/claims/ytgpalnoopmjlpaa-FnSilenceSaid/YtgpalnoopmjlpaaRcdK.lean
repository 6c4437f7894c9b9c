import Derived.Test.YtgpalnoopmjlpaaKit
namespace Go.Proofs.Ytgpalnoopmjlpaa
open Go.Dv Go.Dv.EvL
attribute [local irreducible] Ok Rm Dm Om Sm Xm Cm Gm Hm Tm

structure Rcd where
  sec : Int
  hex : List UInt8
deriving DecidableEq
instance : Inhabited Rcd := ⟨⟨0, []⟩⟩
def Rcd.pv (r : Rcd) : PV := .agg [.int .i64 r.sec, .str r.hex]
theorem rcd_pv (r : Rcd) : r.pv = .agg [.int .i64 r.sec, .str r.hex] := rfl
def Rcd.size (r : Rcd) : Nat := r.hex.length
def mkRcd (q : Int) : Rcd := ⟨q, mtO (q + 1)⟩
def mksRcd (k : Int) (n : Nat) : List Rcd := (List.range n).map fun i : Nat => mkRcd (k + 2 * i)
theorem mksRcd_len {k : Int} {n : Nat} : (mksRcd k n).length = n := by simp [mksRcd]
attribute [simp] mksRcd_len
theorem put_Rcd0 {M : Md} {q : Bool} {d : Option Nat} {os : List GOp} {s : Stk} {env : Env} {H : Heap} {i j t : Nat} {a : Int} {xs : List Rcd} (h : j < xs.length) (hg : H[i]? = some (.arr t 2 (xs.map Rcd.pv)))
    (h2 : Sm M q (asked d os) .undef d os s env (setL H i (.arr t 2 ((xs.set j {xs.getD j default with sec := a}).map Rcd.pv)))) : Rm M q (.put i ((xs.map Rcd.pv)[j]?) j 0 1 (.int .i64 a) H) d os s env :=
  Rm_putw h _ rfl rfl hg h2
end Go.Proofs.Ytgpalnoopmjlpaa
