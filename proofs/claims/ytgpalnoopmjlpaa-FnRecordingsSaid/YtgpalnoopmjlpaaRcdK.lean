import Derived.Test.YtgpalnoopmjlpaaKit
namespace Go.Proofs.Ytgpalnoopmjlpaa
open Go.Dv Go.Dv.EvL
attribute [local irreducible] Ok Rm Dm Om Sm Xm Cm Gm Hm Tm

structure Rcd where
  sec : Int
  hex : List UInt8
deriving DecidableEq
instance : Inhabited Rcd := ⟨⟨0, []⟩⟩
def Rcd.pv (r : Rcd) : PV := .agg [.int .i64 r.sec, .str r.hex]
theorem rcd_pv (r : Rcd) : r.pv = .agg [.int .i64 r.sec, .str r.hex] := rfl
def Rcd.size (r : Rcd) : Nat := r.hex.length
def mkRcd (q : Int) : Rcd := ⟨q, mtO (q + 1)⟩
def mksRcd (k : Int) (n : Nat) : List Rcd := (List.range n).map fun i : Nat => mkRcd (k + 2 * i)
theorem mksRcd_len {k : Int} {n : Nat} : (mksRcd k n).length = n := by simp [mksRcd]
attribute [simp] mksRcd_len
end Go.Proofs.Ytgpalnoopmjlpaa
