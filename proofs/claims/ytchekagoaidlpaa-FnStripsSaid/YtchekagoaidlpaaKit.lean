import Derived.Test.YtchekagoaidlpaaBase
namespace Go.Proofs.Ytchekagoaidlpaa
open Go.Dv Go.Dv.EvL
attribute [local irreducible] Ok Rm Dm Om Sm Xm Cm Gm Hm Tm

theorem getD_set_ne {α : Type} {xs : List α} {i j : Nat} {a d : α} (h : i ≠ j) : (xs.set i a).getD j d = xs.getD j d := by
  rw [List.getD_eq_getElem?_getD, List.getElem?_set_ne h, List.getD_eq_getElem?_getD]
/-- the text of a mark -/
def mtO (k : Int) : List UInt8 := if k ≤ 0 then [109, 48] else 109 :: dec k.toNat
end Go.Proofs.Ytchekagoaidlpaa
