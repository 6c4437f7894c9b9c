import Derived.Test.YtgpalnoopmjlpaaKit
namespace Go.Proofs.Ytgpalnoopmjlpaa
open Go.Dv Go.Dv.EvL
attribute [local irreducible] Ok Rm Dm Om Sm Xm Cm Gm Hm Tm

/-! ### rows of ints in laws -/
/-! ### marks -/
def marks (k : Int) (n : Nat) : List Int := (List.range n).map fun i : Nat => k + i

theorem marks_len {k : Int} {n : Nat} : (marks k n).length = n := by simp [marks]
end Go.Proofs.Ytgpalnoopmjlpaa
