import Derived.Test.YtchekagoaidlpaaStrK
import Derived.Test.YtchekagoaidlpaaNames
namespace Go.Proofs.Ytchekagoaidlpaa
open Go.Dv Go.Dv.EvL
attribute [local irreducible] Ok Rm Dm Om Sm Xm Cm Gm Hm Tm

structure Stp where
  name : Txt
  ht : Int
  route : List Txt
  mn : Int
deriving DecidableEq
instance : Inhabited Stp := ⟨⟨[], 0, [], 0⟩⟩
def Stp.row (s : Stp) : OB := .arr 9 1 (s.route.map .str)
def Stp.size (s : Stp) : Nat := s.name.length + ssz s.route
/-- a strip that a law takes -/
def StFits (s : Stp) : Prop := s.name.length ≤ 1048576 ∧ s.route.length ≤ 1048576 ∧ ∀ r ∈ s.route, r.length ≤ 1048576
end Go.Proofs.Ytchekagoaidlpaa
