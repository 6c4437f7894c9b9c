import Derived.Test.YtgpalnoopmjlpaaRec3
namespace Go.Proofs.Ytgpalnoopmjlpaa
open Go.Dv Go.Dv.EvL
attribute [local irreducible] Ok Rm Dm Om Sm Xm Cm Gm Hm Tm

/-! ### merging -/
def insPos (l : List Rcd) (r : Rcd) : Nat → Nat
  | 0 => 0
  | k + 1 => if (l.getD k default).sec > r.sec then insPos l r k else k + 1
def insR (l : List Rcd) (r : Rcd) : List Rcd := l.take (insPos l r l.length) ++ r :: l.drop (insPos l r l.length)
def mrgTo (a b : List Rcd) : Nat → List Rcd
  | 0 => a
  | i + 1 => if b.getD i default ∈ a then mrgTo a b i else insR (mrgTo a b i) (b.getD i default)
/-- what a recording looks like while another is merged into it -/
structure Mid (a b : List Rcd) (k : Nat) (S : List Rcd) (i : Nat) : Prop where
  e : mrgTo a b k = S ++ a.drop i
  hi : i ≤ a.length
  le : ∀ x ∈ S, ∀ j, k ≤ j → j < b.length → x.sec ≤ (b.getD j default).sec
end Go.Proofs.Ytgpalnoopmjlpaa
