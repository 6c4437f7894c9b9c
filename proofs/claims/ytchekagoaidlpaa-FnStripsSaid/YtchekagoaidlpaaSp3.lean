import Derived.Test.YtchekagoaidlpaaSp2
namespace Go.Proofs.Ytchekagoaidlpaa
open Go.Dv Go.Dv.EvL
attribute [local irreducible] Ok Rm Dm Om Sm Xm Cm Gm Hm Tm

theorem flat_strs : ∀ {xs : List Txt}, flatPs (xs.map .str)
  | [] => trivial
  | _ :: xs => ⟨trivial, flat_strs (xs := xs)⟩
end Go.Proofs.Ytchekagoaidlpaa
