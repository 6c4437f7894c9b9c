import Derived.Test.YtgpalnoopmjlpaaRec6
namespace Go.Proofs.Ytgpalnoopmjlpaa
open Go.Dv Go.Dv.EvL
attribute [local irreducible] Ok Rm Dm Om Sm Xm Cm Gm Hm Tm

end Go.Proofs.Ytgpalnoopmjlpaa
