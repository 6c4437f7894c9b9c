import Derived.Test.YtgpalnoopmjlpaaRec3
import Derived.Test.YtgpalnoopmjlpaaNums
namespace Go.Proofs.Ytgpalnoopmjlpaa
open Go.Dv Go.Dv.EvL
attribute [local irreducible] Ok Rm Dm Om Sm Xm Cm Gm Hm Tm

end Go.Proofs.Ytgpalnoopmjlpaa
