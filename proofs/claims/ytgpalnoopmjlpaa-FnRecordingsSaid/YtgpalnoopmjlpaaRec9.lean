import Derived.Test.YtgpalnoopmjlpaaRec2
import Derived.Test.YtgpalnoopmjlpaaRecLaw
import Derived.Test.YtgpalnoopmjlpaaFrm4
import Derived.Test.YtgpalnoopmjlpaaIntK
namespace Go.Proofs.Ytgpalnoopmjlpaa
open Go.Dv Go.Dv.EvL
attribute [local irreducible] Ok Rm Dm Om Sm Xm Cm Gm Hm Tm

attribute [local simp] marks_len
end Go.Proofs.Ytgpalnoopmjlpaa
