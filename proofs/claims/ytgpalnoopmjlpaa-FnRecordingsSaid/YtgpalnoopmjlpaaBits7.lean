import Derived.Test.YtgpalnoopmjlpaaBits6
namespace Go.Proofs.Ytgpalnoopmjlpaa
open Go.Dv Go.Dv.EvL
attribute [local irreducible] Ok Rm Dm Om Sm Xm Cm Gm Hm Tm

theorem parN_lt (s : List UInt8) : parN s < 4096 := parTo_lt s _
end Go.Proofs.Ytgpalnoopmjlpaa
