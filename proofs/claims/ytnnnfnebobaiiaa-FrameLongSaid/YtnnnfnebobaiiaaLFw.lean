/- Printed by the kit and by programs of this work for the claim of aaRowFrameLong, without what the claim does not name. -/
import Derived.Test.YtnnnfnebobaiiaaLF
import Derived.Test.YtnnnfnebobaiiaaLS
namespace Go.Proofs.Ytnnnfnebobaiiaa.L
def wireN (f : Fr) : List Bool := putS (false, 0) (bodyN f) ++ List.replicate 10 true
end Go.Proofs.Ytnnnfnebobaiiaa.L
