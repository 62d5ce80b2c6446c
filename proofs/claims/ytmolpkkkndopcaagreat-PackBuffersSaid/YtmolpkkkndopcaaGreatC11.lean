/- C11: a part of the proof that a law of this package holds for every input; no condition. -/
import Derived.Test.YtmolpkkkndopcaaGreatF11
namespace Slb
open Go Go.Proofs
set_option maxRecDepth 20000
def cmpPrefix (x y : Prefix) : Int := orF [Lib.compareBytes x.a.l y.a.l, cmpF x.len.val y.len.val]
def cmpPair (x y : Pair) : Int := orF [cmpPrefix x.dst y.dst, cmpPrefix x.src y.src]

end Slb
