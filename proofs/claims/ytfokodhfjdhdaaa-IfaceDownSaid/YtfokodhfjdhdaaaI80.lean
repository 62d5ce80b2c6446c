/- I80: a part of the proof that a law of this package holds for every input; no condition. -/
import Derived.Test.YtfokodhfjdhdaaaM2
import Derived.Test.YtfokodhfjdhdaaaI79
namespace Slb
open Go Go.Proofs
set_option maxRecDepth 20000
end Slb
