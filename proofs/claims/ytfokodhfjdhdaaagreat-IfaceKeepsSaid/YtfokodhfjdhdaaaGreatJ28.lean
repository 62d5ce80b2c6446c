/- J28: a part of the proof that a law of this package holds for every input; no condition. -/
import Derived.Test.YtfokodhfjdhdaaaGreatJ18
import Derived.Test.YtfokodhfjdhdaaaGreatM2
namespace Slb
open Go Go.Proofs
set_option maxRecDepth 20000
end Slb
