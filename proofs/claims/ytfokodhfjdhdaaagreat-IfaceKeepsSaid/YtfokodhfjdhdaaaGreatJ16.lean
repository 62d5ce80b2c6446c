/- J16: a part of the proof that a law of this package holds for every input; no condition. -/
import Derived.Test.YtfokodhfjdhdaaaGreatM2
import Derived.Test.YtfokodhfjdhdaaaGreatJ15
namespace Slb
open Go Go.Proofs
set_option maxRecDepth 20000
def bareF (t : Tlv) : Tlv := { (ownF t).1 with stamps := t.stamps }
end Slb
