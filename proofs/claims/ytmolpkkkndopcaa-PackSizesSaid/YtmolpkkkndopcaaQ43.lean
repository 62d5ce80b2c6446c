/- Q43: a part of the proof that a law of this package holds for every input; no condition. -/
import Derived.Test.YtmolpkkkndopcaaQ41
namespace Slb
open Go Go.Proofs
set_option maxRecDepth 20000
def ok46 (F : Fr) (x : Tlv) : Prop := x.WF ∧ SlIn F 1 (fun n => [Value.int .u32 n]) (fun n => 0 ≤ n ∧ n ≤ 4294967295) x.stamps
end Slb
