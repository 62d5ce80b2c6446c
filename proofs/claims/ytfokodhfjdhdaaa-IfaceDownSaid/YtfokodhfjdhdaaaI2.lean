/- I2: a part of the proof that a law of this package holds for every input; no condition. -/
import Derived.Test.YtfokodhfjdhdaaaI1
namespace Slb
open Go Go.Proofs
set_option maxRecDepth 20000
def u8F (r : Rs) : Int := (numN (rdTake r 1).1 : Nat)
def u16F (r : Rs) : Int := (numN (rdTake r 2).1 : Nat)
def u32F (r : Rs) : Int := (numN (rdTake r 4).1 : Nat)
theorem wrap_u16r {n : Int} (h0 : 0 ≤ n) (h1 : n < 65536) : IntKind.u16.wrap n = n := by
  unfold IntKind.wrap
  simp only [show (IntKind.u16.bits : Nat) = 16 from rfl, show IntKind.u16.signed = false from rfl]
  simp; omega
end Slb
