/- I18: a part of the proof that a law of this package holds for every input; no condition. -/
import Derived.Test.YtfokodhfjdhdaaaI15
/- packet: the plain laws: pieces one behind the other, padding, what stands behind (P18): behind P17. -/
namespace Slb
open Go Go.Proofs
def splitF (l : List UInt8) : List (Int × List UInt8) × Int := splitN l.length l
def frontL (pads : Nat) (k : UInt8) (body : List UInt8) : List UInt8 := (List.replicate pads 0 ++ [k, UInt8.ofNat body.length]) ++ body
end Slb
