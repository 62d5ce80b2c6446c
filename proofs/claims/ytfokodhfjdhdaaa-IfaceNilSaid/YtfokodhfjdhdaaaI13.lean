/- I13: a part of the proof that a law of this package holds for every input; no condition. -/
import Derived.Test.YtfokodhfjdhdaaaM2
import Derived.Test.YtfokodhfjdhdaaaI12
namespace Slb
open Go Go.Proofs
set_option maxRecDepth 20000
def tmplL : List UInt8 := [0, 0, 0, 0, 0, 0, 0, 0, 0, 0, 255, 255]
/-! Bits cleared, one by one. -/
def topM (p : Nat) : UInt8 := UInt8.ofNat (65280 / 2 ^ p)
def holeM (p q : Nat) : UInt8 := topM p ||| UInt8.ofNat (255 / 2 ^ q)
def oneM (q : Nat) : UInt8 := UInt8.ofNat (128 / 2 ^ q)
def maskU (x : Bs 16) (n : Int) (i : Nat) : Bs 16 := ⟨x.l.mapIdx fun k c => c &&& holeM (keepN n k) (keepN i k), by rw [List.length_mapIdx, x.h]⟩
/-- All of the first ones are c. -/
def allC (x : Bs 8) (c : UInt8) (i : Nat) : Bool := (x.l.take i).all fun d => d == c
end Slb
