/- I3: a part of the proof that a law of this package holds for every input; no condition. -/
import Derived.Test.YtfokodhfjdhdaaaI2
import Derived.Test.YtfokodhfjdhdaaaM2
namespace Slb
open Go Go.Proofs
set_option maxRecDepth 20000
/-! ### Pieces -/
structure RawX where
  t : Int
  a : Option Addr
  c : Nat
  l : List UInt8
@[reducible] def rawS (x : RawX) : Raw := ⟨x.t, ⟨x.a, x.l.length, x.c⟩⟩
@[reducible] def rawE (x : RawX) : List Value := (rawS x).enc
theorem rawE_len (x : RawX) : (rawE x).length = 2 := Raw.enc_len _
def rawM (x : RawX) : Int × List UInt8 := (x.t, x.l)
@[reducible] def bodyA (x : RawX) : HProp := slA 5 1 bytE (.slice x.a x.l.length x.c) x.l
def rowsB (rs : List RawX) : HProp := stars (rs.map bodyA)
/-- A body's pieces, and whether it was whole. -/
def splitN : Nat → List UInt8 → List (Int × List UInt8) × Int
  | 0, _ => ([], 0)
  | f + 1, l =>
    if l = [] then ([], 0) else
    let r1 := (rdTake ⟨l, 0⟩ 1).2
    if u8F ⟨l, 0⟩ ≠ 0 then
      let r2 := (rdTake r1 1).2
      let r3 := (rdTake r2 (u8F r1)).2
      if r3.e ≠ 0 then ([], 52) else ((u8F ⟨l, 0⟩, (rdTake r2 (u8F r1)).1) :: (splitN f r3.l).1, (splitN f r3.l).2)
    else ((0, []) :: (splitN f r1.l).1, (splitN f r1.l).2)
def preR (rs : List RawX) (q : List (Int × List UInt8) × Int) : List (Int × List UInt8) × Int := (rs.map rawM ++ q.1, q.2)
def inT (ts : List UInt8) (x : Int) : Bool := ts.any fun c => decide ((c.toNat : Int) = x)
/-- A piece within a piece that is wanted; one that may be. -/
def subK (ts : List UInt8) (t : Int) : Bool := !(decide (t = 0)) && (!(decide (t = 1)) && inT ts t)
def subO (ts : List UInt8) (t : Int) : Bool := decide (t = 0) || (decide (t = 1) || (inT ts t || decide (t < 128)))
end Slb
