/- I6: a part of the proof that a law of this package holds for every input; no condition. -/
import Derived.Test.YtfokodhfjdhdaaaI5
namespace Slb
open Go Go.Proofs
set_option maxRecDepth 20000
def subsF (ts : List UInt8) (bad : Bool) (r : Rs) : List (Int × List UInt8) × Rs × Bool :=
  if soundB bad r = false then ([], r, bad) else
  ((splitN (rdTake r r.l.length).1.length (rdTake r r.l.length).1).1.filter (fun x => subK ts x.1), (rdTake r r.l.length).2,
    bad || !((splitN (rdTake r r.l.length).1.length (rdTake r r.l.length).1).1.all (fun x => subO ts x.1) && decide ((splitN (rdTake r r.l.length).1.length (rdTake r r.l.length).1).2 = 0)))

/-! Times. -/
abbrev u32E (n : Int) : List Value := [.int .u32 n]
def wordsF : Nat → Rs → List Int
  | 0, _ => []
  | k + 1, r => u32F r :: wordsF k (rdTake r 4).2
def stampL (n : Nat) (kept : List (Int × List UInt8)) : List Int := match kept.find? (fun x => decide (4 * n ≤ x.2.length)) with
  | none => []
  | some x => wordsF n ⟨x.2, 0⟩
end Slb
