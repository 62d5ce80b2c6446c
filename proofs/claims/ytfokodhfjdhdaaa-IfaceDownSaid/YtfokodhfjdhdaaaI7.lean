/- I7: a part of the proof that a law of this package holds for every input; no condition. -/
import Derived.Test.YtfokodhfjdhdaaaI6
namespace Slb
open Go Go.Proofs
set_option maxRecDepth 20000
def pairF (ae : Int) (dst : Prefix) (bad : Bool) (r : Rs) : Pair × Rs × Bool :=
  match (subsF [128] bad r).1 with
  | [] => (⟨dst, anyB (pfamilyB dst)⟩, (subsF [128] bad r).2.1, (subsF [128] bad r).2.2)
  | x :: l =>
    if soundB ((subsF [128] bad r).2.2 || !decide (l.length = 0)) (subsF [128] bad r).2.1 = false then (⟨dst, anyB (pfamilyB dst)⟩, (subsF [128] bad r).2.1, (subsF [128] bad r).2.2 || !decide (l.length = 0))
    else (⟨dst, (prefF ae (u8F ⟨x.2, 0⟩) 0 (Bs.zero 16) (rdTake ⟨x.2, 0⟩ 1).2 false).1⟩, (subsF [128] bad r).2.1,
      ((subsF [128] bad r).2.2 || !decide (l.length = 0)) || !(soundB (prefF ae (u8F ⟨x.2, 0⟩) 0 (Bs.zero 16) (rdTake ⟨x.2, 0⟩ 1).2 false).2.2 (prefF ae (u8F ⟨x.2, 0⟩) 0 (Bs.zero 16) (rdTake ⟨x.2, 0⟩ 1).2 false).2.1 && (decide (0 < u8F ⟨x.2, 0⟩) && checkPairB ⟨dst, (prefF ae (u8F ⟨x.2, 0⟩) 0 (Bs.zero 16) (rdTake ⟨x.2, 0⟩ 1).2 false).1⟩)))
end Slb
