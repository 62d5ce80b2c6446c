/- R71: a part of the proof that a law of this package holds for every input; no condition. -/
import Derived.Test.YtmolpkkkndopcaaGreatM2
import Derived.Test.YtmolpkkkndopcaaGreatR70
namespace Slb
open Go Go.Proofs
set_option maxRecDepth 20000
theorem packs_same {os ps : List SlX} {l : List (List UInt8)} (h1 : os.map (·.l) = l) (h2 : ps.map (·.l) = l) : decide (os.map (·.l) = ps.map (·.l)) = true := decide_eq_true (h1.trans h2.symm)
theorem pk_few (src : Bs 16) (mtu : Int) (ps : List (Tlv × List Int)) : ∀ s : PackTold × List UInt8 × List (List UInt8), (ps.foldl (pkStep src mtu) s).2.2.length ≤ s.2.2.length + ps.length := by
  induction ps with
  | nil => intro s; simp
  | cons p ps ih =>
    intro s
    have h1 := ih (pkStep src mtu s p)
    have h2 : (pkStep src mtu s p).2.2.length ≤ s.2.2.length + 1 := by
      unfold pkStep
      split
      · show s.2.2.length ≤ _; omega
      · simp
    simp only [List.foldl_cons, List.length_cons]
    omega
theorem packF_few (src : Bs 16) (mtu : Int) (ts : List TlvX) : (packF src mtu ts).length ≤ ts.length + 1 := by
  unfold packF
  split
  · simp
  · unfold flushF
    split
    · simp
    · have h := pk_few src mtu (ts.map tlvM) (toldB src, [], [])
      simp only [List.length_map, List.length_nil] at h
      rw [List.length_append, List.length_singleton]
      unfold pkRun
      omega

end Slb
