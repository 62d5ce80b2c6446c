/- R28: a part of the proof that a law of this package holds for every input; no condition. -/
import Derived.Test.YtmolpkkkndopcaaGreatR18
import Derived.Test.YtmolpkkkndopcaaGreatM2
namespace Slb
open Go Go.Proofs
set_option maxRecDepth 20000
theorem stamps_few {n : Nat} {l : List (Int × List UInt8)} (hn : n ≤ 2) : (stampL n l).length ≤ 2 := by
  have h : ∀ (n : Nat) (r : Rs), (wordsF n r).length = n := by
    intro n
    induction n with
    | zero => intro r; rfl
    | succ n ih => intro r; simp [wordsF, ih]
  unfold stampL
  split
  · simp
  · rw [h]; exact hn

theorem parse_few {src : Bs 16} {p : List UInt8} {ts : List TlvX} (hm : ts.map tlvM = (parseF src p).1) : ∀ x ∈ ts, x.l.length ≤ 2 := by
  have hr : ∀ (x : PrS) (rt : Int) (body : List UInt8), (readF x rt body).1.2.2.length ≤ 2 := by
    intro x rt body
    unfold readF
    simp only
    split
    · exact Nat.zero_le _
    · split
      · exact Nat.zero_le _
      · split
        · exact stamps_few (by decide)
        · split
          · exact stamps_few (by decide)
          · split
            · exact Nat.zero_le _
            · split
              · exact Nat.zero_le _
              · split <;> exact Nat.zero_le _
  have hrun : ∀ (ps : List (Int × List UInt8)) (x : PrS), ∀ q ∈ (runF x ps).1, q.2.length ≤ 2 := by
    intro ps
    induction ps with
    | nil => intro x q hq; cases hq
    | cons p ps ih =>
      intro x q hq
      rw [runF_cons] at hq
      rcases List.mem_append.1 hq with hq | hq
      · split at hq
        · rw [List.mem_singleton.1 hq]; exact hr _ _ _
        · cases hq
      · exact ih _ q hq
  intro x hx
  have h9 : tlvM x ∈ (parseF src p).1 := by rw [← hm]; exact List.mem_map_of_mem hx
  unfold parseF at h9
  split at h9
  · cases h9
  · exact hrun _ _ _ h9
end Slb
