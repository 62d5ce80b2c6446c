/- Q28: a part of the proof that a law of this package holds for every input; no condition. -/
import Derived.Test.YtmolpkkkndopcaaQ18
import Derived.Test.YtmolpkkkndopcaaM2
namespace Slb
open Go Go.Proofs
set_option maxRecDepth 20000
theorem samesO (F : Fr) {a1 a2 : Option Addr} {c1 c2 n : Nat} {xs ys : List TlvX} (hn : n ≤ ys.length) (hxl : xs.length ≤ 4294967296) (hsl : ∀ x ∈ xs, x.l.length ≤ 4294967296) :
    Spec Try.prog 11 #[.slice a1 xs.length c1, .slice a2 n c2] [slA 46 68 tlvE (.slice a1 xs.length c1) xs, rowsT xs, slA 46 68 tlvE (.slice a2 ys.length c2) ys, rowsT ys] F fun v S => ∃ b : Bool, v = .bool b ∧ (b = true ↔ xs.map tlvM = (ys.take n).map tlvM) ∧ S = [slA 46 68 tlvE (.slice a1 xs.length c1) xs, rowsT xs, slA 46 68 tlvE (.slice a2 ys.length c2) ys, rowsT ys] := by
  have hlen : (ys.take n).length = n := by rw [List.length_take]; omega
  have h := Spec.lendL (P := Try.prog) (f := 11) (args := #[.slice a1 xs.length c1, .slice a2 n c2]) (m := []) (F := F) (L := [slA 46 68 tlvE (.slice a1 xs.length c1) xs, rowsT xs, slA 46 68 tlvE (.slice a2 ys.length c2) ys, rowsT ys]) (R := fun v S => ∃ b : Bool, v = .bool b ∧ (b = true ↔ xs.map tlvM = (ys.take n).map tlvM) ∧ S = []) (fun F2 q hle hA hq => by
    have h1 := slA_frame (a := a1) (n := xs.length) (c := c1) (e := 46) (enc := tlvE) (xs := xs) tlvE_len hA hq (by simp)
    have h2 := slA_frame (a := a2) (n := ys.length) (c := c2) (e := 46) (enc := tlvE) (xs := ys) tlvE_len hA hq (by simp)
    have ht : ∀ (zs : List TlvX), rowsT zs ∈ [slA 46 68 tlvE (.slice a1 xs.length c1) xs, rowsT xs, slA 46 68 tlvE (.slice a2 ys.length c2) ys, rowsT ys] → ∀ z ∈ zs, TlvIn F2 z := fun zs hz z hm => by
      obtain ⟨p, hp, hpq⟩ := stars_mem hz hA
      obtain ⟨p2, hp2, hpq2⟩ := stars_mem (List.mem_map_of_mem (f := stA) hm) hp
      exact slA_arg (fun _ => rfl) hp2 ((hpq2.trans hpq).trans hq)
    have h9 := rsames_spec F2 (c1 := c1) (c2 := c2) h1 (h2.take tlvE_len hn) (ht xs (by simp)) (fun y hy => ht ys (by simp) y (List.mem_of_mem_take hy)) hxl hsl
    rw [hlen] at h9
    exact h9)
  refine h.mono ?_
  rintro v S ⟨S1, ⟨b, h1, h2, rfl⟩, rfl⟩
  exact ⟨b, h1, h2, rfl⟩
theorem app_data (a b : List UInt8) : ((⟨a.toArray⟩ : ByteArray) ++ ⟨b.toArray⟩).data.toList = a ++ b := by simp
theorem app3_data (a b c : List UInt8) : (((⟨a.toArray⟩ : ByteArray) ++ ⟨b.toArray⟩) ++ ⟨c.toArray⟩).data.toList = (a ++ b) ++ c := by simp
theorem app_size (a b : List UInt8) : ((⟨a.toArray⟩ : ByteArray) ++ ⟨b.toArray⟩).size = a.length + b.length := by rw [ByteArray.size_append]; rfl
theorem stamps_few {n : Nat} {l : List (Int × List UInt8)} (hn : n ≤ 2) : (stampL n l).length ≤ 2 := by
  have h : ∀ (n : Nat) (r : Rs), (wordsF n r).length = n := by
    intro n
    induction n with
    | zero => intro r; rfl
    | succ n ih => intro r; simp [wordsF, ih]
  unfold stampL
  split
  · simp
  · rw [h]; exact hn

theorem parse_few {src : Bs 16} {p : List UInt8} {ts : List TlvX} (hm : ts.map tlvM = (parseF src p).1) : ∀ x ∈ ts, x.l.length ≤ 2 := by
  have hr : ∀ (x : PrS) (rt : Int) (body : List UInt8), (readF x rt body).1.2.2.length ≤ 2 := by
    intro x rt body
    unfold readF
    simp only
    split
    · exact Nat.zero_le _
    · split
      · exact Nat.zero_le _
      · split
        · exact stamps_few (by decide)
        · split
          · exact stamps_few (by decide)
          · split
            · exact Nat.zero_le _
            · split
              · exact Nat.zero_le _
              · split <;> exact Nat.zero_le _
  have hrun : ∀ (ps : List (Int × List UInt8)) (x : PrS), ∀ q ∈ (runF x ps).1, q.2.length ≤ 2 := by
    intro ps
    induction ps with
    | nil => intro x q hq; cases hq
    | cons p ps ih =>
      intro x q hq
      rw [runF_cons] at hq
      rcases List.mem_append.1 hq with hq | hq
      · split at hq
        · rw [List.mem_singleton.1 hq]; exact hr _ _ _
        · cases hq
      · exact ih _ q hq
  intro x hx
  have h9 : tlvM x ∈ (parseF src p).1 := by rw [← hm]; exact List.mem_map_of_mem hx
  unfold parseF at h9
  split at h9
  · cases h9
  · exact hrun _ _ _ h9
theorem run_len (ps : List (Int × List UInt8)) (x : PrS) : (runF x ps).1.length ≤ ps.length := by
  induction ps generalizing x with
  | nil => exact Nat.le_refl _
  | cons p ps ih =>
    rw [runF_cons]
    have := ih (readF x p.1 p.2).2
    simp only [List.length_append, List.length_cons]
    split <;> simp <;> omega
theorem parse_len {src : Bs 16} {p : List UInt8} {ts : List TlvX} (hm : ts.map tlvM = (parseF src p).1) (hp : p.length ≤ 1000000) : ts.length ≤ 4294967296 := by
  have h := congrArg List.length hm
  rw [List.length_map] at h
  rw [h]
  unfold parseF
  split
  · exact Nat.zero_le _
  · have h1 := run_len (splitN (openF p).1.length (openF p).1).1 (begF src)
    have h2 := split_len (openF p).1.length (openF p).1
    have h3 := open_len p
    simp only
    omega
end Slb
