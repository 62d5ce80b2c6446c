/- K10: a part of the proof that a law of this package holds for every input; no condition. -/
import Derived.Test.YtgcjmamfbcmccaaK5
import Derived.Test.YtgcjmamfbcmccaaB28
namespace Slb
open Go Go.Proofs
set_option maxRecDepth 20000
/-- What is kept of those that were seen. -/
structure InvD (d : Bs 16) (D H : List Entry) : Prop where
  sub : ∀ h ∈ H, h ∈ D ∧ mtD d h = true
  same : ∀ h ∈ H, ∀ k ∈ H, dlen h = dlen k
  top : ∀ x ∈ D, mtD d x = true → ∃ h ∈ H, dlen x ≤ dlen h
  all : ∀ x ∈ D, mtD d x = true → (∀ h ∈ H, dlen x = dlen h) → x ∈ H
theorem InvD.step {d : Bs 16} {D H : List Entry} (h : InvD d D H) (e : Entry) : InvD d (D ++ [e]) (fstep d H e) := by
  cases hm : mtD d e with
  | false =>
    have hs : fstep d H e = H := by unfold fstep; rw [if_neg (by rw [hm]; simp)]
    rw [hs]
    have nm : ∀ x ∈ D ++ [e], mtD d x = true → x ∈ D := fun x hx hmx => by
      rcases List.mem_append.1 hx with hx | hx
      · exact hx
      · simp at hx; subst hx; rw [hm] at hmx; cases hmx
    exact ⟨fun x hx => ⟨List.mem_append_left _ (h.sub x hx).1, (h.sub x hx).2⟩, h.same, fun x hx hmx => h.top x (nm x hx hmx) hmx, fun x hx hmx => h.all x (nm x hx hmx) hmx⟩
  | true =>
    have hem : e ∈ D ++ [e] := by simp
    cases H with
    | nil =>
      have hs : fstep d [] e = [e] := by unfold fstep; rw [if_pos hm]
      rw [hs]
      have no : ∀ x ∈ D, mtD d x = true → False := fun x hx hmx => by obtain ⟨k, hk, _⟩ := h.top x hx hmx; cases hk
      have ne : ∀ x ∈ D ++ [e], mtD d x = true → x = e := fun x hx hmx => by
        rcases List.mem_append.1 hx with hx | hx
        · exact (no x hx hmx).elim
        · simpa using hx
      exact ⟨fun x hx => by simp at hx; subst hx; exact ⟨hem, hm⟩, fun x hx y hy => by simp at hx hy; subst hx; subst hy; rfl, fun x hx hmx => by rw [ne x hx hmx]; exact ⟨e, by simp, Int.le_refl _⟩, fun x hx hmx _ => by rw [ne x hx hmx]; simp⟩
    | cons a H =>
      by_cases h1 : dlen e > dlen a
      · have hs : fstep d (a :: H) e = [e] := by unfold fstep; rw [if_pos hm]; simp only; rw [if_pos h1]
        rw [hs]
        have lt : ∀ x ∈ D, mtD d x = true → dlen x < dlen e := fun x hx hmx => by
          obtain ⟨k, hk, hle⟩ := h.top x hx hmx
          have := h.same k hk a List.mem_cons_self
          omega
        refine ⟨fun x hx => by simp at hx; subst hx; exact ⟨hem, hm⟩, fun x hx y hy => by simp at hx hy; subst hx; subst hy; rfl, fun x hx hmx => ⟨e, by simp, ?_⟩, fun x hx hmx heq => ?_⟩
        · rcases List.mem_append.1 hx with hx | hx
          · have := lt x hx hmx; omega
          · simp at hx; subst hx; exact Int.le_refl _
        · rcases List.mem_append.1 hx with hx | hx
          · have h2 := lt x hx hmx
            have h3 := heq e (by simp)
            omega
          · exact hx
      · by_cases h2 : dlen e = dlen a
        · have hs : fstep d (a :: H) e = (a :: H) ++ [e] := by unfold fstep; rw [if_pos hm]; simp only; rw [if_neg h1, if_pos h2]
          rw [hs]
          have eqa : ∀ k ∈ (a :: H) ++ [e], dlen k = dlen a := fun k hk => by
            rcases List.mem_append.1 hk with hk | hk
            · exact h.same k hk a List.mem_cons_self
            · simp at hk; subst hk; exact h2
          refine ⟨fun x hx => ?_, fun x hx y hy => (eqa x hx).trans (eqa y hy).symm, fun x hx hmx => ?_, fun x hx hmx heq => ?_⟩
          · rcases List.mem_append.1 hx with hx | hx
            · exact ⟨List.mem_append_left _ (h.sub x hx).1, (h.sub x hx).2⟩
            · simp at hx; subst hx; exact ⟨hem, hm⟩
          · rcases List.mem_append.1 hx with hx | hx
            · obtain ⟨k, hk, hle⟩ := h.top x hx hmx
              exact ⟨k, List.mem_append_left _ hk, hle⟩
            · simp at hx; subst hx; exact ⟨x, by simp, Int.le_refl _⟩
          · rcases List.mem_append.1 hx with hx | hx
            · exact List.mem_append_left _ (h.all x hx hmx fun k hk => heq k (List.mem_append_left _ hk))
            · exact List.mem_append_right _ hx
        · have hs : fstep d (a :: H) e = a :: H := by unfold fstep; rw [if_pos hm]; simp only; rw [if_neg h1, if_neg h2]
          rw [hs]
          refine ⟨fun x hx => ⟨List.mem_append_left _ (h.sub x hx).1, (h.sub x hx).2⟩, h.same, fun x hx hmx => ?_, fun x hx hmx heq => ?_⟩
          · rcases List.mem_append.1 hx with hx | hx
            · exact h.top x hx hmx
            · simp at hx; subst hx; exact ⟨a, List.mem_cons_self, by omega⟩
          · rcases List.mem_append.1 hx with hx | hx
            · exact h.all x hx hmx heq
            · simp at hx; subst hx; exact absurd (heq a List.mem_cons_self) h2
theorem fold_inv (d : Bs 16) (D : List Entry) : InvD d D (D.foldl (fstep d) []) := by
  have : ∀ (E D0 H : List Entry), InvD d D0 H → InvD d (D0 ++ E) (E.foldl (fstep d) H) := by
    intro E
    induction E with
    | nil => intro D0 H h; simpa using h
    | cons e E ih =>
      intro D0 H h
      have := ih (D0 ++ [e]) (fstep d H e) (h.step e)
      simpa using this
  have h0 : InvD d [] [] := ⟨fun _ h => (by cases h), fun _ h => (by cases h), fun _ h => (by cases h), fun _ h => (by cases h)⟩
  simpa using this D [] [] h0
/-- What is chosen of those with the longest destination. -/
structure InvS (s : Bs 16) (H : List Entry) (r : Entry × Bool) : Prop where
  yes : r.2 = true → r.1 ∈ H ∧ containsB r.1.pair.src s = true ∧ ∀ x ∈ H, containsB x.pair.src s = true → slen x ≤ slen r.1
  no : r.2 = false → r.1 = Entry.zero ∧ ∀ x ∈ H, containsB x.pair.src s = false
theorem InvS.step {s : Bs 16} {H : List Entry} {r : Entry × Bool} (h : InvS s H r) (e : Entry) : InvS s (H ++ [e]) (sstep s r e) := by
  cases hc : containsB e.pair.src s with
  | false =>
    have hs : sstep s r e = r := by unfold sstep; rw [if_neg (by rw [hc]; simp)]
    rw [hs]
    refine ⟨fun hr => ?_, fun hr => ⟨(h.no hr).1, fun x hx => ?_⟩⟩
    · obtain ⟨h1, h2, h3⟩ := h.yes hr
      refine ⟨List.mem_append_left _ h1, h2, fun x hx hcx => ?_⟩
      rcases List.mem_append.1 hx with hx | hx
      · exact h3 x hx hcx
      · simp at hx; subst hx; rw [hc] at hcx; cases hcx
    · rcases List.mem_append.1 hx with hx | hx
      · exact (h.no hr).2 x hx
      · simp at hx; subst hx; exact hc
  | true =>
    cases hr : r.2 with
    | false =>
      have hs : sstep s r e = (e, true) := by unfold sstep; rw [if_pos (by rw [hc, hr]; rfl)]
      rw [hs]
      refine ⟨fun _ => ⟨by simp, hc, fun x hx hcx => ?_⟩, fun h2 => by cases h2⟩
      rcases List.mem_append.1 hx with hx | hx
      · rw [(h.no hr).2 x hx] at hcx; cases hcx
      · simp at hx; subst hx; exact Int.le_refl _
    | true =>
      obtain ⟨h1, h2, h3⟩ := h.yes hr
      by_cases hl : slen e > slen r.1
      · have hs : sstep s r e = (e, true) := by unfold sstep; rw [if_pos (by rw [hc, hr]; simp [hl])]
        rw [hs]
        refine ⟨fun _ => ⟨by simp, hc, fun x hx hcx => ?_⟩, fun h2 => by cases h2⟩
        rcases List.mem_append.1 hx with hx | hx
        · have := h3 x hx hcx; show slen x ≤ slen e; omega
        · simp at hx; subst hx; exact Int.le_refl _
      · have hs : sstep s r e = r := by unfold sstep; rw [if_neg (by rw [hc, hr]; simp [hl])]
        rw [hs]
        refine ⟨fun _ => ⟨List.mem_append_left _ h1, h2, fun x hx hcx => ?_⟩, fun h4 => by rw [hr] at h4; cases h4⟩
        rcases List.mem_append.1 hx with hx | hx
        · exact h3 x hx hcx
        · simp at hx; subst hx; omega
theorem fold_invS (s : Bs 16) (H : List Entry) : InvS s H (H.foldl (sstep s) (Entry.zero, false)) := by
  have : ∀ (E H0 : List Entry) (r : Entry × Bool), InvS s H0 r → InvS s (H0 ++ E) (E.foldl (sstep s) r) := by
    intro E
    induction E with
    | nil => intro H0 r h; simpa using h
    | cons e E ih =>
      intro H0 r h
      have := ih (H0 ++ [e]) (sstep s r e) (h.step e)
      simpa using this
  have h0 : InvS s [] (Entry.zero, false) := ⟨fun h => (by cases h), fun _ => ⟨rfl, fun _ h => (by cases h)⟩⟩
  simpa using this H [] _ h0
/-- What a look finds. -/
structure Found (D : List Entry) (s d : Bs 16) (r : Entry × Bool) : Prop where
  yes : r.2 = true → familyB s = familyB d ∧ r.1 ∈ D ∧ mtD d r.1 = true ∧ containsB r.1.pair.src s = true ∧ (∀ x ∈ D, mtD d x = true → dlen x ≤ dlen r.1) ∧ ∀ x ∈ D, mtD d x = true → dlen x = dlen r.1 → containsB x.pair.src s = true → slen x ≤ slen r.1
  no : r.2 = false → r.1 = Entry.zero
theorem look_found (D : List Entry) (s d : Bs 16) : Found D s d (lookF D s d) := by
  unfold lookF
  split
  · rename_i hf
    have h1 := fold_inv d D
    have h2 := fold_invS s (D.foldl (fstep d) [])
    refine ⟨fun hr => ?_, fun hr => (h2.no hr).1⟩
    obtain ⟨a, b, c⟩ := h2.yes hr
    obtain ⟨e, f⟩ := h1.sub _ a
    refine ⟨hf, e, f, b, fun x hx hm => ?_, fun x hx hm he hc => ?_⟩
    · obtain ⟨k, hk, hle⟩ := h1.top x hx hm
      have := h1.same k hk _ a
      omega
    · exact c x (h1.all x hx hm fun k hk => he.trans (h1.same _ a k hk)) hc
  · exact ⟨fun h => (by cases h), fun _ => rfl⟩
end Slb
