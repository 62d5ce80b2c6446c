/- Base 28: every table has its list in order; what is put in. -/
import Derived.Test.YtjieokfcpbillaaB26
namespace Slb
open Go Go.Proofs
section
variable {K V : Type} [DecidableEq K] {key : V → K} {cf : V → V → Int} {M : List (K × V)} {L : List V}
omit [DecidableEq K] in
theorem pos_ex (c : KeyCmp key cf) {v : V} : ∀ {L : List V}, (L.Pairwise fun a b => cf a b < 0) → (∀ x ∈ L, key x ≠ key v) → ∃ j, j ≤ L.length ∧ (∀ x ∈ L.take j, cf x v < 0) ∧ ∀ x ∈ L.drop j, cf v x < 0
  | [], _, _ => ⟨0, Nat.le_refl _, by simp, by simp⟩
  | a :: L, hs, hne => by
    rw [List.pairwise_cons] at hs
    by_cases h : cf a v < 0
    · obtain ⟨j, h1, h2, h3⟩ := pos_ex c hs.2 fun x hx => hne x (List.mem_cons_of_mem _ hx)
      refine ⟨j + 1, by simp; omega, ?_, by simpa using h3⟩
      intro x hx
      rw [List.take_succ_cons] at hx
      rcases List.mem_cons.1 hx with rfl | hx
      · exact h
      · exact h2 x hx
    · refine ⟨0, Nat.zero_le _, by simp, ?_⟩
      have h0 : cf a v ≠ 0 := fun e => hne a List.mem_cons_self ((c.zero a v).1 e)
      have h1 : cf v a < 0 := (c.neg v a).2 (by omega)
      intro x hx
      rw [List.drop_zero] at hx
      rcases List.mem_cons.1 hx with rfl | hx
      · exact h1
      · exact c.tr v a x h1 (hs.1 x hx)
theorem nodup_set (hn : (M.map (·.1)).Nodup) (k : K) (v : V) : ((aset M k v).map (·.1)).Nodup := by
  cases h : alook M k with
  | some o => rw [InOrder.keys_set_some h]; exact hn
  | none =>
    rw [aset_none h, List.map_append, List.nodup_append]
    refine ⟨hn, by simp, fun a ha b hb => ?_⟩
    simp only [List.map_cons, List.map_nil, List.mem_singleton] at hb
    subst hb
    obtain ⟨e, he, rfl⟩ := List.mem_map.1 ha
    exact alook_none.1 h e he
theorem ord_ex (c : KeyCmp key cf) : ∀ (n : Nat) {M : List (K × V)}, M.length = n → (∀ e ∈ M, e.1 = key e.2) → (M.map (·.1)).Nodup → ∃ L, InOrder key cf M L
  | 0, M, hl, _, _ => by
    obtain rfl : M = [] := List.eq_nil_of_length_eq_zero hl
    exact ⟨[], InOrder.nil⟩
  | n + 1, M, hl, hk, hn => by
    obtain ⟨M', e, rfl⟩ : ∃ M' e, M = M' ++ [e] := ⟨M.dropLast, M.getLast (by intro h; rw [h] at hl; simp at hl), (List.dropLast_concat_getLast _).symm⟩
    rw [List.map_append, List.nodup_append] at hn
    obtain ⟨L, hL⟩ := ord_ex c n (M := M') (by simp at hl; omega) (fun x hx => hk x (List.mem_append_left _ hx)) hn.1
    have he : e.1 = key e.2 := hk e (by simp)
    have hno : alook M' e.1 = none := alook_none.2 fun x hx hc => hn.2.2 x.1 (List.mem_map.2 ⟨x, hx, rfl⟩) e.1 (by simp) hc
    obtain ⟨j, _, h1, h2⟩ := pos_ex c (v := e.2) hL.sort (fun x hx => by rw [← he]; exact hL.look_none.1 hno x hx)
    have := hL.ins (v := e.2) (k := e.1) he.symm hno h1 h2
    rw [aset_none hno] at this
    exact ⟨_, this⟩
end
end Slb
