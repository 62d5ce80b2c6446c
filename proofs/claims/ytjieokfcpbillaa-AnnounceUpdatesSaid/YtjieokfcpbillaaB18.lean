/- Base 18: a table, and the list of what it holds, in order. -/
import Derived.Test.YtjieokfcpbillaaB17
namespace Slb
open Go Go.Proofs
section
variable {K V : Type} [DecidableEq K]
/-- L holds what M holds, in order. -/
structure InOrder (key : V → K) (cf : V → V → Int) (M : List (K × V)) (L : List V) : Prop where
  keyed : ∀ e ∈ M, e.1 = key e.2
  nodup : (M.map (·.1)).Nodup
  perm : L.Perm (M.map (·.2))
  sort : L.Pairwise fun a b => cf a b < 0
/-- The order is that of the keys. -/
structure KeyCmp (key : V → K) (cf : V → V → Int) : Prop where
  zero : ∀ x y, cf x y = 0 ↔ key x = key y
  neg : ∀ x y, cf x y < 0 ↔ 0 < cf y x
  tr : ∀ x y z, cf x y < 0 → cf y z < 0 → cf x z < 0
  ext : ∀ x y z, key x = key y → cf x z = cf y z
omit [DecidableEq K] in
theorem KeyCmp.of {key : V → K} {cf : V → V → Int} {c : K → K → Int} (t : TotCmp c) (h : ∀ x y, cf x y = c (key x) (key y)) : KeyCmp key cf where
  zero x y := by rw [h]; exact t.eq _ _
  neg x y := by rw [h, h]; exact t.neg _ _
  tr x y z := by rw [h, h, h]; exact t.tr _ _ _
  ext x y z e := by rw [h, h, e]
namespace InOrder
variable {key : V → K} {cf : V → V → Int} {M : List (K × V)} {L : List V}
omit [DecidableEq K] in
theorem nil : InOrder key cf [] [] := ⟨fun _ h => (by cases h), List.nodup_nil, List.Perm.refl _, List.Pairwise.nil⟩
omit [DecidableEq K] in
theorem length (h : InOrder key cf M L) : L.length = M.length := by simpa using h.perm.length_eq
theorem mem (h : InOrder key cf M L) {v : V} : v ∈ L ↔ alook M (key v) = some v := by
  constructor
  · intro hv
    obtain ⟨e, he, rfl⟩ := List.mem_map.1 (h.perm.subset hv)
    have := alook_mem_of_nodup h.nodup (k := e.1) (v := e.2) he
    rwa [h.keyed e he] at this
  · intro hv
    exact h.perm.symm.subset (List.mem_map.2 ⟨_, alook_some hv, rfl⟩)
theorem look (h : InOrder key cf M L) {k : K} {v : V} (e : alook M k = some v) : v ∈ L ∧ key v = k := by
  have h1 := alook_some e
  exact ⟨h.perm.symm.subset (List.mem_map.2 ⟨_, h1, rfl⟩), (h.keyed _ h1).symm⟩
theorem look_none (h : InOrder key cf M L) {k : K} : alook M k = none ↔ ∀ x ∈ L, key x ≠ k := by
  constructor
  · intro e x hx hc
    subst hc
    rw [h.mem.1 hx] at e
    cases e
  · intro hx
    refine alook_none.2 fun e he hc => ?_
    refine hx e.2 (h.perm.symm.subset (List.mem_map.2 ⟨e, he, rfl⟩)) ?_
    rw [← h.keyed e he]; exact hc
theorem look_iff (h : InOrder key cf M L) {k : K} {v : V} : alook M k = some v ↔ v ∈ L ∧ key v = k :=
  ⟨h.look, fun ⟨h1, h2⟩ => by subst h2; exact h.mem.1 h1⟩
theorem uniq (c : KeyCmp key cf) (h : InOrder key cf M L) {ys : List V} (hp : ys.Perm (M.map (·.2))) (hs : ys.Pairwise fun a b => ¬ cf b a < 0) : ys = L := by
  have hpl : ys.Perm L := hp.trans h.perm.symm
  have hs2 : L.Pairwise fun a b => ¬ cf b a < 0 := h.sort.imp fun {a b} hab hba => by
    have := (c.neg a b).1 hab
    omega
  refine List.Perm.eq_of_pairwise (le := fun a b => ¬ cf b a < 0) (fun a b ha hb h1 h2 => ?_) hs hs2 hpl
  have hz : cf a b = 0 := by
    have := (c.neg b a).2
    by_cases h3 : 0 < cf a b
    · exact absurd (this h3) h1
    · omega
  have hk := (c.zero a b).1 hz
  have ha' := h.mem.1 (hpl.subset ha)
  have hb' := h.mem.1 hb
  rw [hk] at ha'
  rw [ha'] at hb'
  exact Option.some.inj hb'
theorem inj (h : InOrder key cf M L) {a b : V} (ha : a ∈ L) (hb : b ∈ L) (hk : key a = key b) : a = b := by
  have h1 := h.mem.1 ha
  have h2 := h.mem.1 hb
  rw [hk, h2] at h1
  exact (Option.some.inj h1).symm
omit [DecidableEq K] in
theorem nodupL (c : KeyCmp key cf) (h : InOrder key cf M L) : L.Nodup := h.sort.imp fun {a b} hab e => by
  subst e
  have := (c.zero a a).2 rfl
  omega
theorem keyed_set {k : K} {v : V} (hk : key v = k) (h : ∀ e ∈ M, e.1 = key e.2) : ∀ e ∈ aset M k v, e.1 = key e.2 := fun e he => by
  rcases mem_aset he with rfl | he
  · exact hk.symm
  · exact h e he
theorem keys_set_some {k : K} {v old : V} (h : alook M k = some old) : (aset M k v).map (·.1) = M.map (·.1) := by
  induction M with
  | nil => simp [alook] at h
  | cons x M ih =>
    obtain ⟨a, u⟩ := x
    unfold aset
    unfold alook at h
    by_cases hk : a = k
    · simp [hk]
    · rw [if_neg hk] at h ⊢
      simp [ih h]
/-- Another value of the same key. -/
theorem set (c : KeyCmp key cf) (h : InOrder key cf M L) {k : K} {v old : V} {i : Nat} (hk : key v = k) (ho : L[i]? = some old) (hok : key old = k) : InOrder key cf (aset M k v) (L.set i v) := by
  have hlook : alook M k = some old := h.look_iff.2 ⟨List.mem_of_getElem? ho, hok⟩
  obtain ⟨A, B, rfl, hA⟩ := alook_split hlook
  have hi : i < L.length := (List.getElem?_eq_some_iff.1 ho).1
  have hL : L = L.take i ++ old :: L.drop (i + 1) := by
    have : L[i] = old := (List.getElem?_eq_some_iff.1 ho).2
    rw [← this, ← List.drop_eq_getElem_cons hi, List.take_append_drop]
  have hset : L.set i v = L.take i ++ v :: L.drop (i + 1) := List.set_eq_take_append_cons_drop ▸ by simp [hi]
  refine ⟨keyed_set hk h.keyed, by rw [keys_set_some hlook]; exact h.nodup, ?_, ?_⟩
  · rw [aset_split hA, hset]
    have hp := h.perm
    rw [hL] at hp
    simp only [List.map_append, List.map_cons] at hp ⊢
    have h1 : (old :: (L.take i ++ L.drop (i + 1))).Perm (old :: (A.map (·.2) ++ B.map (·.2))) := (List.perm_middle.symm.trans hp).trans List.perm_middle
    exact List.perm_middle.trans ((List.Perm.cons v h1.cons_inv).trans List.perm_middle.symm)
  · rw [hset]
    have hs := h.sort
    rw [hL] at hs
    rw [List.pairwise_append] at hs ⊢
    obtain ⟨s1, s2, s3⟩ := hs
    rw [List.pairwise_cons] at s2 ⊢
    have e1 : ∀ z, cf v z = cf old z := fun z => c.ext v old z (hk.trans hok.symm)
    have e2 : ∀ z, cf z v < 0 ↔ cf z old < 0 := fun z => by rw [c.neg, e1, ← c.neg]
    refine ⟨s1, ⟨fun b hb => by rw [e1]; exact s2.1 b hb, s2.2⟩, fun a ha b hb => ?_⟩
    rcases List.mem_cons.1 hb with rfl | hb
    · rw [e2]; exact s3 a ha old List.mem_cons_self
    · exact s3 a ha b (List.mem_cons_of_mem _ hb)
/-- A new one at its place. -/
theorem ins (h : InOrder key cf M L) {k : K} {v : V} {j : Nat} (hk : key v = k) (hn : alook M k = none) (h1 : ∀ x ∈ L.take j, cf x v < 0) (h2 : ∀ x ∈ L.drop j, cf v x < 0) : InOrder key cf (aset M k v) (L.take j ++ v :: L.drop j) := by
  refine ⟨keyed_set hk h.keyed, ?_, ?_, ?_⟩
  · rw [aset_none hn, List.map_append, List.nodup_append]
    refine ⟨h.nodup, by simp, fun a ha b hb => ?_⟩
    simp only [List.map_cons, List.map_nil, List.mem_singleton] at hb
    subst hb
    obtain ⟨e, he, rfl⟩ := List.mem_map.1 ha
    exact alook_none.1 hn e he
  · rw [aset_none hn, List.map_append]
    refine List.perm_middle.trans ?_
    rw [List.take_append_drop]
    exact (List.Perm.cons v h.perm).trans (List.perm_append_comm (l₁ := [v]))
  · have hs := h.sort
    rw [← List.take_append_drop j L] at hs
    rw [List.pairwise_append] at hs ⊢
    obtain ⟨s1, s2, s3⟩ := hs
    refine ⟨s1, List.pairwise_cons.2 ⟨h2, s2⟩, fun a ha b hb => ?_⟩
    rcases List.mem_cons.1 hb with rfl | hb
    · exact h1 a ha
    · exact s3 a ha b hb
omit [DecidableEq K] in
theorem filter (h : InOrder key cf M L) (p : V → Bool) : InOrder key cf (M.filter fun e => p e.2) (L.filter p) := by
  refine ⟨fun e he => h.keyed e (List.mem_filter.1 he).1, nodup_filter h.nodup _, ?_, h.sort.filter _⟩
  have := h.perm.filter p
  rwa [List.filter_map] at this
/-- One is gone. -/
theorem del (c : KeyCmp key cf) (h : InOrder key cf M L) {i : Nat} {v : V} (hi : L[i]? = some v) : InOrder key cf (adel M (key v)) (L.eraseIdx i) := by
  have hv := List.mem_of_getElem? hi
  have h1 : adel M (key v) = M.filter fun e => decide (key e.2 ≠ key v) := by
    rw [adel_filter h.nodup]
    exact List.filter_congr fun e he => by rw [h.keyed e he]
  have h2 : L.eraseIdx i = L.filter fun x => decide (key x ≠ key v) := by
    have hlt : i < L.length := (List.getElem?_eq_some_iff.1 hi).1
    have hL : L = L.take i ++ v :: L.drop (i + 1) := by
      have : L[i] = v := (List.getElem?_eq_some_iff.1 hi).2
      rw [← this, ← List.drop_eq_getElem_cons hlt, List.take_append_drop]
    have hnd := h.nodupL c
    rw [List.eraseIdx_eq_take_drop_succ]
    conv => rhs; rw [hL]
    rw [hL] at hnd
    rw [List.nodup_append] at hnd
    obtain ⟨_, n2, n3⟩ := hnd
    rw [List.nodup_cons] at n2
    have ne : ∀ x ∈ L, x ≠ v → decide (key x ≠ key v) = true := fun x hx hxv => by
      simp only [ne_eq, decide_not, Bool.not_eq_true', decide_eq_false_iff_not]
      exact fun hk => hxv (h.inj hx hv hk)
    rw [List.filter_append, List.filter_cons_of_neg (by simp)]
    rw [List.filter_eq_self.2 fun x hx => ne x (List.mem_of_mem_take hx) fun e => n3 x hx v List.mem_cons_self e,
      List.filter_eq_self.2 fun x hx => ne x (List.mem_of_mem_drop hx) fun e => n2.1 (e ▸ hx)]
  rw [h1, h2]
  exact h.filter fun x => decide (key x ≠ key v)
end InOrder
end
end Slb
