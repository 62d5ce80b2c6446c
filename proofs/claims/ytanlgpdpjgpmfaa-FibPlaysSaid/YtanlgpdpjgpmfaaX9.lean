/- X9: a part of the proof that a law of this package holds for every input; no condition. -/
import Derived.Test.YtanlgpdpjgpmfaaX3
namespace Slb
open Go Go.Proofs
set_option maxRecDepth 20000
theorem mask_and : ∀ k l : Fin 9, k.val ≤ l.val → UInt8.ofNat (65280 / 2 ^ l.val) &&& UInt8.ofNat (65280 / 2 ^ k.val) = UInt8.ofNat (65280 / 2 ^ k.val) := by decide
theorem keepN_le (n : Int) (i : Nat) : keepN n i ≤ 8 := by unfold keepN; omega
theorem keepN_mono {n m : Int} (h : n ≤ m) (i : Nat) : keepN n i ≤ keepN m i := by unfold keepN; omega
theorem maskB_and {n m : Int} (h : n ≤ m) (i : Nat) : maskB m i &&& maskB n i = maskB n i :=
  mask_and ⟨keepN n i, by have := keepN_le n i; omega⟩ ⟨keepN m i, by have := keepN_le m i; omega⟩ (keepN_mono h i)
/-- A shorter mask behind a longer one. -/
theorem masked_masked {n m : Int} (h : n ≤ m) (a : Bs 16) : maskedB (maskedB a m) n = maskedB a n := by
  apply Bs.ext
  show (a.l.mapIdx fun i c => c &&& maskB m i).mapIdx (fun i c => c &&& maskB n i) = a.l.mapIdx fun i c => c &&& maskB n i
  apply List.ext_getElem?
  intro i
  rw [List.getElem?_mapIdx, List.getElem?_mapIdx, List.getElem?_mapIdx]
  cases a.l[i]? with
  | none => rfl
  | some c =>
    simp only [Option.map_some]
    rw [UInt8.and_assoc, maskB_and h]
theorem contains_iff {p : Prefix} {a : Bs 16} : containsB p a = true ↔ checkB p = true ∧ maskedB a p.len.val = p.a := by
  unfold containsB; rw [Bool.and_eq_true, decide_eq_true_eq]
theorem covers_iff {p q : Prefix} : coversB p q = true ↔ checkB q = true ∧ p.len.val ≤ q.len.val ∧ containsB p q.a = true := by
  unfold coversB; rw [Bool.and_eq_true, Bool.and_eq_true, decide_eq_true_eq]
  exact ⟨fun ⟨⟨a, b⟩, c⟩ => ⟨a, b, c⟩, fun ⟨a, b, c⟩ => ⟨⟨a, b⟩, c⟩⟩
theorem covers_refl {p : Prefix} (h : checkB p = true) : coversB p p = true :=
  covers_iff.2 ⟨h, Int.le_refl _, contains_iff.2 ⟨h, (checkB_len h).2.2⟩⟩
theorem covers_contains {p q : Prefix} {a : Bs 16} (h : coversB p q = true) (hq : containsB q a = true) : containsB p a = true := by
  obtain ⟨_, h2, h3⟩ := covers_iff.1 h
  obtain ⟨h4, h5⟩ := contains_iff.1 h3
  obtain ⟨_, h7⟩ := contains_iff.1 hq
  refine contains_iff.2 ⟨h4, ?_⟩
  rw [← h5, ← h7, masked_masked h2]
theorem contains_covers {p q : Prefix} {a : Bs 16} (hp : containsB p a = true) (hq : containsB q a = true) (hl : p.len.val ≤ q.len.val) : coversB p q = true := by
  obtain ⟨h1, h2⟩ := contains_iff.1 hp
  obtain ⟨h3, h4⟩ := contains_iff.1 hq
  refine covers_iff.2 ⟨h3, hl, contains_iff.2 ⟨h1, ?_⟩⟩
  rw [← h4, masked_masked hl, h2]
theorem prefix_ext {p q : Prefix} (h1 : p.a = q.a) (h2 : p.len.val = q.len.val) : p = q := by
  obtain ⟨a, l⟩ := p
  obtain ⟨b, k⟩ := q
  simp only at h1 h2
  subst h1
  obtain rfl := Subtype.ext h2
  rfl
theorem contains_eq {p q : Prefix} {a : Bs 16} (hp : containsB p a = true) (hq : containsB q a = true) (hl : p.len.val = q.len.val) : p = q := by
  obtain ⟨_, h2⟩ := contains_iff.1 hp
  obtain ⟨_, h4⟩ := contains_iff.1 hq
  exact prefix_ext (by rw [← h2, ← h4, hl]) hl
theorem covers_eq {p q : Prefix} (h : coversB p q = true) (hl : p.len.val = q.len.val) : p = q := by
  obtain ⟨h1, _, h3⟩ := covers_iff.1 h
  exact contains_eq h3 (contains_iff.2 ⟨h1, (checkB_len h1).2.2⟩) hl
theorem pair_ext {p q : Pair} (h1 : p.dst = q.dst) (h2 : p.src = q.src) : p = q := by cases p; cases q; simp only at h1 h2; subst h1; subst h2; rfl
theorem checkPair_iff {p : Pair} : checkPairB p = true ↔ checkB p.dst = true ∧ checkB p.src = true ∧ pfamilyB p.dst = pfamilyB p.src := by
  unfold checkPairB; rw [Bool.and_eq_true, Bool.and_eq_true, decide_eq_true_eq]
  exact ⟨fun ⟨⟨a, b⟩, c⟩ => ⟨a, b, c⟩, fun ⟨a, b, c⟩ => ⟨⟨a, b⟩, c⟩⟩
/-! What Expand's table holds. -/
def expV (L : List Entry) (p : Pair) : Entry := ⟨p, (bestB L p).if_, (bestB L p).hop⟩
theorem alook_aset (M : TabE) (k k' : Pair) (v : Entry) : alook (aset M k v) k' = if k = k' then some v else alook M k' := by
  by_cases h : k = k'
  · subst h; rw [if_pos rfl, alook_aset_self]
  · rw [if_neg h, alook_aset_ne h]
theorem expK_look (L : List Entry) (x y : Entry) (M : TabE) (p : Pair) : alook (expK L x M y) p = if expOk x y = true ∧ expP x y = p then some (expV L p) else alook M p := by
  unfold expK
  by_cases h : expOk x y = true
  · rw [if_pos h, alook_aset]
    by_cases hp : expP x y = p
    · rw [if_pos hp, if_pos ⟨h, hp⟩]; subst hp; rfl
    · rw [if_neg hp, if_neg fun hc => hp hc.2]
  · rw [if_neg h, if_neg fun hc => h hc.1]
theorem expR_look (L : List Entry) (x : Entry) (p : Pair) : ∀ (ys : List Entry) (M : TabE), alook (ys.foldl (expK L x) M) p = if ∃ y ∈ ys, expOk x y = true ∧ expP x y = p then some (expV L p) else alook M p := by
  intro ys
  induction ys with
  | nil => intro M; simp
  | cons y ys ih =>
    intro M
    rw [List.foldl_cons, ih, expK_look]
    by_cases h1 : ∃ y ∈ ys, expOk x y = true ∧ expP x y = p
    · rw [if_pos h1, if_pos]
      obtain ⟨z, hz, h⟩ := h1
      exact ⟨z, List.mem_cons_of_mem _ hz, h⟩
    · rw [if_neg h1]
      by_cases h2 : expOk x y = true ∧ expP x y = p
      · rw [if_pos h2, if_pos ⟨y, List.mem_cons_self, h2⟩]
      · rw [if_neg h2, if_neg]
        rintro ⟨z, hz, h⟩
        rcases List.mem_cons.1 hz with rfl | hz
        · exact h2 h
        · exact h1 ⟨z, hz, h⟩
theorem expM_look (L : List Entry) (p : Pair) : alook (expM L) p = if ∃ x ∈ L, ∃ y ∈ L, expOk x y = true ∧ expP x y = p then some (expV L p) else none := by
  have : ∀ (xs : List Entry) (M : TabE), alook (xs.foldl (expR L) M) p = if ∃ x ∈ xs, ∃ y ∈ L, expOk x y = true ∧ expP x y = p then some (expV L p) else alook M p := by
    intro xs
    induction xs with
    | nil => intro M; simp
    | cons x xs ih =>
      intro M
      rw [List.foldl_cons, ih]
      unfold expR
      rw [expR_look]
      by_cases h1 : ∃ x ∈ xs, ∃ y ∈ L, expOk x y = true ∧ expP x y = p
      · rw [if_pos h1, if_pos]
        obtain ⟨z, hz, h⟩ := h1
        exact ⟨z, List.mem_cons_of_mem _ hz, h⟩
      · rw [if_neg h1]
        by_cases h2 : ∃ y ∈ L, expOk x y = true ∧ expP x y = p
        · rw [if_pos h2, if_pos ⟨x, List.mem_cons_self, h2⟩]
        · rw [if_neg h2, if_neg]
          rintro ⟨z, hz, h⟩
          rcases List.mem_cons.1 hz with rfl | hz
          · exact h2 h
          · exact h1 ⟨z, hz, h⟩
  exact this L []
/-- What is told is just that. -/
theorem exp_mem {L L' : List Entry} (h : OrdE (expM L) L') {e : Entry} : e ∈ L' ↔ e = expV L e.pair ∧ ∃ x ∈ L, ∃ y ∈ L, expOk x y = true ∧ expP x y = e.pair := by
  rw [h.mem, expM_look]
  constructor
  · intro he
    split at he
    · rename_i hx; exact ⟨(Option.some.inj he).symm, hx⟩
    · cases he
  · rintro ⟨h1, h2⟩
    rw [if_pos h2, ← h1]
/-! What is meant by a pair. -/
structure Meant (p : Pair) (D : List Entry) (r : Entry × Bool) : Prop where
  yes : r.2 = true → r.1 ∈ D ∧ meansB p r.1 = true ∧ ∀ x ∈ D, meansB p x = true → betterE r.1 x = false
  no : r.2 = false → ∀ x ∈ D, meansB p x = false
theorem better_trans {a b c : Entry} (h1 : betterE a b = true) (h2 : betterE a c = false) : betterE b c = false := by
  unfold betterE at *
  simp only [Bool.or_eq_true, Bool.and_eq_true, decide_eq_true_eq, Bool.or_eq_false_iff, Bool.and_eq_false_iff, decide_eq_false_iff_not] at *
  omega
theorem Meant.step {p : Pair} {D : List Entry} {r : Entry × Bool} (h : Meant p D r) (e : Entry) : Meant p (D ++ [e]) (bstep p r e) := by
  cases hm : meansB p e with
  | false =>
    have hs : bstep p r e = r := by unfold bstep; rw [hm]; rfl
    rw [hs]
    refine ⟨fun hr => ?_, fun hr x hx => ?_⟩
    · obtain ⟨h1, h2, h3⟩ := h.yes hr
      refine ⟨List.mem_append_left _ h1, h2, fun x hx hx2 => ?_⟩
      rcases List.mem_append.1 hx with hx | hx
      · exact h3 x hx hx2
      · simp at hx; subst hx; rw [hm] at hx2; cases hx2
    · rcases List.mem_append.1 hx with hx | hx
      · exact h.no hr x hx
      · simp at hx; subst hx; exact hm
  | true =>
    have self : betterE e e = false := by unfold betterE; simp
    cases hr : r.2 with
    | false =>
      have hs : bstep p r e = (e, true) := by unfold bstep; rw [hm, hr]; rfl
      rw [hs]
      refine ⟨fun _ => ⟨by simp, hm, fun x hx hx2 => ?_⟩, fun h => by cases h⟩
      rcases List.mem_append.1 hx with hx | hx
      · rw [h.no hr x hx] at hx2; cases hx2
      · simp at hx; subst hx; exact self
    | true =>
      obtain ⟨h1, h2, h3⟩ := h.yes hr
      cases hb : betterE r.1 e with
      | true =>
        have hs : bstep p r e = (e, true) := by unfold bstep; rw [hm, hb]; simp
        rw [hs]
        refine ⟨fun _ => ⟨by simp, hm, fun x hx hx2 => ?_⟩, fun h => by cases h⟩
        rcases List.mem_append.1 hx with hx | hx
        · exact better_trans hb (h3 x hx hx2)
        · simp at hx; subst hx; exact self
      | false =>
        have hs : bstep p r e = r := by unfold bstep; rw [hm, hr, hb]; rfl
        rw [hs]
        refine ⟨fun _ => ⟨List.mem_append_left _ h1, h2, fun x hx hx2 => ?_⟩, fun h4 => by rw [hr] at h4; cases h4⟩
        rcases List.mem_append.1 hx with hx | hx
        · exact h3 x hx hx2
        · simp at hx; subst hx; exact hb
theorem fold_meant (p : Pair) (D : List Entry) : Meant p D (D.foldl (bstep p) (Entry.zero, false)) := by
  have : ∀ (E D0 : List Entry) (r : Entry × Bool), Meant p D0 r → Meant p (D0 ++ E) (E.foldl (bstep p) r) := by
    intro E
    induction E with
    | nil => intro D0 r h; simpa using h
    | cons e E ih =>
      intro D0 r h
      have := ih (D0 ++ [e]) (bstep p r e) (h.step e)
      simpa using this
  have h0 : Meant p [] (Entry.zero, false) := ⟨fun h => (by cases h), fun _ _ h => (by cases h)⟩
  simpa using this D [] _ h0
/-- Where some entry means the pair the chosen one does, and none is better. -/
theorem best_of {L : List Entry} {p : Pair} {x : Entry} (hx : x ∈ L) (hm : meansB p x = true) : bestB L p ∈ L ∧ meansB p (bestB L p) = true ∧ ∀ y ∈ L, meansB p y = true → betterE (bestB L p) y = false := by
  have h := fold_meant p L
  unfold bestB
  cases hr : (L.foldl (bstep p) (Entry.zero, false)).2 with
  | true => exact h.yes hr
  | false => rw [h.no hr x hx] at hm; cases hm
end Slb
