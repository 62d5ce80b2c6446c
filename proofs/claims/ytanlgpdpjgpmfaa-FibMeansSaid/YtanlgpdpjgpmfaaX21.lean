/- X21: a part of the proof that a law of this package holds for every input; no condition. -/
import Derived.Test.YtanlgpdpjgpmfaaX20
namespace Slb
open Go Go.Proofs
set_option maxRecDepth 20000
def keepM (f : Int) (P : List Entry) (e : Entry) : List Entry := if (checkPairB e.pair = true ∧ pfamilyB e.pair.dst = f) ∧ ∀ x ∈ P, x.pair ≠ e.pair then P ++ [e] else P
structure PlainM (f : Int) (P : List Entry) : Prop where
  nodup : (P.map Entry.pair).Nodup
  ok : ∀ x ∈ P, checkPairB x.pair = true ∧ pfamilyB x.pair.dst = f
theorem PlainM.nil {f : Int} : PlainM f [] := ⟨by simp, by simp⟩
theorem PlainM.step {f : Int} {P : List Entry} (h : PlainM f P) (e : Entry) : PlainM f (keepM f P e) := by
  unfold keepM
  split
  · rename_i hc
    refine ⟨?_, fun x hx => ?_⟩
    · rw [List.map_append, List.nodup_append]
      refine ⟨h.nodup, by simp, fun a ha b hb => ?_⟩
      simp only [List.map_cons, List.map_nil, List.mem_singleton] at hb
      subst hb
      obtain ⟨x, hx, rfl⟩ := List.mem_map.1 ha
      exact hc.2 x hx
    · rcases List.mem_append.1 hx with hx | hx
      · exact h.ok x hx
      · simp at hx; subst hx; exact hc.1
  · exact h
theorem PlainM.fold {f : Int} (xs : List Entry) : ∀ {P : List Entry}, PlainM f P → PlainM f (xs.foldl (keepM f) P) := by
  induction xs with
  | nil => exact fun h => h
  | cons x xs ih => exact fun h => ih (h.step x)
theorem keepM_len (f : Int) (xs : List Entry) : ∀ P : List Entry, (xs.foldl (keepM f) P).length ≤ P.length + xs.length := by
  induction xs with
  | nil => intro P; simp
  | cons x xs ih =>
    intro P
    have h1 : (keepM f P x).length ≤ P.length + 1 := by unfold keepM; split <;> simp
    have := ih (keepM f P x)
    simp only [List.foldl_cons, List.length_cons]
    omega
theorem PlainM.uniq {f : Int} {P : List Entry} (h : PlainM f P) {a b : Entry} (ha : a ∈ P) (hb : b ∈ P) (hp : a.pair = b.pair) : a = b := by
  obtain ⟨i, hi, rfl⟩ := List.mem_iff_getElem.1 ha
  obtain ⟨j, hj, rfl⟩ := List.mem_iff_getElem.1 hb
  have hij : i = j := by
    have hn := h.nodup
    have h1 : (P.map Entry.pair)[i]? = some P[i].pair := by rw [List.getElem?_map, List.getElem?_eq_getElem hi]; rfl
    have h2 : (P.map Entry.pair)[j]? = some P[j].pair := by rw [List.getElem?_map, List.getElem?_eq_getElem hj]; rfl
    exact (List.getElem?_inj (by rw [List.length_map]; exact hi) hn).1 (h1.trans (by rw [hp, ← h2]))
  subst hij; rfl
def dlen (d : Bs 16) (n : Int) (e : Entry) : Int := if containsB e.pair.dst d && decide (e.pair.dst.len.val > n) then e.pair.dst.len.val else n
def candB (s d : Bs 16) (n : Int) (e : Entry) : Bool := decide (e.pair.dst.len.val = n) && (containsB e.pair.dst d && containsB e.pair.src s)
def fstep (s d : Bs 16) (n : Int) (r : Int × Entry) (e : Entry) : Int × Entry := if candB s d n e && decide (e.pair.src.len.val > r.1) then (e.pair.src.len.val, e) else r
theorem contains_len {p : Prefix} {a : Bs 16} (h : containsB p a = true) : 0 ≤ p.len.val ∧ p.len.val ≤ 128 := by
  have := checkB_len (contains_iff.1 h).1
  exact ⟨this.1, this.2.1⟩
structure Dl (d : Bs 16) (D : List Entry) (n : Int) : Prop where
  lo : -1 ≤ n
  hi : n ≤ 128
  le : ∀ e ∈ D, containsB e.pair.dst d = true → e.pair.dst.len.val ≤ n
  at_ : 0 ≤ n → ∃ e ∈ D, containsB e.pair.dst d = true ∧ e.pair.dst.len.val = n
theorem Dl.nil {d : Bs 16} : Dl d [] (-1) := ⟨by omega, by omega, by simp, fun h => by omega⟩
theorem Dl.step {d : Bs 16} {D : List Entry} {n : Int} (h : Dl d D n) (e : Entry) : Dl d (D ++ [e]) (dlen d n e) := by
  unfold dlen
  split
  · rename_i hc
    simp only [Bool.and_eq_true, decide_eq_true_eq] at hc
    have := contains_len hc.1
    refine ⟨by omega, by omega, fun x hx hxc => ?_, fun _ => ⟨e, by simp, hc.1, rfl⟩⟩
    rcases List.mem_append.1 hx with hx | hx
    · have := h.le x hx hxc; omega
    · simp at hx; subst hx; exact Int.le_refl _
  · rename_i hc
    refine ⟨h.lo, h.hi, fun x hx hxc => ?_, fun h0 => ?_⟩
    · rcases List.mem_append.1 hx with hx | hx
      · exact h.le x hx hxc
      · simp at hx; subst hx
        simp only [Bool.and_eq_true, decide_eq_true_eq, not_and] at hc
        have := hc hxc; omega
    · obtain ⟨x, hx, h1⟩ := h.at_ h0
      exact ⟨x, List.mem_append_left _ hx, h1⟩
structure Fs (s d : Bs 16) (n : Int) (D : List Entry) (r : Int × Entry) : Prop where
  lo : -1 ≤ r.1
  hi : r.1 ≤ 128
  le : ∀ e ∈ D, candB s d n e = true → e.pair.src.len.val ≤ r.1
  at_ : 0 ≤ r.1 → r.2 ∈ D ∧ candB s d n r.2 = true ∧ r.2.pair.src.len.val = r.1
theorem candB_iff {s d : Bs 16} {n : Int} {e : Entry} : candB s d n e = true ↔ e.pair.dst.len.val = n ∧ containsB e.pair.dst d = true ∧ containsB e.pair.src s = true := by
  unfold candB
  simp only [Bool.and_eq_true, decide_eq_true_eq]
theorem Fs.nil {s d : Bs 16} {n : Int} : Fs s d n [] (-1, Entry.zero) := ⟨by simp, by simp, by simp, fun h => by simp at h⟩
theorem Fs.step {s d : Bs 16} {n : Int} {D : List Entry} {r : Int × Entry} (h : Fs s d n D r) (e : Entry) : Fs s d n (D ++ [e]) (fstep s d n r e) := by
  unfold fstep
  split
  · rename_i hc
    simp only [Bool.and_eq_true, decide_eq_true_eq] at hc
    have := contains_len (candB_iff.1 hc.1).2.2
    have hlo := h.lo
    refine ⟨by simp only; omega, by simp only; omega, fun x hx hxc => ?_, fun _ => ⟨by simp, hc.1, rfl⟩⟩
    rcases List.mem_append.1 hx with hx | hx
    · have := h.le x hx hxc; simp only; omega
    · simp at hx; subst hx; exact Int.le_refl _
  · rename_i hc
    refine ⟨h.lo, h.hi, fun x hx hxc => ?_, fun h0 => ?_⟩
    · rcases List.mem_append.1 hx with hx | hx
      · exact h.le x hx hxc
      · simp at hx; subst hx
        simp only [Bool.and_eq_true, decide_eq_true_eq, not_and] at hc
        have := hc hxc; omega
    · obtain ⟨h1, h2⟩ := h.at_ h0
      exact ⟨List.mem_append_left _ h1, h2⟩
theorem matches_iff {p : Pair} {s d : Bs 16} : matchesB p s d = true ↔ checkPairB p = true ∧ containsB p.dst d = true ∧ containsB p.src s = true := by
  unfold matchesB
  simp only [Bool.and_eq_true]
  exact ⟨fun h => ⟨h.1.1, h.1.2, h.2⟩, fun h => ⟨⟨h.1, h.2.1⟩, h.2.2⟩⟩
section
variable {f : Int} {P L' : List Entry} {s d : Bs 16} {n : Int} {r : Int × Entry}
theorem exp_facts (hP : PlainM f P) (hex : Expands P L') : ∃ L, (∀ x, x ∈ L ↔ x ∈ P) ∧ OrdE (expM L) L' := by
  obtain ⟨L, hL, hL'⟩ := hex
  rw [tab_fold P [] hP.nodup (fun x hx => (hP.ok x hx).1) (fun x _ => rfl), List.nil_append] at hL
  have hval : (tabOf P).map (·.2) = P := by simp [tabOf, Function.comp_def]
  refine ⟨L, fun x => ?_, hL'⟩
  have := hL.perm
  rw [hval] at this
  exact this.mem_iff
theorem cover_f (hP : PlainM f P) {x y : Entry} (hx : x ∈ P) (hy : y ∈ P) (hc : coversB y.pair.dst x.pair.dst = true) : expOk x y = true := by
  unfold expOk
  rw [hc, Bool.true_and]
  obtain ⟨h1, _, _⟩ := checkPair_iff.1 (hP.ok x hx).1
  obtain ⟨_, h2, h3⟩ := checkPair_iff.1 (hP.ok y hy).1
  exact checkPair_iff.2 ⟨h1, h2, by show pfamilyB x.pair.dst = pfamilyB y.pair.src; rw [← h3, (hP.ok x hx).2, (hP.ok y hy).2]⟩
theorem means_none (hP : PlainM f P) (hex : Expands P L') (hr : Fs s d n L' r) (h : ∀ x ∈ P, matchesB x.pair s d = false) : r.1 < 0 := by
  obtain ⟨L, hLP, hL'⟩ := exp_facts hP hex
  by_cases h0 : r.1 < 0
  · exact h0
  · obtain ⟨h1, h2, _⟩ := hr.at_ (by omega)
    obtain ⟨c1, c2, c3⟩ := candB_iff.1 h2
    obtain ⟨_, x, hx, y, hy, hok, hp⟩ := (exp_mem hL').1 h1
    unfold expOk at hok
    rw [Bool.and_eq_true] at hok
    rw [← hp] at c2 c3
    have hm : matchesB y.pair s d = true := matches_iff.2 ⟨(hP.ok y ((hLP y).1 hy)).1, covers_contains hok.1 c2, c3⟩
    rw [h y ((hLP y).1 hy)] at hm
    cases hm
theorem means_some (hP : PlainM f P) (hex : Expands P L') (hn : Dl d L' n) (hr : Fs s d n L' r) {x : Entry} (hx : x ∈ P) (hm : matchesB x.pair s d = true) (hb : ∀ y ∈ P, matchesB y.pair s d = true → betterP x.pair y.pair = false) : 0 ≤ r.1 ∧ r.2.if_ = x.if_ ∧ r.2.hop = x.hop := by
  obtain ⟨L, hLP, hL'⟩ := exp_facts hP hex
  obtain ⟨m1, m2, m3⟩ := matches_iff.1 hm
  have hself : ∀ y ∈ P, ∃ e ∈ L', e.pair = y.pair := fun y hy => ⟨expV L y.pair, (exp_mem hL').2 ⟨rfl, y, (hLP y).2 hy, y, (hLP y).2 hy, cover_f hP hy hy (covers_refl (checkPair_iff.1 (hP.ok y hy).1).1), rfl⟩, rfl⟩
  have hn0 : 0 ≤ n := by
    obtain ⟨e, he, hep⟩ := hself x hx
    have := hn.le e he (by rw [hep]; exact m2)
    have := contains_len m2
    rw [hep] at *
    omega
  obtain ⟨e0, h1, h2, h3⟩ := hn.at_ hn0
  obtain ⟨_, x0, hx0, _, _, _, hp0⟩ := (exp_mem hL').1 h1
  have hd0 : e0.pair.dst = x0.pair.dst := by rw [← hp0]; rfl
  rw [hd0] at h2 h3
  have hx0P := (hLP x0).1 hx0
  have hle : ∀ y ∈ P, containsB y.pair.dst d = true → y.pair.dst.len.val ≤ n := fun y hy hc => by
    obtain ⟨e, he, hep⟩ := hself y hy
    have := hn.le e he (by rw [hep]; exact hc)
    rwa [hep] at this
  have hcx : coversB x.pair.dst x0.pair.dst = true := contains_covers m2 h2 (by have := hle x hx m2; omega)
  -- one candidate there is
  have hc1 : expV L (expP x0 x) ∈ L' := (exp_mem hL').2 ⟨rfl, x0, hx0, x, (hLP x).2 hx, cover_f hP hx0P hx hcx, rfl⟩
  have hk1 : candB s d n (expV L (expP x0 x)) = true := candB_iff.2 ⟨h3, h2, m3⟩
  have hl1 := hr.le _ hc1 hk1
  have hl1' : x.pair.src.len.val ≤ r.1 := hl1
  have hr0 : 0 ≤ r.1 := by have := contains_len m3; omega
  obtain ⟨q1, q2, q3⟩ := hr.at_ hr0
  obtain ⟨c1, c2, c3⟩ := candB_iff.1 q2
  obtain ⟨w1, _⟩ := (exp_mem hL').1 q1
  have hD : r.2.pair.dst = x0.pair.dst := contains_eq c2 h2 (by omega)
  have hcx2 : coversB x.pair.src r.2.pair.src = true := contains_covers m3 c3 (by omega)
  have hmx : meansB r.2.pair x = true := by
    unfold meansB
    rw [hD, hcx, hcx2, (hP.ok x hx).2, (hP.ok x0 hx0P).2]
    simp
  obtain ⟨b1, b2, b3⟩ := best_of ((hLP x).2 hx) hmx
  have hbx : bestB L r.2.pair = x := by
    have hb3 := b3 x ((hLP x).2 hx) hmx
    generalize bestB L r.2.pair = b at b1 b2 hb3
    have hbP := (hLP b).1 b1
    unfold meansB at b2
    simp only [Bool.and_eq_true] at b2
    have n2 := covers_contains b2.1 c2
    have n3 := covers_contains b2.2.1 c3
    have hbb := hb b hbP (matches_iff.2 ⟨(hP.ok b hbP).1, n2, n3⟩)
    unfold betterP at hbb
    unfold betterE at hb3
    simp only [Bool.or_eq_false_iff, Bool.and_eq_false_iff, decide_eq_false_iff_not] at hbb hb3
    refine hP.uniq hbP hx (pair_ext (contains_eq n2 m2 (by omega)) (contains_eq n3 m3 (by omega)))
  rw [w1]
  unfold expV
  rw [hbx]
  exact ⟨hr0, rfl, rfl⟩
end
end Slb
