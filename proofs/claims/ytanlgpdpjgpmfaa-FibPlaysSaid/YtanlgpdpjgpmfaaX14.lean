/- X14: a part of the proof that a law of this package holds for every input; no condition. -/
import Derived.Test.YtanlgpdpjgpmfaaX13
namespace Slb
open Go Go.Proofs
set_option maxRecDepth 20000
def needR (Wt : TabE) (e : Entry) : Bool := !(alook Wt e.pair).isSome
def needA (H : TabE) (e : Entry) : Bool := decide (alook H e.pair ≠ some e)
theorem addO_some (H : TabE) (e : Entry) : (addO H e).isSome = needA H e := by
  unfold addO needA
  cases hq : alook H e.pair with
  | none => simp
  | some v =>
    by_cases hv : v = e
    · simp [hv]
    · simp [hv]
theorem filterMap_count (H : TabE) : ∀ L : List Entry, (L.filterMap (addO H)).length = L.countP (needA H) := by
  intro L
  induction L with
  | nil => rfl
  | cons e L ih =>
    have h := addO_some H e
    rw [List.countP_cons]
    cases hq : addO H e with
    | none => rw [hq] at h; simp only [Option.isSome_none] at h; rw [List.filterMap_cons_none hq, ih, ← h]; simp
    | some o => rw [hq] at h; simp only [Option.isSome_some] at h; rw [List.filterMap_cons_some hq, List.length_cons, ih, ← h]; simp
theorem todo_count (H Wt : TabE) (LH LW : List Entry) : (todoL H Wt LH LW).length = LH.countP (needR Wt) + LW.countP (needA H) := by
  unfold todoL remL
  rw [List.length_append, List.length_map, filterMap_count, List.countP_eq_length_filter (l := LH)]
  rfl
theorem mem_todo {H Wt : TabE} {LH LW : List Entry} {o : Op} (h : o ∈ todoL H Wt LH LW) :
    (o.kind = 3 ∧ o.entry ∈ LH ∧ alook Wt o.entry.pair = none) ∨ (o.kind ≠ 3 ∧ o.entry ∈ LW ∧ alook H o.entry.pair ≠ some o.entry ∧ ((o.kind = 1 ∧ alook H o.entry.pair = none) ∨ (o.kind = 2 ∧ (alook H o.entry.pair).isSome = true))) := by
  unfold todoL remL at h
  rcases List.mem_append.1 h with h | h
  · obtain ⟨e, he, rfl⟩ := List.mem_map.1 h
    obtain ⟨h1, h2⟩ := List.mem_filter.1 he
    exact .inl ⟨rfl, h1, by simpa using h2⟩
  · obtain ⟨e, he, h2⟩ := List.mem_filterMap.1 h
    refine .inr ?_
    unfold addO at h2
    cases hq : alook H e.pair with
    | none =>
      rw [hq] at h2
      simp only [Option.isSome_none, Bool.false_eq_true, if_false, Option.some.injEq] at h2
      subst h2
      exact ⟨by show (1 : Int) ≠ 3; decide, he, by show alook H e.pair ≠ some e; rw [hq]; simp, .inl ⟨rfl, hq⟩⟩
    | some v =>
      rw [hq] at h2
      simp only [Option.isSome_some, if_true, Option.getD_some] at h2
      by_cases hv : v = e
      · rw [if_neg (by simp [hv])] at h2; cases h2
      · rw [if_pos hv] at h2
        cases h2
        exact ⟨by show (2 : Int) ≠ 3; decide, he, by show alook H e.pair ≠ some e; rw [hq]; simpa using hv, .inr ⟨rfl, by show (alook H e.pair).isSome = true; rw [hq]; rfl⟩⟩
theorem countP_perm_vals {H : TabE} {LH : List Entry} (h : OrdE H LH) (p : Entry → Bool) : LH.countP p = (H.map (·.2)).countP p := h.perm.countP_eq p
theorem countA_less {LW : List Entry} (hn : LW.Nodup) {e : Entry} (he : e ∈ LW) {p q : Entry → Bool} (h1 : p e = true) (h2 : q e = false) (h3 : ∀ x ∈ LW, x ≠ e → p x = q x) : LW.countP q + 1 = LW.countP p := by
  obtain ⟨A, B, rfl⟩ := List.append_of_mem he
  have hA : ∀ x ∈ A, p x = q x := fun x hx => h3 x (by simp [hx]) fun e' => by
    subst e'
    rw [List.nodup_append] at hn
    exact hn.2.2 x hx x (by simp) rfl
  have hB : ∀ x ∈ B, p x = q x := fun x hx => h3 x (by simp [hx]) fun e' => by
    subst e'
    rw [List.nodup_append, List.nodup_cons] at hn
    exact hn.2.1.1 hx
  have cA : A.countP p = A.countP q := List.countP_congr fun x hx => by rw [hA x hx]
  have cB : B.countP p = B.countP q := List.countP_congr fun x hx => by rw [hB x hx]
  rw [List.countP_append, List.countP_append, List.countP_cons, List.countP_cons, cA, cB, h1, h2]
  simp
  omega
theorem todo_step {H Wt : TabE} {LH LW LH' : List Entry} (hH : OrdE H LH) (hW : OrdE Wt LW) {o : Op} (ho : o ∈ todoL H Wt LH LW) (hH' : OrdE (replyH H o true) LH') : (todoL (replyH H o true) Wt LH' LW).length + 1 = (todoL H Wt LH LW).length := by
  rw [todo_count, todo_count, countP_perm_vals hH', countP_perm_vals hH]
  rcases mem_todo ho with ⟨h1, h2, h3⟩ | ⟨h1, h2, h3, _⟩
  · have hr : replyH H o true = adel H o.entry.pair := by unfold replyH; rw [if_pos rfl, if_pos h1]
    rw [hr]
    obtain ⟨A, B, hAB, hA⟩ := alook_split (hH.mem.1 h2)
    have hA1 : LW.countP (needA (adel H o.entry.pair)) = LW.countP (needA H) := List.countP_congr fun x hx => by
      unfold needA
      rw [alook_adel_ne fun hc => ?_]
      have := hW.mem.1 hx
      rw [← hc, h3] at this
      cases this
    rw [hA1]
    have hR : needR Wt o.entry = true := by unfold needR; rw [h3]; rfl
    rw [hAB, adel_split hA]
    simp only [List.map_append, List.map_cons, List.countP_append, List.countP_cons, hR, if_true]
    omega
  · have hr : replyH H o true = aset H o.entry.pair o.entry := by unfold replyH; rw [if_pos rfl, if_neg h1]
    rw [hr]
    have hR : ((aset H o.entry.pair o.entry).map (·.2)).countP (needR Wt) = (H.map (·.2)).countP (needR Wt) := by
      have hWe : alook Wt o.entry.pair = some o.entry := hW.mem.1 h2
      have hR1 : needR Wt o.entry = false := by unfold needR; rw [hWe]; rfl
      cases hq : alook H o.entry.pair with
      | none => rw [aset_none hq]; simp [hR1]
      | some v =>
        have hv : v.pair = o.entry.pair := (hH.look hq).2
        have hR2 : needR Wt v = false := by unfold needR; rw [hv, hWe]; rfl
        obtain ⟨A, B, rfl, hA⟩ := alook_split hq
        rw [aset_split hA]
        simp [hR1, hR2]
    rw [hR]
    have := countA_less (hW.nodupL keyCmpE) h2 (p := needA H) (q := needA (aset H o.entry.pair o.entry)) (by unfold needA; exact decide_eq_true h3) (by unfold needA; rw [alook_aset_self]; simp) fun x hx hne => by
      unfold needA
      rw [alook_aset_ne fun hc => hne (hW.inj hx h2 hc.symm)]
    omega
theorem todo_none {H Wt : TabE} {LH LW : List Entry} (hH : OrdE H LH) (hW : OrdE Wt LW) : todoL H Wt LH LW = [] ↔ LH = LW := by
  constructor
  · intro h
    have hc := todo_count H Wt LH LW
    rw [h] at hc
    have h1 : LH.countP (needR Wt) = 0 := by simp at hc; omega
    have h2 : LW.countP (needA H) = 0 := by simp at hc; omega
    rw [List.countP_eq_zero] at h1 h2
    have hW2 : ∀ y ∈ LW, y ∈ LH := fun y hy => by
      have := h2 y hy
      unfold needA at this
      simp only [decide_eq_true_eq, ne_eq, Classical.not_not] at this
      exact (hH.look this).1
    have hH2 : ∀ x ∈ LH, x ∈ LW := fun x hx => by
      have := h1 x hx
      unfold needR at this
      simp only [Bool.not_eq_true', Bool.not_eq_false, Option.isSome_iff_exists] at this
      obtain ⟨y, hy⟩ := this
      obtain ⟨hy1, hy2⟩ := hW.look hy
      have := hH.inj hx (hW2 y hy1) hy2.symm
      subst this
      exact hy1
    have hp : LW.Perm LH := (List.perm_ext_iff_of_nodup (hW.nodupL keyCmpE) (hH.nodupL keyCmpE)).2 fun a => ⟨hW2 a, hH2 a⟩
    exact (InOrder.uniq keyCmpE hH (hp.trans hH.perm) (hW.sort.imp fun {a b} hab hba => by have := (keyCmpE.neg a b).1 hab; omega)).symm
  · intro h
    subst h
    have hc := todo_count H Wt LH LH
    have h1 : LH.countP (needR Wt) = 0 := List.countP_eq_zero.2 fun x hx => by unfold needR; rw [hW.mem.1 hx]; simp
    have h2 : LH.countP (needA H) = 0 := List.countP_eq_zero.2 fun x hx => by unfold needA; rw [hH.mem.1 hx]; simp
    exact List.eq_nil_of_length_eq_zero (by omega)
theorem FibS.todo_iff {s : FibS} (hs : s.Ok) : s.todo = [] ↔ ordL s.H = ordL s.Wt := todo_none hs.h.ordL hs.w.ordL
theorem mem_find {α : Type} {p : α → Bool} {l : List α} {x : α} (h : l.find? p = some x) : x ∈ l := List.mem_of_find?_eq_some h
/-- All that is kept of failures is over by then. -/
def FlBy (Fl : TabI) (t : Int) : Prop := ∀ e ∈ Fl, e.2 ≤ t
theorem FlBy.mono {Fl : TabI} {t u : Int} (h : FlBy Fl t) (hle : t ≤ u) : FlBy Fl u := fun e he => Int.le_trans (h e he) hle
theorem FlBy.reply {Fl : TabI} {t : Int} (h : FlBy Fl (t + 1000)) (o : Op) (ok : Bool) : FlBy (replyF Fl t o ok) (t + 1000) := fun e he => by
  unfold replyF at he
  split at he
  · exact h e (mem_adel he)
  · rcases mem_aset he with rfl | he
    · exact Int.le_refl _
    · exact h e (mem_adel he)
theorem FlBy.due {Fl : TabI} {t : Int} (h : FlBy Fl t) (o : Op) : dueB Fl t o = true := by
  unfold dueB
  cases hq : alook Fl o.entry.pair with
  | none => rfl
  | some v => simpa using h _ (alook_some hq)
theorem FlBy.head {Fl : TabI} {t : Int} (h : FlBy Fl t) (T : List Op) : T.find? (dueB Fl t) = T.head? := by
  cases T with
  | nil => rfl
  | cons o T => rw [List.find?_cons_of_pos (h.due o)]; rfl
end Slb
