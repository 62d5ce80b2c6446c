/- T5: a part of the proof that a law of this package holds for every input; no condition. -/
import Derived.Test.YtakpmaoblkhikaaT4
namespace Slb
open Go Go.Proofs
set_option maxRecDepth 20000
/-! What stands in a queue: a list of timers, in order. -/
abbrev TabS := List (Str × Nat)
def nameB (e : Ent) : ByteArray × Nat := (e.2.due.name, e.1)
structure QI (es : List Ent) (M : TabS) (L : List Due) : Prop where
  placed : PlacedE es
  heap : HeapO es.length (fD es)
  map : (M.map fun e => (e.1.val, e.2)).Perm (es.map nameB)
  perm : L.Perm (es.map (·.2.due))
  sort : L.Pairwise fun a b => cmpDue a b < 0
  nodup : (L.map (·.name)).Nodup
  len : L.length ≤ 4096
theorem QI.nil : QI [] [] [] := ⟨fun i x h => by simp at h, fun c c0 cn => by simp at cn, List.Perm.refl _, List.Perm.refl _, List.Pairwise.nil, List.nodup_nil, by simp⟩
theorem QI.length {es : List Ent} {M : TabS} {L : List Due} (h : QI es M L) : L.length = es.length := by simpa using h.perm.length_eq
/-- The list with a timer put in its place. -/
def insD (d : Due) : List Due → List Due
  | [] => [d]
  | x :: L => if cmpDue d x < 0 then d :: x :: L else x :: insD d L
theorem insD_perm (d : Due) : ∀ L : List Due, (insD d L).Perm (d :: L)
  | [] => List.Perm.refl _
  | x :: L => by
    unfold insD
    split
    · exact List.Perm.refl _
    · exact (List.Perm.cons x (insD_perm d L)).trans (List.Perm.swap _ _ _)
theorem insD_sort {d : Due} : ∀ {L : List Due}, L.Pairwise (fun a b => cmpDue a b < 0) → (∀ x ∈ L, x ≠ d) → (insD d L).Pairwise fun a b => cmpDue a b < 0
  | [], _, _ => by simp [insD]
  | x :: L, h, hne => by
    obtain ⟨h1, h2⟩ := List.pairwise_cons.1 h
    unfold insD
    split
    · rename_i hlt
      refine List.pairwise_cons.2 ⟨fun y hy => ?_, h⟩
      rcases List.mem_cons.1 hy with rfl | hy
      · exact hlt
      · exact totD.tr _ _ _ hlt (h1 y hy)
    · rename_i hlt
      refine List.pairwise_cons.2 ⟨fun y hy => ?_, insD_sort h2 fun y hy => hne y (List.mem_cons_of_mem _ hy)⟩
      rcases List.mem_cons.1 ((insD_perm d L).subset hy) with rfl | hy
      · have h3 : cmpDue y x ≠ 0 := fun h4 => hne x List.mem_cons_self ((totD.eq _ _).1 h4).symm
        exact (totD.neg x y).2 (by omega)
      · exact h1 y hy
def delD (L : List Due) (s : ByteArray) : List Due := L.filter fun d => decide (d.name ≠ s)
def hasD (L : List Due) (s : ByteArray) : Bool := L.any fun d => decide (d.name = s)
def setD (L : List Due) (s : ByteArray) (t : Int) : List Due := insD ⟨s, t⟩ (delD L s)
def atD (L : List Due) (s : ByteArray) : Option Int := (L.find? fun d => decide (d.name = s)).map (·.at_)
theorem hasD_iff {L : List Due} {s : ByteArray} : hasD L s = true ↔ ∃ d ∈ L, d.name = s := by unfold hasD; simp
theorem delD_none {L : List Due} {s : ByteArray} (h : hasD L s = false) : delD L s = L := by
  unfold delD
  rw [List.filter_eq_self]
  intro d hd
  have : ¬ d.name = s := fun hc => by
    have := hasD_iff.2 ⟨d, hd, hc⟩
    rw [h] at this; cases this
  simpa using this
theorem QI.keys {es : List Ent} {M : TabS} {L : List Due} (h : QI es M L) : (M.map (·.1)).Nodup := by
  have h1 : (M.map (·.1.val)).Perm (L.map (·.name)) := by
    have a := h.map.map (·.1)
    have b := (h.perm.map (·.name)).symm
    rw [List.map_map] at a b
    rw [List.map_map] at a
    exact a.trans b
  have h2 : (M.map (·.1.val)).Nodup := h1.nodup_iff.2 h.nodup
  have h3 : (M.map (·.1.val)) = (M.map (·.1)).map (·.val) := by rw [List.map_map]; rfl
  rw [h3] at h2
  exact (List.pairwise_map.1 h2).imp fun hne he => hne (by rw [he])
theorem QI.look {es : List Ent} {M : TabS} {L : List Due} (h : QI es M L) {k : Str} {c : Nat} (hl : alook M k = some c) : ∃ (i : Nat) (e : Ent), es[i]? = some e ∧ e.1 = c ∧ e.2.due.name = k.val ∧ e.2.place = (i : Int) ∧ e.2.due ∈ L := by
  have h1 : (k.val, c) ∈ M.map fun e => (e.1.val, e.2) := List.mem_map.2 ⟨_, alook_some hl, rfl⟩
  obtain ⟨e, he, h2⟩ := List.mem_map.1 (h.map.subset h1)
  simp only [nameB, Prod.mk.injEq] at h2
  obtain ⟨i, hi⟩ := List.getElem?_of_mem he
  exact ⟨i, e, hi, h2.2, h2.1, h.placed i e hi, h.perm.symm.subset (List.mem_map.2 ⟨e, he, rfl⟩)⟩
theorem QI.look_none {es : List Ent} {M : TabS} {L : List Due} (h : QI es M L) {k : Str} (hl : alook M k = none) : hasD L k.val = false := by
  refine Bool.eq_false_iff.2 fun hh => ?_
  obtain ⟨d, hd, hn⟩ := hasD_iff.1 hh
  obtain ⟨e, he, rfl⟩ := List.mem_map.1 (h.perm.subset hd)
  obtain ⟨m, hm, h2⟩ := List.mem_map.1 (h.map.symm.subset (List.mem_map.2 ⟨e, he, rfl⟩))
  simp only [nameB, Prod.mk.injEq] at h2
  exact alook_none.1 hl m hm (Subtype.ext (h2.1.trans hn))
theorem has_of {L : List Due} {d : Due} (hd : d ∈ L) : hasD L d.name = true := hasD_iff.2 ⟨d, hd, rfl⟩
theorem name_inj {L : List Due} (hn : (L.map (·.name)).Nodup) {a b : Due} (ha : a ∈ L) (hb : b ∈ L) (h : a.name = b.name) : a = b := by
  induction L with
  | nil => cases ha
  | cons x L ih =>
    rw [List.map_cons, List.nodup_cons] at hn
    rcases List.mem_cons.1 ha with e1 | a2
    · rcases List.mem_cons.1 hb with e2 | b2
      · rw [e1, e2]
      · exact absurd (List.mem_map.2 ⟨b, b2, by rw [← h, e1]⟩) hn.1
    · rcases List.mem_cons.1 hb with e2 | b2
      · exact absurd (List.mem_map.2 ⟨a, a2, by rw [h, e2]⟩) hn.1
      · exact ih hn.2 a2 b2
theorem at_some {L : List Due} (hn : (L.map (·.name)).Nodup) {d : Due} (hd : d ∈ L) : atD L d.name = some d.at_ := by
  unfold atD
  cases hf : L.find? fun x => decide (x.name = d.name) with
  | none =>
    have := List.find?_eq_none.1 hf d hd
    simp at this
  | some x =>
    have h1 := List.mem_of_find?_eq_some hf
    have h2 := List.find?_some hf
    simp only [decide_eq_true_eq] at h2
    rw [name_inj hn h1 hd h2]; rfl
theorem at_none {L : List Due} {s : ByteArray} (h : hasD L s = false) : atD L s = none := by
  unfold atD
  rw [Option.map_eq_none_iff, List.find?_eq_none]
  intro d hd
  have : ¬ d.name = s := fun hc => by
    have := hasD_iff.2 ⟨d, hd, hc⟩
    rw [h] at this; cases this
  simpa using this
theorem due_uniq {L L2 : List Due} (h1 : L.Pairwise fun a b => cmpDue a b < 0) (h2 : L2.Pairwise fun a b => ¬ cmpDue b a < 0) (hp : L2.Perm L) : L2 = L := by
  refine List.Perm.eq_of_pairwise (le := fun a b => ¬ cmpDue b a < 0) (fun a b _ _ h3 h4 => ?_) h2 (h1.imp fun {a b} hab hba => ?_) hp
  · refine (totD.eq _ _).1 ?_
    by_cases h5 : cmpDue a b < 0
    · exact absurd h5 h4
    · by_cases h6 : 0 < cmpDue a b
      · exact absurd ((totD.neg b a).2 h6) h3
      · omega
  · have := (totD.neg a b).1 hab
    omega
theorem one_out {α : Type} {es : List α} {i : Nat} {x : α} (hi : es[i]? = some x) : ∃ rest, es.Perm (x :: rest) ∧ ∀ x', (es.set i x').Perm (x' :: rest) := by
  obtain ⟨h1, e1⟩ := List.getElem?_eq_some_iff.1 hi
  refine ⟨es.take i ++ es.drop (i + 1), ?_, fun x' => ?_⟩
  · have : es = es.take i ++ x :: es.drop (i + 1) := by
      rw [← e1, ← List.drop_eq_getElem_cons h1, List.take_append_drop]
    conv => lhs; rw [this]
    exact List.perm_middle
  · rw [List.set_eq_take_append_cons_drop, if_pos h1]
    exact List.perm_middle
/-- What is left without a name. -/
theorem del_rest {L : List Due} {d : Due} {rest : List Due} (hn : (L.map (·.name)).Nodup) (hp : L.Perm (d :: rest)) : (delD L d.name).Perm rest := by
  unfold delD
  have hp2 := hp.filter fun x => decide (x.name ≠ d.name)
  refine hp2.trans ?_
  rw [List.filter_cons, if_neg (by simp)]
  have hn2 : ((d :: rest).map (·.name)).Nodup := (hp.map _).nodup_iff.1 hn
  rw [List.map_cons, List.nodup_cons] at hn2
  rw [List.filter_eq_self.2 fun x hx => by
    have : x.name ≠ d.name := fun hc => hn2.1 (List.mem_map.2 ⟨x, hx, hc⟩)
    simpa using this]
theorem del_sort {L : List Due} {s : ByteArray} (h : L.Pairwise fun a b => cmpDue a b < 0) : (delD L s).Pairwise fun a b => cmpDue a b < 0 := h.filter _
theorem del_nodup {L : List Due} {s : ByteArray} (h : (L.map (·.name)).Nodup) : ((delD L s).map (·.name)).Nodup := h.sublist (List.filter_sublist.map _)
theorem del_len (L : List Due) (s : ByteArray) : (delD L s).length ≤ L.length := List.length_filter_le _ _
theorem set_facts {L : List Due} (h1 : L.Pairwise fun a b => cmpDue a b < 0) (h2 : (L.map (·.name)).Nodup) (s : ByteArray) (t : Int) : (setD L s t).Pairwise (fun a b => cmpDue a b < 0) ∧ ((setD L s t).map (·.name)).Nodup := by
  have hno : ∀ x ∈ delD L s, x.name ≠ s := fun x hx => by
    have := (List.mem_filter.1 hx).2
    simpa using this
  constructor
  · exact insD_sort (del_sort h1) fun x hx he => hno x hx (by rw [he])
  · have hp := (insD_perm ⟨s, t⟩ (delD L s)).map (·.name)
    refine hp.nodup_iff.2 ?_
    rw [List.map_cons, List.nodup_cons]
    refine ⟨fun hc => ?_, del_nodup h2⟩
    obtain ⟨x, hx, hn⟩ := List.mem_map.1 hc
    exact hno x hx hn
theorem set_len (L : List Due) (s : ByteArray) (t : Int) : (setD L s t).length = (delD L s).length + 1 := (insD_perm _ _).length_eq
def setE (es : List Ent) (i : Nat) (e : Ent) (t : Int) : List Ent := es.set i (e.1, { e.2 with due := { e.2.due with at_ := t } })
theorem setE_at {es : List Ent} {i : Nat} {e : Ent} (hi : es[i]? = some e) (t : Int) : (setE es i e t)[i]? = some (e.1, { e.2 with due := { e.2.due with at_ := t } }) ∧ ∀ m, m ≠ i → (setE es i e t)[m]? = es[m]? := by
  unfold setE
  exact ⟨List.getElem?_set_self (List.getElem?_eq_some_iff.1 hi).1, fun m hm => List.getElem?_set_ne (Ne.symm hm)⟩
theorem setE_len (es : List Ent) (i : Nat) (e : Ent) (t : Int) : (setE es i e t).length = es.length := by unfold setE; exact List.length_set
theorem setE_bs {es : List Ent} {i : Nat} {e : Ent} (hi : es[i]? = some e) (t : Int) : bsOf (setE es i e t) = bsOf es := by
  unfold bsOf setE
  rw [List.map_set]
  apply List.ext_getElem?
  intro m
  by_cases h : i = m
  · subst h
    rw [List.getElem?_set_self (by rw [List.length_map]; exact (List.getElem?_eq_some_iff.1 hi).1), List.getElem?_map, hi]; rfl
  · rw [List.getElem?_set_ne h]
theorem setE_placed {es : List Ent} {i : Nat} {e : Ent} (h : PlacedE es) (hi : es[i]? = some e) (t : Int) : PlacedE (setE es i e t) := by
  obtain ⟨h1, h2⟩ := setE_at hi t
  intro m x hx
  by_cases hm : m = i
  · subst hm; rw [h1] at hx; cases hx; exact h m e hi
  · rw [h2 m hm] at hx; exact h m x hx
theorem fix_dn {es : List Ent} {i : Nat} {e : Ent} (h : HeapO es.length (fD es)) (hi : es[i]? = some e) (t : Int) : DnP (setE es i e t).length (fD (setE es i e t)) i False := by
  obtain ⟨h1, h2⟩ := setE_at hi t
  have hf : ∀ m, m ≠ i → fD (setE es i e t) m = fD es m := fun m hm => by unfold fD; rw [h2 m hm]
  rw [setE_len]
  constructor
  · intro c c0 cn hc hci
    have hci2 : c ≠ i := by rcases hci with h | h; exact h; exact h.elim
    rw [hf _ hc, hf _ hci2]
    exact h c c0 cn
  · intro c c0 cn hc hi0
    have hp := par_lt hi0
    have hcp := par_lt c0
    rw [hf (par i) (by omega), hf c (by omega)]
    have h3 := h i hi0 (by omega)
    have h4 := h c c0 cn
    rw [hc] at h4
    exact h3.trans h4
theorem QI.set_old {es es2 : List Ent} {M : TabS} {L : List Due} (h : QI es M L) {i : Nat} {e : Ent} (hi : es[i]? = some e) {t : Int} (hk : KeepE (setE es i e t).length (setE es i e t) es2) (hh : HeapO (setE es i e t).length (fD es2)) : QI es2 M (setD L e.2.due.name t) := by
  have hd : e.2.due ∈ L := h.perm.symm.subset (List.mem_map.2 ⟨e, List.mem_of_getElem? hi, rfl⟩)
  obtain ⟨rest, hp1, hp2⟩ := one_out hi
  have hp3 := hp2 (e.1, { e.2 with due := { e.2.due with at_ := t } })
  obtain ⟨s1, s2⟩ := set_facts h.sort h.nodup e.2.due.name t
  have hdr := del_rest (rest := rest.map (·.2.due)) h.nodup (h.perm.trans (hp1.map (·.2.due)))
  refine ⟨hk.placed, by rw [hk.len]; exact hh, ?_, ?_, s1, s2, ?_⟩
  · have a : (es2.map nameB).Perm ((setE es i e t).map nameB) := by
      have := hk.perm.map fun x : Nat × Due => (x.2.name, x.1)
      rw [List.map_map, List.map_map] at this
      exact this
    have b : ((setE es i e t).map nameB).Perm (es.map nameB) := (hp3.map nameB).trans (hp1.map nameB).symm
    exact h.map.trans (a.trans b).symm
  · have a : (es2.map (·.2.due)).Perm ((setE es i e t).map (·.2.due)) := by
      have := hk.perm.map (·.2)
      rw [List.map_map, List.map_map] at this
      exact this
    refine (insD_perm _ _).trans ?_
    refine (List.Perm.cons _ hdr).trans ?_
    exact ((hp3.map (·.2.due)).symm.trans a.symm)
  · rw [set_len, hdr.length_eq]
    have := (h.perm.trans (hp1.map (·.2.due))).length_eq
    simp only [List.map_cons, List.length_cons] at this
    have := h.len
    omega
theorem QI.set_new {es es2 : List Ent} {M : TabS} {L : List Due} (h : QI es M L) {k : Str} (hl : alook M k = none) {t : Int} {c0 : Nat} {p : Int} (hn : es.length < 4096) (hk : KeepE (es.length + 1) (es ++ [((c0, ⟨⟨k.val, t⟩, p⟩) : Ent)]) es2) (hh : HeapO (es.length + 1) (fD es2)) : QI es2 (aset M k c0) (setD L k.val t) := by
  have hno := h.look_none hl
  obtain ⟨s1, s2⟩ := set_facts h.sort h.nodup k.val t
  have hlen := h.length
  refine ⟨hk.placed, by rw [hk.len]; simpa using hh, ?_, ?_, s1, s2, ?_⟩
  · have a : (es2.map nameB).Perm ((es ++ [((c0, ⟨⟨k.val, t⟩, p⟩) : Ent)]).map nameB) := by
      have := hk.perm.map fun x : Nat × Due => (x.2.name, x.1)
      rw [List.map_map, List.map_map] at this
      exact this
    rw [aset_none hl]
    refine List.Perm.trans ?_ a.symm
    simp only [List.map_append, List.map_cons, List.map_nil]
    exact List.Perm.append_right _ h.map
  · have a : (es2.map (·.2.due)).Perm ((es ++ [((c0, ⟨⟨k.val, t⟩, p⟩) : Ent)]).map (·.2.due)) := by
      have := hk.perm.map (·.2)
      rw [List.map_map, List.map_map] at this
      exact this
    refine (insD_perm _ _).trans (List.Perm.trans ?_ a.symm)
    rw [delD_none hno]
    simp only [List.map_append, List.map_cons, List.map_nil]
    exact (List.Perm.cons _ h.perm).trans (List.perm_append_comm (l₁ := [(⟨k.val, t⟩ : Due)]) (l₂ := es.map fun x : Ent => x.2.due))
  · rw [set_len, delD_none hno]
    omega
theorem QI.del {es es2 : List Ent} {M : TabS} {L : List Due} (h : QI es M L) {k : Str} {c i : Nat} {e : Ent} (hl : alook M k = some c) (hi : es[i]? = some e) (hc : e.1 = c) (hnm : e.2.due.name = k.val) (hp : (coreE e :: es2.map coreE).Perm (es.map coreE)) (hpl : PlacedE es2) (hh : HeapO es2.length (fD es2)) : QI es2 (adel M k) (delD L k.val) := by
  obtain ⟨A, B, rfl, hA⟩ := alook_split hl
  rw [adel_split hA]
  have hd2 : (e.2.due :: es2.map (·.2.due)).Perm (es.map (·.2.due)) := by
    have := hp.map (·.2)
    simp only [List.map_cons, List.map_map] at this
    exact this
  have hn2 : ((e.2.due.name, e.1) :: es2.map nameB).Perm (es.map nameB) := by
    have := hp.map fun x : Nat × Due => (x.2.name, x.1)
    simp only [List.map_cons, List.map_map] at this
    exact this
  have hdr := del_rest (rest := es2.map (·.2.due)) h.nodup (h.perm.trans hd2.symm)
  rw [hnm] at hdr
  refine ⟨hpl, hh, ?_, hdr, del_sort h.sort, del_nodup h.nodup, Nat.le_trans (del_len _ _) h.len⟩
  have h3 := h.map.trans hn2.symm
  simp only [List.map_append, List.map_cons] at h3
  rw [hnm, hc] at h3
  have h4 := (List.perm_middle (l₁ := A.map fun e : Str × Nat => (e.1.val, e.2)) (l₂ := B.map fun e : Str × Nat => (e.1.val, e.2)) (a := (k.val, c))).symm.trans h3
  rw [List.map_append]
  exact h4.cons_inv
/-- The first one of the heap is the first one of the list. -/
theorem heap_root {n : Nat} {f : Nat → Due} (h : HeapO n f) : ∀ i, i < n → leD (f 0) (f i) := by
  intro i
  induction i using Nat.strongRecOn with
  | ind i ih =>
    intro hi
    by_cases h0 : i = 0
    · subst h0; unfold leD; rw [(totD.eq _ _).2 rfl]; omega
    · have hp := par_lt (c := i) (by omega)
      exact (ih (par i) hp (by omega)).trans (h i (by omega) hi)
theorem QI.head {es : List Ent} {M : TabS} {L : List Due} (h : QI es M L) {e : Ent} (he : es[0]? = some e) : ∃ L2, L = e.2.due :: L2 := by
  cases L with
  | nil =>
    have := h.length
    have h2 := (List.getElem?_eq_some_iff.1 he).1
    simp at this; omega
  | cons d L2 =>
    refine ⟨L2, ?_⟩
    have h1 := (List.pairwise_cons.1 h.sort).1
    have hd : d ∈ es.map (·.2.due) := h.perm.subset List.mem_cons_self
    obtain ⟨x, hx, hxd⟩ := List.mem_map.1 hd
    obtain ⟨i, hi⟩ := List.getElem?_of_mem hx
    have hr := heap_root h.heap i (List.getElem?_eq_some_iff.1 hi).1
    rw [fD_get he, fD_get hi, hxd] at hr
    have hem : e.2.due ∈ d :: L2 := h.perm.symm.subset (List.mem_map.2 ⟨e, List.mem_of_getElem? he, rfl⟩)
    rcases List.mem_cons.1 hem with h2 | h2
    · rw [h2]
    · exact absurd (h1 _ h2) hr
theorem del_head {d : Due} {L : List Due} (hn : ((d :: L).map (·.name)).Nodup) : delD (d :: L) d.name = L := by
  unfold delD
  rw [List.filter_cons, if_neg (by simp)]
  rw [List.map_cons, List.nodup_cons] at hn
  exact List.filter_eq_self.2 fun x hx => by
    have : x.name ≠ d.name := fun hc => hn.1 (List.mem_map.2 ⟨x, hx, hc⟩)
    simpa using this
/-- A list that is put in, from its first one on. -/
theorem set_last {L : List Due} {d : Due} (h : (L ++ [d]).Pairwise fun a b => cmpDue a b < 0) (hn : ((L ++ [d]).map (·.name)).Nodup) : setD L d.name d.at_ = L ++ [d] := by
  have hno : hasD L d.name = false := Bool.eq_false_iff.2 fun hh => by
    obtain ⟨x, hx, he⟩ := hasD_iff.1 hh
    rw [List.map_append, List.nodup_append] at hn
    exact hn.2.2 _ (List.mem_map.2 ⟨x, hx, rfl⟩) _ (by simp) he
  unfold setD
  rw [delD_none hno]
  show insD d L = L ++ [d]
  have key : ∀ L : List Due, (∀ x ∈ L, cmpDue x d < 0) → insD d L = L ++ [d] := by
    intro L
    induction L with
    | nil => intro _; rfl
    | cons x L ih =>
      intro hx
      unfold insD
      have h1 := hx x List.mem_cons_self
      have h2 := (totD.neg x d).1 h1
      rw [if_neg (by omega), ih fun y hy => hx y (List.mem_cons_of_mem _ hy)]
      rfl
  exact key L fun x hx => (List.pairwise_append.1 h).2.2 x hx d (by simp)
end Slb
