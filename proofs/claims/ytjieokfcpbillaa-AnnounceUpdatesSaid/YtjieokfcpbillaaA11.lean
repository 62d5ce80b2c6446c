/- A11: a part of the proof that a law of this package holds for every input; no condition. -/
import Derived.Test.YtjieokfcpbillaaA9
namespace Slb
open Go Go.Proofs
set_option maxRecDepth 20000
/-- What a law's own book of pairs becomes by a Tlv. -/
def updP (P : TabB) (t : Tlv) : TabB := aset P t.pair (decide (t.metric ≠ 65535))
structure Agree (M P : TabB) : Prop where
  mn : (M.map (·.1)).Nodup
  pn : (P.map (·.1)).Nodup
  mt : ∀ e ∈ M, e.2 = true
  iff : ∀ p, alook M p = some true ↔ alook P p = some true
theorem Agree.nil : Agree [] [] := ⟨by simp, by simp, by simp, fun _ => Iff.rfl⟩
theorem alook_asetB (M : TabB) (k k' : Pair) (v : Bool) : alook (aset M k v) k' = if k = k' then some v else alook M k' := by
  split
  · rename_i h; subst h; exact alook_aset_self _ _ _
  · rename_i h; exact alook_aset_ne h
theorem mem_adelB {M : TabB} {k : Pair} {e : Pair × Bool} (h : e ∈ adel M k) : e ∈ M := by
  cases hq : alook M k with
  | none => rw [adel_none hq] at h; exact h
  | some v =>
    obtain ⟨A, B, rfl, hA⟩ := alook_split hq
    rw [adel_split hA] at h
    rcases List.mem_append.1 h with h | h
    · exact List.mem_append_left _ h
    · exact List.mem_append_right _ (List.mem_cons_of_mem _ h)
theorem alook_adel_self {M : TabB} (hn : (M.map (·.1)).Nodup) (k : Pair) : alook (adel M k) k = none := by
  rw [adel_filter hn]
  exact alook_none.2 fun e he => by simpa using (List.mem_filter.1 he).2
theorem Agree.upd {M P : TabB} (h : Agree M P) (p : Pair) : Agree (aset (adel M p) p true) (aset P p true) := by
  refine ⟨nodup_set (nodup_adel h.mn p) _ _, nodup_set h.pn _ _, fun e he => ?_, fun q => ?_⟩
  · rcases mem_aset he with rfl | he
    · rfl
    · exact h.mt e (mem_adelB he)
  · rw [alook_asetB, alook_asetB]
    split
    · exact Iff.rfl
    · rename_i hne
      rw [alook_adel_ne hne]
      exact h.iff q
theorem Agree.back {M P : TabB} (h : Agree M P) (p : Pair) : Agree (adel M p) (aset P p false) := by
  refine ⟨nodup_adel h.mn p, nodup_set h.pn _ _, fun e he => h.mt e (mem_adelB he), fun q => ?_⟩
  rw [alook_asetB]
  split
  · rename_i he
    subst he
    rw [alook_adel_self h.mn]
    simp
  · rename_i hne
    rw [alook_adel_ne hne]
    exact h.iff q
theorem Agree.step {x : IfConf} {P0 : TabB} {s : TabB × List Tlv} (h : Agree s.1 (s.2.foldl updP P0)) (o : Offer) : Agree (tstep x s o).1 ((tstep x s o).2.foldl updP P0) := by
  unfold tstep
  split
  · rename_i hc
    rw [List.foldl_append]
    have : List.foldl updP (List.foldl updP P0 s.2) [updT x o] = aset (s.2.foldl updP P0) o.pair true := by
      show updP _ _ = _
      unfold updP
      rw [show (updT x o).pair = o.pair from rfl, decide_eq_true (show (updT x o).metric ≠ 65535 by show o.metric ≠ 65535; omega)]
    rw [this]
    exact h.upd o.pair
  · split
    · rw [List.foldl_append]
      have : List.foldl updP (List.foldl updP P0 s.2) [backT x o] = aset (s.2.foldl updP P0) o.pair false := by
        show updP _ _ = _
        unfold updP
        rw [show (backT x o).pair = o.pair from rfl, decide_eq_false (show ¬ (backT x o).metric ≠ 65535 by show ¬ (65535 : Int) ≠ 65535; decide)]
      rw [this]
      exact h.back o.pair
    · exact h
theorem Agree.fold {x : IfConf} {P0 : TabB} (os : List Offer) : ∀ {s : TabB × List Tlv}, Agree s.1 (s.2.foldl updP P0) → Agree (os.foldl (tstep x) s).1 ((os.foldl (tstep x) s).2.foldl updP P0) := by
  induction os with
  | nil => exact fun h => h
  | cons o os ih => exact fun h => ih (h.step o)
theorem adelB_len {M : TabB} (k : Pair) : (adel M k).length ≤ M.length := by
  cases hq : alook M k with
  | none => rw [adel_none hq]; exact Nat.le_refl _
  | some v => obtain ⟨A, B, rfl, hA⟩ := alook_split hq; rw [adel_split hA]; simp
theorem asetB_len {M : TabB} (k : Pair) (v : Bool) : (aset M k v).length ≤ M.length + 1 := by
  cases hq : alook M k with
  | none => rw [aset_none hq]; simp
  | some u => obtain ⟨A, B, rfl, hA⟩ := alook_split hq; rw [aset_split hA]; simp
theorem tfold_lenM (x : IfConf) (os : List Offer) : ∀ s : TabB × List Tlv, (os.foldl (tstep x) s).1.length ≤ s.1.length + os.length := by
  induction os with
  | nil => intro s; simp
  | cons o os ih =>
    intro s
    have h1 : (tstep x s o).1.length ≤ s.1.length + 1 := by
      unfold tstep
      split
      · have := adelB_len (M := s.1) o.pair
        have := asetB_len (M := adel s.1 o.pair) o.pair true
        simp only; omega
      · split
        · have := adelB_len (M := s.1) o.pair
          simp only; omega
        · exact Nat.le_succ _
    have h2 := ih (tstep x s o)
    simp only [List.foldl_cons, List.length_cons]
    omega
theorem Agree.count {M P : TabB} (h : Agree M P) : M.length = P.countP (·.2) := by
  rw [List.countP_eq_length_filter]
  have hp : (M.map (·.1)).Perm ((P.filter (·.2)).map (·.1)) := by
    refine (List.perm_ext_iff_of_nodup h.mn (List.Nodup.sublist (List.Sublist.map _ (List.filter_sublist)) h.pn)).2 fun p => ?_
    constructor
    · intro hp
      obtain ⟨e, he, rfl⟩ := List.mem_map.1 hp
      have h1 := alook_mem_of_nodup h.mn (k := e.1) (v := e.2) he
      rw [h.mt e he] at h1
      have h2 := alook_some ((h.iff _).1 h1)
      exact List.mem_map.2 ⟨(e.1, true), List.mem_filter.2 ⟨h2, rfl⟩, rfl⟩
    · intro hp
      obtain ⟨e, he, rfl⟩ := List.mem_map.1 hp
      obtain ⟨h1, h2⟩ := List.mem_filter.1 he
      have h3 := alook_mem_of_nodup h.pn (k := e.1) (v := e.2) h1
      rw [h2] at h3
      exact List.mem_map.2 ⟨_, alook_some ((h.iff _).2 h3), rfl⟩
  have := hp.length_eq
  simpa using this
theorem KeysOf.strict {M : TabB} {ks : List Pair} (h : KeysOf M ks) (hn : (M.map (·.1)).Nodup) : ks.Pairwise fun a b => cmpPair a b < 0 := by
  have hnd : ks.Nodup := (h.1.nodup_iff).2 hn
  have h2 := h.2
  refine List.Pairwise.imp₂ (fun {a b} hab hne => ?_) h2 hnd
  have h1 := totPair.eq a b
  have h3 := totPair.neg a b
  have h4 := totPair.neg b a
  by_cases hc : cmpPair a b = 0
  · exact absurd (h1.1 hc) hne
  · omega
theorem KeysOf.in {M P : TabB} (h : Agree M P) {ks : List Pair} (hk : KeysOf M ks) {p : Pair} (hp : p ∈ ks) : (p, true) ∈ P := by
  obtain ⟨e, he, rfl⟩ := List.mem_map.1 (hk.1.subset hp)
  have h1 := alook_mem_of_nodup h.mn (k := e.1) (v := e.2) he
  rw [h.mt e he] at h1
  exact alook_some ((h.iff _).1 h1)
theorem aset_at {P : TabB} {k : Nat} {p : Pair} {b c : Bool} (hk : P[k]? = some (p, c)) (hno : ∀ e ∈ P.take k, e.1 ≠ p) : aset P p b = P.set k (p, b) := by
  have hlt : k < P.length := (List.getElem?_eq_some_iff.1 hk).1
  have he : P[k] = (p, c) := (List.getElem?_eq_some_iff.1 hk).2
  have hP : P = P.take k ++ (p, c) :: P.drop (k + 1) := by rw [← he, ← List.drop_eq_getElem_cons hlt, List.take_append_drop]
  have h1 : aset P p b = P.take k ++ (p, b) :: P.drop (k + 1) := by
    conv => lhs; rw [hP]
    exact aset_split (alook_none.2 hno)
  rw [h1, List.set_eq_take_append_cons_drop, if_pos hlt]
theorem updP_len (P : TabB) (ts : List Tlv) : (ts.foldl updP P).length ≤ P.length + ts.length := by
  induction ts generalizing P with
  | nil => simp
  | cons t ts ih =>
    have h1 := ih (updP P t)
    have h2 : (updP P t).length ≤ P.length + 1 := asetB_len _ _
    simp only [List.foldl_cons, List.length_cons]
    omega
end Slb
