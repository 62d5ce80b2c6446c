/- R22: a part of the proof that a law of this package holds for every input; no condition. -/
import Derived.Test.YtfjmefldilponaaR21
namespace Slb
open Go Go.Proofs
set_option maxRecDepth 20000
theorem good_map {now mx : Int} {M : TabR} {f : Route → Route} (h : GoodR now mx M) (hk : ∀ s, keyR (f s) = keyR s) (hh : ∀ s, (f s).hold = s.hold) (hu : ∀ s, (f s).until_ = s.until_) : GoodR now mx (mapM f M) := by
  refine ⟨fun e he => ?_, fun e he => ?_, fun e he => ?_⟩
  all_goals obtain ⟨e', he', rfl⟩ := List.mem_map.1 he
  · show e'.1 = keyR (f e'.2)
    rw [hk]; exact h.keyed e' he'
  · show 1 ≤ (f e'.2).hold ∧ (f e'.2).hold ≤ mx
    rw [hh]; exact h.hold e' he'
  · show 0 ≤ (f e'.2).until_ ∧ (f e'.2).until_ ≤ now + mx
    rw [hu]; exact h.till e' he'
theorem good_filter {now mx : Int} {M : TabR} (h : GoodR now mx M) (p : RouteKey × Route → Bool) : GoodR now mx (M.filter p) :=
  ⟨fun e he => h.keyed e (List.mem_filter.1 he).1, fun e he => h.hold e (List.mem_filter.1 he).1, fun e he => h.till e (List.mem_filter.1 he).1⟩
theorem good_uns {now mx : Int} {M : TabR} (h : GoodR now mx M) (xs : List Pair) : GoodR now mx (mapM (unsR xs) M) :=
  good_map h (uns_key xs) (fun s => by unfold unsR; split <;> rfl) (fun s => by unfold unsR; split <;> rfl)
theorem good_sel {now mx : Int} {M : TabR} (h : GoodR now mx M) (p : Pair) (j : I64) (fr : Bs 16) : GoodR now mx (selM M p j fr) := by
  unfold selM
  cases h0 : alook M ⟨p, j, fr⟩ with
  | none => exact h
  | some s =>
    have hm := alook_some h0
    have hk : (⟨p, j, fr⟩ : RouteKey) = keyR s := h.keyed _ hm
    have h1 := good_uns h [p]
    have hh : (unsR [p] s).hold = s.hold := by unfold unsR; split <;> rfl
    have hu : (unsR [p] s).until_ = s.until_ := by unfold unsR; split <;> rfl
    have := h1.set { unsR [p] s with selected := true } (by show 1 ≤ (unsR [p] s).hold ∧ (unsR [p] s).hold ≤ mx; rw [hh]; exact h.hold _ hm) (by show 0 ≤ (unsR [p] s).until_ ∧ (unsR [p] s).until_ ≤ now + mx; rw [hu]; exact h.till _ hm)
    rw [show keyR { unsR [p] s with selected := true } = ⟨p, j, fr⟩ from (uns_key [p] s).trans hk.symm] at this
    exact this
theorem good_tick {now mx : Int} {M : TabR} (h : GoodR now mx M) (hn : 0 ≤ now) : GoodR now mx (tickM now M) := by
  rw [tickM_eq]
  have h1 := good_filter h fun e => !goneR now e.2
  refine ⟨fun e he => ?_, fun e he => ?_, fun e he => ?_⟩
  all_goals obtain ⟨e', he', rfl⟩ := List.mem_map.1 he
  · show e'.1 = keyR (agedR now e'.2)
    rw [aged_key]; exact h1.keyed e' he'
  · have := h1.hold e' he'
    show 1 ≤ (agedR now e'.2).hold ∧ (agedR now e'.2).hold ≤ mx
    unfold agedR; split <;> exact this
  · have h2 := h1.hold e' he'
    have h3 := h1.till e' he'
    show 0 ≤ (agedR now e'.2).until_ ∧ (agedR now e'.2).until_ ≤ now + mx
    unfold agedR; split
    · rename_i hx
      simp only [expR, Bool.and_eq_true, decide_eq_true_eq] at hx
      simp only; omega
    · exact h3
theorem act_good {now : Int} {most : Int} {M : TabR} (h : GoodR now 2147483648 M) (hn : 0 ≤ now) (x : Law16Act) : GoodR now 2147483648 (actM most M now x) := by
  unfold actM
  repeat' split
  · exact (good_tell h hn x.r x.ok (by split <;> omega)).1
  · exact good_retr h hn _ _
  · exact good_rec h
  · exact good_sel h _ _ _
  · exact good_uns h _
  · exact good_tick h hn
  · exact good_filter h _
  · exact good_filter h _
  · exact h
theorem sel_len (M : TabR) (p : Pair) (j : I64) (fr : Bs 16) : (selM M p j fr).length = M.length := by
  unfold selM
  cases h0 : alook M ⟨p, j, fr⟩ with
  | none => rfl
  | some s =>
    simp only
    rw [len_aset, if_pos (by unfold mapM; rw [alook_map, h0]; simp), mapM_len]
theorem tick_len (now : Int) (M : TabR) : (tickM now M).length ≤ M.length := by
  rw [tickM_eq, mapM_len]; exact List.length_filter_le _ _
theorem act_len {now : Int} {most : Int} {M : TabR} (x : Law16Act) (hm : (M.length : Int) ≤ most) : ((actM most M now x).length : Int) ≤ most ∧ (actM most M now x).length ≤ M.length + 1 := by
  unfold actM
  repeat' split
  · unfold tellF
    cases h0 : alook M (keyR x.r) with
    | some s => simp only; rw [len_aset, if_pos (by rw [h0]; simp)]; omega
    | none =>
      simp only
      unfold tellNew
      split
      · simp only [Bool.false_eq_true, if_false]; omega
      · split
        · simp only [Bool.false_eq_true, if_false]; omega
        · split
          · simp only [Bool.false_eq_true, if_false]; omega
          · simp only [if_true]; rw [len_aset]; split <;> omega
  · rw [mapM_len]; omega
  · rw [mapM_len]; omega
  · rw [sel_len]; omega
  · rw [mapM_len]; omega
  · have := tick_len now M; omega
  · have := List.length_filter_le (fun e : RouteKey × Route => !dropP x.r.if_.val [] e.2) M; omega
  · have := List.length_filter_le (fun e : RouteKey × Route => !dropP x.r.if_.val [x.r.from_] e.2) M; omega
  · omega
/-- Of a pair at most one is selected. -/
def OneSel (M : TabR) : Prop := ∀ e ∈ M, ∀ e' ∈ M, e.2.selected = true → e'.2.selected = true → e.2.pair = e'.2.pair → e.1 = e'.1
theorem one_sub {M M' : TabR} (h : OneSel M) (hs : ∀ e ∈ M', ∃ e' ∈ M, e'.1 = e.1 ∧ (e.2.selected = true → e'.2.selected = true) ∧ e'.2.pair = e.2.pair) : OneSel M' := fun e he e' he' h1 h2 h3 => by
  obtain ⟨a, ha, k1, s1, p1⟩ := hs e he
  obtain ⟨b, hb, k2, s2, p2⟩ := hs e' he'
  rw [← k1, ← k2]
  exact h a ha b hb (s1 h1) (s2 h2) (by rw [p1, p2, h3])
theorem one_map {M : TabR} {f : Route → Route} (h : OneSel M) (hs : ∀ s, (f s).selected = true → s.selected = true) (hp : ∀ s, (f s).pair = s.pair) : OneSel (mapM f M) := one_sub h fun e he => by
  obtain ⟨e', he', rfl⟩ := List.mem_map.1 he
  exact ⟨e', he', rfl, hs _, (hp _).symm⟩
theorem one_filter {M : TabR} (h : OneSel M) (p : RouteKey × Route → Bool) : OneSel (M.filter p) := one_sub h fun e he => ⟨e, (List.mem_filter.1 he).1, rfl, id, rfl⟩
theorem one_uns {M : TabR} (h : OneSel M) (xs : List Pair) : OneSel (mapM (unsR xs) M) := one_map h (fun s hs => by unfold unsR at hs; split at hs; exact absurd hs (by simp); exact hs) (fun s => by unfold unsR; split <;> rfl)
theorem uns_none {p : Pair} {s : Route} (h1 : (unsR [p] s).selected = true) : s.pair ≠ p := fun hp => by
  unfold unsR unsP at h1
  simp only [hp, List.mem_singleton, decide_true, Bool.and_true] at h1
  split at h1
  · exact absurd h1 (by simp)
  · rename_i h2; exact h2 h1
theorem one_sel {now mx : Int} {M : TabR} (h : OneSel M) (hg : GoodR now mx M) (p : Pair) (j : I64) (fr : Bs 16) : OneSel (selM M p j fr) := by
  unfold selM
  cases h0 : alook M ⟨p, j, fr⟩ with
  | none => exact h
  | some s =>
    have hk : (⟨p, j, fr⟩ : RouteKey) = keyR s := hg.keyed _ (alook_some h0)
    have hsp : (unsR [p] s).pair = p := by
      have : (unsR [p] s).pair = s.pair := by unfold unsR; split <;> rfl
      rw [this]; exact (congrArg RouteKey.p hk).symm
    have h1 := one_uns h [p]
    have hno : ∀ e ∈ mapM (unsR [p]) M, e.2.selected = true → e.2.pair ≠ p := fun e he hs => by
      obtain ⟨e', he', rfl⟩ := List.mem_map.1 he
      have := uns_none hs
      have e2 : (unsR [p] e'.2).pair = e'.2.pair := by unfold unsR; split <;> rfl
      show (unsR [p] e'.2).pair ≠ p
      rw [e2]; exact this
    intro e he e' he' s1 s2 hp
    rcases mem_aset he with rfl | he <;> rcases mem_aset he' with rfl | he'
    · rfl
    · exact absurd (hp.symm.trans hsp) (hno e' he' s2)
    · exact absurd (hp.trans hsp) (hno e he s1)
    · exact h1 e he e' he' s1 s2 hp
theorem one_set {M : TabR} (h : OneSel M) (hn : (M.map (·.1)).Nodup) {k : RouteKey} {s s' : Route} (h0 : alook M k = some s) (hs : s'.selected = true → s.selected = true) (hp : s'.pair = s.pair) : OneSel (aset M k s') := one_sub h fun e he => by
  rcases mem_aset he with rfl | he
  · exact ⟨(k, s), alook_some h0, rfl, hs, hp.symm⟩
  · exact ⟨e, he, rfl, id, rfl⟩
theorem one_new {M : TabR} (h : OneSel M) {k : RouteKey} {s' : Route} (hs : s'.selected = false) : OneSel (aset M k s') := by
  intro e he e' he' s1 s2 hp
  rcases mem_aset he with rfl | he <;> rcases mem_aset he' with rfl | he'
  · rfl
  · exact absurd s1 (by simp [hs])
  · exact absurd s2 (by simp [hs])
  · exact h e he e' he' s1 s2 hp
theorem act_one {now : Int} {most : Int} {M : TabR} (h : OneSel M) (hn : (M.map (·.1)).Nodup) (hg : GoodR now 2147483648 M) (x : Law16Act) : OneSel (actM most M now x) := by
  unfold actM
  repeat' split
  · unfold tellF
    cases h0 : alook M (keyR x.r) with
    | some s =>
      simp only
      refine one_set h hn h0 ?_ ?_
      · unfold tellOld; intro hs
        split at hs
        · exact hs
        · split at hs
          · exact hs
          · split at hs <;> exact hs
      · unfold tellOld
        split
        · rfl
        · split
          · rfl
          · split <;> rfl
    | none =>
      simp only
      split
      · exact one_new h rfl
      · exact h
  · exact one_map h (fun s hs => by unfold retrR at hs; split at hs <;> exact hs) (fun s => by unfold retrR; split <;> rfl)
  · exact one_map h (fun s hs => hs) (fun s => rfl)
  · exact one_sel h hg _ _ _
  · exact one_uns h _
  · rw [tickM_eq]
    exact one_map (one_filter h _) (fun s hs => by unfold agedR at hs; split at hs <;> exact hs) (fun s => by unfold agedR; split <;> rfl)
  · exact one_filter h _
  · exact one_filter h _
  · exact h
theorem one_list {M : TabR} {L : List Route} (h : OneSel M) (ho : OrdR M L) {i j : Nat} {y z : Route} (hi : L[i]? = some y) (hj : L[j]? = some z) (hij : j < i) (h1 : y.selected = true) (h2 : z.selected = true) : y.pair ≠ z.pair := fun hp => by
  have hy := List.mem_map.1 (ho.perm.subset (List.mem_of_getElem? hi))
  have hz := List.mem_map.1 (ho.perm.subset (List.mem_of_getElem? hj))
  obtain ⟨e, he, rfl⟩ := hy
  obtain ⟨e', he', rfl⟩ := hz
  have hk := h e he e' he' h1 h2 hp
  rw [ho.keyed e he, ho.keyed e' he'] at hk
  have hyz := ho.inj (List.mem_of_getElem? hi) (List.mem_of_getElem? hj) hk
  rw [← hyz] at hj
  have := (List.getElem?_inj (List.getElem?_eq_some_iff.1 hi).1 (ho.nodupL keyCmpR)).1 (hi.trans hj.symm)
  omega
end Slb
