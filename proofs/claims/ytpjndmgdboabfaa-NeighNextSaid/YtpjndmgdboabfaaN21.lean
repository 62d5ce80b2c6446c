/- N21: a part of the proof that a law of this package holds for every input; no condition. -/
import Derived.Test.YtpjndmgdboabfaaN15
namespace Slb
open Go Go.Proofs
set_option maxRecDepth 20000
/-- A row's times lie not far ahead. -/
structure TimeS (now : Int) (s : Neighbour) : Prop where
  m : s.multiAt ≤ now + 2293725
  u : s.uniAt ≤ now + 2293725
  t : s.txAt ≤ now + 2293725
def TimeN (now : Int) (M : TabN) : Prop := ∀ e ∈ M, TimeS now e.2
theorem TimeN.mono {now now2 : Int} {M : TabN} (hn : now ≤ now2) (h : TimeN now M) : TimeN now2 M := fun e he => by
  obtain ⟨a, b, c⟩ := h e he
  exact ⟨by omega, by omega, by omega⟩
theorem helloAt_le {now iv : Int} (hn : 0 ≤ now) (h0 : 0 ≤ iv) (h1 : iv ≤ 65535) : helloAt now iv ≤ now + 2293725 := by
  unfold helloAt
  split <;> omega
theorem time_helloR {now : Int} {h : Tlv} {st : List Int} {s : Neighbour} (hn : 0 ≤ now) (hw : h.WF) (t : TimeS now s) : TimeS now (helloR now h st s) := by
  have hiv : 0 ≤ h.interval ∧ h.interval ≤ 65535 := hw.2.2.1
  have := helloAt_le hn hiv.1 hiv.2
  unfold helloR helloH stampN
  cases st <;> cases h.unicast <;> first | exact ⟨this, t.u, t.t⟩ | exact ⟨t.m, this, t.t⟩
theorem time_new {now : Int} (hn : 0 ≤ now) (j : I64) (fr : Bs 16) : TimeS now (newN j fr) := ⟨by show (0 : Int) ≤ _; omega, by show (0 : Int) ≤ _; omega, by show (0 : Int) ≤ _; omega⟩
theorem TimeN.set {now : Int} {M : TabN} (q : TimeN now M) (k : NeighKey) (s : Neighbour) (h : TimeS now s) : TimeN now (aset M k s) := fun e he => by
  rcases mem_aset he with rfl | he
  · exact h
  · exact q e he
theorem time_hello {nif : Nat} {most now : Int} {M : TabN} (hn : 0 ≤ now) (q : TimeN now M) (j : I64) (fr : Bs 16) {h : Tlv} (hw : h.WF) (st : List Int) : TimeN now (helloF nif most M now j fr h st).2 := by
  unfold helloF
  split
  · exact q
  · split
    · split
      · exact q
      · exact q.set _ _ (time_helloR hn hw (time_new hn j fr))
    · rename_i s h0
      exact q.set _ _ (time_helloR hn hw (q _ (alook_some h0)))
theorem time_ihu {nif : Nat} {now : Int} {M : TabN} (q : TimeN now M) (j : I64) (fr : Bs 16) {h : Tlv} (hw : h.WF) (rt : Int) (hr : Bool) : TimeN now (ihuF nif M now j fr h rt hr).2 := by
  have hiv : 0 ≤ h.interval ∧ h.interval ≤ 65535 := hw.2.2.1
  unfold ihuF
  split
  · exact q
  · split
    · exact q
    · rename_i s h0
      have hs := q _ (alook_some h0)
      exact q.set _ _ ⟨hs.m, hs.u, by show now + 35 * h.interval ≤ _; omega⟩
theorem time_tick {nif : Nat} {now : Int} {M : TabN} (g : GoodN nif M) (q : TimeN now M) : TimeN now (tickM now M) := fun e he => by
  obtain ⟨e', he', hg, rfl⟩ := mem_tick he
  have h1 := tick_multi now e'.2
  have h2 := tick_uni now e'.2
  have h3 := tick_tx now e'.2
  have hq := q e' he'
  have hr := g.rows e' he'
  refine ⟨?_, ?_, ?_⟩
  · show (tickR now e'.2).multiAt ≤ _
    rw [h1.2.1]
    have := late_le (h := e'.2.multi) (g := e'.2.multiGap) (a := e'.2.multiAt) (now := now)
    have a := hq.m
    have b := hr.mg.2
    split at this <;> omega
  · show (tickR now e'.2).uniAt ≤ _
    rw [h2.2.1]
    have := late_le (h := e'.2.uni) (g := e'.2.uniGap) (a := e'.2.uniAt) (now := now)
    have a := hq.u
    have b := hr.ug.2
    split at this <;> omega
  · show (tickR now e'.2).txAt ≤ _
    rw [h3.1]; exact hq.t
/-- What a tick leaves: nothing is due. -/
structure SettledS (now : Int) (s : Neighbour) : Prop where
  m : ¬ (0 < s.multiGap ∧ s.multi.bits ≠ 0 ∧ s.multiAt ≤ now)
  u : ¬ (0 < s.uniGap ∧ s.uni.bits ≠ 0 ∧ s.uniAt ≤ now)
  t : s.txAt ≤ now → s.tx = 65535
  b : or16 s.multi.bits s.uni.bits ≠ 0
def SettledN (now : Int) (M : TabN) : Prop := ∀ e ∈ M, SettledS now e.2
theorem settled_tick (now : Int) (M : TabN) : SettledN now (tickM now M) := fun e he => by
  obtain ⟨e', he', hg, rfl⟩ := mem_tick he
  have h1 := tick_multi now e'.2
  have h2 := tick_uni now e'.2
  have h3 := tick_tx now e'.2
  refine ⟨?_, ?_, ?_, ?_⟩
  · show ¬ (0 < (tickR now e'.2).multiGap ∧ (tickR now e'.2).multi.bits ≠ 0 ∧ (tickR now e'.2).multiAt ≤ now)
    rw [h1.1, h1.2.1, h1.2.2]; exact late_stop
  · show ¬ (0 < (tickR now e'.2).uniGap ∧ (tickR now e'.2).uni.bits ≠ 0 ∧ (tickR now e'.2).uniAt ≤ now)
    rw [h2.1, h2.2.1, h2.2.2]; exact late_stop
  · show (tickR now e'.2).txAt ≤ now → (tickR now e'.2).tx = 65535
    rw [h3.1, h3.2]; intro h; rw [if_pos h]
  · unfold goneN at hg
    exact of_decide_eq_false hg
def Ev (s : Neighbour) (t : Int) : Prop := (mOn s = true ∧ s.multiAt = t) ∨ (uOn s = true ∧ s.uniAt = t) ∨ (tOn s = true ∧ s.txAt = t)
theorem least_acc {acc : Int × Bool} {a : Int} {so : Bool} (h : acc.2 = true) : (leastF acc a so).2 = true ∧ (leastF acc a so).1 ≤ acc.1 := by
  unfold leastF
  split
  · rename_i hc
    rcases hc.2 with h2 | h2
    · rw [h] at h2; cases h2
    · exact ⟨rfl, by show a ≤ _; omega⟩
  · exact ⟨h, Int.le_refl _⟩
theorem least_new {acc : Int × Bool} {a : Int} {so : Bool} (h : so = true) : (leastF acc a so).2 = true ∧ (leastF acc a so).1 ≤ a := by
  unfold leastF
  split
  · exact ⟨rfl, Int.le_refl _⟩
  · rename_i hc
    cases h2 : acc.2 with
    | false => exact absurd ⟨h, .inl h2⟩ hc
    | true =>
      refine ⟨rfl, ?_⟩
      by_cases h3 : a < acc.1
      · exact absurd ⟨h, .inr h3⟩ hc
      · omega
theorem least_from {acc : Int × Bool} {a : Int} {so : Bool} (h : (leastF acc a so).2 = true) : (acc.2 = true ∧ (leastF acc a so).1 = acc.1) ∨ (so = true ∧ (leastF acc a so).1 = a) := by
  unfold leastF at h ⊢
  split
  · rename_i hc; exact .inr ⟨hc.1, rfl⟩
  · rename_i hc; rw [if_neg hc] at h; exact .inl ⟨h, rfl⟩
theorem nextS_acc {acc : Int × Bool} {s : Neighbour} (h : acc.2 = true) : (nextS acc s).2 = true ∧ (nextS acc s).1 ≤ acc.1 := by
  unfold nextS
  have h1 := least_acc (a := s.multiAt) (so := mOn s) h
  have h2 := least_acc (a := s.uniAt) (so := uOn s) h1.1
  have h3 := least_acc (a := s.txAt) (so := tOn s) h2.1
  exact ⟨h3.1, Int.le_trans h3.2 (Int.le_trans h2.2 h1.2)⟩
theorem nextS_ev {acc : Int × Bool} {s : Neighbour} {t : Int} (h : Ev s t) : (nextS acc s).2 = true ∧ (nextS acc s).1 ≤ t := by
  unfold nextS
  rcases h with ⟨h, rfl⟩ | ⟨h, rfl⟩ | ⟨h, rfl⟩
  · have h1 := least_new (acc := acc) (a := s.multiAt) h
    have h2 := least_acc (a := s.uniAt) (so := uOn s) h1.1
    have h3 := least_acc (a := s.txAt) (so := tOn s) h2.1
    exact ⟨h3.1, Int.le_trans h3.2 (Int.le_trans h2.2 h1.2)⟩
  · have h2 := least_new (acc := leastF acc s.multiAt (mOn s)) (a := s.uniAt) h
    have h3 := least_acc (a := s.txAt) (so := tOn s) h2.1
    exact ⟨h3.1, Int.le_trans h3.2 h2.2⟩
  · exact least_new h
theorem nextS_from {acc : Int × Bool} {s : Neighbour} (h : (nextS acc s).2 = true) : (acc.2 = true ∧ (nextS acc s).1 = acc.1) ∨ Ev s (nextS acc s).1 := by
  unfold nextS at h ⊢
  rcases least_from h with ⟨h1, e1⟩ | ⟨h1, e1⟩
  · rcases least_from h1 with ⟨h2, e2⟩ | ⟨h2, e2⟩
    · rcases least_from h2 with ⟨h3, e3⟩ | ⟨h3, e3⟩
      · exact .inl ⟨h3, e1.trans (e2.trans e3)⟩
      · exact .inr (.inl ⟨h3, (e1.trans (e2.trans e3)).symm⟩)
    · exact .inr (.inr (.inl ⟨h2, (e1.trans e2).symm⟩))
  · exact .inr (.inr (.inr ⟨h1, e1.symm⟩))
theorem fold_acc : ∀ {L : List Neighbour} {acc : Int × Bool}, acc.2 = true → (L.foldl nextS acc).2 = true ∧ (L.foldl nextS acc).1 ≤ acc.1
  | [], _, h => ⟨h, Int.le_refl _⟩
  | s :: L, acc, h => by
    have h1 := nextS_acc (s := s) h
    have h2 := fold_acc (L := L) h1.1
    exact ⟨h2.1, Int.le_trans h2.2 h1.2⟩
theorem fold_ev {L : List Neighbour} : ∀ {acc : Int × Bool} {s : Neighbour} {t : Int}, s ∈ L → Ev s t → (L.foldl nextS acc).1 ≤ t := by
  induction L with
  | nil => intro _ _ _ hs _; cases hs
  | cons x L ih =>
    intro acc s t hs he
    rcases List.mem_cons.1 hs with rfl | hs
    · have h1 := nextS_ev (acc := acc) he
      exact Int.le_trans (fold_acc (L := L) h1.1).2 h1.2
    · exact ih (acc := nextS acc x) hs he
theorem fold_from : ∀ {L : List Neighbour} {acc : Int × Bool}, (L.foldl nextS acc).2 = true → (acc.2 = true ∧ (L.foldl nextS acc).1 = acc.1) ∨ ∃ s ∈ L, Ev s (L.foldl nextS acc).1
  | [], _, h => .inl ⟨h, rfl⟩
  | x :: L, acc, h => by
    rcases fold_from (L := L) (acc := nextS acc x) h with ⟨h1, e1⟩ | ⟨s, hs, he⟩
    · rcases nextS_from h1 with ⟨h2, e2⟩ | h2
      · exact .inl ⟨h2, e1.trans e2⟩
      · exact .inr ⟨x, List.mem_cons_self, by
          show Ev x (L.foldl nextS (nextS acc x)).1
          rw [e1]; exact h2⟩
    · exact .inr ⟨s, List.mem_cons_of_mem _ hs, he⟩
theorem next_ev {L : List Neighbour} (h : (nextF L).2 = true) : ∃ s ∈ L, Ev s (nextF L).1 := by
  rcases fold_from h with ⟨h1, _⟩ | h1
  · cases h1
  · exact h1
theorem mOn_iff {s : Neighbour} : mOn s = true ↔ 0 < s.multiGap ∧ s.multi.bits ≠ 0 := by unfold mOn; simp
theorem uOn_iff {s : Neighbour} : uOn s = true ↔ 0 < s.uniGap ∧ s.uni.bits ≠ 0 := by unfold uOn; simp
theorem tOn_iff {s : Neighbour} : tOn s = true ↔ s.tx ≠ 65535 := by unfold tOn; simp
theorem row_of {M : TabN} {L : List Neighbour} (h : OrdN M L) {s : Neighbour} (hs : s ∈ L) : ∃ e ∈ M, e.2 = s := List.mem_map.1 (h.perm.subset hs)
theorem next_range {now : Int} {M : TabN} {L : List Neighbour} (h : OrdN M L) (ht : TimeN now M) (hs : SettledN now M) (hok : (nextF L).2 = true) : now < (nextF L).1 ∧ (nextF L).1 ≤ now + 2293725 := by
  obtain ⟨s, hsL, he⟩ := next_ev hok
  obtain ⟨e, heM, rfl⟩ := row_of h hsL
  have a := hs e heM
  have b := ht e heM
  rcases he with ⟨h1, h2⟩ | ⟨h1, h2⟩ | ⟨h1, h2⟩
  · have h3 := mOn_iff.1 h1
    have := b.m
    refine ⟨?_, by omega⟩
    rw [← h2]
    exact Int.not_le.1 fun h4 => a.m ⟨h3.1, h3.2, h4⟩
  · have h3 := uOn_iff.1 h1
    have := b.u
    refine ⟨?_, by omega⟩
    rw [← h2]
    exact Int.not_le.1 fun h4 => a.u ⟨h3.1, h3.2, h4⟩
  · have h3 := tOn_iff.1 h1
    have := b.t
    refine ⟨?_, by omega⟩
    rw [← h2]
    exact Int.not_le.1 fun h4 => h3 (a.t h4)
theorem tick_id {t : Int} {s : Neighbour} (h1 : ¬ (0 < s.multiGap ∧ s.multi.bits ≠ 0 ∧ s.multiAt ≤ t)) (h2 : ¬ (0 < s.uniGap ∧ s.uni.bits ≠ 0 ∧ s.uniAt ≤ t)) (h3 : s.txAt ≤ t → s.tx = 65535) : tickR t s = s := by
  have e1 : lateM t s = s := by unfold lateM; rw [late_same h1]
  have e2 : lateU t s = s := by unfold lateU; rw [late_same h2]
  unfold tickR
  rw [e1, e2]
  unfold txR
  split
  · rename_i h
    rw [← h3 h]
  · rfl
/-- Ahead of that time nothing changes. -/
theorem next_before {now : Int} {M : TabN} {L : List Neighbour} (h : OrdN M L) (hs : SettledN now M) : tickM ((nextF L).1 - 1) M = M ∧ L.filter (goneN ((nextF L).1 - 1)) = [] := by
  have hid : ∀ e ∈ M, tickR ((nextF L).1 - 1) e.2 = e.2 ∧ goneN ((nextF L).1 - 1) e.2 = false := by
    intro e he
    have hL : e.2 ∈ L := h.perm.symm.subset (List.mem_map.2 ⟨e, he, rfl⟩)
    have e1 : tickR ((nextF L).1 - 1) e.2 = e.2 := by
      refine tick_id (fun ⟨a, b, c⟩ => ?_) (fun ⟨a, b, c⟩ => ?_) (fun c => ?_)
      · have := fold_ev (acc := (0, false)) hL (.inl ⟨mOn_iff.2 ⟨a, b⟩, rfl⟩)
        have : (nextF L).1 ≤ e.2.multiAt := this
        omega
      · have := fold_ev (acc := (0, false)) hL (.inr (.inl ⟨uOn_iff.2 ⟨a, b⟩, rfl⟩))
        have : (nextF L).1 ≤ e.2.uniAt := this
        omega
      · by_cases h9 : e.2.tx = 65535
        · exact h9
        · have := fold_ev (acc := (0, false)) hL (.inr (.inr ⟨tOn_iff.2 h9, rfl⟩))
          have : (nextF L).1 ≤ e.2.txAt := this
          omega
    refine ⟨e1, ?_⟩
    unfold goneN
    rw [e1]
    exact decide_eq_false (hs e he).b
  constructor
  · unfold tickM
    have : ∀ N : TabN, (∀ e ∈ N, e ∈ M) → (N.filterMap fun e => (tickG ((nextF L).1 - 1) e.2).map fun s => (e.1, s)) = N := by
      intro N
      induction N with
      | nil => intro _; rfl
      | cons e N ih =>
        intro hN
        have he := hid e (hN e List.mem_cons_self)
        rw [List.filterMap_cons]
        have : (tickG ((nextF L).1 - 1) e.2).map (fun s => (e.1, s)) = some e := by
          unfold tickG
          rw [he.2, he.1]; rfl
        rw [this, ih fun x hx => hN x (List.mem_cons_of_mem _ hx)]
    exact this M fun _ h => h
  · rw [List.filter_eq_nil_iff]
    intro s hsL
    obtain ⟨e, he, rfl⟩ := row_of h hsL
    rw [(hid e he).2]; simp
theorem tick_moves {t : Int} {s : Neighbour} (h : Ev s t) : tickR t s ≠ s := by
  intro hc
  rcases h with ⟨h1, rfl⟩ | ⟨h1, rfl⟩ | ⟨h1, rfl⟩
  · have h2 := mOn_iff.1 h1
    have h3 := late_moved (now := s.multiAt) ⟨h2.1, h2.2, Int.le_refl _⟩
    rw [← (tick_multi s.multiAt s).2.1, hc] at h3
    omega
  · have h2 := uOn_iff.1 h1
    have h3 := late_moved (now := s.uniAt) ⟨h2.1, h2.2, Int.le_refl _⟩
    rw [← (tick_uni s.uniAt s).2.1, hc] at h3
    omega
  · have h3 := (tick_tx s.txAt s).2
    rw [hc, if_pos (Int.le_refl _)] at h3
    exact tOn_iff.1 h1 h3
/-- At it something does. -/
theorem next_at {M : TabN} {L L2 : List Neighbour} (h : OrdN M L) (hok : (nextF L).2 = true) (hg : ((L.filter (goneN (nextF L).1)).map (tickR (nextF L).1)).length = 0) (h2 : OrdN (tickM (nextF L).1 M) L2) : L2 ≠ L := by
  intro he
  subst he
  obtain ⟨s, hsL, hev⟩ := next_ev hok
  obtain ⟨e, heM, rfl⟩ := row_of h hsL
  have hng : goneN (nextF L2).1 e.2 = false := by
    rw [List.length_map, List.length_eq_zero_iff, List.filter_eq_nil_iff] at hg
    exact Bool.eq_false_iff.2 (hg _ hsL)
  have hmem : (e.1, tickR (nextF L2).1 e.2) ∈ tickM (nextF L2).1 M := by
    unfold tickM
    refine List.mem_filterMap.2 ⟨e, heM, ?_⟩
    unfold tickG
    rw [hng]; rfl
  have hL : tickR (nextF L2).1 e.2 ∈ L2 := h2.perm.symm.subset (List.mem_map.2 ⟨_, hmem, rfl⟩)
  have a1 := h.mem.1 hL
  have a2 := h.mem.1 hsL
  rw [tick_key, a2] at a1
  exact tick_moves hev (Option.some.inj a1).symm

set_option maxHeartbeats 1600000 in
theorem law_next (F : Fr) {a : Option Addr} {c : Nat} {ifs : List IfConf} (hi0 : ifs.length ≤ 9223372036854775807) (ha : ArgSl F a 43 IfConf.enc ifs) (hcap : ifs.length ≤ c) {a2 : Option Addr} {c2 : Nat} {xs : List Law13Act} (hx0 : xs.length ≤ 9223372036854775807) (ha2 : ArgSl F a2 87 Law13Act.enc xs) (hw2 : ∀ x ∈ xs, ok41 F x)  : Spec Try.prog 5 #[.slice a ifs.length c, .slice a2 xs.length c2] [] F (fun v S => v = .bool true ∧ S = []) := by
 obtain ⟨O, hO⟩ := Holds.of hw2
 refine Spec.intro (N := 132) (args := [.slice a ifs.length c, .slice a2 xs.length c2]) Try.func5 rfl rfl (by simp) ?_
 refine Run.seq fun k1 hk1 => ?_
 refine Run.region ?_
 show Sq _ _ _ [0] _ _ _ _
 refine Sq.quiet (i := 0) rfl (Want.none rfl) rfl (ltN rfl) (QP.assign rfl rfl).read ?_
 refine Sq.nil ?_
 refine hk1 _ _ ?_
 refine Run.seq fun k2 hk2 => ?_
 refine Run.seq fun k3 hk3 => ?_
 refine Run.region ?_
 show Sq _ _ _ [0, 1, 2, 3] _ _ _ _
 refine Sq.quiet (i := 0) rfl (Want.none rfl) rfl (ltN rfl) (QP.move rfl rfl).read ?_
 refine Sq.quiet (i := 1) rfl (Want.none rfl) rfl (ltN rfl) (QP.move rfl rfl).read ?_
 refine Sq.eff (i := 2) rfl (Want.none rfl) rfl (ltN rfl) (EF.call rfl ce8 rfl Takes.nil (fun F' hle hr => right_spec F' hi0 (ha.mono hle) hcap hx0 (ha2.mono hle))) ?_
 rintro _ _ ⟨_, ⟨r, rfl, hright, rfl⟩, rfl⟩
 refine J.app ?_
 refine J.caseB (fun c14 => ?_) (fun c14 => ?_)
 ·skip
  refine Sq.quiet (i := 3) rfl (Want.none rfl) rfl (ltN rfl) (QP.not rfl rfl).read ?_
  refine Sq.nil ?_
  refine hk3 _ _ ?_
  refine Run.cond_f rfl ?_
  refine Run.skip ?_
  refine hk2 _ _ ?_
  refine Run.seq fun k4 hk4 => ?_
  refine Run.region ?_
  show Sq _ _ _ [0, 1, 2] _ _ _ _
  obtain ⟨hi8, hifs, hx120, hgap⟩ := hright c14
  refine Sq.quiet (i := 0) rfl (Want.none rfl) rfl (ltN rfl) (QP.move rfl rfl).read ?_
  refine Sq.eff (i := 1) rfl (Want.none rfl) rfl (ltN rfl) (EF.call rfl ce10 rfl Takes.nil (fun F' hle hr => newA F' 120 (xs := ifs) (by omega) (ha.mono hle))) ?_
  rintro _ _ ⟨_, ⟨tb, rfl, rfl⟩, rfl⟩
  refine J.app ?_
  refine Sq.quiet (i := 2) rfl (Want.none rfl) rfl (ltN rfl) (QP.assign rfl rfl).read ?_
  refine Sq.nil ?_
  refine hk4 _ _ ?_
  refine Run.seq fun k5 hk5 => ?_
  refine Run.seq fun k6 hk6 => ?_
  refine Run.region ?_
  show Sq _ _ _ [0, 1] _ _ _ _
  refine Sq.quiet (i := 0) rfl (Want.none rfl) rfl (ltN rfl) (QP.move rfl rfl).read ?_
  refine Sq.quiet (i := 1) rfl (Want.none rfl) rfl (ltN rfl) (QP.ptr_eq_nil rfl rfl rfl Try.underlying26).read ?_
  refine Sq.nil ?_
  refine hk6 _ _ ?_
  refine Run.cond_f rfl ?_
  refine Run.skip ?_
  refine hk5 _ _ ?_
  refine Run.seq fun k7 hk7 => ?_
  refine Run.region ?_
  show Sq _ _ _ [0] _ _ _ _
  refine Sq.quiet (i := 0) rfl (Want.none rfl) rfl (ltN rfl) (QP.assign rfl rfl).read ?_
  refine Sq.nil ?_
  refine hk7 _ _ ?_
  refine Run.seq fun k8 hk8 => ?_
  refine Run.seq fun k9 hk9 => ?_
  refine Run.region ?_
  show Sq _ _ _ [0] _ _ _ _
  refine Sq.quiet (i := 0) rfl (Want.none rfl) rfl (ltN rfl) (QP.assign rfl rfl).read ?_
  refine Sq.nil ?_
  refine hk9 _ _ ?_
  refine Run.block ?_
  refine Run.loop3 (fun (i : Nat) (now : Int) (M : TabN) => i ≤ xs.length ∧ 0 ≤ now ∧ now ≤ i * 1073741824 ∧ GoodN ifs.length M ∧ TimeN now M ∧ SettledN now M ∧ M.length ≤ i) (fun i now M => .cons 0 (.slice a ifs.length c) (.cons 1 (.slice a2 xs.length c2) (.cons 5 (fp tb) (.cons 6 (.int .i64 now) (.cons 7 (.int .i64 i) (.nil)))))) (fun i now M => [NA tb 120 ifs M]) (fun i now M => xs.length - i) (0) (0) ([]) (⟨Nat.zero_le _, Int.le_refl _, by omega, GoodN.nil _, fun _ h => (by cases h), fun _ h => (by cases h), Nat.le_refl _⟩) ?_ ?_
  ·exact fun _ j => J.envJ (J.keep (.cons (by repeat constructor) Takes.nil) j) ⟨rfl, rfl, rfl, rfl, rfl, trivial⟩
  rintro i now M ⟨hile, hn0, hn1, hgood, htime, hset, hML⟩ kl10 hl10
  refine Run.seq fun k11 hk11 => ?_
  refine Run.seq fun k12 hk12 => ?_
  refine Run.region ?_
  show Sq _ _ _ [0, 1, 2, 3] _ _ _ _
  refine Sq.quiet (i := 0) rfl (Want.none rfl) rfl (ltN rfl) (QP.move rfl rfl).read ?_
  refine Sq.quiet (i := 1) rfl (Want.none rfl) rfl (ltN rfl) (QP.move rfl rfl).read ?_
  refine Sq.quiet (i := 2) rfl (Want.none rfl) rfl (ltN rfl) (QP.len rfl rfl rfl Try.underlying23).read ?_
  refine Sq.quiet (i := 3) rfl (Want.none rfl) rfl (ltN rfl) (QP.lss rfl rfl rfl).read ?_
  refine J.caseD (fun c24 => ?_) (fun c24 => ?_)
  ·skip
   refine Sq.nil ?_
   refine hk12 _ _ ?_
   refine Run.cond_t rfl ?_
   refine Run.skip ?_
   refine hk11 _ _ ?_
   refine Run.seq fun k13 hk13 => ?_
   refine Run.block ?_
   refine Run.seq fun k14 hk14 => ?_
   refine Run.region ?_
   show Sq _ _ _ [0, 1, 2, 3, 4, 5, 6, 7] _ _ _ _
   obtain ⟨x, hj⟩ : ∃ x, xs[i]? = some x := ⟨_, List.getElem?_eq_getElem (by omega)⟩
   obtain ⟨b1, o1, hax, hs2⟩ := ha2.get (by omega)
   have hxm := List.mem_of_getElem? hj
   obtain ⟨hg0, hg1, hg2⟩ := hgap x hxm
   obtain ⟨hxw, hxn, hxa⟩ := hO x hxm
   subst hax
   refine Sq.quiet (i := 0) rfl (Want.none rfl) rfl (ltN rfl) (QP.move rfl rfl).read ?_
   refine Sq.quiet (i := 1) rfl (Want.none rfl) rfl (ltN rfl) (QP.move rfl rfl).read ?_
   refine Sq.quiet (i := 2) rfl (Want.none rfl) rfl (ltN rfl) (QP.move rfl rfl).read ?_
   refine Sq.quiet (i := 3) rfl (Want.none rfl) rfl (ltN rfl) (QP.indexAddr rfl rfl rfl Try.underlying23 z41 (by first | omega | (simp <;> omega)) (by first | omega | (simp <;> omega))).read ?_
   refine Sq.quiet (i := 4) rfl (Want.none rfl) rfl (ltN rfl) (QP.fieldAddr rfl rfl f41_1).read ?_
   refine Sq.quiet (i := 5) rfl (Want.none rfl) rfl (ltN rfl) (QR.loadSlF1 rfl rfl g3 Law13Act.enc_len (hs2 _) hj (Law13Act.sub_gap _)) ?_
   refine Sq.quiet (i := 6) rfl (Want.none rfl) rfl (ltN rfl) (QP.add64 rfl rfl rfl (by first | omega | (simp <;> omega)) (by first | omega | (simp <;> omega))).read ?_
   refine Sq.quiet (i := 7) rfl (Want.none rfl) rfl (ltN rfl) (QP.assign rfl rfl).read ?_
   refine Sq.nil ?_
   refine hk14 _ _ ?_
   refine Run.seq fun k15 hk15 => ?_
   refine Run.seq fun k16 hk16 => ?_
   refine Run.region ?_
   show Sq _ _ _ [0, 1, 2, 3, 4, 5] _ _ _ _
   refine Sq.quiet (i := 0) rfl (Want.none rfl) rfl (ltN rfl) (QP.move rfl rfl).read ?_
   refine Sq.quiet (i := 1) rfl (Want.none rfl) rfl (ltN rfl) (QP.move rfl rfl).read ?_
   refine Sq.quiet (i := 2) rfl (Want.none rfl) rfl (ltN rfl) (QP.indexAddr rfl rfl rfl Try.underlying23 z41 (by first | omega | (simp <;> omega)) (by first | omega | (simp <;> omega))).read ?_
   refine Sq.quiet (i := 3) rfl (Want.none rfl) rfl (ltN rfl) (QP.fieldAddr rfl rfl f41_0).read ?_
   refine Sq.quiet (i := 4) rfl (Want.none rfl) rfl (ltN rfl) (QR.loadSlF1 rfl rfl g3 Law13Act.enc_len (hs2 _) hj (Law13Act.sub_kind _)) ?_
   refine Sq.quiet (i := 5) rfl (Want.none rfl) rfl (ltN rfl) (QP.eql rfl rfl rfl).read ?_
   refine J.caseD (fun c39 => ?_) (fun c39 => ?_)
   ·skip
    refine Sq.nil ?_
    refine hk16 _ _ ?_
    refine Run.cond_t rfl ?_
    refine Run.regionD (M := [0, 0, 0, 0, 12, 28, 60, 0, 0, 384, 896, 1920, 0, 0, 12288, 28672, 61440, 131071]) (q := 131071) (r := 67648) (by kernel_rfl) ?_
    refine Dw.pure (i := 0) rfl (by kernel_rfl) (Want.none rfl) rfl (ltN rfl) (QP.move rfl rfl) ?_
    refine Dw.pure (i := 1) rfl (by kernel_rfl) (Want.none rfl) rfl (ltN rfl) (QP.move rfl rfl) ?_
    refine Dw.pure (i := 2) rfl (by kernel_rfl) (Want.none rfl) rfl (ltN rfl) (QP.move rfl rfl) ?_
    refine Dw.pure (i := 3) rfl (by kernel_rfl) (Want.none rfl) rfl (ltN rfl) (QP.move rfl rfl) ?_
    refine Dw.pure (i := 4) rfl (by kernel_rfl) (Want.none rfl) rfl (ltN rfl) (QP.indexAddr rfl rfl rfl Try.underlying23 z41 (by first | omega | (simp <;> omega)) (by first | omega | (simp <;> omega))) ?_
    refine Dw.pure (i := 5) rfl (by kernel_rfl) (Want.none rfl) rfl (ltN rfl) (QP.fieldAddr rfl rfl f41_2) ?_
    refine Dw.read (i := 6) rfl (by kernel_rfl) (Want.none rfl) rfl (ltN rfl) (QR.loadSlF1 rfl rfl g3 Law13Act.enc_len (hs2 _) hj (Law13Act.sub_if_ _)) ?_
    refine Dw.pure (i := 7) rfl (by kernel_rfl) (Want.none rfl) rfl (ltN rfl) (QP.move rfl rfl) ?_
    refine Dw.pure (i := 8) rfl (by kernel_rfl) (Want.none rfl) rfl (ltN rfl) (QP.move rfl rfl) ?_
    refine Dw.pure (i := 9) rfl (by kernel_rfl) (Want.none rfl) rfl (ltN rfl) (QP.indexAddr rfl rfl rfl Try.underlying23 z41 (by first | omega | (simp <;> omega)) (by first | omega | (simp <;> omega))) ?_
    refine Dw.pure (i := 10) rfl (by kernel_rfl) (Want.none rfl) rfl (ltN rfl) (QP.fieldAddr rfl rfl f41_3) ?_
    refine Dw.read (i := 11) rfl (by kernel_rfl) (Want.none rfl) rfl (ltN rfl) (QR.loadSlF rfl rfl g29 Law13Act.enc_len (hs2 _) hj (Law13Act.sub_from_ _)) ?_
    refine Dw.pure (i := 12) rfl (by kernel_rfl) (Want.none rfl) rfl (ltN rfl) (QP.move rfl rfl) ?_
    refine Dw.pure (i := 13) rfl (by kernel_rfl) (Want.none rfl) rfl (ltN rfl) (QP.move rfl rfl) ?_
    refine Dw.pure (i := 14) rfl (by kernel_rfl) (Want.none rfl) rfl (ltN rfl) (QP.indexAddr rfl rfl rfl Try.underlying23 z41 (by first | omega | (simp <;> omega)) (by first | omega | (simp <;> omega))) ?_
    refine Dw.pure (i := 15) rfl (by kernel_rfl) (Want.none rfl) rfl (ltN rfl) (QP.fieldAddr rfl rfl f41_4) ?_
    refine Dw.read (i := 16) rfl (by kernel_rfl) (Want.none rfl) rfl (ltN rfl) (QR.loadSlF rfl rfl g39 Law13Act.enc_len (hs2 _) hj (Law13Act.sub_h _)) ?_
    refine Dw.eff (i := 17) (by kernel_rfl) (by kernel_rfl) ?_
    refine One.mk (o := _) (l := []) rfl (by kernel_rfl) (Want.none rfl) rfl (ltN rfl) (EF.call rfl ce11 rfl (.cons (by repeat constructor) Takes.nil) (fun F' hle hr => helloA F' (most := 120) hgood (now + x.gap) (by omega) (by omega) x.if_ x.from_ x.h hxw (O x) hxn (by omega) (hxa.mono hle))) (by kernel_rfl) ?_
    rintro _ _ ⟨_, ⟨rfl, rfl⟩, rfl⟩
    refine ⟨fun _ h => (by cases h), ?_⟩
    refine J.app ?_
    refine Dw.nil (by kernel_rfl) ?_
    refine hk15 _ _ ?_
    refine Run.seq fun k17 hk17 => ?_
    refine Run.seq fun k18 hk18 => ?_
    refine Run.region ?_
    show Sq _ _ _ [0, 1, 2, 3, 4, 5] _ _ _ _
    refine Sq.quiet (i := 0) rfl (Want.none rfl) rfl (ltN rfl) (QP.move rfl rfl).read ?_
    refine Sq.quiet (i := 1) rfl (Want.none rfl) rfl (ltN rfl) (QP.move rfl rfl).read ?_
    refine Sq.quiet (i := 2) rfl (Want.none rfl) rfl (ltN rfl) (QP.indexAddr rfl rfl rfl Try.underlying23 z41 (by first | omega | (simp <;> omega)) (by first | omega | (simp <;> omega))).read ?_
    refine Sq.quiet (i := 3) rfl (Want.none rfl) rfl (ltN rfl) (QP.fieldAddr rfl rfl f41_0).read ?_
    refine Sq.quiet (i := 4) rfl (Want.none rfl) rfl (ltN rfl) (QR.loadSlF1 rfl rfl g3 Law13Act.enc_len (hs2 _) hj (Law13Act.sub_kind _)) ?_
    refine Sq.quiet (i := 5) rfl (Want.none rfl) rfl (ltN rfl) (QP.eql rfl rfl rfl).read ?_
    refine J.caseD (fun c63 => ?_) (fun c63 => ?_)
    ·skip
     refine Sq.nil ?_
     refine hk18 _ _ ?_
     refine Run.cond_t rfl ?_
     refine Run.regionD (M := [0, 0, 0, 0, 12, 28, 60, 0, 0, 384, 896, 1920, 0, 0, 12288, 28672, 61440, 131071]) (q := 131071) (r := 67648) (by kernel_rfl) ?_
     exact absurd c63 (by omega)
    ·skip
     refine Sq.nil ?_
     refine hk18 _ _ ?_
     refine Run.cond_f rfl ?_
     refine Run.skip ?_
     refine hk17 _ _ ?_
     refine Run.region ?_
     show Sq _ _ _ [0, 1, 2] _ _ _ _
     refine Sq.quiet (i := 0) rfl (Want.none rfl) rfl (ltN rfl) (QP.move rfl rfl).read ?_
     refine Sq.quiet (i := 1) rfl (Want.none rfl) rfl (ltN rfl) (QP.move rfl rfl).read ?_
     refine Sq.eff (i := 2) rfl (Want.none rfl) rfl (ltN rfl) (EF.call rfl ce12 rfl (.cons (by repeat constructor) Takes.nil) (fun F' hle hr => tickA F' (M := (helloF ifs.length 120 M (now + x.gap) x.if_ x.from_ x.h (O x)).2) (good_hello hgood (by omega) _ _ hxw _) (by have := (show List.length (helloF ifs.length 120 M (now + x.gap) x.if_ x.from_ x.h (O x)).2 ≤ i + 1 from Nat.le_trans (hello_len ifs.length 120 M (now + x.gap) x.if_ x.from_ x.h (O x)) (by omega)); omega) (now + x.gap) (by omega) (by omega))) ?_
     rintro _ _ ⟨_, ⟨L84, hL84, rfl⟩, rfl⟩
     refine J.app ?_
     refine Sq.nil ?_
     refine hk13 _ _ ?_
     refine Run.region ?_
     show Sq _ _ _ [0, 1, 2] _ _ _ _
     refine Sq.quiet (i := 0) rfl (Want.none rfl) rfl (ltN rfl) (QP.move rfl rfl).read ?_
     refine Sq.quiet (i := 1) rfl (Want.none rfl) rfl (ltN rfl) (QP.add64 rfl rfl rfl (by first | omega | (simp <;> omega)) (by first | omega | (simp <;> omega))).read ?_
     refine Sq.quiet (i := 2) rfl (Want.none rfl) rfl (ltN rfl) (QP.assign rfl rfl).read ?_
     refine Sq.nil ?_
     exact J.envJ (J.keep (.cons (by repeat constructor) Takes.nil) (hl10 (i + 1) (now + x.gap) (tickM (now + x.gap) (helloF ifs.length 120 M (now + x.gap) x.if_ x.from_ x.h (O x)).2) (⟨by omega, by omega, by omega, good_tick (good_hello hgood (by omega) _ _ hxw _) _, time_tick (good_hello hgood (by omega) _ _ hxw _) (time_hello (by omega) (htime.mono (by omega)) _ _ hxw _), settled_tick _ _, Nat.le_trans (tickM_len _ _) (show List.length (helloF ifs.length 120 M (now + x.gap) x.if_ x.from_ x.h (O x)).2 ≤ i + 1 from Nat.le_trans (hello_len ifs.length 120 M (now + x.gap) x.if_ x.from_ x.h (O x)) (by omega))⟩) (by omega))) ⟨rfl, rfl, rfl, rfl, rfl, trivial⟩
   ·skip
    refine Sq.nil ?_
    refine hk16 _ _ ?_
    refine Run.cond_f rfl ?_
    refine Run.skip ?_
    refine hk15 _ _ ?_
    refine Run.seq fun k19 hk19 => ?_
    refine Run.seq fun k20 hk20 => ?_
    refine Run.region ?_
    show Sq _ _ _ [0, 1, 2, 3, 4, 5] _ _ _ _
    refine Sq.quiet (i := 0) rfl (Want.none rfl) rfl (ltN rfl) (QP.move rfl rfl).read ?_
    refine Sq.quiet (i := 1) rfl (Want.none rfl) rfl (ltN rfl) (QP.move rfl rfl).read ?_
    refine Sq.quiet (i := 2) rfl (Want.none rfl) rfl (ltN rfl) (QP.indexAddr rfl rfl rfl Try.underlying23 z41 (by first | omega | (simp <;> omega)) (by first | omega | (simp <;> omega))).read ?_
    refine Sq.quiet (i := 3) rfl (Want.none rfl) rfl (ltN rfl) (QP.fieldAddr rfl rfl f41_0).read ?_
    refine Sq.quiet (i := 4) rfl (Want.none rfl) rfl (ltN rfl) (QR.loadSlF1 rfl rfl g3 Law13Act.enc_len (hs2 _) hj (Law13Act.sub_kind _)) ?_
    refine Sq.quiet (i := 5) rfl (Want.none rfl) rfl (ltN rfl) (QP.eql rfl rfl rfl).read ?_
    refine J.caseD (fun c63 => ?_) (fun c63 => ?_)
    ·skip
     refine Sq.nil ?_
     refine hk20 _ _ ?_
     refine Run.cond_t rfl ?_
     refine Run.regionD (M := [0, 0, 0, 0, 12, 28, 60, 0, 0, 384, 896, 1920, 0, 0, 12288, 28672, 61440, 131071]) (q := 131071) (r := 67648) (by kernel_rfl) ?_
     refine Dw.pure (i := 0) rfl (by kernel_rfl) (Want.none rfl) rfl (ltN rfl) (QP.move rfl rfl) ?_
     refine Dw.pure (i := 1) rfl (by kernel_rfl) (Want.none rfl) rfl (ltN rfl) (QP.move rfl rfl) ?_
     refine Dw.pure (i := 2) rfl (by kernel_rfl) (Want.none rfl) rfl (ltN rfl) (QP.move rfl rfl) ?_
     refine Dw.pure (i := 3) rfl (by kernel_rfl) (Want.none rfl) rfl (ltN rfl) (QP.move rfl rfl) ?_
     refine Dw.pure (i := 4) rfl (by kernel_rfl) (Want.none rfl) rfl (ltN rfl) (QP.indexAddr rfl rfl rfl Try.underlying23 z41 (by first | omega | (simp <;> omega)) (by first | omega | (simp <;> omega))) ?_
     refine Dw.pure (i := 5) rfl (by kernel_rfl) (Want.none rfl) rfl (ltN rfl) (QP.fieldAddr rfl rfl f41_2) ?_
     refine Dw.read (i := 6) rfl (by kernel_rfl) (Want.none rfl) rfl (ltN rfl) (QR.loadSlF1 rfl rfl g3 Law13Act.enc_len (hs2 _) hj (Law13Act.sub_if_ _)) ?_
     refine Dw.pure (i := 7) rfl (by kernel_rfl) (Want.none rfl) rfl (ltN rfl) (QP.move rfl rfl) ?_
     refine Dw.pure (i := 8) rfl (by kernel_rfl) (Want.none rfl) rfl (ltN rfl) (QP.move rfl rfl) ?_
     refine Dw.pure (i := 9) rfl (by kernel_rfl) (Want.none rfl) rfl (ltN rfl) (QP.indexAddr rfl rfl rfl Try.underlying23 z41 (by first | omega | (simp <;> omega)) (by first | omega | (simp <;> omega))) ?_
     refine Dw.pure (i := 10) rfl (by kernel_rfl) (Want.none rfl) rfl (ltN rfl) (QP.fieldAddr rfl rfl f41_3) ?_
     refine Dw.read (i := 11) rfl (by kernel_rfl) (Want.none rfl) rfl (ltN rfl) (QR.loadSlF rfl rfl g29 Law13Act.enc_len (hs2 _) hj (Law13Act.sub_from_ _)) ?_
     refine Dw.pure (i := 12) rfl (by kernel_rfl) (Want.none rfl) rfl (ltN rfl) (QP.move rfl rfl) ?_
     refine Dw.pure (i := 13) rfl (by kernel_rfl) (Want.none rfl) rfl (ltN rfl) (QP.move rfl rfl) ?_
     refine Dw.pure (i := 14) rfl (by kernel_rfl) (Want.none rfl) rfl (ltN rfl) (QP.indexAddr rfl rfl rfl Try.underlying23 z41 (by first | omega | (simp <;> omega)) (by first | omega | (simp <;> omega))) ?_
     refine Dw.pure (i := 15) rfl (by kernel_rfl) (Want.none rfl) rfl (ltN rfl) (QP.fieldAddr rfl rfl f41_4) ?_
     refine Dw.read (i := 16) rfl (by kernel_rfl) (Want.none rfl) rfl (ltN rfl) (QR.loadSlF rfl rfl g39 Law13Act.enc_len (hs2 _) hj (Law13Act.sub_h _)) ?_
     refine Dw.eff (i := 17) (by kernel_rfl) (by kernel_rfl) ?_
     refine One.mk (o := _) (l := []) rfl (by kernel_rfl) (Want.none rfl) rfl (ltN rfl) (EF.call rfl ce15 rfl (.cons (by repeat constructor) Takes.nil) (fun F' hle hr => ihuA F' (M := M) (now + x.gap) (by omega) (by omega) x.if_ x.from_ x.h hxw (O x) hxn (by omega) (hxa.mono hle))) (by kernel_rfl) ?_
     rintro _ _ ⟨_, ⟨rt81, hr81, hx81, rfl, rfl⟩, rfl⟩
     refine ⟨fun _ h => (by cases h), ?_⟩
     refine J.app ?_
     refine Dw.nil (by kernel_rfl) ?_
     refine hk19 _ _ ?_
     refine Run.region ?_
     show Sq _ _ _ [0, 1, 2] _ _ _ _
     refine Sq.quiet (i := 0) rfl (Want.none rfl) rfl (ltN rfl) (QP.move rfl rfl).read ?_
     refine Sq.quiet (i := 1) rfl (Want.none rfl) rfl (ltN rfl) (QP.move rfl rfl).read ?_
     refine Sq.eff (i := 2) rfl (Want.none rfl) rfl (ltN rfl) (EF.call rfl ce12 rfl (.cons (by repeat constructor) Takes.nil) (fun F' hle hr => tickA F' (M := (ihuF ifs.length M (now + x.gap) x.if_ x.from_ x.h rt81 hr81).2) (good_ihu hgood _ _ _ _ _ _) (by have := (show List.length (ihuF ifs.length M (now + x.gap) x.if_ x.from_ x.h rt81 hr81).2 ≤ i + 1 from Nat.le_trans (ihu_len ifs.length M (now + x.gap) x.if_ x.from_ x.h rt81 hr81) (by omega)); omega) (now + x.gap) (by omega) (by omega))) ?_
     rintro _ _ ⟨_, ⟨L84, hL84, rfl⟩, rfl⟩
     refine J.app ?_
     refine Sq.nil ?_
     refine hk13 _ _ ?_
     refine Run.region ?_
     show Sq _ _ _ [0, 1, 2] _ _ _ _
     refine Sq.quiet (i := 0) rfl (Want.none rfl) rfl (ltN rfl) (QP.move rfl rfl).read ?_
     refine Sq.quiet (i := 1) rfl (Want.none rfl) rfl (ltN rfl) (QP.add64 rfl rfl rfl (by first | omega | (simp <;> omega)) (by first | omega | (simp <;> omega))).read ?_
     refine Sq.quiet (i := 2) rfl (Want.none rfl) rfl (ltN rfl) (QP.assign rfl rfl).read ?_
     refine Sq.nil ?_
     exact J.envJ (J.keep (.cons (by repeat constructor) Takes.nil) (hl10 (i + 1) (now + x.gap) (tickM (now + x.gap) (ihuF ifs.length M (now + x.gap) x.if_ x.from_ x.h rt81 hr81).2) (⟨by omega, by omega, by omega, good_tick (good_ihu hgood _ _ _ _ _ _) _, time_tick (good_ihu hgood _ _ _ _ _ _) (time_ihu (htime.mono (by omega)) _ _ hxw _ _), settled_tick _ _, Nat.le_trans (tickM_len _ _) (show List.length (ihuF ifs.length M (now + x.gap) x.if_ x.from_ x.h rt81 hr81).2 ≤ i + 1 from Nat.le_trans (ihu_len ifs.length M (now + x.gap) x.if_ x.from_ x.h rt81 hr81) (by omega))⟩) (by omega))) ⟨rfl, rfl, rfl, rfl, rfl, trivial⟩
    ·skip
     refine Sq.nil ?_
     refine hk20 _ _ ?_
     refine Run.cond_f rfl ?_
     refine Run.skip ?_
     refine hk19 _ _ ?_
     refine Run.region ?_
     show Sq _ _ _ [0, 1, 2] _ _ _ _
     refine Sq.quiet (i := 0) rfl (Want.none rfl) rfl (ltN rfl) (QP.move rfl rfl).read ?_
     refine Sq.quiet (i := 1) rfl (Want.none rfl) rfl (ltN rfl) (QP.move rfl rfl).read ?_
     refine Sq.eff (i := 2) rfl (Want.none rfl) rfl (ltN rfl) (EF.call rfl ce12 rfl (.cons (by repeat constructor) Takes.nil) (fun F' hle hr => tickA F' (M := M) hgood (by have := (show M.length ≤ i + 1 by omega); omega) (now + x.gap) (by omega) (by omega))) ?_
     rintro _ _ ⟨_, ⟨L84, hL84, rfl⟩, rfl⟩
     refine J.app ?_
     refine Sq.nil ?_
     refine hk13 _ _ ?_
     refine Run.region ?_
     show Sq _ _ _ [0, 1, 2] _ _ _ _
     refine Sq.quiet (i := 0) rfl (Want.none rfl) rfl (ltN rfl) (QP.move rfl rfl).read ?_
     refine Sq.quiet (i := 1) rfl (Want.none rfl) rfl (ltN rfl) (QP.add64 rfl rfl rfl (by first | omega | (simp <;> omega)) (by first | omega | (simp <;> omega))).read ?_
     refine Sq.quiet (i := 2) rfl (Want.none rfl) rfl (ltN rfl) (QP.assign rfl rfl).read ?_
     refine Sq.nil ?_
     exact J.envJ (J.keep (.cons (by repeat constructor) Takes.nil) (hl10 (i + 1) (now + x.gap) (tickM (now + x.gap) M) (⟨by omega, by omega, by omega, good_tick hgood _, time_tick hgood (htime.mono (show now ≤ now + x.gap by omega)), settled_tick _ _, Nat.le_trans (tickM_len _ _) (show M.length ≤ i + 1 by omega)⟩) (by omega))) ⟨rfl, rfl, rfl, rfl, rfl, trivial⟩
  ·skip
   refine Sq.nil ?_
   refine hk12 _ _ ?_
   refine Run.cond_f rfl ?_
   refine Run.exit rfl ?_
   refine hk8 _ _ ?_
   refine Run.seq fun k21 hk21 => ?_
   refine Run.region ?_
   show Sq _ _ _ [0, 1, 2, 3, 4, 5, 6] _ _ _ _
   refine Sq.quiet (i := 0) rfl (Want.none rfl) rfl (ltN rfl) (QP.move rfl rfl).read ?_
   refine Sq.eff (i := 1) rfl (Want.none rfl) rfl (ltN rfl) (EF.call rfl ce19 rfl (.cons (by repeat constructor) Takes.nil) (fun F' hle hr => nextA F' (M := M) hgood (by omega))) ?_
   rintro _ _ ⟨_, ⟨L87, hL87, rfl, rfl⟩, rfl⟩
   refine J.app ?_
   refine Sq.quiet (i := 2) rfl (Want.none rfl) rfl (ltN rfl) (QP.move rfl rfl).read ?_
   refine Sq.quiet (i := 3) rfl (Want.none rfl) rfl (ltN rfl) (QP.extract rfl rfl rfl).read ?_
   refine Sq.quiet (i := 4) rfl (Want.none rfl) rfl (ltN rfl) (QP.extract rfl rfl rfl).read ?_
   refine J.caseB (fun c89 => ?_) (fun c89 => ?_)
   ·skip
    refine Sq.quiet (i := 5) rfl (Want.none rfl) rfl (ltN rfl) (QP.assign rfl rfl).read ?_
    refine Sq.quiet (i := 6) rfl (Want.none rfl) rfl (ltN rfl) (QP.assign rfl rfl).read ?_
    refine Sq.nil ?_
    refine hk21 _ _ ?_
    refine Run.seq fun k22 hk22 => ?_
    refine Run.region ?_
    show Sq _ _ _ [0, 1, 2] _ _ _ _
    refine Sq.quiet (i := 0) rfl (Want.none rfl) rfl (ltN rfl) (QP.move rfl rfl).read ?_
    refine Sq.eff (i := 1) rfl (Want.none rfl) rfl (ltN rfl) (EF.call rfl ce13 rfl (.cons (by repeat constructor) Takes.nil) (fun F' hle hr => listA F' (M := M) hgood (by omega))) ?_
    rintro v91 _ ⟨_, ⟨L91, hL91, rfl⟩, rfl⟩
    refine J.app ?_
    rw [ord_ex hL87 hL91]
    refine Sq.slCase (v := v91) (xs := L87) (by repeat constructor) (fun a91 c91 hv91 hh91 => ?_)
    subst hv91
    refine Sq.quiet (i := 2) rfl (Want.none rfl) rfl (ltN rfl) (QP.assign rfl rfl).read ?_
    refine Sq.nil ?_
    refine hk22 _ _ ?_
    refine Run.seq fun k23 hk23 => ?_
    refine Run.seq fun k24 hk24 => ?_
    refine Run.region ?_
    show Sq _ _ _ [0, 1] _ _ _ _
    refine Sq.quiet (i := 0) rfl (Want.none rfl) rfl (ltN rfl) (QP.move rfl rfl).read ?_
    refine Sq.quiet (i := 1) rfl (Want.none rfl) rfl (ltN rfl) (QP.not rfl rfl).read ?_
    refine Sq.nil ?_
    refine hk24 _ _ ?_
    refine Run.cond_f rfl ?_
    refine Run.skip ?_
    refine hk23 _ _ ?_
    refine Run.seq fun k25 hk25 => ?_
    refine Run.seq fun k26 hk26 => ?_
    refine Run.region ?_
    show Sq _ _ _ [0, 1, 2, 3, 4, 5, 6, 7, 8, 9, 10, 11, 12, 13, 14, 15, 16, 17, 18] _ _ _ _
    obtain ⟨hat0, hat1⟩ := next_range hL87 htime hset c89
    obtain ⟨hb1, hb2⟩ := next_before hL87 hset
    have hLl : L87.length ≤ 120 := by rw [hL87.length]; omega
    refine Sq.quiet (i := 0) rfl (Want.none rfl) rfl (ltN rfl) (QP.move rfl rfl).read ?_
    refine Sq.quiet (i := 1) rfl (Want.none rfl) rfl (ltN rfl) (QP.sub64 rfl rfl rfl (by first | omega | (simp <;> omega)) (by first | omega | (simp <;> omega))).read ?_
    refine Sq.quiet (i := 2) rfl (Want.none rfl) rfl (ltN rfl) (QP.move rfl rfl).read ?_
    refine Sq.quiet (i := 3) rfl (Want.none rfl) rfl (ltN rfl) (QP.geq rfl rfl rfl).read ?_
    refine J.decT (by omega) ?_
    refine Sq.quiet (i := 4) rfl (Want.none rfl) rfl (ltN rfl) (QP.move rfl rfl).read ?_
    refine Sq.quiet (i := 5) rfl (Want.yes rfl rfl rfl rfl) rfl (ltN rfl) (QP.move rfl rfl).read ?_
    refine Sq.quiet (i := 6) rfl (Want.yes rfl rfl rfl rfl) rfl (ltN rfl) (QP.move rfl rfl).read ?_
    refine Sq.quiet (i := 7) rfl (Want.yes rfl rfl rfl rfl) rfl (ltN rfl) (QP.sub64 rfl rfl rfl (by first | omega | (simp <;> omega)) (by first | omega | (simp <;> omega))).read ?_
    refine Sq.eff (i := 8) rfl (Want.yes rfl rfl rfl rfl) rfl (ltN rfl) (EF.call rfl ce12 rfl (.cons (by repeat constructor) Takes.nil) (fun F' hle hr => tickA F' (M := M) hgood (by omega) ((nextF L87).1 - 1) (by omega) (by omega))) ?_
    rintro v103 _ ⟨_, ⟨L103, hL103, rfl⟩, rfl⟩
    refine J.app ?_
    rw [ord_ex hL87 hL103, hb1, hb2, List.map_nil]
    refine Sq.slCase (v := v103) (xs := ([] : List Neighbour)) (by repeat constructor) (fun a103 c103 hv103 hh103 => ?_)
    subst hv103
    refine Sq.quiet (i := 9) rfl (Want.yes rfl rfl rfl rfl) rfl (ltN rfl) (QP.len rfl rfl rfl Try.underlying44).read ?_
    refine Sq.quiet (i := 10) rfl (Want.yes rfl rfl rfl rfl) rfl (ltN rfl) (QP.neq rfl rfl rfl).read ?_
    refine J.decF (fun h9 => h9 rfl) ?_
    refine Sq.quiet (i := 11) rfl (Want.yes rfl rfl rfl rfl) rfl (ltN rfl) (QP.move rfl rfl).read ?_
    refine Sq.quiet (i := 12) rfl (Want.yes rfl rfl rfl rfl) rfl (ltN rfl) (QP.move rfl rfl).read ?_
    refine Sq.eff (i := 13) rfl (Want.yes rfl rfl rfl rfl) rfl (ltN rfl) (EF.call rfl ce13 rfl (.cons (by repeat constructor) Takes.nil) (fun F' hle hr => listA F' (M := M) hgood (by omega))) ?_
    rintro v108 _ ⟨_, ⟨L108, hL108, rfl⟩, rfl⟩
    refine J.app ?_
    rw [ord_ex hL87 hL108]
    refine Sq.slCase (v := v108) (xs := L87) (by repeat constructor) (fun a108 c108 hv108 hh108 => ?_)
    subst hv108
    refine Sq.quiet (i := 14) rfl (Want.yes rfl rfl rfl rfl) rfl (ltN rfl) (QP.move rfl rfl).read ?_
    refine Sq.eff (i := 15) rfl (Want.yes rfl rfl rfl rfl) rfl (ltN rfl) (EF.call rfl ce20 rfl (.cons (by repeat constructor) (.cons (by repeat constructor) Takes.nil)) (fun F' hle hr => sameN F' hh108 hh91 (by omega) (by omega))) ?_
    rintro _ _ ⟨_, ⟨rfl, rfl⟩, rfl⟩
    refine J.app ?_
    refine J.boolT (decide_eq_true rfl) ?_
    refine Sq.quiet (i := 16) rfl (Want.yes rfl rfl rfl rfl) rfl (ltN rfl) (QP.not rfl rfl).read ?_
    refine Sq.quiet (i := 17) rfl (Want.yes rfl rfl rfl rfl) rfl (ltN rfl) (QP.pick_f rfl rfl rfl).read ?_
    refine Sq.quiet (i := 18) rfl (Want.none rfl) rfl (ltN rfl) (QP.pick_t rfl rfl rfl).read ?_
    refine Sq.nil ?_
    refine hk26 _ _ ?_
    refine Run.cond_f rfl ?_
    refine Run.skip ?_
    refine hk25 _ _ ?_
    refine Run.seq fun k27 hk27 => ?_
    refine Run.region ?_
    show Sq _ _ _ [0, 1, 2, 3, 4, 5] _ _ _ _
    refine Sq.quiet (i := 0) rfl (Want.none rfl) rfl (ltN rfl) (QP.move rfl rfl).read ?_
    refine Sq.quiet (i := 1) rfl (Want.none rfl) rfl (ltN rfl) (QP.move rfl rfl).read ?_
    refine Sq.quiet (i := 2) rfl (Want.none rfl) rfl (ltN rfl) (QP.move rfl rfl).read ?_
    refine Sq.quiet (i := 3) rfl (Want.none rfl) rfl (ltN rfl) (QP.max2 rfl rfl rfl).read ?_
    rw [show (if now > (nextF L87).1 then now else (nextF L87).1) = (nextF L87).1 from if_neg (by omega)]
    refine Sq.eff (i := 4) rfl (Want.none rfl) rfl (ltN rfl) (EF.call rfl ce12 rfl (.cons (by repeat constructor) Takes.nil) (fun F' hle hr => tickA F' (M := M) hgood (by omega) (nextF L87).1 (by omega) (by omega))) ?_
    rintro v118 _ ⟨_, ⟨L118, hL118, rfl⟩, rfl⟩
    refine J.app ?_
    rw [ord_ex hL87 hL118]
    refine Sq.slCase (v := v118) (xs := ((L87.filter (goneN (nextF L87).1)).map (tickR (nextF L87).1))) (by repeat constructor) (fun a118 c118 hv118 hh118 => ?_)
    subst hv118
    refine Sq.quiet (i := 5) rfl (Want.none rfl) rfl (ltN rfl) (QP.assign rfl rfl).read ?_
    refine Sq.nil ?_
    refine hk27 _ _ ?_
    refine Run.seq fun k28 hk28 => ?_
    refine Run.region ?_
    show Sq _ _ _ [0, 1, 2, 3, 4, 5, 6, 7, 8, 9, 10, 11, 12, 13] _ _ _ _
    refine Sq.quiet (i := 0) rfl (Want.none rfl) rfl (ltN rfl) (QP.move rfl rfl).read ?_
    refine Sq.quiet (i := 1) rfl (Want.none rfl) rfl (ltN rfl) (QP.len rfl rfl rfl Try.underlying44).read ?_
    refine Sq.quiet (i := 2) rfl (Want.none rfl) rfl (ltN rfl) (QP.gtr rfl rfl rfl).read ?_
    refine J.caseD (fun c121 => ?_) (fun c121 => ?_)
    ·skip
     refine Sq.quiet (i := 3) rfl (Want.none rfl) rfl (ltN rfl) (QP.move rfl rfl).read ?_
     refine Sq.skip (i := 4) rfl (Want.no rfl rfl rfl rfl) rfl (ltN rfl) ?_
     refine Sq.skip (i := 5) rfl (Want.no rfl rfl rfl rfl) rfl (ltN rfl) ?_
     refine Sq.skip (i := 6) rfl (Want.no rfl rfl rfl rfl) rfl (ltN rfl) ?_
     refine Sq.skip (i := 7) rfl (Want.no rfl rfl rfl rfl) rfl (ltN rfl) ?_
     refine Sq.skip (i := 8) rfl (Want.no rfl rfl rfl rfl) rfl (ltN rfl) ?_
     refine Sq.quiet (i := 9) rfl (Want.none rfl) rfl (ltN rfl) (QP.pick_t rfl rfl rfl).read ?_
     refine Sq.quiet (i := 10) rfl (Want.none rfl) rfl (ltN rfl) (QP.move rfl rfl).read ?_
     refine Sq.eff (i := 11) rfl (Want.yes rfl rfl rfl rfl) rfl (ltN rfl) (EF.call rfl ce9 rfl Takes.nil (fun F' hle hr => live_spec F')) ?_
     rintro _ _ ⟨_, ⟨rfl, rfl⟩, rfl⟩
     refine J.app ?_
     refine Sq.quiet (i := 12) rfl (Want.none rfl) rfl (ltN rfl) (QP.pick_t rfl rfl rfl).read ?_
     refine Sq.quiet (i := 13) rfl (Want.none rfl) rfl (ltN rfl) (QP.assign rfl rfl).read ?_
     refine Sq.nil ?_
     refine hk28 _ _ ?_
     refine Run.ret ?_
     exact J.ends (res_tmp rfl rfl) Takes.nil ⟨rfl, rfl⟩
    ·skip
     refine Sq.quiet (i := 3) rfl (Want.none rfl) rfl (ltN rfl) (QP.move rfl rfl).read ?_
     refine Sq.quiet (i := 4) rfl (Want.yes rfl rfl rfl rfl) rfl (ltN rfl) (QP.move rfl rfl).read ?_
     refine Sq.eff (i := 5) rfl (Want.yes rfl rfl rfl rfl) rfl (ltN rfl) (EF.call rfl ce13 rfl (.cons (by repeat constructor) Takes.nil) (fun F' hle hr => listA F' (M := tickM (nextF L87).1 M) (good_tick hgood _) (by have := tickM_len (nextF L87).1 M; omega))) ?_
     rintro v124 _ ⟨_, ⟨L124, hL124, rfl⟩, rfl⟩
     refine J.app ?_
     refine Sq.slCase (v := v124) (xs := L124) (by repeat constructor) (fun a124 c124 hv124 hh124 => ?_)
     subst hv124
     have hl124 : L124.length ≤ 120 := by rw [hL124.length]; have := tickM_len (nextF L87).1 M; omega
     refine Sq.quiet (i := 6) rfl (Want.yes rfl rfl rfl rfl) rfl (ltN rfl) (QP.move rfl rfl).read ?_
     refine Sq.eff (i := 7) rfl (Want.yes rfl rfl rfl rfl) rfl (ltN rfl) (EF.call rfl ce20 rfl (.cons (by repeat constructor) (.cons (by repeat constructor) Takes.nil)) (fun F' hle hr => sameN F' hh124 hh91 (by omega) (by omega))) ?_
     rintro _ _ ⟨_, ⟨rfl, rfl⟩, rfl⟩
     refine J.app ?_
     refine J.boolF (decide_eq_false (next_at hL87 c89 (by omega) hL124)) ?_
     refine Sq.quiet (i := 8) rfl (Want.yes rfl rfl rfl rfl) rfl (ltN rfl) (QP.not rfl rfl).read ?_
     refine Sq.quiet (i := 9) rfl (Want.none rfl) rfl (ltN rfl) (QP.pick_f rfl rfl rfl).read ?_
     refine Sq.quiet (i := 10) rfl (Want.none rfl) rfl (ltN rfl) (QP.move rfl rfl).read ?_
     refine Sq.eff (i := 11) rfl (Want.yes rfl rfl rfl rfl) rfl (ltN rfl) (EF.call rfl ce9 rfl Takes.nil (fun F' hle hr => live_spec F')) ?_
     rintro _ _ ⟨_, ⟨rfl, rfl⟩, rfl⟩
     refine J.app ?_
     refine Sq.quiet (i := 12) rfl (Want.none rfl) rfl (ltN rfl) (QP.pick_t rfl rfl rfl).read ?_
     refine Sq.quiet (i := 13) rfl (Want.none rfl) rfl (ltN rfl) (QP.assign rfl rfl).read ?_
     refine Sq.nil ?_
     refine hk28 _ _ ?_
     refine Run.ret ?_
     exact J.ends (res_tmp rfl rfl) Takes.nil ⟨rfl, rfl⟩
   ·skip
    refine Sq.quiet (i := 5) rfl (Want.none rfl) rfl (ltN rfl) (QP.assign rfl rfl).read ?_
    refine Sq.quiet (i := 6) rfl (Want.none rfl) rfl (ltN rfl) (QP.assign rfl rfl).read ?_
    refine Sq.nil ?_
    refine hk21 _ _ ?_
    refine Run.seq fun k29 hk29 => ?_
    refine Run.region ?_
    show Sq _ _ _ [0, 1, 2] _ _ _ _
    refine Sq.quiet (i := 0) rfl (Want.none rfl) rfl (ltN rfl) (QP.move rfl rfl).read ?_
    refine Sq.eff (i := 1) rfl (Want.none rfl) rfl (ltN rfl) (EF.call rfl ce13 rfl (.cons (by repeat constructor) Takes.nil) (fun F' hle hr => listA F' (M := M) hgood (by omega))) ?_
    rintro v91 _ ⟨_, ⟨L91, hL91, rfl⟩, rfl⟩
    refine J.app ?_
    rw [ord_ex hL87 hL91]
    refine Sq.slCase (v := v91) (xs := L87) (by repeat constructor) (fun a91 c91 hv91 hh91 => ?_)
    subst hv91
    refine Sq.quiet (i := 2) rfl (Want.none rfl) rfl (ltN rfl) (QP.assign rfl rfl).read ?_
    refine Sq.nil ?_
    refine hk29 _ _ ?_
    refine Run.seq fun k30 hk30 => ?_
    refine Run.seq fun k31 hk31 => ?_
    refine Run.region ?_
    show Sq _ _ _ [0, 1] _ _ _ _
    refine Sq.quiet (i := 0) rfl (Want.none rfl) rfl (ltN rfl) (QP.move rfl rfl).read ?_
    refine Sq.quiet (i := 1) rfl (Want.none rfl) rfl (ltN rfl) (QP.not rfl rfl).read ?_
    refine Sq.nil ?_
    refine hk31 _ _ ?_
    refine Run.cond_t rfl ?_
    refine Run.seq fun k32 hk32 => ?_
    refine Run.region ?_
    show Sq _ _ _ [0, 1] _ _ _ _
    refine Sq.eff (i := 0) rfl (Want.none rfl) rfl (ltN rfl) (EF.call rfl ce9 rfl Takes.nil (fun F' hle hr => live_spec F')) ?_
    rintro _ _ ⟨_, ⟨rfl, rfl⟩, rfl⟩
    refine J.app ?_
    refine Sq.quiet (i := 1) rfl (Want.none rfl) rfl (ltN rfl) (QP.assign rfl rfl).read ?_
    refine Sq.nil ?_
    refine hk32 _ _ ?_
    refine Run.ret ?_
    exact J.ends (res_tmp rfl rfl) Takes.nil ⟨rfl, rfl⟩
 ·skip
  refine Sq.quiet (i := 3) rfl (Want.none rfl) rfl (ltN rfl) (QP.not rfl rfl).read ?_
  refine Sq.nil ?_
  refine hk3 _ _ ?_
  refine Run.cond_t rfl ?_
  refine Run.seq fun k33 hk33 => ?_
  refine Run.region ?_
  show Sq _ _ _ [0, 1] _ _ _ _
  refine Sq.eff (i := 0) rfl (Want.none rfl) rfl (ltN rfl) (EF.call rfl ce9 rfl Takes.nil (fun F' hle hr => live_spec F')) ?_
  rintro _ _ ⟨_, ⟨rfl, rfl⟩, rfl⟩
  refine J.app ?_
  refine Sq.quiet (i := 1) rfl (Want.none rfl) rfl (ltN rfl) (QP.assign rfl rfl).read ?_
  refine Sq.nil ?_
  refine hk33 _ _ ?_
  refine Run.ret ?_
  exact J.ends (res_tmp rfl rfl) Takes.nil ⟨rfl, rfl⟩
end Slb
