/- R9: a part of the proof that a law of this package holds for every input; no condition. -/
import Derived.Test.YtfjmefldilponaaR7
namespace Slb
open Go Go.Proofs
set_option maxRecDepth 20000
def okGap (x : Law16Act) : Prop := 0 ≤ x.gap ∧ x.gap ≤ 1073741824

theorem right_spec (F : Fr) {a : Option Addr} {xs : List Law16Act} {c : Nat} (hlen : xs.length ≤ 9223372036854775807) (ha : ArgSl F a 84 Law16Act.enc xs)  : Spec Try.prog 9 #[.slice a xs.length c] [] F (fun v S => S = [] ∧ ∃ r, v = .bool r ∧ (r = true → xs.length ≤ 150 ∧ ∀ x ∈ xs, okGap x)) := by
  refine Spec.intro (N := 31) (args := [.slice a xs.length c]) Try.func9 rfl rfl (by simp) ?_
  refine Run.seq fun k1 hk1 => ?_
  refine Run.region ?_
  show Sq _ _ _ [0] _ _ _ _
  refine Sq.quiet (i := 0) rfl (Want.none rfl) rfl (ltN rfl) (QP.assign rfl rfl).read ?_
  refine Sq.nil ?_
  refine hk1 _ _ ?_
  refine Run.seq fun k2 hk2 => ?_
  refine Run.seq fun k3 hk3 => ?_
  refine Run.region ?_
  show Sq _ _ _ [0] _ _ _ _
  refine Sq.quiet (i := 0) rfl (Want.none rfl) rfl (ltN rfl) (QP.assign rfl rfl).read ?_
  refine Sq.nil ?_
  refine hk3 _ _ ?_
  refine Run.block ?_
  refine Run.loop1 (fun (i : Nat) => i ≤ xs.length ∧ i ≤ 151 ∧ ∀ x ∈ xs.take i, okGap x) (fun i => .cons 0 (.slice a xs.length c) (.cons 3 (.int .i64 i) (.nil))) (fun i => []) (fun i => xs.length - i) (0) (⟨Nat.zero_le _, Nat.zero_le _, fun x hx => by simp at hx⟩) ?_ ?_
  · exact fun _ j => J.envJ (J.keep Takes.nil j) ⟨rfl, rfl, trivial⟩
  rintro i ⟨hile, hi2, hok⟩ kl4 hl4
  refine Run.seq fun k5 hk5 => ?_
  refine Run.seq fun k6 hk6 => ?_
  refine Run.region ?_
  show Sq _ _ _ [0, 1, 2, 3, 4, 5, 6, 7] _ _ _ _
  refine Sq.quiet (i := 0) rfl (Want.none rfl) rfl (ltN rfl) (QP.move rfl rfl).read ?_
  refine Sq.quiet (i := 1) rfl (Want.none rfl) rfl (ltN rfl) (QP.move rfl rfl).read ?_
  refine Sq.quiet (i := 2) rfl (Want.none rfl) rfl (ltN rfl) (QP.len rfl rfl rfl Try.underlying22).read ?_
  refine Sq.quiet (i := 3) rfl (Want.none rfl) rfl (ltN rfl) (QP.lss rfl rfl rfl).read ?_
  refine J.caseD (fun c7 => ?_) (fun c7 => ?_)
  · skip
    refine Sq.quiet (i := 4) rfl (Want.none rfl) rfl (ltN rfl) (QP.move rfl rfl).read ?_
    refine Sq.quiet (i := 5) rfl (Want.yes rfl rfl rfl rfl) rfl (ltN rfl) (QP.move rfl rfl).read ?_
    refine Sq.quiet (i := 6) rfl (Want.yes rfl rfl rfl rfl) rfl (ltN rfl) (QP.leq rfl rfl rfl).read ?_
    refine J.caseD (fun c10 => ?_) (fun c10 => ?_)
    · skip
      refine Sq.quiet (i := 7) rfl (Want.none rfl) rfl (ltN rfl) (QP.pick_t rfl rfl rfl).read ?_
      refine Sq.nil ?_
      refine hk6 _ _ ?_
      refine Run.cond_t rfl ?_
      refine Run.skip ?_
      refine hk5 _ _ ?_
      refine Run.seq fun k7 hk7 => ?_
      refine Run.block ?_
      refine Run.seq fun k8 hk8 => ?_
      refine Run.region ?_
      show Sq _ _ _ [0, 1, 2, 3, 4, 5, 6, 7, 8, 9, 10, 11, 12, 13] _ _ _ _
      have hlt : i < xs.length := by omega
      obtain ⟨x, hi⟩ : ∃ x, xs[i]? = some x := ⟨_, List.getElem?_eq_getElem hlt⟩
      obtain ⟨b0, o0, rfl, hs0⟩ := ha.get (by omega)
      refine Sq.quiet (i := 0) rfl (Want.none rfl) rfl (ltN rfl) (QP.move rfl rfl).read ?_
      refine Sq.quiet (i := 1) rfl (Want.none rfl) rfl (ltN rfl) (QP.move rfl rfl).read ?_
      refine Sq.quiet (i := 2) rfl (Want.none rfl) rfl (ltN rfl) (QP.indexAddr rfl rfl rfl Try.underlying22 z39 (by first | omega | (simp <;> omega)) (by first | omega | (simp <;> omega))).read ?_
      refine Sq.quiet (i := 3) rfl (Want.none rfl) rfl (ltN rfl) (QP.fieldAddr rfl rfl f39_1).read ?_
      refine Sq.quiet (i := 4) rfl (Want.none rfl) rfl (ltN rfl) (QR.loadSlF1 rfl rfl g3 Law16Act.enc_len (hs0 _) hi (Law16Act.sub_gap _)) ?_
      refine Sq.quiet (i := 5) rfl (Want.none rfl) rfl (ltN rfl) (QP.lss rfl rfl rfl).read ?_
      refine J.caseD (fun c19 => ?_) (fun c19 => ?_)
      · skip
        refine Sq.quiet (i := 6) rfl (Want.none rfl) rfl (ltN rfl) (QP.move rfl rfl).read ?_
        refine Sq.skip (i := 7) rfl (Want.no rfl rfl rfl rfl) rfl (ltN rfl) ?_
        refine Sq.skip (i := 8) rfl (Want.no rfl rfl rfl rfl) rfl (ltN rfl) ?_
        refine Sq.skip (i := 9) rfl (Want.no rfl rfl rfl rfl) rfl (ltN rfl) ?_
        refine Sq.skip (i := 10) rfl (Want.no rfl rfl rfl rfl) rfl (ltN rfl) ?_
        refine Sq.skip (i := 11) rfl (Want.no rfl rfl rfl rfl) rfl (ltN rfl) ?_
        refine Sq.skip (i := 12) rfl (Want.no rfl rfl rfl rfl) rfl (ltN rfl) ?_
        refine Sq.quiet (i := 13) rfl (Want.none rfl) rfl (ltN rfl) (QP.pick_t rfl rfl rfl).read ?_
        refine Sq.nil ?_
        refine hk8 _ _ ?_
        refine Run.cond_t rfl ?_
        refine Run.seq fun k9 hk9 => ?_
        refine Run.region ?_
        show Sq _ _ _ [0] _ _ _ _
        refine Sq.quiet (i := 0) rfl (Want.none rfl) rfl (ltN rfl) (QP.assign rfl rfl).read ?_
        refine Sq.nil ?_
        refine hk9 _ _ ?_
        refine Run.ret ?_
        exact J.ends (res_tmp rfl rfl) Takes.nil ⟨rfl, false, rfl, fun h => by cases h⟩
      · skip
        refine Sq.quiet (i := 6) rfl (Want.none rfl) rfl (ltN rfl) (QP.move rfl rfl).read ?_
        refine Sq.quiet (i := 7) rfl (Want.yes rfl rfl rfl rfl) rfl (ltN rfl) (QP.move rfl rfl).read ?_
        refine Sq.quiet (i := 8) rfl (Want.yes rfl rfl rfl rfl) rfl (ltN rfl) (QP.move rfl rfl).read ?_
        refine Sq.quiet (i := 9) rfl (Want.yes rfl rfl rfl rfl) rfl (ltN rfl) (QP.indexAddr rfl rfl rfl Try.underlying22 z39 (by first | omega | (simp <;> omega)) (by first | omega | (simp <;> omega))).read ?_
        refine Sq.quiet (i := 10) rfl (Want.yes rfl rfl rfl rfl) rfl (ltN rfl) (QP.fieldAddr rfl rfl f39_1).read ?_
        refine Sq.quiet (i := 11) rfl (Want.yes rfl rfl rfl rfl) rfl (ltN rfl) (QR.loadSlF1 rfl rfl g3 Law16Act.enc_len (hs0 _) hi (Law16Act.sub_gap _)) ?_
        refine Sq.quiet (i := 12) rfl (Want.yes rfl rfl rfl rfl) rfl (ltN rfl) (QP.gtr rfl rfl rfl).read ?_
        refine J.caseD (fun c26 => ?_) (fun c26 => ?_)
        · skip
          refine Sq.quiet (i := 13) rfl (Want.none rfl) rfl (ltN rfl) (QP.pick_f rfl rfl rfl).read ?_
          refine Sq.nil ?_
          refine hk8 _ _ ?_
          refine Run.cond_t rfl ?_
          refine Run.seq fun k10 hk10 => ?_
          refine Run.region ?_
          show Sq _ _ _ [0] _ _ _ _
          refine Sq.quiet (i := 0) rfl (Want.none rfl) rfl (ltN rfl) (QP.assign rfl rfl).read ?_
          refine Sq.nil ?_
          refine hk10 _ _ ?_
          refine Run.ret ?_
          exact J.ends (res_tmp rfl rfl) Takes.nil ⟨rfl, false, rfl, fun h => by cases h⟩
        · skip
          refine Sq.quiet (i := 13) rfl (Want.none rfl) rfl (ltN rfl) (QP.pick_f rfl rfl rfl).read ?_
          refine Sq.nil ?_
          refine hk8 _ _ ?_
          refine Run.cond_f rfl ?_
          refine Run.skip ?_
          refine hk7 _ _ ?_
          refine Run.region ?_
          show Sq _ _ _ [0, 1, 2] _ _ _ _
          refine Sq.quiet (i := 0) rfl (Want.none rfl) rfl (ltN rfl) (QP.move rfl rfl).read ?_
          refine Sq.quiet (i := 1) rfl (Want.none rfl) rfl (ltN rfl) (QP.add64 rfl rfl rfl (by first | omega | (simp <;> omega)) (by first | omega | (simp <;> omega))).read ?_
          refine Sq.quiet (i := 2) rfl (Want.none rfl) rfl (ltN rfl) (QP.assign rfl rfl).read ?_
          refine Sq.nil ?_
          exact J.envJ (J.keep Takes.nil (hl4 (i + 1) (⟨by omega, by omega, fun y hy => by rw [List.take_add_one, hi] at hy; rcases List.mem_append.1 hy with h | h; exact hok y h; simp at h; subst h; exact ⟨by omega, by omega⟩⟩) (by omega))) ⟨rfl, rfl, trivial⟩
    · skip
      refine Sq.quiet (i := 7) rfl (Want.none rfl) rfl (ltN rfl) (QP.pick_t rfl rfl rfl).read ?_
      refine Sq.nil ?_
      refine hk6 _ _ ?_
      refine Run.cond_f rfl ?_
      refine Run.exit rfl ?_
      refine hk2 _ _ ?_
      refine Run.seq fun k11 hk11 => ?_
      refine Run.region ?_
      show Sq _ _ _ [0, 1, 2, 3] _ _ _ _
      refine Sq.quiet (i := 0) rfl (Want.none rfl) rfl (ltN rfl) (QP.move rfl rfl).read ?_
      refine Sq.quiet (i := 1) rfl (Want.none rfl) rfl (ltN rfl) (QP.len rfl rfl rfl Try.underlying22).read ?_
      refine Sq.quiet (i := 2) rfl (Want.none rfl) rfl (ltN rfl) (QP.leq rfl rfl rfl).read ?_
      refine Sq.quiet (i := 3) rfl (Want.none rfl) rfl (ltN rfl) (QP.assign rfl rfl).read ?_
      refine Sq.nil ?_
      refine hk11 _ _ ?_
      refine Run.ret ?_
      exact J.ends (res_tmp rfl rfl) Takes.nil ⟨rfl, _, rfl, fun h => by have h1 := of_decide_eq_true h; exact ⟨by omega, fun x hx => hok x (by rw [List.take_of_length_le (by omega)]; exact hx)⟩⟩
  · skip
    refine Sq.quiet (i := 4) rfl (Want.none rfl) rfl (ltN rfl) (QP.move rfl rfl).read ?_
    refine Sq.skip (i := 5) rfl (Want.no rfl rfl rfl rfl) rfl (ltN rfl) ?_
    refine Sq.skip (i := 6) rfl (Want.no rfl rfl rfl rfl) rfl (ltN rfl) ?_
    refine Sq.quiet (i := 7) rfl (Want.none rfl) rfl (ltN rfl) (QP.pick_f rfl rfl rfl).read ?_
    refine Sq.nil ?_
    refine hk6 _ _ ?_
    refine Run.cond_f rfl ?_
    refine Run.exit rfl ?_
    refine hk2 _ _ ?_
    refine Run.seq fun k12 hk12 => ?_
    refine Run.region ?_
    show Sq _ _ _ [0, 1, 2, 3] _ _ _ _
    refine Sq.quiet (i := 0) rfl (Want.none rfl) rfl (ltN rfl) (QP.move rfl rfl).read ?_
    refine Sq.quiet (i := 1) rfl (Want.none rfl) rfl (ltN rfl) (QP.len rfl rfl rfl Try.underlying22).read ?_
    refine Sq.quiet (i := 2) rfl (Want.none rfl) rfl (ltN rfl) (QP.leq rfl rfl rfl).read ?_
    refine Sq.quiet (i := 3) rfl (Want.none rfl) rfl (ltN rfl) (QP.assign rfl rfl).read ?_
    refine Sq.nil ?_
    refine hk12 _ _ ?_
    refine Run.ret ?_
    exact J.ends (res_tmp rfl rfl) Takes.nil ⟨rfl, _, rfl, fun h => by have h1 := of_decide_eq_true h; exact ⟨by omega, fun x hx => hok x (by rw [List.take_of_length_le (by omega)]; exact hx)⟩⟩

/-- What stands in a table at a time: each route under its own key; how long it holds; until when at most. -/
structure GoodR (now mx : Int) (M : TabR) : Prop where
  keyed : KeyedR M
  hold : ∀ e ∈ M, 1 ≤ e.2.hold ∧ e.2.hold ≤ mx
  till : ∀ e ∈ M, 0 ≤ e.2.until_ ∧ e.2.until_ ≤ now + mx
theorem GoodR.nil (now mx : Int) : GoodR now mx [] := ⟨fun _ h => (by cases h), fun _ h => (by cases h), fun _ h => (by cases h)⟩
theorem GoodR.mono {now now2 mx mx2 : Int} {M : TabR} (h : GoodR now mx M) (h1 : now ≤ now2) (h2 : mx ≤ mx2) : GoodR now2 mx2 M :=
  ⟨h.keyed, fun e he => ⟨(h.hold e he).1, by have := (h.hold e he).2; omega⟩, fun e he => ⟨(h.till e he).1, by have := (h.till e he).2; omega⟩⟩
theorem GoodR.set {now mx : Int} {M : TabR} (h : GoodR now mx M) (s : Route) (h1 : 1 ≤ s.hold ∧ s.hold ≤ mx) (h2 : 0 ≤ s.until_ ∧ s.until_ ≤ now + mx) : GoodR now mx (aset M (keyR s) s) :=
  ⟨fun e he => by rcases mem_aset he with rfl | he; rfl; exact h.keyed e he, fun e he => by rcases mem_aset he with rfl | he; exact h1; exact h.hold e he, fun e he => by rcases mem_aset he with rfl | he; exact h2; exact h.till e he⟩
theorem good_tell {now mx most : Int} {M : TabR} (h : GoodR now mx M) (hn : 0 ≤ now) (x : Route) (ok : Bool) (hx : (if 2147483648 < x.hold then 2147483648 else x.hold) ≤ mx) : GoodR now mx (tellF most M now x ok).2.2 ∧ (tellF most M now x ok).2.2.length ≤ M.length + 1 := by
  unfold tellF
  cases h0 : alook M (keyR x) with
  | none =>
    simp only
    unfold tellNew
    split
    · exact ⟨h, by simp⟩
    · rename_i h1
      have hk : 1 ≤ x.hold ∧ x.hold ≤ mx := by
        rw [if_neg (by omega)] at hx; omega
      split
      · exact ⟨h, by simp⟩
      · split
        · exact ⟨h, by simp⟩
        · refine ⟨h.set (newR now x) hk ⟨by unfold newR; simp only; omega, by unfold newR; simp only; omega⟩, ?_⟩
          simp only [if_true, len_aset]; split <;> omega
  | some s =>
    simp only
    have hm := alook_some h0
    have hks : keyR x = keyR s := h.keyed _ hm
    refine ⟨?_, by rw [len_aset]; split <;> omega⟩
    unfold tellOld
    split
    · rw [hks]; exact h.set s (h.hold _ hm) (h.till _ hm)
    · rename_i h1
      have hk : 1 ≤ x.hold ∧ x.hold ≤ mx := by
        rw [if_neg (by omega)] at hx; omega
      have hsh := h.hold _ hm
      simp only at hsh
      split
      · rw [hks]; exact h.set s (h.hold _ hm) (h.till _ hm)
      · split
        · exact hks ▸ h.set { s with ref := x.ref, until_ := now + s.hold } hsh ⟨by simp only; omega, by simp only; omega⟩
        · exact hks ▸ h.set { s with ref := x.ref, id_ := x.id_, seqno := x.seqno, hop := x.hop, hold := x.hold, until_ := now + x.hold } hk ⟨by simp only; omega, by simp only; omega⟩
theorem good_retr {now mx : Int} {M : TabR} (h : GoodR now mx M) (hn : 0 ≤ now) (j : Int) (fr : Bs 16) : GoodR now mx (mapM (retrR now j fr) M) := by
  refine ⟨fun e he => ?_, fun e he => ?_, fun e he => ?_⟩
  all_goals obtain ⟨e', he', rfl⟩ := List.mem_map.1 he
  · show e'.1 = keyR (retrR now j fr e'.2)
    rw [retr_key]; exact h.keyed e' he'
  · have := h.hold e' he'
    show 1 ≤ (retrR now j fr e'.2).hold ∧ (retrR now j fr e'.2).hold ≤ mx
    unfold retrR; split <;> exact this
  · have := h.hold e' he'
    have h2 := h.till e' he'
    show 0 ≤ (retrR now j fr e'.2).until_ ∧ (retrR now j fr e'.2).until_ ≤ now + mx
    unfold retrR; split
    · simp only; omega
    · exact h2
theorem ord_ex {M : TabR} {L L2 : List Route} (h : OrdR M L) (h2 : OrdR M L2) : L2 = L := h.uniq keyCmpR h2.perm (h2.sort.imp fun {a b} hab hba => by
  have := (keyCmpR.neg a b).1 hab
  omega)
theorem count_L {M : TabR} {L : List Route} (h : OrdR M L) (p : Route → Bool) : (M.filter fun e => p e.2).length = (L.filter p).length := by
  rw [(h.perm.filter p).length_eq, List.filter_map, List.length_map]
  rfl
theorem mapM_len (f : Route → Route) (M : TabR) : (mapM f M).length = M.length := by simp [mapM]
theorem retr_twice (now now2 j : Int) (fr : Bs 16) (s : Route) : mineR j fr (retrR now j fr s) = false := by
  unfold retrR
  split
  · simp [mineR]
  · rename_i h; simpa using h
theorem filter_none {α : Type} {p : α → Bool} {l : List α} (h : ∀ x ∈ l, p x = false) : (l.filter p).length = 0 := by
  rw [List.length_eq_zero_iff, List.filter_eq_nil_iff]
  intro x hx; rw [h x hx]; simp

theorem retr_inf (now : Int) {j : Int} {fr : Bs 16} {y : Route} (h1 : y.if_.val = j) (h2 : y.from_ = fr) : (retrR now j fr y).ref = 65535 := by
  unfold retrR
  split
  · rfl
  · rename_i h
    simp only [mineR, h1, h2, decide_true, Bool.true_and, decide_eq_true_eq, ne_eq, Classical.not_not] at h
    exact h
theorem fm_len (p : Route → Bool) {l : List Route} {i : Nat} {y : Route} (h : l[i]? = some y) : (((l.drop i).filter p).length : Int) = (if p y then 1 else 0) + ((l.drop (i + 1)).filter p).length := by
  have hi : i < l.length := (List.getElem?_eq_some_iff.1 h).1
  have : l[i] = y := (List.getElem?_eq_some_iff.1 h).2
  rw [List.drop_eq_getElem_cons hi, this, List.filter_cons]
  split <;> simp <;> omega

theorem law_retracts (F : Fr) {a : Option Addr} {xs : List Law16Act} {c : Nat} (hlen : xs.length ≤ 9223372036854775807) (ha : ArgSl F a 84 Law16Act.enc xs) (j : Int) (fr : Bs 16) : Spec Try.prog 5 #[.slice a xs.length c, .int .i64 j, .agg (Bs.enc (fr : Bs 16)).toArray] [] F (fun v S => v = .bool true ∧ S = []) := by
  refine Spec.intro (N := 138) (args := [.slice a xs.length c, .int .i64 j, .agg (Bs.enc (fr : Bs 16)).toArray]) Try.func5 rfl rfl (by simp) ?_
  refine Run.seq fun k1 hk1 => ?_
  refine Run.region ?_
  show Sq _ _ _ [0, 1] _ _ _ _
  refine Sq.eff (i := 0) rfl (Want.none rfl) rfl (ltN rfl) (EF.boxA rfl rfl) ?_
  rintro _ _ ⟨b5, rfl, rfl⟩
  refine Sq.quiet (i := 1) rfl (Want.none rfl) rfl (ltN rfl) (QP.assign rfl rfl).read ?_
  refine Sq.nil ?_
  refine hk1 _ _ ?_
  refine Run.seq fun k2 hk2 => ?_
  refine Run.seq fun k3 hk3 => ?_
  refine Run.region ?_
  show Sq _ _ _ [0, 1, 2] _ _ _ _
  refine Sq.quiet (i := 0) rfl (Want.none rfl) rfl (ltN rfl) (QP.move rfl rfl).read ?_
  refine Sq.eff (i := 1) rfl (Want.none rfl) rfl (ltN rfl) (EF.call rfl ce9 rfl Takes.nil (fun F' hle hr => right_spec F' hlen (ha.mono hle))) ?_
  rintro _ _ ⟨_, ⟨rfl, r, rfl, hright⟩, rfl⟩
  refine J.app ?_
  refine J.caseB (fun c16 => ?_) (fun c16 => ?_)
  · skip
    refine Sq.quiet (i := 2) rfl (Want.none rfl) rfl (ltN rfl) (QP.not rfl rfl).read ?_
    refine Sq.nil ?_
    refine hk3 _ _ ?_
    refine Run.cond_f rfl ?_
    refine Run.skip ?_
    refine hk2 _ _ ?_
    refine Run.seq fun k4 hk4 => ?_
    refine Run.region ?_
    show Sq _ _ _ [0, 1] _ _ _ _
    obtain ⟨hl150, hgap⟩ := hright c16
    refine Sq.eff (i := 0) rfl (Want.none rfl) rfl (ltN rfl) (EF.call rfl ce11 rfl Takes.nil (fun F' hle hr => newT F' _)) ?_
    rintro _ _ ⟨_, ⟨bt, rfl, rfl⟩, rfl⟩
    refine J.app ?_
    refine Sq.quiet (i := 1) rfl (Want.none rfl) rfl (ltN rfl) (QP.assign rfl rfl).read ?_
    refine Sq.nil ?_
    refine hk4 _ _ ?_
    refine Run.seq fun k5 hk5 => ?_
    refine Run.seq fun k6 hk6 => ?_
    refine Run.region ?_
    show Sq _ _ _ [0, 1] _ _ _ _
    refine Sq.quiet (i := 0) rfl (Want.none rfl) rfl (ltN rfl) (QP.move rfl rfl).read ?_
    refine Sq.quiet (i := 1) rfl (Want.none rfl) rfl (ltN rfl) (QP.ptr_eq_nil rfl rfl rfl Try.underlying25).read ?_
    refine Sq.nil ?_
    refine hk6 _ _ ?_
    refine Run.cond_f rfl ?_
    refine Run.skip ?_
    refine hk5 _ _ ?_
    refine Run.seq fun k7 hk7 => ?_
    refine Run.region ?_
    show Sq _ _ _ [0] _ _ _ _
    refine Sq.quiet (i := 0) rfl (Want.none rfl) rfl (ltN rfl) (QP.assign rfl rfl).read ?_
    refine Sq.nil ?_
    refine hk7 _ _ ?_
    refine Run.seq fun k8 hk8 => ?_
    refine Run.seq fun k9 hk9 => ?_
    refine Run.region ?_
    show Sq _ _ _ [0] _ _ _ _
    refine Sq.quiet (i := 0) rfl (Want.none rfl) rfl (ltN rfl) (QP.assign rfl rfl).read ?_
    refine Sq.nil ?_
    refine hk9 _ _ ?_
    refine Run.block ?_
    refine Run.loop3 (fun (i : Nat) (now : Int) (M : TabR) => i ≤ xs.length ∧ 0 ≤ now ∧ now ≤ i * 1073741824 ∧ GoodR now 2147483648 M ∧ M.length ≤ i) (fun i now M => .cons 0 (.slice a xs.length c) (.cons 1 (.int .i64 j) (.cons 5 (.pointer (some ⟨b5, 0, none⟩)) (.cons 7 (.pointer (some ⟨bt, 0, none⟩)) (.cons 8 (.int .i64 now) (.cons 9 (.int .i64 i) (.nil))))))) (fun i now M => [RTab bt 150 M, blk b5 (Bs.enc fr) 28]) (fun i now M => xs.length - i) (0) (0) ([]) (⟨Nat.zero_le _, Int.le_refl _, by omega, GoodR.nil _ _, Nat.le_refl _⟩) ?_ ?_
    · exact fun _ j => J.envJ (J.keep (.cons (by repeat (first | exact Pick.head | apply Pick.tail)) (.cons (by repeat (first | exact Pick.head | apply Pick.tail)) Takes.nil)) j) ⟨rfl, rfl, rfl, rfl, rfl, rfl, trivial⟩
    rintro i now M ⟨hile, hn0, hn1, hgood, hML⟩ kl10 hl10
    refine Run.seq fun k11 hk11 => ?_
    refine Run.seq fun k12 hk12 => ?_
    refine Run.region ?_
    show Sq _ _ _ [0, 1, 2, 3] _ _ _ _
    refine Sq.quiet (i := 0) rfl (Want.none rfl) rfl (ltN rfl) (QP.move rfl rfl).read ?_
    refine Sq.quiet (i := 1) rfl (Want.none rfl) rfl (ltN rfl) (QP.move rfl rfl).read ?_
    refine Sq.quiet (i := 2) rfl (Want.none rfl) rfl (ltN rfl) (QP.len rfl rfl rfl Try.underlying22).read ?_
    refine Sq.quiet (i := 3) rfl (Want.none rfl) rfl (ltN rfl) (QP.lss rfl rfl rfl).read ?_
    refine J.caseD (fun c25 => ?_) (fun c25 => ?_)
    · skip
      refine Sq.nil ?_
      refine hk12 _ _ ?_
      refine Run.cond_t rfl ?_
      refine Run.skip ?_
      refine hk11 _ _ ?_
      refine Run.seq fun k13 hk13 => ?_
      refine Run.block ?_
      refine Run.seq fun k14 hk14 => ?_
      refine Run.region ?_
      show Sq _ _ _ [0, 1, 2, 3, 4, 5, 6, 7] _ _ _ _
      have hlt : i < xs.length := by omega
      obtain ⟨x, hi⟩ : ∃ x, xs[i]? = some x := ⟨_, List.getElem?_eq_getElem hlt⟩
      obtain ⟨b0, o0, rfl, hs0⟩ := ha.get (by omega)
      have hg := hgap x (List.mem_of_getElem? hi)
      unfold okGap at hg
      refine Sq.quiet (i := 0) rfl (Want.none rfl) rfl (ltN rfl) (QP.move rfl rfl).read ?_
      refine Sq.quiet (i := 1) rfl (Want.none rfl) rfl (ltN rfl) (QP.move rfl rfl).read ?_
      refine Sq.quiet (i := 2) rfl (Want.none rfl) rfl (ltN rfl) (QP.move rfl rfl).read ?_
      refine Sq.quiet (i := 3) rfl (Want.none rfl) rfl (ltN rfl) (QP.indexAddr rfl rfl rfl Try.underlying22 z39 (by first | omega | (simp <;> omega)) (by first | omega | (simp <;> omega))).read ?_
      refine Sq.quiet (i := 4) rfl (Want.none rfl) rfl (ltN rfl) (QP.fieldAddr rfl rfl f39_1).read ?_
      refine Sq.quiet (i := 5) rfl (Want.none rfl) rfl (ltN rfl) (QR.loadSlF1 rfl rfl g3 Law16Act.enc_len (hs0 _) hi (Law16Act.sub_gap _)) ?_
      refine Sq.quiet (i := 6) rfl (Want.none rfl) rfl (ltN rfl) (QP.add64 rfl rfl rfl (by first | omega | (simp <;> omega)) (by first | omega | (simp <;> omega))).read ?_
      refine Sq.quiet (i := 7) rfl (Want.none rfl) rfl (ltN rfl) (QP.assign rfl rfl).read ?_
      refine Sq.nil ?_
      refine hk14 _ _ ?_
      refine Run.seq fun k15 hk15 => ?_
      refine Run.region ?_
      show Sq _ _ _ [0, 1, 2, 3, 4, 5] _ _ _ _
      refine Sq.quiet (i := 0) rfl (Want.none rfl) rfl (ltN rfl) (QP.move rfl rfl).read ?_
      refine Sq.quiet (i := 1) rfl (Want.none rfl) rfl (ltN rfl) (QP.move rfl rfl).read ?_
      refine Sq.quiet (i := 2) rfl (Want.none rfl) rfl (ltN rfl) (QP.indexAddr rfl rfl rfl Try.underlying22 z39 (by first | omega | (simp <;> omega)) (by first | omega | (simp <;> omega))).read ?_
      refine Sq.quiet (i := 3) rfl (Want.none rfl) rfl (ltN rfl) (QP.fieldAddr rfl rfl f39_0).read ?_
      refine Sq.quiet (i := 4) rfl (Want.none rfl) rfl (ltN rfl) (QR.loadSlF1 rfl rfl g3 Law16Act.enc_len (hs0 _) hi (Law16Act.sub_kind _)) ?_
      refine Sq.quiet (i := 5) rfl (Want.none rfl) rfl (ltN rfl) (QP.eql rfl rfl rfl).read ?_
      refine J.caseD (fun c40 => ?_) (fun c40 => ?_)
      · skip
        refine Sq.nil ?_
        refine hk15 _ _ ?_
        refine Run.cond_t rfl ?_
        refine Run.regionD (M := [0, 0, 0, 0, 12, 28, 60, 0, 0, 384, 896, 1920, 4095]) (q := 4095) (r := 2112) (by kernel_rfl) ?_
        refine Dw.pure (i := 0) rfl (by kernel_rfl) (Want.none rfl) rfl (ltN rfl) (QP.move rfl rfl) ?_
        refine Dw.pure (i := 1) rfl (by kernel_rfl) (Want.none rfl) rfl (ltN rfl) (QP.move rfl rfl) ?_
        refine Dw.pure (i := 2) rfl (by kernel_rfl) (Want.none rfl) rfl (ltN rfl) (QP.move rfl rfl) ?_
        refine Dw.pure (i := 3) rfl (by kernel_rfl) (Want.none rfl) rfl (ltN rfl) (QP.move rfl rfl) ?_
        refine Dw.pure (i := 4) rfl (by kernel_rfl) (Want.none rfl) rfl (ltN rfl) (QP.indexAddr rfl rfl rfl Try.underlying22 z39 (by first | omega | (simp <;> omega)) (by first | omega | (simp <;> omega))) ?_
        refine Dw.pure (i := 5) rfl (by kernel_rfl) (Want.none rfl) rfl (ltN rfl) (QP.fieldAddr rfl rfl f39_2) ?_
        refine Dw.read (i := 6) rfl (by kernel_rfl) (Want.none rfl) rfl (ltN rfl) (QR.loadSlF rfl rfl g37 Law16Act.enc_len (hs0 _) hi (Law16Act.sub_r _)) ?_
        refine Dw.pure (i := 7) rfl (by kernel_rfl) (Want.none rfl) rfl (ltN rfl) (QP.move rfl rfl) ?_
        refine Dw.pure (i := 8) rfl (by kernel_rfl) (Want.none rfl) rfl (ltN rfl) (QP.move rfl rfl) ?_
        refine Dw.pure (i := 9) rfl (by kernel_rfl) (Want.none rfl) rfl (ltN rfl) (QP.indexAddr rfl rfl rfl Try.underlying22 z39 (by first | omega | (simp <;> omega)) (by first | omega | (simp <;> omega))) ?_
        refine Dw.pure (i := 10) rfl (by kernel_rfl) (Want.none rfl) rfl (ltN rfl) (QP.fieldAddr rfl rfl f39_3) ?_
        refine Dw.read (i := 11) rfl (by kernel_rfl) (Want.none rfl) rfl (ltN rfl) (QR.loadSlF1 rfl rfl g4 Law16Act.enc_len (hs0 _) hi (Law16Act.sub_ok _)) ?_
        refine Dw.eff (i := 12) (by kernel_rfl) (by kernel_rfl) ?_
        refine One.mk (o := _) (l := []) rfl (by kernel_rfl) (Want.none rfl) rfl (ltN rfl) (EF.call rfl ce12 rfl (.cons (by repeat (first | exact Pick.head | apply Pick.tail)) Takes.nil) (fun F' hle hr => tellT F' (now + x.gap) (by omega) (by omega) x.r x.ok (fun e he => ⟨(hgood.hold e he).1, by have := (hgood.hold e he).2; omega⟩))) (by kernel_rfl) ?_
        rintro _ _ ⟨_, ⟨rfl, rfl⟩, rfl⟩
        refine ⟨fun _ h => (by cases h), ?_⟩
        refine J.app ?_
        refine Dw.nil (by kernel_rfl) ?_
        refine hk13 _ _ ?_
        refine Run.region ?_
        show Sq _ _ _ [0, 1, 2] _ _ _ _
        refine Sq.quiet (i := 0) rfl (Want.none rfl) rfl (ltN rfl) (QP.move rfl rfl).read ?_
        refine Sq.quiet (i := 1) rfl (Want.none rfl) rfl (ltN rfl) (QP.add64 rfl rfl rfl (by first | omega | (simp <;> omega)) (by first | omega | (simp <;> omega))).read ?_
        refine Sq.quiet (i := 2) rfl (Want.none rfl) rfl (ltN rfl) (QP.assign rfl rfl).read ?_
        refine Sq.nil ?_
        exact J.envJ (J.keep (.cons (by repeat (first | exact Pick.head | apply Pick.tail)) (.cons (by repeat (first | exact Pick.head | apply Pick.tail)) Takes.nil)) (hl10 (i + 1) (now + x.gap) ((tellF 150 M (now + x.gap) x.r x.ok).2.2) (⟨by omega, by omega, by omega, (good_tell (hgood.mono (by omega) (Int.le_refl _)) (by omega) x.r x.ok (by split <;> omega)).1, Nat.le_trans (good_tell (hgood.mono (show now ≤ now + x.gap by omega) (Int.le_refl _)) (by omega) x.r x.ok (by split <;> omega)).2 (by omega)⟩) (by omega))) ⟨rfl, rfl, rfl, rfl, rfl, rfl, trivial⟩
      · skip
        refine Sq.nil ?_
        refine hk15 _ _ ?_
        refine Run.cond_f rfl ?_
        refine Run.skip ?_
        refine hk13 _ _ ?_
        refine Run.region ?_
        show Sq _ _ _ [0, 1, 2] _ _ _ _
        refine Sq.quiet (i := 0) rfl (Want.none rfl) rfl (ltN rfl) (QP.move rfl rfl).read ?_
        refine Sq.quiet (i := 1) rfl (Want.none rfl) rfl (ltN rfl) (QP.add64 rfl rfl rfl (by first | omega | (simp <;> omega)) (by first | omega | (simp <;> omega))).read ?_
        refine Sq.quiet (i := 2) rfl (Want.none rfl) rfl (ltN rfl) (QP.assign rfl rfl).read ?_
        refine Sq.nil ?_
        exact J.envJ (J.keep (.cons (by repeat (first | exact Pick.head | apply Pick.tail)) (.cons (by repeat (first | exact Pick.head | apply Pick.tail)) Takes.nil)) (hl10 (i + 1) (now + x.gap) (M) (⟨by omega, by omega, by omega, hgood.mono (by omega) (Int.le_refl _), by omega⟩) (by omega))) ⟨rfl, rfl, rfl, rfl, rfl, rfl, trivial⟩
    · skip
      refine Sq.nil ?_
      refine hk12 _ _ ?_
      refine Run.cond_f rfl ?_
      refine Run.exit rfl ?_
      refine hk8 _ _ ?_
      refine Run.seq fun k16 hk16 => ?_
      refine Run.region ?_
      show Sq _ _ _ [0, 1, 2] _ _ _ _
      have hMn : M.length ≤ 1000000 := by omega
      have hH : HoldR M := hgood.hold
      have hH2 : HoldR (mapM (retrR now j fr) M) := (good_retr hgood hn0 j fr).hold
      refine Sq.quiet (i := 0) rfl (Want.none rfl) rfl (ltN rfl) (QP.move rfl rfl).read ?_
      refine Sq.eff (i := 1) rfl (Want.none rfl) rfl (ltN rfl) (EF.call rfl ce15 rfl (.cons (by repeat (first | exact Pick.head | apply Pick.tail)) Takes.nil) (fun F' hle hr => listT F' hgood.keyed hMn)) ?_
      rintro v55 _ ⟨_, ⟨LA, hLA, rfl⟩, rfl⟩
      refine J.app ?_
      refine Sq.slCase (v := v55) (xs := LA) (by repeat (first | exact List.Mem.head _ | apply List.Mem.tail)) (fun a55 c55 hv55 hh55 => ?_)
      subst hv55
      refine Sq.quiet (i := 2) rfl (Want.none rfl) rfl (ltN rfl) (QP.assign rfl rfl).read ?_
      refine Sq.nil ?_
      refine hk16 _ _ ?_
      refine Run.seq fun k17 hk17 => ?_
      refine Run.region ?_
      show Sq _ _ _ [0, 1, 2, 3, 4, 5] _ _ _ _
      refine Sq.quiet (i := 0) rfl (Want.none rfl) rfl (ltN rfl) (QP.move rfl rfl).read ?_
      refine Sq.quiet (i := 1) rfl (Want.none rfl) rfl (ltN rfl) (QP.move rfl rfl).read ?_
      refine Sq.quiet (i := 2) rfl (Want.none rfl) rfl (ltN rfl) (QP.move rfl rfl).read ?_
      refine Sq.quiet (i := 3) rfl (Want.none rfl) rfl (ltN rfl) (QR.load rfl rfl g28 (Bs.sub _)) ?_
      refine Sq.eff (i := 4) rfl (Want.none rfl) rfl (ltN rfl) (EF.call rfl ce17 rfl (.cons (by repeat (first | exact Pick.head | apply Pick.tail)) Takes.nil) (fun F' hle hr => retractT F' hMn hH now hn0 (by omega) j fr)) ?_
      rintro _ _ ⟨_, ⟨rfl, rfl⟩, rfl⟩
      refine J.app ?_
      refine Sq.quiet (i := 5) rfl (Want.none rfl) rfl (ltN rfl) (QP.assign rfl rfl).read ?_
      refine Sq.nil ?_
      refine hk17 _ _ ?_
      refine Run.seq fun k18 hk18 => ?_
      refine Run.region ?_
      show Sq _ _ _ [0, 1, 2] _ _ _ _
      refine Sq.quiet (i := 0) rfl (Want.none rfl) rfl (ltN rfl) (QP.move rfl rfl).read ?_
      refine Sq.eff (i := 1) rfl (Want.none rfl) rfl (ltN rfl) (EF.call rfl ce15 rfl (.cons (by repeat (first | exact Pick.head | apply Pick.tail)) Takes.nil) (fun F' hle hr => listT F' (good_retr hgood hn0 j fr).keyed (by rw [mapM_len]; exact hMn))) ?_
      rintro v62 _ ⟨_, ⟨LB, hLB, rfl⟩, rfl⟩
      refine J.app ?_
      refine Sq.slCase (v := v62) (xs := LB) (by repeat (first | exact List.Mem.head _ | apply List.Mem.tail)) (fun a62 c62 hv62 hh62 => ?_)
      subst hv62
      have hLBe : LB = LA.map (retrR now j fr) := ord_ex (ord_map (retr_key now j fr) hLA) hLB
      subst hLBe
      have hLl : LA.length ≤ 150 := by rw [hLA.length]; omega
      refine Sq.quiet (i := 2) rfl (Want.none rfl) rfl (ltN rfl) (QP.assign rfl rfl).read ?_
      refine Sq.nil ?_
      refine hk18 _ _ ?_
      refine Run.seq fun k19 hk19 => ?_
      refine Run.seq fun k20 hk20 => ?_
      refine Run.region ?_
      show Sq _ _ _ [0, 1, 2, 3, 4] _ _ _ _
      refine Sq.quiet (i := 0) rfl (Want.none rfl) rfl (ltN rfl) (QP.move rfl rfl).read ?_
      refine Sq.quiet (i := 1) rfl (Want.none rfl) rfl (ltN rfl) (QP.len rfl rfl rfl Try.underlying46).read ?_
      refine Sq.quiet (i := 2) rfl (Want.none rfl) rfl (ltN rfl) (QP.move rfl rfl).read ?_
      refine Sq.quiet (i := 3) rfl (Want.none rfl) rfl (ltN rfl) (QP.len rfl rfl rfl Try.underlying46).read ?_
      refine Sq.quiet (i := 4) rfl (Want.none rfl) rfl (ltN rfl) (QP.neq rfl rfl rfl).read ?_
      refine J.decF (by simp) ?_
      refine Sq.nil ?_
      refine hk20 _ _ ?_
      refine Run.cond_f rfl ?_
      refine Run.skip ?_
      refine hk19 _ _ ?_
      refine Run.seq fun k21 hk21 => ?_
      refine Run.seq fun k22 hk22 => ?_
      refine Run.region ?_
      show Sq _ _ _ [0] _ _ _ _
      refine Sq.quiet (i := 0) rfl (Want.none rfl) rfl (ltN rfl) (QP.assign rfl rfl).read ?_
      refine Sq.nil ?_
      refine hk22 _ _ ?_
      refine Run.block ?_
      refine Run.loop2 (fun (i : Nat) (n : Int) => i ≤ LA.length ∧ n = ((LA.drop i).filter (mineR j fr)).length) (fun i n => .cons 1 (.int .i64 j) (.cons 5 (.pointer (some ⟨b5, 0, none⟩)) (.cons 7 (.pointer (some ⟨bt, 0, none⟩)) (.cons 8 (.int .i64 now) (.cons 10 (.slice a55 LA.length c55) (.cons 11 (.int .i64 n) (.cons 12 (.slice a62 (LA.map (retrR now j fr)).length c62) (.cons 13 (.int .i64 i) (.nil))))))))) (fun i n => [RTab bt 150 (mapM (retrR now j fr) M), blk b5 (Bs.enc fr) 28, slA 37 81 Route.enc (.slice a55 LA.length c55) LA, slA 37 81 Route.enc (.slice a62 (LA.map (retrR now j fr)).length c62) (LA.map (retrR now j fr))]) (fun i n => LA.length - i) (0) (((M.filter fun e => mineR j fr e.2).length : Int)) (⟨Nat.zero_le _, by rw [count_L hLA]; rfl⟩) ?_ ?_
      · exact fun _ j => J.envJ (J.keep (.cons (by repeat (first | exact Pick.head | apply Pick.tail)) (.cons (by repeat (first | exact Pick.head | apply Pick.tail)) (.cons (by repeat (first | exact Pick.head | apply Pick.tail)) (.cons (by repeat (first | exact Pick.head | apply Pick.tail)) Takes.nil)))) j) ⟨rfl, rfl, rfl, rfl, rfl, rfl, rfl, rfl, trivial⟩
      rintro i n ⟨hile2, hn⟩ kl23 hl23
      refine Run.seq fun k24 hk24 => ?_
      refine Run.seq fun k25 hk25 => ?_
      refine Run.region ?_
      show Sq _ _ _ [0, 1, 2, 3] _ _ _ _
      refine Sq.quiet (i := 0) rfl (Want.none rfl) rfl (ltN rfl) (QP.move rfl rfl).read ?_
      refine Sq.quiet (i := 1) rfl (Want.none rfl) rfl (ltN rfl) (QP.move rfl rfl).read ?_
      refine Sq.quiet (i := 2) rfl (Want.none rfl) rfl (ltN rfl) (QP.len rfl rfl rfl Try.underlying46).read ?_
      refine Sq.quiet (i := 3) rfl (Want.none rfl) rfl (ltN rfl) (QP.lss rfl rfl rfl).read ?_
      refine J.caseD (fun c71 => ?_) (fun c71 => ?_)
      · skip
        refine Sq.nil ?_
        refine hk25 _ _ ?_
        refine Run.cond_t rfl ?_
        refine Run.skip ?_
        refine hk24 _ _ ?_
        refine Run.seq fun k26 hk26 => ?_
        refine Run.block ?_
        refine Run.seq fun k27 hk27 => ?_
        refine Run.regionD (M := [0, 0, 3, 7, 15, 0, 63, 127, 255, 255, 1023, 2047, 4095, 255, 16383, 32767, 65535]) (q := 65535) (r := 12304) (by kernel_rfl) ?_
        have hlt : i < LA.length := by omega
        obtain ⟨y, hwas⟩ : ∃ y, LA[i]? = some y := ⟨_, List.getElem?_eq_getElem hlt⟩
        have his : (LA.map (retrR now j fr))[i]? = some (retrR now j fr y) := by rw [List.getElem?_map, hwas]; rfl
        obtain ⟨b1, o1, rfl⟩ := hh55.get (by omega)
        obtain ⟨b2, o2, rfl⟩ := hh62.get (by rw [List.length_map]; omega)
        refine Dw.pure (i := 0) rfl (by kernel_rfl) (Want.none rfl) rfl (ltN rfl) (QP.move rfl rfl) ?_
        refine Dw.pure (i := 1) rfl (by kernel_rfl) (Want.none rfl) rfl (ltN rfl) (QP.move rfl rfl) ?_
        refine Dw.pure (i := 2) rfl (by kernel_rfl) (Want.none rfl) rfl (ltN rfl) (QP.indexAddr rfl rfl rfl Try.underlying46 z37 (by first | omega | (simp <;> omega)) (by first | omega | (simp <;> omega))) ?_
        refine Dw.pure (i := 3) rfl (by kernel_rfl) (Want.none rfl) rfl (ltN rfl) (QP.fieldAddr rfl rfl f37_1) ?_
        refine Dw.read (i := 4) rfl (by kernel_rfl) (Want.none rfl) rfl (ltN rfl) (QR.loadSlF1 rfl rfl g3 Route.enc_len (SlAt.own Route.enc_len (by repeat (first | exact List.Mem.head _ | apply List.Mem.tail))) hwas (Route.sub_if_ _)) ?_
        refine Dw.pure (i := 5) rfl (by kernel_rfl) (Want.none rfl) rfl (ltN rfl) (QP.move rfl rfl) ?_
        refine Dw.pure (i := 6) rfl (by kernel_rfl) (Want.none rfl) rfl (ltN rfl) (QP.eql rfl rfl rfl) ?_
        refine J.caseD (fun c80 => ?_) (fun c80 => ?_)
        · skip
          refine Dw.pure (i := 7) rfl (by kernel_rfl) (Want.none rfl) rfl (ltN rfl) (QP.move rfl rfl) ?_
          refine Dw.pure (i := 8) rfl (by kernel_rfl) (Want.yes rfl rfl rfl rfl) rfl (ltN rfl) (QP.move rfl rfl) ?_
          refine Dw.pure (i := 9) rfl (by kernel_rfl) (Want.yes rfl rfl rfl rfl) rfl (ltN rfl) (QP.move rfl rfl) ?_
          refine Dw.pure (i := 10) rfl (by kernel_rfl) (Want.yes rfl rfl rfl rfl) rfl (ltN rfl) (QP.indexAddr rfl rfl rfl Try.underlying46 z37 (by first | omega | (simp <;> omega)) (by first | omega | (simp <;> omega))) ?_
          refine Dw.pure (i := 11) rfl (by kernel_rfl) (Want.yes rfl rfl rfl rfl) rfl (ltN rfl) (QP.fieldAddr rfl rfl f37_2) ?_
          refine Dw.read (i := 12) rfl (by kernel_rfl) (Want.yes rfl rfl rfl rfl) rfl (ltN rfl) (QR.loadSlF rfl rfl g28 Route.enc_len (SlAt.own Route.enc_len (by repeat (first | exact List.Mem.head _ | apply List.Mem.tail))) hwas (Route.sub_from_ _)) ?_
          refine Dw.read (i := 13) rfl (by kernel_rfl) (Want.yes rfl rfl rfl rfl) rfl (ltN rfl) (QR.load rfl rfl g28 (Bs.sub _)) ?_
          refine Dw.pure (i := 14) rfl (by kernel_rfl) (Want.yes rfl rfl rfl rfl) rfl (ltN rfl) (QP.eql_agg eq28 rfl rfl rfl) ?_
          refine J.caseD (fun c88 => ?_) (fun c88 => ?_)
          · skip
            refine Dw.pure (i := 15) rfl (by kernel_rfl) (Want.none rfl) rfl (ltN rfl) (QP.pick_t rfl rfl rfl) ?_
            refine Dw.eff (i := 16) (by kernel_rfl) (by kernel_rfl) ?_
            refine One.mk (o := _) (l := []) rfl (by kernel_rfl) (Want.none rfl) rfl (ltN rfl) ((QP.assign rfl rfl).eff) (by kernel_rfl) ?_
            rintro _ _ ⟨rfl, rfl⟩
            refine ⟨fun _ h => (by cases h), ?_⟩
            refine Dw.nil (by kernel_rfl) ?_
            refine hk27 _ _ ?_
            refine Run.seq fun k28 hk28 => ?_
            refine Run.seq fun k29 hk29 => ?_
            refine Run.regionD (M := [0, 1, 3, 3, 15, 31, 63, 127, 255, 511, 1023, 2047, 4095, 8191, 8191, 32767, 65535, 8191, 8191, 401407, 925695, 2097151, 4194303, 8388607]) (q := 16777215) (r := 1114176) (by kernel_rfl) ?_
            refine Dw.pure (i := 0) rfl (by kernel_rfl) (Want.none rfl) rfl (ltN rfl) (QP.move rfl rfl) ?_
            refine Dw.pure (i := 1) rfl (by kernel_rfl) (Want.none rfl) rfl (ltN rfl) (QP.move rfl rfl) ?_
            refine Dw.pure (i := 2) rfl (by kernel_rfl) (Want.yes rfl rfl rfl rfl) rfl (ltN rfl) (QP.move rfl rfl) ?_
            refine Dw.pure (i := 3) rfl (by kernel_rfl) (Want.yes rfl rfl rfl rfl) rfl (ltN rfl) (QP.move rfl rfl) ?_
            refine Dw.pure (i := 4) rfl (by kernel_rfl) (Want.yes rfl rfl rfl rfl) rfl (ltN rfl) (QP.indexAddr rfl rfl rfl Try.underlying46 z37 (by first | omega | (simp <;> omega)) (by first | omega | (simp <;> omega))) ?_
            refine Dw.pure (i := 5) rfl (by kernel_rfl) (Want.yes rfl rfl rfl rfl) rfl (ltN rfl) (QP.fieldAddr rfl rfl f37_5) ?_
            refine Dw.read (i := 6) rfl (by kernel_rfl) (Want.yes rfl rfl rfl rfl) rfl (ltN rfl) (QR.loadSlF1 rfl rfl g35 Route.enc_len (SlAt.own Route.enc_len (by repeat (first | exact List.Mem.head _ | apply List.Mem.tail))) his (Route.sub_ref _)) ?_
            refine Dw.pure (i := 7) rfl (by kernel_rfl) (Want.yes rfl rfl rfl rfl) rfl (ltN rfl) (QP.neq rfl rfl rfl) ?_
            refine J.decF (fun h => h (retr_inf now c80 c88)) ?_
            refine Dw.pure (i := 8) rfl (by kernel_rfl) (Want.none rfl) rfl (ltN rfl) (QP.pick_t rfl rfl rfl) ?_
            refine Dw.pure (i := 9) rfl (by kernel_rfl) (Want.none rfl) rfl (ltN rfl) (QP.move rfl rfl) ?_
            refine Dw.pure (i := 10) rfl (by kernel_rfl) (Want.yes rfl rfl rfl rfl) rfl (ltN rfl) (QP.move rfl rfl) ?_
            refine Dw.pure (i := 11) rfl (by kernel_rfl) (Want.yes rfl rfl rfl rfl) rfl (ltN rfl) (QP.not rfl rfl) ?_
            refine Dw.pure (i := 12) rfl (by kernel_rfl) (Want.yes rfl rfl rfl rfl) rfl (ltN rfl) (QP.move rfl rfl) ?_
            refine Dw.skip (i := 13) rfl (by kernel_rfl) (Want.no rfl rfl rfl rfl) rfl (ltN rfl) ?_
            refine Dw.skip (i := 14) rfl (by kernel_rfl) (Want.no rfl rfl rfl rfl) rfl (ltN rfl) ?_
            refine Dw.skip (i := 15) rfl (by kernel_rfl) (Want.no rfl rfl rfl rfl) rfl (ltN rfl) ?_
            refine Dw.skip (i := 16) rfl (by kernel_rfl) (Want.no rfl rfl rfl rfl) rfl (ltN rfl) ?_
            refine Dw.skip (i := 17) rfl (by kernel_rfl) (Want.no rfl rfl rfl rfl) rfl (ltN rfl) ?_
            refine Dw.skip (i := 18) rfl (by kernel_rfl) (Want.no rfl rfl rfl rfl) rfl (ltN rfl) ?_
            refine Dw.skip (i := 19) rfl (by kernel_rfl) (Want.no rfl rfl rfl rfl) rfl (ltN rfl) ?_
            refine Dw.skip (i := 20) rfl (by kernel_rfl) (Want.no rfl rfl rfl rfl) rfl (ltN rfl) ?_
            refine Dw.skip (i := 21) rfl (by kernel_rfl) (Want.no rfl rfl rfl rfl) rfl (ltN rfl) ?_
            refine Dw.pure (i := 22) rfl (by kernel_rfl) (Want.yes rfl rfl rfl rfl) rfl (ltN rfl) (QP.pick_f rfl rfl rfl) ?_
            refine Dw.pure (i := 23) rfl (by kernel_rfl) (Want.none rfl) rfl (ltN rfl) (QP.pick_f rfl rfl rfl) ?_
            refine Dw.nil (by kernel_rfl) ?_
            refine hk29 _ _ ?_
            refine Run.cond_f rfl ?_
            refine Run.skip ?_
            refine hk28 _ _ ?_
            refine Run.seq fun k30 hk30 => ?_
            refine Run.region ?_
            show Sq _ _ _ [0, 1, 2, 3, 4, 5, 6, 7, 8] _ _ _ _
            have hfl := fm_len (mineR j fr) hwas
            have hnl : 0 ≤ n ∧ n ≤ 150 := by
              have h1 := List.length_filter_le (mineR j fr) (LA.drop i)
              rw [List.length_drop] at h1
              omega
            refine Sq.quiet (i := 0) rfl (Want.none rfl) rfl (ltN rfl) (QP.move rfl rfl).read ?_
            refine Sq.quiet (i := 1) rfl (Want.none rfl) rfl (ltN rfl) (QP.move rfl rfl).read ?_
            refine Sq.quiet (i := 2) rfl (Want.yes rfl rfl rfl rfl) rfl (ltN rfl) (QP.move rfl rfl).read ?_
            refine Sq.quiet (i := 3) rfl (Want.yes rfl rfl rfl rfl) rfl (ltN rfl) (QP.move rfl rfl).read ?_
            refine Sq.quiet (i := 4) rfl (Want.yes rfl rfl rfl rfl) rfl (ltN rfl) (QP.indexAddr rfl rfl rfl Try.underlying46 z37 (by first | omega | (simp <;> omega)) (by first | omega | (simp <;> omega))).read ?_
            refine Sq.quiet (i := 5) rfl (Want.yes rfl rfl rfl rfl) rfl (ltN rfl) (QP.fieldAddr rfl rfl f37_5).read ?_
            refine Sq.quiet (i := 6) rfl (Want.yes rfl rfl rfl rfl) rfl (ltN rfl) (QR.loadSlF1 rfl rfl g35 Route.enc_len (SlAt.own Route.enc_len (by repeat (first | exact List.Mem.head _ | apply List.Mem.tail))) hwas (Route.sub_ref _)) ?_
            refine Sq.quiet (i := 7) rfl (Want.yes rfl rfl rfl rfl) rfl (ltN rfl) (QP.neq rfl rfl rfl).read ?_
            refine J.caseD (fun c121 => ?_) (fun c121 => ?_)
            · skip
              refine Sq.quiet (i := 8) rfl (Want.none rfl) rfl (ltN rfl) (QP.pick_t rfl rfl rfl).read ?_
              refine Sq.nil ?_
              refine hk30 _ _ ?_
              refine Run.cond_t rfl ?_
              refine Run.region ?_
              show Sq _ _ _ [0, 1, 2] _ _ _ _
              refine Sq.quiet (i := 0) rfl (Want.none rfl) rfl (ltN rfl) (QP.move rfl rfl).read ?_
              refine Sq.quiet (i := 1) rfl (Want.none rfl) rfl (ltN rfl) (QP.sub64 rfl rfl rfl (by first | omega | (simp <;> omega)) (by first | omega | (simp <;> omega))).read ?_
              refine Sq.quiet (i := 2) rfl (Want.none rfl) rfl (ltN rfl) (QP.assign rfl rfl).read ?_
              refine Sq.nil ?_
              refine hk26 _ _ ?_
              refine Run.region ?_
              show Sq _ _ _ [0, 1, 2] _ _ _ _
              refine Sq.quiet (i := 0) rfl (Want.none rfl) rfl (ltN rfl) (QP.move rfl rfl).read ?_
              refine Sq.quiet (i := 1) rfl (Want.none rfl) rfl (ltN rfl) (QP.add64 rfl rfl rfl (by first | omega | (simp <;> omega)) (by first | omega | (simp <;> omega))).read ?_
              refine Sq.quiet (i := 2) rfl (Want.none rfl) rfl (ltN rfl) (QP.assign rfl rfl).read ?_
              refine Sq.nil ?_
              exact J.envJ (J.keep (.cons (by repeat (first | exact Pick.head | apply Pick.tail)) (.cons (by repeat (first | exact Pick.head | apply Pick.tail)) (.cons (by repeat (first | exact Pick.head | apply Pick.tail)) (.cons (by repeat (first | exact Pick.head | apply Pick.tail)) Takes.nil)))) (hl23 (i + 1) (n - 1) (⟨by omega, by rw [hn, hfl, show mineR j fr y = true from by simp [mineR, c80, c88, c121]]; first | (simp; done) | (simp; omega)⟩) (by omega))) ⟨rfl, rfl, rfl, rfl, rfl, rfl, rfl, rfl, trivial⟩
            · skip
              refine Sq.quiet (i := 8) rfl (Want.none rfl) rfl (ltN rfl) (QP.pick_t rfl rfl rfl).read ?_
              refine Sq.nil ?_
              refine hk30 _ _ ?_
              refine Run.cond_f rfl ?_
              refine Run.skip ?_
              refine hk26 _ _ ?_
              refine Run.region ?_
              show Sq _ _ _ [0, 1, 2] _ _ _ _
              refine Sq.quiet (i := 0) rfl (Want.none rfl) rfl (ltN rfl) (QP.move rfl rfl).read ?_
              refine Sq.quiet (i := 1) rfl (Want.none rfl) rfl (ltN rfl) (QP.add64 rfl rfl rfl (by first | omega | (simp <;> omega)) (by first | omega | (simp <;> omega))).read ?_
              refine Sq.quiet (i := 2) rfl (Want.none rfl) rfl (ltN rfl) (QP.assign rfl rfl).read ?_
              refine Sq.nil ?_
              exact J.envJ (J.keep (.cons (by repeat (first | exact Pick.head | apply Pick.tail)) (.cons (by repeat (first | exact Pick.head | apply Pick.tail)) (.cons (by repeat (first | exact Pick.head | apply Pick.tail)) (.cons (by repeat (first | exact Pick.head | apply Pick.tail)) Takes.nil)))) (hl23 (i + 1) (n) (⟨by omega, by rw [hn, hfl, show mineR j fr y = false from by simp [mineR, c80, c88, c121]]; first | (simp; done) | (simp; omega)⟩) (by omega))) ⟨rfl, rfl, rfl, rfl, rfl, rfl, rfl, rfl, trivial⟩
          · skip
            refine Dw.pure (i := 15) rfl (by kernel_rfl) (Want.none rfl) rfl (ltN rfl) (QP.pick_t rfl rfl rfl) ?_
            refine Dw.eff (i := 16) (by kernel_rfl) (by kernel_rfl) ?_
            refine One.mk (o := _) (l := []) rfl (by kernel_rfl) (Want.none rfl) rfl (ltN rfl) ((QP.assign rfl rfl).eff) (by kernel_rfl) ?_
            rintro _ _ ⟨rfl, rfl⟩
            refine ⟨fun _ h => (by cases h), ?_⟩
            refine Dw.nil (by kernel_rfl) ?_
            refine hk27 _ _ ?_
            refine Run.seq fun k31 hk31 => ?_
            refine Run.seq fun k32 hk32 => ?_
            refine Run.regionD (M := [0, 1, 3, 3, 15, 31, 63, 127, 255, 511, 1023, 2047, 4095, 8191, 8191, 32767, 65535, 8191, 8191, 401407, 925695, 2097151, 4194303, 8388607]) (q := 16777215) (r := 1114176) (by kernel_rfl) ?_
            refine Dw.pure (i := 0) rfl (by kernel_rfl) (Want.none rfl) rfl (ltN rfl) (QP.move rfl rfl) ?_
            refine Dw.pure (i := 1) rfl (by kernel_rfl) (Want.none rfl) rfl (ltN rfl) (QP.move rfl rfl) ?_
            refine Dw.skip (i := 2) rfl (by kernel_rfl) (Want.no rfl rfl rfl rfl) rfl (ltN rfl) ?_
            refine Dw.skip (i := 3) rfl (by kernel_rfl) (Want.no rfl rfl rfl rfl) rfl (ltN rfl) ?_
            refine Dw.skip (i := 4) rfl (by kernel_rfl) (Want.no rfl rfl rfl rfl) rfl (ltN rfl) ?_
            refine Dw.skip (i := 5) rfl (by kernel_rfl) (Want.no rfl rfl rfl rfl) rfl (ltN rfl) ?_
            refine Dw.skip (i := 6) rfl (by kernel_rfl) (Want.no rfl rfl rfl rfl) rfl (ltN rfl) ?_
            refine Dw.skip (i := 7) rfl (by kernel_rfl) (Want.no rfl rfl rfl rfl) rfl (ltN rfl) ?_
            refine Dw.pure (i := 8) rfl (by kernel_rfl) (Want.none rfl) rfl (ltN rfl) (QP.pick_f rfl rfl rfl) ?_
            refine Dw.pure (i := 9) rfl (by kernel_rfl) (Want.none rfl) rfl (ltN rfl) (QP.move rfl rfl) ?_
            refine Dw.pure (i := 10) rfl (by kernel_rfl) (Want.yes rfl rfl rfl rfl) rfl (ltN rfl) (QP.move rfl rfl) ?_
            refine Dw.pure (i := 11) rfl (by kernel_rfl) (Want.yes rfl rfl rfl rfl) rfl (ltN rfl) (QP.not rfl rfl) ?_
            refine Dw.pure (i := 12) rfl (by kernel_rfl) (Want.yes rfl rfl rfl rfl) rfl (ltN rfl) (QP.move rfl rfl) ?_
            refine Dw.pure (i := 13) rfl (by kernel_rfl) (Want.yes rfl rfl rfl rfl) rfl (ltN rfl) (QP.move rfl rfl) ?_
            refine Dw.pure (i := 14) rfl (by kernel_rfl) (Want.yes rfl rfl rfl rfl) rfl (ltN rfl) (QP.move rfl rfl) ?_
            refine Dw.pure (i := 15) rfl (by kernel_rfl) (Want.yes rfl rfl rfl rfl) rfl (ltN rfl) (QP.indexAddr rfl rfl rfl Try.underlying46 z37 (by first | omega | (simp <;> omega)) (by first | omega | (simp <;> omega))) ?_
            refine Dw.read (i := 16) rfl (by kernel_rfl) (Want.yes rfl rfl rfl rfl) rfl (ltN rfl) (QR.loadSl rfl rfl g37 Route.enc_len (SlAt.own Route.enc_len (by repeat (first | exact List.Mem.head _ | apply List.Mem.tail))) his) ?_
            refine Dw.pure (i := 17) rfl (by kernel_rfl) (Want.yes rfl rfl rfl rfl) rfl (ltN rfl) (QP.move rfl rfl) ?_
            refine Dw.pure (i := 18) rfl (by kernel_rfl) (Want.yes rfl rfl rfl rfl) rfl (ltN rfl) (QP.move rfl rfl) ?_
            refine Dw.pure (i := 19) rfl (by kernel_rfl) (Want.yes rfl rfl rfl rfl) rfl (ltN rfl) (QP.indexAddr rfl rfl rfl Try.underlying46 z37 (by first | omega | (simp <;> omega)) (by first | omega | (simp <;> omega))) ?_
            refine Dw.read (i := 20) rfl (by kernel_rfl) (Want.yes rfl rfl rfl rfl) rfl (ltN rfl) (QR.loadSl rfl rfl g37 Route.enc_len (SlAt.own Route.enc_len (by repeat (first | exact List.Mem.head _ | apply List.Mem.tail))) hwas) ?_
            refine Dw.pure (i := 21) rfl (by kernel_rfl) (Want.yes rfl rfl rfl rfl) rfl (ltN rfl) (QP.neq_agg eq37 rfl rfl rfl) ?_
            refine J.decF (by simp [retrR, mineR, c88]) ?_
            refine Dw.pure (i := 22) rfl (by kernel_rfl) (Want.yes rfl rfl rfl rfl) rfl (ltN rfl) (QP.pick_t rfl rfl rfl) ?_
            refine Dw.pure (i := 23) rfl (by kernel_rfl) (Want.none rfl) rfl (ltN rfl) (QP.pick_f rfl rfl rfl) ?_
            refine Dw.nil (by kernel_rfl) ?_
            refine hk32 _ _ ?_
            refine Run.cond_f rfl ?_
            refine Run.skip ?_
            refine hk31 _ _ ?_
            refine Run.seq fun k33 hk33 => ?_
            refine Run.region ?_
            show Sq _ _ _ [0, 1, 2, 3, 4, 5, 6, 7, 8] _ _ _ _
            have hfl := fm_len (mineR j fr) hwas
            have hnl : 0 ≤ n ∧ n ≤ 150 := by
              have h1 := List.length_filter_le (mineR j fr) (LA.drop i)
              rw [List.length_drop] at h1
              omega
            refine Sq.quiet (i := 0) rfl (Want.none rfl) rfl (ltN rfl) (QP.move rfl rfl).read ?_
            refine Sq.quiet (i := 1) rfl (Want.none rfl) rfl (ltN rfl) (QP.move rfl rfl).read ?_
            refine Sq.skip (i := 2) rfl (Want.no rfl rfl rfl rfl) rfl (ltN rfl) ?_
            refine Sq.skip (i := 3) rfl (Want.no rfl rfl rfl rfl) rfl (ltN rfl) ?_
            refine Sq.skip (i := 4) rfl (Want.no rfl rfl rfl rfl) rfl (ltN rfl) ?_
            refine Sq.skip (i := 5) rfl (Want.no rfl rfl rfl rfl) rfl (ltN rfl) ?_
            refine Sq.skip (i := 6) rfl (Want.no rfl rfl rfl rfl) rfl (ltN rfl) ?_
            refine Sq.skip (i := 7) rfl (Want.no rfl rfl rfl rfl) rfl (ltN rfl) ?_
            refine Sq.quiet (i := 8) rfl (Want.none rfl) rfl (ltN rfl) (QP.pick_f rfl rfl rfl).read ?_
            refine Sq.nil ?_
            refine hk33 _ _ ?_
            refine Run.cond_f rfl ?_
            refine Run.skip ?_
            refine hk26 _ _ ?_
            refine Run.region ?_
            show Sq _ _ _ [0, 1, 2] _ _ _ _
            refine Sq.quiet (i := 0) rfl (Want.none rfl) rfl (ltN rfl) (QP.move rfl rfl).read ?_
            refine Sq.quiet (i := 1) rfl (Want.none rfl) rfl (ltN rfl) (QP.add64 rfl rfl rfl (by first | omega | (simp <;> omega)) (by first | omega | (simp <;> omega))).read ?_
            refine Sq.quiet (i := 2) rfl (Want.none rfl) rfl (ltN rfl) (QP.assign rfl rfl).read ?_
            refine Sq.nil ?_
            exact J.envJ (J.keep (.cons (by repeat (first | exact Pick.head | apply Pick.tail)) (.cons (by repeat (first | exact Pick.head | apply Pick.tail)) (.cons (by repeat (first | exact Pick.head | apply Pick.tail)) (.cons (by repeat (first | exact Pick.head | apply Pick.tail)) Takes.nil)))) (hl23 (i + 1) (n) (⟨by omega, by rw [hn, hfl, show mineR j fr y = false from by simp [mineR, c88]]; first | (simp; done) | (simp; omega)⟩) (by omega))) ⟨rfl, rfl, rfl, rfl, rfl, rfl, rfl, rfl, trivial⟩
        · skip
          refine Dw.pure (i := 7) rfl (by kernel_rfl) (Want.none rfl) rfl (ltN rfl) (QP.move rfl rfl) ?_
          refine Dw.skip (i := 8) rfl (by kernel_rfl) (Want.no rfl rfl rfl rfl) rfl (ltN rfl) ?_
          refine Dw.skip (i := 9) rfl (by kernel_rfl) (Want.no rfl rfl rfl rfl) rfl (ltN rfl) ?_
          refine Dw.skip (i := 10) rfl (by kernel_rfl) (Want.no rfl rfl rfl rfl) rfl (ltN rfl) ?_
          refine Dw.skip (i := 11) rfl (by kernel_rfl) (Want.no rfl rfl rfl rfl) rfl (ltN rfl) ?_
          refine Dw.skip (i := 12) rfl (by kernel_rfl) (Want.no rfl rfl rfl rfl) rfl (ltN rfl) ?_
          refine Dw.skip (i := 13) rfl (by kernel_rfl) (Want.no rfl rfl rfl rfl) rfl (ltN rfl) ?_
          refine Dw.skip (i := 14) rfl (by kernel_rfl) (Want.no rfl rfl rfl rfl) rfl (ltN rfl) ?_
          refine Dw.pure (i := 15) rfl (by kernel_rfl) (Want.none rfl) rfl (ltN rfl) (QP.pick_f rfl rfl rfl) ?_
          refine Dw.eff (i := 16) (by kernel_rfl) (by kernel_rfl) ?_
          refine One.mk (o := _) (l := []) rfl (by kernel_rfl) (Want.none rfl) rfl (ltN rfl) ((QP.assign rfl rfl).eff) (by kernel_rfl) ?_
          rintro _ _ ⟨rfl, rfl⟩
          refine ⟨fun _ h => (by cases h), ?_⟩
          refine Dw.nil (by kernel_rfl) ?_
          refine hk27 _ _ ?_
          refine Run.seq fun k34 hk34 => ?_
          refine Run.seq fun k35 hk35 => ?_
          refine Run.regionD (M := [0, 1, 3, 3, 15, 31, 63, 127, 255, 511, 1023, 2047, 4095, 8191, 8191, 32767, 65535, 8191, 8191, 401407, 925695, 2097151, 4194303, 8388607]) (q := 16777215) (r := 1114176) (by kernel_rfl) ?_
          refine Dw.pure (i := 0) rfl (by kernel_rfl) (Want.none rfl) rfl (ltN rfl) (QP.move rfl rfl) ?_
          refine Dw.pure (i := 1) rfl (by kernel_rfl) (Want.none rfl) rfl (ltN rfl) (QP.move rfl rfl) ?_
          refine Dw.skip (i := 2) rfl (by kernel_rfl) (Want.no rfl rfl rfl rfl) rfl (ltN rfl) ?_
          refine Dw.skip (i := 3) rfl (by kernel_rfl) (Want.no rfl rfl rfl rfl) rfl (ltN rfl) ?_
          refine Dw.skip (i := 4) rfl (by kernel_rfl) (Want.no rfl rfl rfl rfl) rfl (ltN rfl) ?_
          refine Dw.skip (i := 5) rfl (by kernel_rfl) (Want.no rfl rfl rfl rfl) rfl (ltN rfl) ?_
          refine Dw.skip (i := 6) rfl (by kernel_rfl) (Want.no rfl rfl rfl rfl) rfl (ltN rfl) ?_
          refine Dw.skip (i := 7) rfl (by kernel_rfl) (Want.no rfl rfl rfl rfl) rfl (ltN rfl) ?_
          refine Dw.pure (i := 8) rfl (by kernel_rfl) (Want.none rfl) rfl (ltN rfl) (QP.pick_f rfl rfl rfl) ?_
          refine Dw.pure (i := 9) rfl (by kernel_rfl) (Want.none rfl) rfl (ltN rfl) (QP.move rfl rfl) ?_
          refine Dw.pure (i := 10) rfl (by kernel_rfl) (Want.yes rfl rfl rfl rfl) rfl (ltN rfl) (QP.move rfl rfl) ?_
          refine Dw.pure (i := 11) rfl (by kernel_rfl) (Want.yes rfl rfl rfl rfl) rfl (ltN rfl) (QP.not rfl rfl) ?_
          refine Dw.pure (i := 12) rfl (by kernel_rfl) (Want.yes rfl rfl rfl rfl) rfl (ltN rfl) (QP.move rfl rfl) ?_
          refine Dw.pure (i := 13) rfl (by kernel_rfl) (Want.yes rfl rfl rfl rfl) rfl (ltN rfl) (QP.move rfl rfl) ?_
          refine Dw.pure (i := 14) rfl (by kernel_rfl) (Want.yes rfl rfl rfl rfl) rfl (ltN rfl) (QP.move rfl rfl) ?_
          refine Dw.pure (i := 15) rfl (by kernel_rfl) (Want.yes rfl rfl rfl rfl) rfl (ltN rfl) (QP.indexAddr rfl rfl rfl Try.underlying46 z37 (by first | omega | (simp <;> omega)) (by first | omega | (simp <;> omega))) ?_
          refine Dw.read (i := 16) rfl (by kernel_rfl) (Want.yes rfl rfl rfl rfl) rfl (ltN rfl) (QR.loadSl rfl rfl g37 Route.enc_len (SlAt.own Route.enc_len (by repeat (first | exact List.Mem.head _ | apply List.Mem.tail))) his) ?_
          refine Dw.pure (i := 17) rfl (by kernel_rfl) (Want.yes rfl rfl rfl rfl) rfl (ltN rfl) (QP.move rfl rfl) ?_
          refine Dw.pure (i := 18) rfl (by kernel_rfl) (Want.yes rfl rfl rfl rfl) rfl (ltN rfl) (QP.move rfl rfl) ?_
          refine Dw.pure (i := 19) rfl (by kernel_rfl) (Want.yes rfl rfl rfl rfl) rfl (ltN rfl) (QP.indexAddr rfl rfl rfl Try.underlying46 z37 (by first | omega | (simp <;> omega)) (by first | omega | (simp <;> omega))) ?_
          refine Dw.read (i := 20) rfl (by kernel_rfl) (Want.yes rfl rfl rfl rfl) rfl (ltN rfl) (QR.loadSl rfl rfl g37 Route.enc_len (SlAt.own Route.enc_len (by repeat (first | exact List.Mem.head _ | apply List.Mem.tail))) hwas) ?_
          refine Dw.pure (i := 21) rfl (by kernel_rfl) (Want.yes rfl rfl rfl rfl) rfl (ltN rfl) (QP.neq_agg eq37 rfl rfl rfl) ?_
          refine J.decF (by simp [retrR, mineR, c80]) ?_
          refine Dw.pure (i := 22) rfl (by kernel_rfl) (Want.yes rfl rfl rfl rfl) rfl (ltN rfl) (QP.pick_t rfl rfl rfl) ?_
          refine Dw.pure (i := 23) rfl (by kernel_rfl) (Want.none rfl) rfl (ltN rfl) (QP.pick_f rfl rfl rfl) ?_
          refine Dw.nil (by kernel_rfl) ?_
          refine hk35 _ _ ?_
          refine Run.cond_f rfl ?_
          refine Run.skip ?_
          refine hk34 _ _ ?_
          refine Run.seq fun k36 hk36 => ?_
          refine Run.region ?_
          show Sq _ _ _ [0, 1, 2, 3, 4, 5, 6, 7, 8] _ _ _ _
          have hfl := fm_len (mineR j fr) hwas
          have hnl : 0 ≤ n ∧ n ≤ 150 := by
            have h1 := List.length_filter_le (mineR j fr) (LA.drop i)
            rw [List.length_drop] at h1
            omega
          refine Sq.quiet (i := 0) rfl (Want.none rfl) rfl (ltN rfl) (QP.move rfl rfl).read ?_
          refine Sq.quiet (i := 1) rfl (Want.none rfl) rfl (ltN rfl) (QP.move rfl rfl).read ?_
          refine Sq.skip (i := 2) rfl (Want.no rfl rfl rfl rfl) rfl (ltN rfl) ?_
          refine Sq.skip (i := 3) rfl (Want.no rfl rfl rfl rfl) rfl (ltN rfl) ?_
          refine Sq.skip (i := 4) rfl (Want.no rfl rfl rfl rfl) rfl (ltN rfl) ?_
          refine Sq.skip (i := 5) rfl (Want.no rfl rfl rfl rfl) rfl (ltN rfl) ?_
          refine Sq.skip (i := 6) rfl (Want.no rfl rfl rfl rfl) rfl (ltN rfl) ?_
          refine Sq.skip (i := 7) rfl (Want.no rfl rfl rfl rfl) rfl (ltN rfl) ?_
          refine Sq.quiet (i := 8) rfl (Want.none rfl) rfl (ltN rfl) (QP.pick_f rfl rfl rfl).read ?_
          refine Sq.nil ?_
          refine hk36 _ _ ?_
          refine Run.cond_f rfl ?_
          refine Run.skip ?_
          refine hk26 _ _ ?_
          refine Run.region ?_
          show Sq _ _ _ [0, 1, 2] _ _ _ _
          refine Sq.quiet (i := 0) rfl (Want.none rfl) rfl (ltN rfl) (QP.move rfl rfl).read ?_
          refine Sq.quiet (i := 1) rfl (Want.none rfl) rfl (ltN rfl) (QP.add64 rfl rfl rfl (by first | omega | (simp <;> omega)) (by first | omega | (simp <;> omega))).read ?_
          refine Sq.quiet (i := 2) rfl (Want.none rfl) rfl (ltN rfl) (QP.assign rfl rfl).read ?_
          refine Sq.nil ?_
          exact J.envJ (J.keep (.cons (by repeat (first | exact Pick.head | apply Pick.tail)) (.cons (by repeat (first | exact Pick.head | apply Pick.tail)) (.cons (by repeat (first | exact Pick.head | apply Pick.tail)) (.cons (by repeat (first | exact Pick.head | apply Pick.tail)) Takes.nil)))) (hl23 (i + 1) (n) (⟨by omega, by rw [hn, hfl, show mineR j fr y = false from by simp [mineR, c80]]; first | (simp; done) | (simp; omega)⟩) (by omega))) ⟨rfl, rfl, rfl, rfl, rfl, rfl, rfl, rfl, trivial⟩
      · skip
        refine Sq.nil ?_
        refine hk25 _ _ ?_
        refine Run.cond_f rfl ?_
        refine Run.exit rfl ?_
        refine hk21 _ _ ?_
        refine Run.seq fun k37 hk37 => ?_
        refine Run.region ?_
        show Sq _ _ _ [0, 1, 2, 3, 4, 5, 6, 7, 8, 9, 10, 11, 12, 13] _ _ _ _
        refine Sq.quiet (i := 0) rfl (Want.none rfl) rfl (ltN rfl) (QP.move rfl rfl).read ?_
        refine Sq.quiet (i := 1) rfl (Want.none rfl) rfl (ltN rfl) (QP.eql rfl rfl rfl).read ?_
        refine J.decT (by rw [hn, List.drop_eq_nil_of_le (by omega)]; rfl) ?_
        refine Sq.quiet (i := 2) rfl (Want.none rfl) rfl (ltN rfl) (QP.move rfl rfl).read ?_
        refine Sq.quiet (i := 3) rfl (Want.yes rfl rfl rfl rfl) rfl (ltN rfl) (QP.move rfl rfl).read ?_
        refine Sq.quiet (i := 4) rfl (Want.yes rfl rfl rfl rfl) rfl (ltN rfl) (QP.move rfl rfl).read ?_
        refine Sq.quiet (i := 5) rfl (Want.yes rfl rfl rfl rfl) rfl (ltN rfl) (QP.move rfl rfl).read ?_
        refine Sq.quiet (i := 6) rfl (Want.yes rfl rfl rfl rfl) rfl (ltN rfl) (QR.load rfl rfl g28 (Bs.sub _)) ?_
        refine Sq.eff (i := 7) rfl (Want.yes rfl rfl rfl rfl) rfl (ltN rfl) (EF.call rfl ce17 rfl (.cons (by repeat (first | exact Pick.head | apply Pick.tail)) Takes.nil) (fun F' hle hr => (retractT F' (M := mapM (retrR now j fr) M) (by rw [mapM_len]; exact hMn) hH2 now hn0 (by omega) j fr).mono (R' := fun v S => v = .int .i64 0 ∧ ∃ M', S = [RTab bt 150 M']) (by rintro v S ⟨h1, h2⟩; refine ⟨?_, _, h2⟩; rw [h1]; congr 1; have := filter_none (l := mapM (retrR now j fr) M) (p := fun e => mineR j fr e.2) (fun e he => by obtain ⟨e', _, rfl⟩ := List.mem_map.1 he; exact retr_twice now now j fr e'.2); omega))) ?_
        rintro _ _ ⟨_, ⟨rfl, M9, rfl⟩, rfl⟩
        refine J.app ?_
        refine Sq.quiet (i := 8) rfl (Want.yes rfl rfl rfl rfl) rfl (ltN rfl) (QP.eql rfl rfl rfl).read ?_
        refine Sq.quiet (i := 9) rfl (Want.none rfl) rfl (ltN rfl) (QP.pick_t rfl rfl rfl).read ?_
        refine Sq.quiet (i := 10) rfl (Want.none rfl) rfl (ltN rfl) (QP.move rfl rfl).read ?_
        refine Sq.eff (i := 11) rfl (Want.yes rfl rfl rfl rfl) rfl (ltN rfl) (EF.call rfl ce10 rfl Takes.nil (fun F' hle hr => live_spec F')) ?_
        rintro _ _ ⟨_, ⟨rfl, rfl⟩, rfl⟩
        refine J.app ?_
        refine Sq.quiet (i := 12) rfl (Want.none rfl) rfl (ltN rfl) (QP.pick_t rfl rfl rfl).read ?_
        refine Sq.quiet (i := 13) rfl (Want.none rfl) rfl (ltN rfl) (QP.assign rfl rfl).read ?_
        refine Sq.nil ?_
        refine hk37 _ _ ?_
        refine Run.ret ?_
        exact J.ends (res_tmp rfl rfl) Takes.nil ⟨rfl, rfl⟩
  · skip
    refine Sq.quiet (i := 2) rfl (Want.none rfl) rfl (ltN rfl) (QP.not rfl rfl).read ?_
    refine Sq.nil ?_
    refine hk3 _ _ ?_
    refine Run.cond_t rfl ?_
    refine Run.seq fun k38 hk38 => ?_
    refine Run.region ?_
    show Sq _ _ _ [0, 1] _ _ _ _
    refine Sq.eff (i := 0) rfl (Want.none rfl) rfl (ltN rfl) (EF.call rfl ce10 rfl Takes.nil (fun F' hle hr => live_spec F')) ?_
    rintro _ _ ⟨_, ⟨rfl, rfl⟩, rfl⟩
    refine J.app ?_
    refine Sq.quiet (i := 1) rfl (Want.none rfl) rfl (ltN rfl) (QP.assign rfl rfl).read ?_
    refine Sq.nil ?_
    refine hk38 _ _ ?_
    refine Run.ret ?_
    exact J.ends (res_tmp rfl rfl) Takes.nil ⟨rfl, rfl⟩

theorem gone_inf {t : Int} {s : Route} (h1 : s.ref = 65535) (h2 : s.until_ ≤ t) : goneR t s = true := by
  have : expR t s = false := by simp [expR, h1]
  unfold goneR agedR
  rw [this]
  simpa using h2
theorem gone_two {now mx : Int} {s : Route} (h1 : s.hold ≤ mx) (h2 : s.until_ ≤ now + mx) (h3 : 0 ≤ mx) : goneR (now + 2 * mx) s = true := by
  unfold goneR agedR
  split
  · simp only [decide_eq_true_eq]; omega
  · simp only [decide_eq_true_eq]; omega
theorem tick_none {t : Int} {M : TabR} (h : ∀ e ∈ M, goneR t e.2 = true) : tickM t M = [] := by
  unfold tickM
  induction M with
  | nil => rfl
  | cons e M ih =>
    rw [List.filterMap_cons]
    have : tickG t e.2 = none := by unfold tickG; rw [h e List.mem_cons_self]; rfl
    rw [this]
    exact ih fun e he => h e (List.mem_cons_of_mem _ he)
/-- What was retracted so far: the routes of the first i of L. -/
structure RetrI (now mx : Int) (LA : List Route) (i : Nat) (M : TabR) (L : List Route) : Prop where
  good : GoodR now mx M
  ord : OrdR M L
  len : L.length = LA.length
  keys : ∀ e ∈ M, ∃ s ∈ LA, keyR s = keyR e.2
  done : ∀ e ∈ M, (∃ s ∈ LA.take i, s.if_ = e.2.if_ ∧ s.from_ = e.2.from_) → e.2.ref = 65535
theorem RetrI.step {now mx : Int} {LA : List Route} {i : Nat} {M : TabR} {L : List Route} (h : RetrI now mx LA i M L) (hn : 0 ≤ now) {y : Route} (hy : LA[i]? = some y) : RetrI now mx LA (i + 1) (mapM (retrR now y.if_.val y.from_) M) (L.map (retrR now y.if_.val y.from_)) := by
  refine ⟨good_retr h.good hn _ _, ord_map (retr_key _ _ _) h.ord, by rw [List.length_map]; exact h.len, fun e he => ?_, fun e he => ?_⟩
  all_goals obtain ⟨e', he', rfl⟩ := List.mem_map.1 he
  · obtain ⟨s, hs, hk⟩ := h.keys e' he'
    exact ⟨s, hs, by rw [hk]; exact (retr_key _ _ _ _).symm⟩
  · have hk := retr_key now y.if_.val y.from_ e'.2
    have hi : (retrR now y.if_.val y.from_ e'.2).if_ = e'.2.if_ := congrArg RouteKey.i hk
    have hf : (retrR now y.if_.val y.from_ e'.2).from_ = e'.2.from_ := congrArg RouteKey.from_ hk
    rintro ⟨s, hs, h1, h2⟩
    simp only at h1 h2
    rw [hi] at h1
    rw [hf] at h2
    rw [List.take_add_one, hy] at hs
    rcases List.mem_append.1 hs with hs | hs
    · have h3 := h.done e' he' ⟨s, hs, h1, h2⟩
      show (retrR now y.if_.val y.from_ e'.2).ref = 65535
      unfold retrR; split
      · rfl
      · exact h3
    · simp at hs; subst hs
      exact retr_inf now (by rw [h1]) h2.symm
theorem RetrI.all {now mx : Int} {LA : List Route} {M : TabR} {L : List Route} (h : RetrI now mx LA LA.length M L) (s : Route) (hs : s ∈ L) : goneR (now + mx) s = true := by
  obtain ⟨e, he, rfl⟩ := List.mem_map.1 (h.ord.perm.subset hs)
  refine gone_inf ?_ (h.good.till e he).2
  obtain ⟨s, hs, hk⟩ := h.keys e he
  exact h.done e he ⟨s, by rw [List.take_length]; exact hs, congrArg RouteKey.i hk, congrArg RouteKey.from_ hk⟩

theorem law_ends (F : Fr) {a : Option Addr} {xs : List Law16Act} {c : Nat} (hlen : xs.length ≤ 9223372036854775807) (ha : ArgSl F a 84 Law16Act.enc xs) (re : Bool) : Spec Try.prog 4 #[.slice a xs.length c, .bool re] [] F (fun v S => v = .bool true ∧ S = []) := by
  refine Spec.intro (N := 118) (args := [.slice a xs.length c, .bool re]) Try.func4 rfl rfl (by simp) ?_
  refine Run.seq fun k1 hk1 => ?_
  refine Run.region ?_
  show Sq _ _ _ [0] _ _ _ _
  refine Sq.quiet (i := 0) rfl (Want.none rfl) rfl (ltN rfl) (QP.assign rfl rfl).read ?_
  refine Sq.nil ?_
  refine hk1 _ _ ?_
  refine Run.seq fun k2 hk2 => ?_
  refine Run.seq fun k3 hk3 => ?_
  refine Run.region ?_
  show Sq _ _ _ [0, 1, 2] _ _ _ _
  refine Sq.quiet (i := 0) rfl (Want.none rfl) rfl (ltN rfl) (QP.move rfl rfl).read ?_
  refine Sq.eff (i := 1) rfl (Want.none rfl) rfl (ltN rfl) (EF.call rfl ce9 rfl Takes.nil (fun F' hle hr => right_spec F' hlen (ha.mono hle))) ?_
  rintro _ _ ⟨_, ⟨rfl, r, rfl, hright⟩, rfl⟩
  refine J.app ?_
  refine J.caseB (fun c14 => ?_) (fun c14 => ?_)
  · skip
    refine Sq.quiet (i := 2) rfl (Want.none rfl) rfl (ltN rfl) (QP.not rfl rfl).read ?_
    refine Sq.nil ?_
    refine hk3 _ _ ?_
    refine Run.cond_f rfl ?_
    refine Run.skip ?_
    refine hk2 _ _ ?_
    refine Run.seq fun k4 hk4 => ?_
    refine Run.region ?_
    show Sq _ _ _ [0, 1] _ _ _ _
    obtain ⟨hl150, hgap⟩ := hright c14
    refine Sq.eff (i := 0) rfl (Want.none rfl) rfl (ltN rfl) (EF.call rfl ce11 rfl Takes.nil (fun F' hle hr => newT F' _)) ?_
    rintro _ _ ⟨_, ⟨bt, rfl, rfl⟩, rfl⟩
    refine J.app ?_
    refine Sq.quiet (i := 1) rfl (Want.none rfl) rfl (ltN rfl) (QP.assign rfl rfl).read ?_
    refine Sq.nil ?_
    refine hk4 _ _ ?_
    refine Run.seq fun k5 hk5 => ?_
    refine Run.seq fun k6 hk6 => ?_
    refine Run.region ?_
    show Sq _ _ _ [0, 1] _ _ _ _
    refine Sq.quiet (i := 0) rfl (Want.none rfl) rfl (ltN rfl) (QP.move rfl rfl).read ?_
    refine Sq.quiet (i := 1) rfl (Want.none rfl) rfl (ltN rfl) (QP.ptr_eq_nil rfl rfl rfl Try.underlying25).read ?_
    refine Sq.nil ?_
    refine hk6 _ _ ?_
    refine Run.cond_f rfl ?_
    refine Run.skip ?_
    refine hk5 _ _ ?_
    refine Run.seq fun k7 hk7 => ?_
    refine Run.region ?_
    show Sq _ _ _ [0, 1] _ _ _ _
    refine Sq.quiet (i := 0) rfl (Want.none rfl) rfl (ltN rfl) (QP.assign rfl rfl).read ?_
    refine Sq.quiet (i := 1) rfl (Want.none rfl) rfl (ltN rfl) (QP.assign rfl rfl).read ?_
    refine Sq.nil ?_
    refine hk7 _ _ ?_
    refine Run.seq fun k8 hk8 => ?_
    refine Run.seq fun k9 hk9 => ?_
    refine Run.region ?_
    show Sq _ _ _ [0] _ _ _ _
    refine Sq.quiet (i := 0) rfl (Want.none rfl) rfl (ltN rfl) (QP.assign rfl rfl).read ?_
    refine Sq.nil ?_
    refine hk9 _ _ ?_
    refine Run.block ?_
    refine Run.loop4 (fun (i : Nat) (now : Int) (mx : Int) (M : TabR) => i ≤ xs.length ∧ 0 ≤ now ∧ now ≤ i * 1073741824 ∧ 0 ≤ mx ∧ mx ≤ 2147483648 ∧ GoodR now mx M ∧ M.length ≤ i) (fun i now mx M => .cons 0 (.slice a xs.length c) (.cons 1 (.bool re) (.cons 5 (.pointer (some ⟨bt, 0, none⟩)) (.cons 6 (.int .i64 now) (.cons 7 (.int .i64 mx) (.cons 8 (.int .i64 i) (.nil))))))) (fun i now mx M => [RTab bt 150 M]) (fun i now mx M => xs.length - i) (0) (0) (0) ([]) (⟨Nat.zero_le _, Int.le_refl _, by omega, Int.le_refl _, by omega, GoodR.nil _ _, Nat.le_refl _⟩) ?_ ?_
    · exact fun _ j => J.envJ (J.keep (.cons (by repeat (first | exact Pick.head | apply Pick.tail)) Takes.nil) j) ⟨rfl, rfl, rfl, rfl, rfl, rfl, trivial⟩
    rintro i now mx M ⟨hile, hn0, hn1, hmx0, hmx1, hgood, hML⟩ kl10 hl10
    refine Run.seq fun k11 hk11 => ?_
    refine Run.seq fun k12 hk12 => ?_
    refine Run.region ?_
    show Sq _ _ _ [0, 1, 2, 3] _ _ _ _
    refine Sq.quiet (i := 0) rfl (Want.none rfl) rfl (ltN rfl) (QP.move rfl rfl).read ?_
    refine Sq.quiet (i := 1) rfl (Want.none rfl) rfl (ltN rfl) (QP.move rfl rfl).read ?_
    refine Sq.quiet (i := 2) rfl (Want.none rfl) rfl (ltN rfl) (QP.len rfl rfl rfl Try.underlying22).read ?_
    refine Sq.quiet (i := 3) rfl (Want.none rfl) rfl (ltN rfl) (QP.lss rfl rfl rfl).read ?_
    refine J.caseD (fun c23 => ?_) (fun c23 => ?_)
    · skip
      refine Sq.nil ?_
      refine hk12 _ _ ?_
      refine Run.cond_t rfl ?_
      refine Run.skip ?_
      refine hk11 _ _ ?_
      refine Run.seq fun k13 hk13 => ?_
      refine Run.block ?_
      refine Run.seq fun k14 hk14 => ?_
      refine Run.region ?_
      show Sq _ _ _ [0, 1, 2, 3, 4, 5, 6, 7] _ _ _ _
      have hlt : i < xs.length := by omega
      obtain ⟨x, hi⟩ : ∃ x, xs[i]? = some x := ⟨_, List.getElem?_eq_getElem hlt⟩
      obtain ⟨b0, o0, rfl, hs0⟩ := ha.get (by omega)
      have hg := hgap x (List.mem_of_getElem? hi)
      unfold okGap at hg
      refine Sq.quiet (i := 0) rfl (Want.none rfl) rfl (ltN rfl) (QP.move rfl rfl).read ?_
      refine Sq.quiet (i := 1) rfl (Want.none rfl) rfl (ltN rfl) (QP.move rfl rfl).read ?_
      refine Sq.quiet (i := 2) rfl (Want.none rfl) rfl (ltN rfl) (QP.move rfl rfl).read ?_
      refine Sq.quiet (i := 3) rfl (Want.none rfl) rfl (ltN rfl) (QP.indexAddr rfl rfl rfl Try.underlying22 z39 (by first | omega | (simp <;> omega)) (by first | omega | (simp <;> omega))).read ?_
      refine Sq.quiet (i := 4) rfl (Want.none rfl) rfl (ltN rfl) (QP.fieldAddr rfl rfl f39_1).read ?_
      refine Sq.quiet (i := 5) rfl (Want.none rfl) rfl (ltN rfl) (QR.loadSlF1 rfl rfl g3 Law16Act.enc_len (hs0 _) hi (Law16Act.sub_gap _)) ?_
      refine Sq.quiet (i := 6) rfl (Want.none rfl) rfl (ltN rfl) (QP.add64 rfl rfl rfl (by first | omega | (simp <;> omega)) (by first | omega | (simp <;> omega))).read ?_
      refine Sq.quiet (i := 7) rfl (Want.none rfl) rfl (ltN rfl) (QP.assign rfl rfl).read ?_
      refine Sq.nil ?_
      refine hk14 _ _ ?_
      refine Run.seq fun k15 hk15 => ?_
      refine Run.region ?_
      show Sq _ _ _ [0, 1, 2, 3, 4, 5] _ _ _ _
      refine Sq.quiet (i := 0) rfl (Want.none rfl) rfl (ltN rfl) (QP.move rfl rfl).read ?_
      refine Sq.quiet (i := 1) rfl (Want.none rfl) rfl (ltN rfl) (QP.move rfl rfl).read ?_
      refine Sq.quiet (i := 2) rfl (Want.none rfl) rfl (ltN rfl) (QP.indexAddr rfl rfl rfl Try.underlying22 z39 (by first | omega | (simp <;> omega)) (by first | omega | (simp <;> omega))).read ?_
      refine Sq.quiet (i := 3) rfl (Want.none rfl) rfl (ltN rfl) (QP.fieldAddr rfl rfl f39_0).read ?_
      refine Sq.quiet (i := 4) rfl (Want.none rfl) rfl (ltN rfl) (QR.loadSlF1 rfl rfl g3 Law16Act.enc_len (hs0 _) hi (Law16Act.sub_kind _)) ?_
      refine Sq.quiet (i := 5) rfl (Want.none rfl) rfl (ltN rfl) (QP.eql rfl rfl rfl).read ?_
      refine J.caseD (fun c38 => ?_) (fun c38 => ?_)
      · skip
        refine Sq.nil ?_
        refine hk15 _ _ ?_
        refine Run.cond_t rfl ?_
        refine Run.seq fun k16 hk16 => ?_
        refine Run.regionD (M := [0, 0, 0, 0, 12, 28, 60, 0, 0, 384, 896, 1920, 4095]) (q := 4095) (r := 2112) (by kernel_rfl) ?_
        refine Dw.pure (i := 0) rfl (by kernel_rfl) (Want.none rfl) rfl (ltN rfl) (QP.move rfl rfl) ?_
        refine Dw.pure (i := 1) rfl (by kernel_rfl) (Want.none rfl) rfl (ltN rfl) (QP.move rfl rfl) ?_
        refine Dw.pure (i := 2) rfl (by kernel_rfl) (Want.none rfl) rfl (ltN rfl) (QP.move rfl rfl) ?_
        refine Dw.pure (i := 3) rfl (by kernel_rfl) (Want.none rfl) rfl (ltN rfl) (QP.move rfl rfl) ?_
        refine Dw.pure (i := 4) rfl (by kernel_rfl) (Want.none rfl) rfl (ltN rfl) (QP.indexAddr rfl rfl rfl Try.underlying22 z39 (by first | omega | (simp <;> omega)) (by first | omega | (simp <;> omega))) ?_
        refine Dw.pure (i := 5) rfl (by kernel_rfl) (Want.none rfl) rfl (ltN rfl) (QP.fieldAddr rfl rfl f39_2) ?_
        refine Dw.read (i := 6) rfl (by kernel_rfl) (Want.none rfl) rfl (ltN rfl) (QR.loadSlF rfl rfl g37 Law16Act.enc_len (hs0 _) hi (Law16Act.sub_r _)) ?_
        refine Dw.pure (i := 7) rfl (by kernel_rfl) (Want.none rfl) rfl (ltN rfl) (QP.move rfl rfl) ?_
        refine Dw.pure (i := 8) rfl (by kernel_rfl) (Want.none rfl) rfl (ltN rfl) (QP.move rfl rfl) ?_
        refine Dw.pure (i := 9) rfl (by kernel_rfl) (Want.none rfl) rfl (ltN rfl) (QP.indexAddr rfl rfl rfl Try.underlying22 z39 (by first | omega | (simp <;> omega)) (by first | omega | (simp <;> omega))) ?_
        refine Dw.pure (i := 10) rfl (by kernel_rfl) (Want.none rfl) rfl (ltN rfl) (QP.fieldAddr rfl rfl f39_3) ?_
        refine Dw.read (i := 11) rfl (by kernel_rfl) (Want.none rfl) rfl (ltN rfl) (QR.loadSlF1 rfl rfl g4 Law16Act.enc_len (hs0 _) hi (Law16Act.sub_ok _)) ?_
        refine Dw.eff (i := 12) (by kernel_rfl) (by kernel_rfl) ?_
        refine One.mk (o := _) (l := []) rfl (by kernel_rfl) (Want.none rfl) rfl (ltN rfl) (EF.call rfl ce12 rfl (.cons (by repeat (first | exact Pick.head | apply Pick.tail)) Takes.nil) (fun F' hle hr => tellT F' (now + x.gap) (by omega) (by omega) x.r x.ok (fun e he => ⟨(hgood.hold e he).1, by have := (hgood.hold e he).2; omega⟩))) (by kernel_rfl) ?_
        rintro _ _ ⟨_, ⟨rfl, rfl⟩, rfl⟩
        refine ⟨fun _ h => (by cases h), ?_⟩
        refine J.app ?_
        refine Dw.nil (by kernel_rfl) ?_
        refine hk16 _ _ ?_
        refine Run.region ?_
        show Sq _ _ _ [0, 1, 2, 3, 4, 5, 6, 7, 8, 9] _ _ _ _
        have hmx : mx ≤ (if (if 2147483648 < x.r.hold then 2147483648 else x.r.hold) > mx then (if 2147483648 < x.r.hold then 2147483648 else x.r.hold) else mx) ∧ (if 2147483648 < x.r.hold then 2147483648 else x.r.hold) ≤ (if (if 2147483648 < x.r.hold then 2147483648 else x.r.hold) > mx then (if 2147483648 < x.r.hold then 2147483648 else x.r.hold) else mx) ∧ (if (if 2147483648 < x.r.hold then 2147483648 else x.r.hold) > mx then (if 2147483648 < x.r.hold then 2147483648 else x.r.hold) else mx) ≤ 2147483648 := by split <;> split <;> omega
        refine Sq.quiet (i := 0) rfl (Want.none rfl) rfl (ltN rfl) (QP.move rfl rfl).read ?_
        refine Sq.quiet (i := 1) rfl (Want.none rfl) rfl (ltN rfl) (QP.move rfl rfl).read ?_
        refine Sq.quiet (i := 2) rfl (Want.none rfl) rfl (ltN rfl) (QP.move rfl rfl).read ?_
        refine Sq.quiet (i := 3) rfl (Want.none rfl) rfl (ltN rfl) (QP.indexAddr rfl rfl rfl Try.underlying22 z39 (by first | omega | (simp <;> omega)) (by first | omega | (simp <;> omega))).read ?_
        refine Sq.quiet (i := 4) rfl (Want.none rfl) rfl (ltN rfl) (QP.fieldAddr rfl rfl f39_2).read ?_
        refine Sq.quiet (i := 5) rfl (Want.none rfl) rfl (ltN rfl) (QP.fieldAddr rfl rfl f37_9).read ?_
        refine Sq.quiet (i := 6) rfl (Want.none rfl) rfl (ltN rfl) (QR.loadSlF1 rfl rfl g3 Law16Act.enc_len (hs0 _) hi ((Law16Act.sub_r _).trans (Route.sub_hold _))) ?_
        refine Sq.quiet (i := 7) rfl (Want.none rfl) rfl (ltN rfl) (QP.min2 rfl rfl rfl).read ?_
        refine Sq.quiet (i := 8) rfl (Want.none rfl) rfl (ltN rfl) (QP.max2 rfl rfl rfl).read ?_
        refine Sq.quiet (i := 9) rfl (Want.none rfl) rfl (ltN rfl) (QP.assign rfl rfl).read ?_
        refine Sq.nil ?_
        refine hk13 _ _ ?_
        refine Run.region ?_
        show Sq _ _ _ [0, 1, 2] _ _ _ _
        refine Sq.quiet (i := 0) rfl (Want.none rfl) rfl (ltN rfl) (QP.move rfl rfl).read ?_
        refine Sq.quiet (i := 1) rfl (Want.none rfl) rfl (ltN rfl) (QP.add64 rfl rfl rfl (by first | omega | (simp <;> omega)) (by first | omega | (simp <;> omega))).read ?_
        refine Sq.quiet (i := 2) rfl (Want.none rfl) rfl (ltN rfl) (QP.assign rfl rfl).read ?_
        refine Sq.nil ?_
        exact J.envJ (J.keep (.cons (by repeat (first | exact Pick.head | apply Pick.tail)) Takes.nil) (hl10 (i + 1) (now + x.gap) ((if (if 2147483648 < x.r.hold then 2147483648 else x.r.hold) > mx then (if 2147483648 < x.r.hold then 2147483648 else x.r.hold) else mx)) ((tellF 150 M (now + x.gap) x.r x.ok).2.2) (⟨by omega, by omega, by omega, by omega, by omega, (good_tell (hgood.mono (by omega) hmx.1) (by omega) x.r x.ok hmx.2.1).1, Nat.le_trans (good_tell (hgood.mono (show now ≤ now + x.gap by omega) hmx.1) (by omega) x.r x.ok hmx.2.1).2 (by omega)⟩) (by omega))) ⟨rfl, rfl, rfl, rfl, rfl, rfl, trivial⟩
      · skip
        refine Sq.nil ?_
        refine hk15 _ _ ?_
        refine Run.cond_f rfl ?_
        refine Run.skip ?_
        refine hk13 _ _ ?_
        refine Run.region ?_
        show Sq _ _ _ [0, 1, 2] _ _ _ _
        refine Sq.quiet (i := 0) rfl (Want.none rfl) rfl (ltN rfl) (QP.move rfl rfl).read ?_
        refine Sq.quiet (i := 1) rfl (Want.none rfl) rfl (ltN rfl) (QP.add64 rfl rfl rfl (by first | omega | (simp <;> omega)) (by first | omega | (simp <;> omega))).read ?_
        refine Sq.quiet (i := 2) rfl (Want.none rfl) rfl (ltN rfl) (QP.assign rfl rfl).read ?_
        refine Sq.nil ?_
        exact J.envJ (J.keep (.cons (by repeat (first | exact Pick.head | apply Pick.tail)) Takes.nil) (hl10 (i + 1) (now + x.gap) (mx) (M) (⟨by omega, by omega, by omega, hmx0, hmx1, hgood.mono (by omega) (Int.le_refl _), by omega⟩) (by omega))) ⟨rfl, rfl, rfl, rfl, rfl, rfl, trivial⟩
    · skip
      refine Sq.nil ?_
      refine hk12 _ _ ?_
      refine Run.cond_f rfl ?_
      refine Run.exit rfl ?_
      refine hk8 _ _ ?_
      refine Run.seq fun k17 hk17 => ?_
      refine Run.region ?_
      show Sq _ _ _ [0, 1, 2] _ _ _ _
      have hMn : M.length ≤ 1000000 := by omega
      refine Sq.quiet (i := 0) rfl (Want.none rfl) rfl (ltN rfl) (QP.move rfl rfl).read ?_
      refine Sq.eff (i := 1) rfl (Want.none rfl) rfl (ltN rfl) (EF.call rfl ce15 rfl (.cons (by repeat (first | exact Pick.head | apply Pick.tail)) Takes.nil) (fun F' hle hr => listT F' hgood.keyed hMn)) ?_
      rintro v62 _ ⟨_, ⟨LA, hLA, rfl⟩, rfl⟩
      refine J.app ?_
      refine Sq.slCase (v := v62) (xs := LA) (by repeat (first | exact List.Mem.head _ | apply List.Mem.tail)) (fun a62 c62 hv62 hh62 => ?_)
      subst hv62
      have hLl : LA.length ≤ 150 := by rw [hLA.length]; omega
      refine Sq.quiet (i := 2) rfl (Want.none rfl) rfl (ltN rfl) (QP.assign rfl rfl).read ?_
      refine Sq.nil ?_
      refine hk17 _ _ ?_
      refine Run.seq fun k18 hk18 => ?_
      refine Run.seq fun k19 hk19 => ?_
      refine Run.region ?_
      show Sq _ _ _ [0] _ _ _ _
      refine Sq.quiet (i := 0) rfl (Want.none rfl) rfl (ltN rfl) (QP.move rfl rfl).read ?_
      refine J.caseB (fun c63 => ?_) (fun c63 => ?_)
      · skip
        refine Sq.nil ?_
        refine hk19 _ _ ?_
        refine Run.cond_t rfl ?_
        refine Run.seq fun k20 hk20 => ?_
        refine Run.seq fun k21 hk21 => ?_
        refine Run.region ?_
        show Sq _ _ _ [0] _ _ _ _
        refine Sq.quiet (i := 0) rfl (Want.none rfl) rfl (ltN rfl) (QP.assign rfl rfl).read ?_
        refine Sq.nil ?_
        refine hk21 _ _ ?_
        refine Run.block ?_
        refine Run.loop3 (fun (i : Nat) (M1 : TabR) (L1 : List Route) => i ≤ LA.length ∧ RetrI now mx LA i M1 L1) (fun i M1 L1 => .cons 5 (.pointer (some ⟨bt, 0, none⟩)) (.cons 6 (.int .i64 now) (.cons 7 (.int .i64 mx) (.cons 9 (.slice a62 LA.length c62) (.cons 10 (.int .i64 i) (.nil)))))) (fun i M1 L1 => [RTab bt 150 M1, slA 37 81 Route.enc (.slice a62 LA.length c62) LA]) (fun i M1 L1 => LA.length - i) (0) (M) (LA) (⟨Nat.zero_le _, ⟨hgood, hLA, rfl, fun e he => ⟨e.2, hLA.perm.symm.subset (List.mem_map.2 ⟨e, he, rfl⟩), rfl⟩, fun e he h => by obtain ⟨s, hs, _⟩ := h; simp at hs⟩⟩) ?_ ?_
        · exact fun _ j => J.envJ (J.keep (.cons (by repeat (first | exact Pick.head | apply Pick.tail)) (.cons (by repeat (first | exact Pick.head | apply Pick.tail)) Takes.nil)) j) ⟨rfl, rfl, rfl, rfl, rfl, trivial⟩
        rintro i M1 L1 ⟨hile2, hR⟩ kl22 hl22
        refine Run.seq fun k23 hk23 => ?_
        refine Run.seq fun k24 hk24 => ?_
        refine Run.region ?_
        show Sq _ _ _ [0, 1, 2, 3] _ _ _ _
        refine Sq.quiet (i := 0) rfl (Want.none rfl) rfl (ltN rfl) (QP.move rfl rfl).read ?_
        refine Sq.quiet (i := 1) rfl (Want.none rfl) rfl (ltN rfl) (QP.move rfl rfl).read ?_
        refine Sq.quiet (i := 2) rfl (Want.none rfl) rfl (ltN rfl) (QP.len rfl rfl rfl Try.underlying46).read ?_
        refine Sq.quiet (i := 3) rfl (Want.none rfl) rfl (ltN rfl) (QP.lss rfl rfl rfl).read ?_
        refine J.caseD (fun c67 => ?_) (fun c67 => ?_)
        · skip
          refine Sq.nil ?_
          refine hk24 _ _ ?_
          refine Run.cond_t rfl ?_
          refine Run.skip ?_
          refine hk23 _ _ ?_
          refine Run.seq fun k25 hk25 => ?_
          refine Run.block ?_
          refine Run.regionD (M := [0, 0, 0, 0, 12, 28, 60, 0, 0, 384, 896, 1920, 4095]) (q := 4095) (r := 2112) (by kernel_rfl) ?_
          have hlt : i < LA.length := by omega
          obtain ⟨y, hwas⟩ : ∃ y, LA[i]? = some y := ⟨_, List.getElem?_eq_getElem hlt⟩
          obtain ⟨b1, o1, rfl⟩ := hh62.get (by omega)
          have hM1 : M1.length ≤ 1000000 := by rw [← hR.ord.length, hR.len]; omega
          refine Dw.pure (i := 0) rfl (by kernel_rfl) (Want.none rfl) rfl (ltN rfl) (QP.move rfl rfl) ?_
          refine Dw.pure (i := 1) rfl (by kernel_rfl) (Want.none rfl) rfl (ltN rfl) (QP.move rfl rfl) ?_
          refine Dw.pure (i := 2) rfl (by kernel_rfl) (Want.none rfl) rfl (ltN rfl) (QP.move rfl rfl) ?_
          refine Dw.pure (i := 3) rfl (by kernel_rfl) (Want.none rfl) rfl (ltN rfl) (QP.move rfl rfl) ?_
          refine Dw.pure (i := 4) rfl (by kernel_rfl) (Want.none rfl) rfl (ltN rfl) (QP.indexAddr rfl rfl rfl Try.underlying46 z37 (by first | omega | (simp <;> omega)) (by first | omega | (simp <;> omega))) ?_
          refine Dw.pure (i := 5) rfl (by kernel_rfl) (Want.none rfl) rfl (ltN rfl) (QP.fieldAddr rfl rfl f37_1) ?_
          refine Dw.read (i := 6) rfl (by kernel_rfl) (Want.none rfl) rfl (ltN rfl) (QR.loadSlF1 rfl rfl g3 Route.enc_len (SlAt.own Route.enc_len (by repeat (first | exact List.Mem.head _ | apply List.Mem.tail))) hwas (Route.sub_if_ _)) ?_
          refine Dw.pure (i := 7) rfl (by kernel_rfl) (Want.none rfl) rfl (ltN rfl) (QP.move rfl rfl) ?_
          refine Dw.pure (i := 8) rfl (by kernel_rfl) (Want.none rfl) rfl (ltN rfl) (QP.move rfl rfl) ?_
          refine Dw.pure (i := 9) rfl (by kernel_rfl) (Want.none rfl) rfl (ltN rfl) (QP.indexAddr rfl rfl rfl Try.underlying46 z37 (by first | omega | (simp <;> omega)) (by first | omega | (simp <;> omega))) ?_
          refine Dw.pure (i := 10) rfl (by kernel_rfl) (Want.none rfl) rfl (ltN rfl) (QP.fieldAddr rfl rfl f37_2) ?_
          refine Dw.read (i := 11) rfl (by kernel_rfl) (Want.none rfl) rfl (ltN rfl) (QR.loadSlF rfl rfl g28 Route.enc_len (SlAt.own Route.enc_len (by repeat (first | exact List.Mem.head _ | apply List.Mem.tail))) hwas (Route.sub_from_ _)) ?_
          refine Dw.eff (i := 12) (by kernel_rfl) (by kernel_rfl) ?_
          refine One.mk (o := _) (l := []) rfl (by kernel_rfl) (Want.none rfl) rfl (ltN rfl) (EF.call rfl ce17 rfl (.cons (by repeat (first | exact Pick.head | apply Pick.tail)) Takes.nil) (fun F' hle hr => retractT F' hM1 (fun e he => ⟨(hR.good.hold e he).1, by have := (hR.good.hold e he).2; omega⟩) now hn0 (by omega) y.if_.val y.from_)) (by kernel_rfl) ?_
          rintro _ _ ⟨_, ⟨rfl, rfl⟩, rfl⟩
          refine ⟨fun _ h => (by cases h), ?_⟩
          refine J.app ?_
          refine Dw.nil (by kernel_rfl) ?_
          refine hk25 _ _ ?_
          refine Run.region ?_
          show Sq _ _ _ [0, 1, 2] _ _ _ _
          refine Sq.quiet (i := 0) rfl (Want.none rfl) rfl (ltN rfl) (QP.move rfl rfl).read ?_
          refine Sq.quiet (i := 1) rfl (Want.none rfl) rfl (ltN rfl) (QP.add64 rfl rfl rfl (by first | omega | (simp <;> omega)) (by first | omega | (simp <;> omega))).read ?_
          refine Sq.quiet (i := 2) rfl (Want.none rfl) rfl (ltN rfl) (QP.assign rfl rfl).read ?_
          refine Sq.nil ?_
          exact J.envJ (J.keep (.cons (by repeat (first | exact Pick.head | apply Pick.tail)) (.cons (by repeat (first | exact Pick.head | apply Pick.tail)) Takes.nil)) (hl22 (i + 1) (mapM (retrR now y.if_.val y.from_) M1) (L1.map (retrR now y.if_.val y.from_)) (⟨by omega, hR.step hn0 hwas⟩) (by omega))) ⟨rfl, rfl, rfl, rfl, rfl, trivial⟩
        · skip
          refine Sq.nil ?_
          refine hk24 _ _ ?_
          refine Run.cond_f rfl ?_
          refine Run.exit rfl ?_
          refine hk20 _ _ ?_
          refine Run.seq fun k26 hk26 => ?_
          refine Run.region ?_
          show Sq _ _ _ [0, 1, 2, 3, 4, 5, 6, 7, 8, 9] _ _ _ _
          have hiL : i = LA.length := by omega
          subst hiL
          have hM1 : M1.length ≤ 1000000 := by rw [← hR.ord.length, hR.len]; omega
          refine Sq.quiet (i := 0) rfl (Want.none rfl) rfl (ltN rfl) (QP.move rfl rfl).read ?_
          refine Sq.quiet (i := 1) rfl (Want.none rfl) rfl (ltN rfl) (QP.move rfl rfl).read ?_
          refine Sq.quiet (i := 2) rfl (Want.none rfl) rfl (ltN rfl) (QP.move rfl rfl).read ?_
          refine Sq.quiet (i := 3) rfl (Want.none rfl) rfl (ltN rfl) (QP.add64 rfl rfl rfl (by first | omega | (simp <;> omega)) (by first | omega | (simp <;> omega))).read ?_
          refine Sq.eff (i := 4) rfl (Want.none rfl) rfl (ltN rfl) (EF.call rfl ce18 rfl (.cons (by repeat (first | exact Pick.head | apply Pick.tail)) Takes.nil) (fun F' hle hr => (tickT F' hR.ord hM1 (fun e he => ⟨(hR.good.hold e he).1, by have := (hR.good.hold e he).2; omega⟩) (fun e he => ⟨(hR.good.till e he).1, by have := (hR.good.till e he).2; omega⟩) (now + mx) (by omega) (by omega)).mono (R' := fun v S => ∃ va vg, ∃ la lg : List Route, v = .tuple #[va, vg] ∧ lg.length = LA.length ∧ la.length ≤ 1000000 ∧ S = [RTab bt 150 [], slA 37 81 Route.enc va la, slA 37 81 Route.enc vg lg]) (by rintro v S ⟨va, vg, h1, h2⟩; rw [tick_none (fun e he => hR.all _ (hR.ord.perm.symm.subset (List.mem_map.2 ⟨e, he, rfl⟩)))] at h2; refine ⟨va, vg, _, _, h1, ?_, ?_, h2⟩; rw [List.length_map, List.filter_eq_self.2 (fun s hs => hR.all s hs), hR.len]; rw [List.length_map]; have := List.length_filter_le (expR (now + mx)) L1; have := hR.len; omega))) ?_
          rintro _ _ ⟨_, ⟨va, vg, la, lg, rfl, hlg, hla, rfl⟩, rfl⟩
          refine J.app ?_
          refine Sq.quiet (i := 5) rfl (Want.none rfl) rfl (ltN rfl) (QP.move rfl rfl).read ?_
          refine Sq.slCase (v := va) (xs := la) (by repeat (first | exact List.Mem.head _ | apply List.Mem.tail)) (fun av1 cv1 hvv1 hhv1 => ?_)
          subst hvv1
          refine Sq.slCase (v := vg) (xs := lg) (by repeat (first | exact List.Mem.head _ | apply List.Mem.tail)) (fun av2 cv2 hvv2 hhv2 => ?_)
          subst hvv2
          refine Sq.quiet (i := 6) rfl (Want.none rfl) rfl (ltN rfl) (QP.extract rfl rfl rfl).read ?_
          refine Sq.quiet (i := 7) rfl (Want.none rfl) rfl (ltN rfl) (QP.extract rfl rfl rfl).read ?_
          refine Sq.quiet (i := 8) rfl (Want.none rfl) rfl (ltN rfl) (QP.assign rfl rfl).read ?_
          refine Sq.quiet (i := 9) rfl (Want.none rfl) rfl (ltN rfl) (QP.assign rfl rfl).read ?_
          refine Sq.nil ?_
          refine hk26 _ _ ?_
          refine Run.seq fun k27 hk27 => ?_
          refine Run.region ?_
          show Sq _ _ _ [0, 1, 2, 3, 4, 5, 6, 7, 8, 9, 10, 11, 12, 13, 14] _ _ _ _
          refine Sq.quiet (i := 0) rfl (Want.none rfl) rfl (ltN rfl) (QP.move rfl rfl).read ?_
          refine Sq.quiet (i := 1) rfl (Want.none rfl) rfl (ltN rfl) (QP.len rfl rfl rfl Try.underlying46).read ?_
          refine Sq.quiet (i := 2) rfl (Want.none rfl) rfl (ltN rfl) (QP.move rfl rfl).read ?_
          refine Sq.quiet (i := 3) rfl (Want.none rfl) rfl (ltN rfl) (QP.len rfl rfl rfl Try.underlying46).read ?_
          refine Sq.quiet (i := 4) rfl (Want.none rfl) rfl (ltN rfl) (QP.eql rfl rfl rfl).read ?_
          refine J.decT (by rw [hlg]) ?_
          refine Sq.quiet (i := 5) rfl (Want.none rfl) rfl (ltN rfl) (QP.move rfl rfl).read ?_
          refine Sq.quiet (i := 6) rfl (Want.yes rfl rfl rfl rfl) rfl (ltN rfl) (QP.move rfl rfl).read ?_
          refine Sq.eff (i := 7) rfl (Want.yes rfl rfl rfl rfl) rfl (ltN rfl) (EF.call rfl ce15 rfl (.cons (by repeat (first | exact Pick.head | apply Pick.tail)) Takes.nil) (fun F' hle hr => listT F' (M := []) (fun _ h => by cases h) (by decide))) ?_
          rintro v98 _ ⟨_, ⟨LZ, hLZ, rfl⟩, rfl⟩
          refine J.app ?_
          refine Sq.slCase (v := v98) (xs := LZ) (by repeat (first | exact List.Mem.head _ | apply List.Mem.tail)) (fun a98 c98 hv98 hh98 => ?_)
          subst hv98
          refine Sq.quiet (i := 8) rfl (Want.yes rfl rfl rfl rfl) rfl (ltN rfl) (QP.len rfl rfl rfl Try.underlying46).read ?_
          refine Sq.quiet (i := 9) rfl (Want.yes rfl rfl rfl rfl) rfl (ltN rfl) (QP.eql rfl rfl rfl).read ?_
          refine J.decT (by have := hLZ.length; simp at this; simp [this]) ?_
          refine Sq.quiet (i := 10) rfl (Want.none rfl) rfl (ltN rfl) (QP.pick_t rfl rfl rfl).read ?_
          refine Sq.quiet (i := 11) rfl (Want.none rfl) rfl (ltN rfl) (QP.move rfl rfl).read ?_
          refine Sq.eff (i := 12) rfl (Want.yes rfl rfl rfl rfl) rfl (ltN rfl) (EF.call rfl ce10 rfl Takes.nil (fun F' hle hr => live_spec F')) ?_
          rintro _ _ ⟨_, ⟨rfl, rfl⟩, rfl⟩
          refine J.app ?_
          refine Sq.quiet (i := 13) rfl (Want.none rfl) rfl (ltN rfl) (QP.pick_t rfl rfl rfl).read ?_
          refine Sq.quiet (i := 14) rfl (Want.none rfl) rfl (ltN rfl) (QP.assign rfl rfl).read ?_
          refine Sq.nil ?_
          refine hk27 _ _ ?_
          refine Run.ret ?_
          exact J.ends (res_tmp rfl rfl) Takes.nil ⟨rfl, rfl⟩
      · skip
        refine Sq.nil ?_
        refine hk19 _ _ ?_
        refine Run.cond_f rfl ?_
        refine Run.skip ?_
        refine hk18 _ _ ?_
        refine Run.seq fun k28 hk28 => ?_
        refine Run.region ?_
        show Sq _ _ _ [0, 1, 2, 3, 4, 5] _ _ _ _
        refine Sq.quiet (i := 0) rfl (Want.none rfl) rfl (ltN rfl) (QP.move rfl rfl).read ?_
        refine Sq.quiet (i := 1) rfl (Want.none rfl) rfl (ltN rfl) (QP.move rfl rfl).read ?_
        refine Sq.quiet (i := 2) rfl (Want.none rfl) rfl (ltN rfl) (QP.move rfl rfl).read ?_
        refine Sq.quiet (i := 3) rfl (Want.none rfl) rfl (ltN rfl) ((QP.mul rfl rfl rfl : QP _ _ _ _ _ _ (.int .i64 (IntKind.i64.wrap (2 * mx))))).read ?_
        rw [wrap_i64 (n := 2 * mx) (by omega) (by omega)]
        refine Sq.quiet (i := 4) rfl (Want.none rfl) rfl (ltN rfl) (QP.add64 rfl rfl rfl (by first | omega | (simp <;> omega)) (by first | omega | (simp <;> omega))).read ?_
        refine Sq.eff (i := 5) rfl (Want.none rfl) rfl (ltN rfl) (EF.call rfl ce18 rfl (.cons (by repeat (first | exact Pick.head | apply Pick.tail)) Takes.nil) (fun F' hle hr => (tickT F' hLA hMn (fun e he => ⟨(hgood.hold e he).1, by have := (hgood.hold e he).2; omega⟩) (fun e he => ⟨(hgood.till e he).1, by have := (hgood.till e he).2; omega⟩) (now + 2 * mx) (by omega) (by omega)).mono (R' := fun v S => ∃ va vg, ∃ la lg : List Route, S = [RTab bt 150 [], slA 37 81 Route.enc va la, slA 37 81 Route.enc vg lg]) (by rintro v S ⟨va, vg, h1, h2⟩; rw [tick_none (fun e he => gone_two (hgood.hold e he).2 (hgood.till e he).2 hmx0)] at h2; exact ⟨_, _, _, _, h2⟩))) ?_
        rintro _ _ ⟨_, ⟨va, vg, la, lg, rfl⟩, rfl⟩
        refine J.app ?_
        refine Sq.nil ?_
        refine hk28 _ _ ?_
        refine Run.seq fun k29 hk29 => ?_
        refine Run.region ?_
        show Sq _ _ _ [0, 1, 2, 3, 4, 5, 6, 7] _ _ _ _
        refine Sq.quiet (i := 0) rfl (Want.none rfl) rfl (ltN rfl) (QP.move rfl rfl).read ?_
        refine Sq.eff (i := 1) rfl (Want.none rfl) rfl (ltN rfl) (EF.call rfl ce15 rfl (.cons (by repeat (first | exact Pick.head | apply Pick.tail)) Takes.nil) (fun F' hle hr => listT F' (M := []) (fun _ h => by cases h) (by decide))) ?_
        rintro v112 _ ⟨_, ⟨LZ, hLZ, rfl⟩, rfl⟩
        refine J.app ?_
        refine Sq.slCase (v := v112) (xs := LZ) (by repeat (first | exact List.Mem.head _ | apply List.Mem.tail)) (fun a112 c112 hv112 hh112 => ?_)
        subst hv112
        refine Sq.quiet (i := 2) rfl (Want.none rfl) rfl (ltN rfl) (QP.len rfl rfl rfl Try.underlying46).read ?_
        refine Sq.quiet (i := 3) rfl (Want.none rfl) rfl (ltN rfl) (QP.eql rfl rfl rfl).read ?_
        refine J.decT (by have := hLZ.length; simp at this; simp [this]) ?_
        refine Sq.quiet (i := 4) rfl (Want.none rfl) rfl (ltN rfl) (QP.move rfl rfl).read ?_
        refine Sq.eff (i := 5) rfl (Want.yes rfl rfl rfl rfl) rfl (ltN rfl) (EF.call rfl ce10 rfl Takes.nil (fun F' hle hr => live_spec F')) ?_
        rintro _ _ ⟨_, ⟨rfl, rfl⟩, rfl⟩
        refine J.app ?_
        refine Sq.quiet (i := 6) rfl (Want.none rfl) rfl (ltN rfl) (QP.pick_t rfl rfl rfl).read ?_
        refine Sq.quiet (i := 7) rfl (Want.none rfl) rfl (ltN rfl) (QP.assign rfl rfl).read ?_
        refine Sq.nil ?_
        refine hk29 _ _ ?_
        refine Run.ret ?_
        exact J.ends (res_tmp rfl rfl) Takes.nil ⟨rfl, rfl⟩
  · skip
    refine Sq.quiet (i := 2) rfl (Want.none rfl) rfl (ltN rfl) (QP.not rfl rfl).read ?_
    refine Sq.nil ?_
    refine hk3 _ _ ?_
    refine Run.cond_t rfl ?_
    refine Run.seq fun k30 hk30 => ?_
    refine Run.region ?_
    show Sq _ _ _ [0, 1] _ _ _ _
    refine Sq.eff (i := 0) rfl (Want.none rfl) rfl (ltN rfl) (EF.call rfl ce10 rfl Takes.nil (fun F' hle hr => live_spec F')) ?_
    rintro _ _ ⟨_, ⟨rfl, rfl⟩, rfl⟩
    refine J.app ?_
    refine Sq.quiet (i := 1) rfl (Want.none rfl) rfl (ltN rfl) (QP.assign rfl rfl).read ?_
    refine Sq.nil ?_
    refine hk30 _ _ ?_
    refine Run.ret ?_
    exact J.ends (res_tmp rfl rfl) Takes.nil ⟨rfl, rfl⟩
end Slb
