/- R9: a part of the proof that a law of this package holds for every input; no condition. -/
import Derived.Test.YtfjmefldilponaaR7
namespace Slb
open Go Go.Proofs
set_option maxRecDepth 20000
def okGap (x : Law16Act) : Prop := 0 ≤ x.gap ∧ x.gap ≤ 1073741824

theorem right_spec (F : Fr) {a : Option Addr} {xs : List Law16Act} {c : Nat} (hlen : xs.length ≤ 9223372036854775807) (ha : ArgSl F a 84 Law16Act.enc xs)  : Spec Try.prog 9 #[.slice a xs.length c] [] F (fun v S => S = [] ∧ ∃ r, v = .bool r ∧ (r = true → xs.length ≤ 150 ∧ ∀ x ∈ xs, okGap x)) := by
 refine Spec.intro (N := 31) (args := [.slice a xs.length c]) Try.func9 rfl rfl (by simp) ?_
 refine Run.seq fun k1 hk1 => ?_
 refine Run.region ?_
 show Sq _ _ _ [0] _ _ _ _
 refine Sq.quiet (i := 0) rfl (Want.none rfl) rfl (ltN rfl) (QP.assign rfl rfl).read ?_
 refine Sq.nil ?_
 refine hk1 _ _ ?_
 refine Run.seq fun k2 hk2 => ?_
 refine Run.seq fun k3 hk3 => ?_
 refine Run.region ?_
 show Sq _ _ _ [0] _ _ _ _
 refine Sq.quiet (i := 0) rfl (Want.none rfl) rfl (ltN rfl) (QP.assign rfl rfl).read ?_
 refine Sq.nil ?_
 refine hk3 _ _ ?_
 refine Run.block ?_
 refine Run.loop1 (fun (i : Nat) => i ≤ xs.length ∧ i ≤ 151 ∧ ∀ x ∈ xs.take i, okGap x) (fun i => .cons 0 (.slice a xs.length c) (.cons 3 (.int .i64 i) (.nil))) (fun i => []) (fun i => xs.length - i) (0) (⟨Nat.zero_le _, Nat.zero_le _, fun x hx => by simp at hx⟩) ?_ ?_
 ·exact fun _ j => J.envJ (J.keep Takes.nil j) ⟨rfl, rfl, trivial⟩
 rintro i ⟨hile, hi2, hok⟩ kl4 hl4
 refine Run.seq fun k5 hk5 => ?_
 refine Run.seq fun k6 hk6 => ?_
 refine Run.region ?_
 show Sq _ _ _ [0, 1, 2, 3, 4, 5, 6, 7] _ _ _ _
 refine Sq.quiet (i := 0) rfl (Want.none rfl) rfl (ltN rfl) (QP.move rfl rfl).read ?_
 refine Sq.quiet (i := 1) rfl (Want.none rfl) rfl (ltN rfl) (QP.move rfl rfl).read ?_
 refine Sq.quiet (i := 2) rfl (Want.none rfl) rfl (ltN rfl) (QP.len rfl rfl rfl Try.underlying22).read ?_
 refine Sq.quiet (i := 3) rfl (Want.none rfl) rfl (ltN rfl) (QP.lss rfl rfl rfl).read ?_
 refine J.caseD (fun c7 => ?_) (fun c7 => ?_)
 ·skip
  refine Sq.quiet (i := 4) rfl (Want.none rfl) rfl (ltN rfl) (QP.move rfl rfl).read ?_
  refine Sq.quiet (i := 5) rfl (Want.yes rfl rfl rfl rfl) rfl (ltN rfl) (QP.move rfl rfl).read ?_
  refine Sq.quiet (i := 6) rfl (Want.yes rfl rfl rfl rfl) rfl (ltN rfl) (QP.leq rfl rfl rfl).read ?_
  refine J.caseD (fun c10 => ?_) (fun c10 => ?_)
  ·skip
   refine Sq.quiet (i := 7) rfl (Want.none rfl) rfl (ltN rfl) (QP.pick_t rfl rfl rfl).read ?_
   refine Sq.nil ?_
   refine hk6 _ _ ?_
   refine Run.cond_t rfl ?_
   refine Run.skip ?_
   refine hk5 _ _ ?_
   refine Run.seq fun k7 hk7 => ?_
   refine Run.block ?_
   refine Run.seq fun k8 hk8 => ?_
   refine Run.region ?_
   show Sq _ _ _ [0, 1, 2, 3, 4, 5, 6, 7, 8, 9, 10, 11, 12, 13] _ _ _ _
   have hlt : i < xs.length := by omega
   obtain ⟨x, hi⟩ : ∃ x, xs[i]? = some x := ⟨_, List.getElem?_eq_getElem hlt⟩
   obtain ⟨b0, o0, rfl, hs0⟩ := ha.get (by omega)
   refine Sq.quiet (i := 0) rfl (Want.none rfl) rfl (ltN rfl) (QP.move rfl rfl).read ?_
   refine Sq.quiet (i := 1) rfl (Want.none rfl) rfl (ltN rfl) (QP.move rfl rfl).read ?_
   refine Sq.quiet (i := 2) rfl (Want.none rfl) rfl (ltN rfl) (QP.indexAddr rfl rfl rfl Try.underlying22 z39 (by first | omega | (simp <;> omega)) (by first | omega | (simp <;> omega))).read ?_
   refine Sq.quiet (i := 3) rfl (Want.none rfl) rfl (ltN rfl) (QP.fieldAddr rfl rfl f39_1).read ?_
   refine Sq.quiet (i := 4) rfl (Want.none rfl) rfl (ltN rfl) (QR.loadSlF1 rfl rfl g3 Law16Act.enc_len (hs0 _) hi (Law16Act.sub_gap _)) ?_
   refine Sq.quiet (i := 5) rfl (Want.none rfl) rfl (ltN rfl) (QP.lss rfl rfl rfl).read ?_
   refine J.caseD (fun c19 => ?_) (fun c19 => ?_)
   ·skip
    refine Sq.quiet (i := 6) rfl (Want.none rfl) rfl (ltN rfl) (QP.move rfl rfl).read ?_
    refine Sq.skip (i := 7) rfl (Want.no rfl rfl rfl rfl) rfl (ltN rfl) ?_
    refine Sq.skip (i := 8) rfl (Want.no rfl rfl rfl rfl) rfl (ltN rfl) ?_
    refine Sq.skip (i := 9) rfl (Want.no rfl rfl rfl rfl) rfl (ltN rfl) ?_
    refine Sq.skip (i := 10) rfl (Want.no rfl rfl rfl rfl) rfl (ltN rfl) ?_
    refine Sq.skip (i := 11) rfl (Want.no rfl rfl rfl rfl) rfl (ltN rfl) ?_
    refine Sq.skip (i := 12) rfl (Want.no rfl rfl rfl rfl) rfl (ltN rfl) ?_
    refine Sq.quiet (i := 13) rfl (Want.none rfl) rfl (ltN rfl) (QP.pick_t rfl rfl rfl).read ?_
    refine Sq.nil ?_
    refine hk8 _ _ ?_
    refine Run.cond_t rfl ?_
    refine Run.seq fun k9 hk9 => ?_
    refine Run.region ?_
    show Sq _ _ _ [0] _ _ _ _
    refine Sq.quiet (i := 0) rfl (Want.none rfl) rfl (ltN rfl) (QP.assign rfl rfl).read ?_
    refine Sq.nil ?_
    refine hk9 _ _ ?_
    refine Run.ret ?_
    exact J.ends (res_tmp rfl rfl) Takes.nil ⟨rfl, false, rfl, fun h => by cases h⟩
   ·skip
    refine Sq.quiet (i := 6) rfl (Want.none rfl) rfl (ltN rfl) (QP.move rfl rfl).read ?_
    refine Sq.quiet (i := 7) rfl (Want.yes rfl rfl rfl rfl) rfl (ltN rfl) (QP.move rfl rfl).read ?_
    refine Sq.quiet (i := 8) rfl (Want.yes rfl rfl rfl rfl) rfl (ltN rfl) (QP.move rfl rfl).read ?_
    refine Sq.quiet (i := 9) rfl (Want.yes rfl rfl rfl rfl) rfl (ltN rfl) (QP.indexAddr rfl rfl rfl Try.underlying22 z39 (by first | omega | (simp <;> omega)) (by first | omega | (simp <;> omega))).read ?_
    refine Sq.quiet (i := 10) rfl (Want.yes rfl rfl rfl rfl) rfl (ltN rfl) (QP.fieldAddr rfl rfl f39_1).read ?_
    refine Sq.quiet (i := 11) rfl (Want.yes rfl rfl rfl rfl) rfl (ltN rfl) (QR.loadSlF1 rfl rfl g3 Law16Act.enc_len (hs0 _) hi (Law16Act.sub_gap _)) ?_
    refine Sq.quiet (i := 12) rfl (Want.yes rfl rfl rfl rfl) rfl (ltN rfl) (QP.gtr rfl rfl rfl).read ?_
    refine J.caseD (fun c26 => ?_) (fun c26 => ?_)
    ·skip
     refine Sq.quiet (i := 13) rfl (Want.none rfl) rfl (ltN rfl) (QP.pick_f rfl rfl rfl).read ?_
     refine Sq.nil ?_
     refine hk8 _ _ ?_
     refine Run.cond_t rfl ?_
     refine Run.seq fun k10 hk10 => ?_
     refine Run.region ?_
     show Sq _ _ _ [0] _ _ _ _
     refine Sq.quiet (i := 0) rfl (Want.none rfl) rfl (ltN rfl) (QP.assign rfl rfl).read ?_
     refine Sq.nil ?_
     refine hk10 _ _ ?_
     refine Run.ret ?_
     exact J.ends (res_tmp rfl rfl) Takes.nil ⟨rfl, false, rfl, fun h => by cases h⟩
    ·skip
     refine Sq.quiet (i := 13) rfl (Want.none rfl) rfl (ltN rfl) (QP.pick_f rfl rfl rfl).read ?_
     refine Sq.nil ?_
     refine hk8 _ _ ?_
     refine Run.cond_f rfl ?_
     refine Run.skip ?_
     refine hk7 _ _ ?_
     refine Run.region ?_
     show Sq _ _ _ [0, 1, 2] _ _ _ _
     refine Sq.quiet (i := 0) rfl (Want.none rfl) rfl (ltN rfl) (QP.move rfl rfl).read ?_
     refine Sq.quiet (i := 1) rfl (Want.none rfl) rfl (ltN rfl) (QP.add64 rfl rfl rfl (by first | omega | (simp <;> omega)) (by first | omega | (simp <;> omega))).read ?_
     refine Sq.quiet (i := 2) rfl (Want.none rfl) rfl (ltN rfl) (QP.assign rfl rfl).read ?_
     refine Sq.nil ?_
     exact J.envJ (J.keep Takes.nil (hl4 (i + 1) (⟨by omega, by omega, fun y hy => by rw [List.take_add_one, hi] at hy; rcases List.mem_append.1 hy with h | h; exact hok y h; simp at h; subst h; exact ⟨by omega, by omega⟩⟩) (by omega))) ⟨rfl, rfl, trivial⟩
  ·skip
   refine Sq.quiet (i := 7) rfl (Want.none rfl) rfl (ltN rfl) (QP.pick_t rfl rfl rfl).read ?_
   refine Sq.nil ?_
   refine hk6 _ _ ?_
   refine Run.cond_f rfl ?_
   refine Run.exit rfl ?_
   refine hk2 _ _ ?_
   refine Run.seq fun k11 hk11 => ?_
   refine Run.region ?_
   show Sq _ _ _ [0, 1, 2, 3] _ _ _ _
   refine Sq.quiet (i := 0) rfl (Want.none rfl) rfl (ltN rfl) (QP.move rfl rfl).read ?_
   refine Sq.quiet (i := 1) rfl (Want.none rfl) rfl (ltN rfl) (QP.len rfl rfl rfl Try.underlying22).read ?_
   refine Sq.quiet (i := 2) rfl (Want.none rfl) rfl (ltN rfl) (QP.leq rfl rfl rfl).read ?_
   refine Sq.quiet (i := 3) rfl (Want.none rfl) rfl (ltN rfl) (QP.assign rfl rfl).read ?_
   refine Sq.nil ?_
   refine hk11 _ _ ?_
   refine Run.ret ?_
   exact J.ends (res_tmp rfl rfl) Takes.nil ⟨rfl, _, rfl, fun h => by have h1 := of_decide_eq_true h; exact ⟨by omega, fun x hx => hok x (by rw [List.take_of_length_le (by omega)]; exact hx)⟩⟩
 ·skip
  refine Sq.quiet (i := 4) rfl (Want.none rfl) rfl (ltN rfl) (QP.move rfl rfl).read ?_
  refine Sq.skip (i := 5) rfl (Want.no rfl rfl rfl rfl) rfl (ltN rfl) ?_
  refine Sq.skip (i := 6) rfl (Want.no rfl rfl rfl rfl) rfl (ltN rfl) ?_
  refine Sq.quiet (i := 7) rfl (Want.none rfl) rfl (ltN rfl) (QP.pick_f rfl rfl rfl).read ?_
  refine Sq.nil ?_
  refine hk6 _ _ ?_
  refine Run.cond_f rfl ?_
  refine Run.exit rfl ?_
  refine hk2 _ _ ?_
  refine Run.seq fun k12 hk12 => ?_
  refine Run.region ?_
  show Sq _ _ _ [0, 1, 2, 3] _ _ _ _
  refine Sq.quiet (i := 0) rfl (Want.none rfl) rfl (ltN rfl) (QP.move rfl rfl).read ?_
  refine Sq.quiet (i := 1) rfl (Want.none rfl) rfl (ltN rfl) (QP.len rfl rfl rfl Try.underlying22).read ?_
  refine Sq.quiet (i := 2) rfl (Want.none rfl) rfl (ltN rfl) (QP.leq rfl rfl rfl).read ?_
  refine Sq.quiet (i := 3) rfl (Want.none rfl) rfl (ltN rfl) (QP.assign rfl rfl).read ?_
  refine Sq.nil ?_
  refine hk12 _ _ ?_
  refine Run.ret ?_
  exact J.ends (res_tmp rfl rfl) Takes.nil ⟨rfl, _, rfl, fun h => by have h1 := of_decide_eq_true h; exact ⟨by omega, fun x hx => hok x (by rw [List.take_of_length_le (by omega)]; exact hx)⟩⟩

/-- What stands in a table at a time: each route under its own key; how long it holds; until when at most. -/
structure GoodR (now mx : Int) (M : TabR) : Prop where
  keyed : KeyedR M
  hold : ∀ e ∈ M, 1 ≤ e.2.hold ∧ e.2.hold ≤ mx
  till : ∀ e ∈ M, 0 ≤ e.2.until_ ∧ e.2.until_ ≤ now + mx
theorem GoodR.nil (now mx : Int) : GoodR now mx [] := ⟨fun _ h => (by cases h), fun _ h => (by cases h), fun _ h => (by cases h)⟩
theorem GoodR.mono {now now2 mx mx2 : Int} {M : TabR} (h : GoodR now mx M) (h1 : now ≤ now2) (h2 : mx ≤ mx2) : GoodR now2 mx2 M :=
  ⟨h.keyed, fun e he => ⟨(h.hold e he).1, by have := (h.hold e he).2; omega⟩, fun e he => ⟨(h.till e he).1, by have := (h.till e he).2; omega⟩⟩
theorem GoodR.set {now mx : Int} {M : TabR} (h : GoodR now mx M) (s : Route) (h1 : 1 ≤ s.hold ∧ s.hold ≤ mx) (h2 : 0 ≤ s.until_ ∧ s.until_ ≤ now + mx) : GoodR now mx (aset M (keyR s) s) :=
  ⟨fun e he => by rcases mem_aset he with rfl | he; rfl; exact h.keyed e he, fun e he => by rcases mem_aset he with rfl | he; exact h1; exact h.hold e he, fun e he => by rcases mem_aset he with rfl | he; exact h2; exact h.till e he⟩
theorem good_tell {now mx most : Int} {M : TabR} (h : GoodR now mx M) (hn : 0 ≤ now) (x : Route) (ok : Bool) (hx : (if 2147483648 < x.hold then 2147483648 else x.hold) ≤ mx) : GoodR now mx (tellF most M now x ok).2.2 ∧ (tellF most M now x ok).2.2.length ≤ M.length + 1 := by
  unfold tellF
  cases h0 : alook M (keyR x) with
  | none =>
    simp only
    unfold tellNew
    split
    · exact ⟨h, by simp⟩
    · rename_i h1
      have hk : 1 ≤ x.hold ∧ x.hold ≤ mx := by
        rw [if_neg (by omega)] at hx; omega
      split
      · exact ⟨h, by simp⟩
      · split
        · exact ⟨h, by simp⟩
        · refine ⟨h.set (newR now x) hk ⟨by unfold newR; simp only; omega, by unfold newR; simp only; omega⟩, ?_⟩
          simp only [if_true, len_aset]; split <;> omega
  | some s =>
    simp only
    have hm := alook_some h0
    have hks : keyR x = keyR s := h.keyed _ hm
    refine ⟨?_, by rw [len_aset]; split <;> omega⟩
    unfold tellOld
    split
    · rw [hks]; exact h.set s (h.hold _ hm) (h.till _ hm)
    · rename_i h1
      have hk : 1 ≤ x.hold ∧ x.hold ≤ mx := by
        rw [if_neg (by omega)] at hx; omega
      have hsh := h.hold _ hm
      simp only at hsh
      split
      · rw [hks]; exact h.set s (h.hold _ hm) (h.till _ hm)
      · split
        · exact hks ▸ h.set { s with ref := x.ref, until_ := now + s.hold } hsh ⟨by simp only; omega, by simp only; omega⟩
        · exact hks ▸ h.set { s with ref := x.ref, id_ := x.id_, seqno := x.seqno, hop := x.hop, hold := x.hold, until_ := now + x.hold } hk ⟨by simp only; omega, by simp only; omega⟩
theorem good_retr {now mx : Int} {M : TabR} (h : GoodR now mx M) (hn : 0 ≤ now) (j : Int) (fr : Bs 16) : GoodR now mx (mapM (retrR now j fr) M) := by
  refine ⟨fun e he => ?_, fun e he => ?_, fun e he => ?_⟩
  all_goals obtain ⟨e', he', rfl⟩ := List.mem_map.1 he
  · show e'.1 = keyR (retrR now j fr e'.2)
    rw [retr_key]; exact h.keyed e' he'
  · have := h.hold e' he'
    show 1 ≤ (retrR now j fr e'.2).hold ∧ (retrR now j fr e'.2).hold ≤ mx
    unfold retrR; split <;> exact this
  · have := h.hold e' he'
    have h2 := h.till e' he'
    show 0 ≤ (retrR now j fr e'.2).until_ ∧ (retrR now j fr e'.2).until_ ≤ now + mx
    unfold retrR; split
    · simp only; omega
    · exact h2
theorem ord_ex {M : TabR} {L L2 : List Route} (h : OrdR M L) (h2 : OrdR M L2) : L2 = L := h.uniq keyCmpR h2.perm (h2.sort.imp fun {a b} hab hba => by
  have := (keyCmpR.neg a b).1 hab
  omega)
theorem count_L {M : TabR} {L : List Route} (h : OrdR M L) (p : Route → Bool) : (M.filter fun e => p e.2).length = (L.filter p).length := by
  rw [(h.perm.filter p).length_eq, List.filter_map, List.length_map]
  rfl
theorem mapM_len (f : Route → Route) (M : TabR) : (mapM f M).length = M.length := by simp [mapM]
theorem retr_twice (now now2 j : Int) (fr : Bs 16) (s : Route) : mineR j fr (retrR now j fr s) = false := by
  unfold retrR
  split
  · simp [mineR]
  · rename_i h; simpa using h
theorem filter_none {α : Type} {p : α → Bool} {l : List α} (h : ∀ x ∈ l, p x = false) : (l.filter p).length = 0 := by
  rw [List.length_eq_zero_iff, List.filter_eq_nil_iff]
  intro x hx; rw [h x hx]; simp
end Slb
