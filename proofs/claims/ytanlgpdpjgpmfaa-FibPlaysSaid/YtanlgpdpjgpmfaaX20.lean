/- X20: a part of the proof that a law of this package holds for every input; no condition. -/
import Derived.Test.YtanlgpdpjgpmfaaX17
namespace Slb
open Go Go.Proofs
set_option maxRecDepth 20000
def tmplL : List UInt8 := [0, 0, 0, 0, 0, 0, 0, 0, 0, 0, 255, 255]
theorem familyB_not {x : Bs 16} {i : Nat} {u : UInt8} (hi : i < 12) (hx : x.l[i]? = some u) (h : tmplL[i]? ≠ some u) : familyB x = 6 := by
  unfold familyB
  rw [if_neg fun hc => ?_]
  have h1 : (x.l.take 12)[i]? = some u := by rw [List.getElem?_take_of_lt hi]; exact hx
  rw [hc] at h1
  exact h h1
theorem familyB_yes {x : Bs 16} (h : x.l.take 12 = tmplL.take 12) : familyB x = 4 := by
  unfold familyB
  exact if_pos h
theorem tmpl_lo {i : Nat} (h : i < 10) : tmplL[i]? = some 0 := by
  have : ∀ j : Fin 10, tmplL[j.val]? = some 0 := by decide
  exact this ⟨i, h⟩
theorem tmpl_hi {i : Nat} (h : 10 ≤ i) (h2 : i < 12) : tmplL[i]? = some 255 := by
  have : ∀ j : Fin 12, 10 ≤ j.val → tmplL[j.val]? = some 255 := by decide
  exact this ⟨i, h2⟩ h
theorem u8_0 {u : UInt8} (h : (u.toNat : Int) = 0) : u = 0 := byte_eq h
theorem u8_255 {u : UInt8} (h : (u.toNat : Int) = 255) : u = 255 := byte_eq h

theorem rfamily_spec (F : Fr) (x : Bs 16) : Spec Try.prog 35 #[.agg (Bs.enc x).toArray] [] F (fun v S => v = .int .i64 (familyB x) ∧ S = []) := by
 refine Spec.intro (N := 26) (args := [.agg (Bs.enc x).toArray]) Try.func35 rfl rfl (by simp) ?_
 refine Run.seq fun k1 hk1 => ?_
 refine Run.region ?_
 show Sq _ _ _ [0, 1] _ _ _ _
 refine Sq.eff (i := 0) rfl (Want.none rfl) rfl (ltN rfl) (EF.boxA rfl rfl) ?_
 rintro _ _ ⟨b1, rfl, rfl⟩
 refine Sq.quiet (i := 1) rfl (Want.none rfl) rfl (ltN rfl) (QP.assign rfl rfl).read ?_
 refine Sq.nil ?_
 refine hk1 _ _ ?_
 refine Run.seq fun k2 hk2 => ?_
 refine Run.seq fun k3 hk3 => ?_
 refine Run.region ?_
 show Sq _ _ _ [0] _ _ _ _
 refine Sq.quiet (i := 0) rfl (Want.none rfl) rfl (ltN rfl) (QP.assign rfl rfl).read ?_
 refine Sq.nil ?_
 refine hk3 _ _ ?_
 refine Run.block ?_
 refine Run.loop1 (fun (i : Nat) => i ≤ 12 ∧ x.l.take i = tmplL.take i) (fun i => .cons 1 (.pointer (some ⟨b1, 0, none⟩)) (.cons 3 (.int .i64 i) (.nil))) (fun i => [blk b1 (Bs.enc x) 35]) (fun i => 12 - i) (0) (⟨Nat.zero_le _, rfl⟩) ?_ ?_
 ·exact fun _ j => J.envJ (J.keep (.cons (by repeat constructor) Takes.nil) j) ⟨rfl, rfl, trivial⟩
 rintro i ⟨hile, hto⟩ kl4 hl4
 refine Run.seq fun k5 hk5 => ?_
 refine Run.seq fun k6 hk6 => ?_
 refine Run.region ?_
 show Sq _ _ _ [0, 1] _ _ _ _
 refine Sq.quiet (i := 0) rfl (Want.none rfl) rfl (ltN rfl) (QP.move rfl rfl).read ?_
 refine Sq.quiet (i := 1) rfl (Want.none rfl) rfl (ltN rfl) (QP.lss rfl rfl rfl).read ?_
 refine J.caseD (fun c5 => ?_) (fun c5 => ?_)
 ·skip
  refine Sq.nil ?_
  refine hk6 _ _ ?_
  refine Run.cond_t rfl ?_
  refine Run.skip ?_
  refine hk5 _ _ ?_
  refine Run.seq fun k7 hk7 => ?_
  refine Run.block ?_
  refine Run.seq fun k8 hk8 => ?_
  refine Run.region ?_
  show Sq _ _ _ [0, 1, 2, 3, 4, 5, 6, 7, 8, 9, 10, 11, 12, 13, 14, 15, 16, 17] _ _ _ _
  obtain ⟨u, hx⟩ : ∃ u, x.l[i]? = some u := ⟨_, List.getElem?_eq_getElem (by rw [x.h]; omega)⟩
  refine Sq.quiet (i := 0) rfl (Want.none rfl) rfl (ltN rfl) (QP.move rfl rfl).read ?_
  refine Sq.quiet (i := 1) rfl (Want.none rfl) rfl (ltN rfl) (QP.lss rfl rfl rfl).read ?_
  refine J.caseD (fun c9 => ?_) (fun c9 => ?_)
  ·skip
   refine Sq.quiet (i := 2) rfl (Want.none rfl) rfl (ltN rfl) (QP.move rfl rfl).read ?_
   refine Sq.quiet (i := 3) rfl (Want.yes rfl rfl rfl rfl) rfl (ltN rfl) (QP.move rfl rfl).read ?_
   refine Sq.quiet (i := 4) rfl (Want.yes rfl rfl rfl rfl) rfl (ltN rfl) (QP.indexArr rfl rfl rfl Try.underlying35 z5 (by omega) (by omega)).read ?_
   refine Sq.quiet (i := 5) rfl (Want.yes rfl rfl rfl rfl) rfl (ltN rfl) (QR.load1 rfl rfl g5 (bs_at x hx)) ?_
   refine Sq.quiet (i := 6) rfl (Want.yes rfl rfl rfl rfl) rfl (ltN rfl) (QP.neq rfl rfl rfl).read ?_
   refine J.caseD (fun c14 => ?_) (fun c14 => ?_)
   ·skip
    refine Sq.quiet (i := 7) rfl (Want.none rfl) rfl (ltN rfl) (QP.pick_t rfl rfl rfl).read ?_
    refine Sq.quiet (i := 8) rfl (Want.none rfl) rfl (ltN rfl) (QP.move rfl rfl).read ?_
    refine Sq.skip (i := 9) rfl (Want.no rfl rfl rfl rfl) rfl (ltN rfl) ?_
    refine Sq.skip (i := 10) rfl (Want.no rfl rfl rfl rfl) rfl (ltN rfl) ?_
    refine Sq.skip (i := 11) rfl (Want.no rfl rfl rfl rfl) rfl (ltN rfl) ?_
    refine Sq.skip (i := 12) rfl (Want.undef rfl rfl rfl) rfl (ltN rfl) ?_
    refine Sq.skip (i := 13) rfl (Want.undef rfl rfl rfl) rfl (ltN rfl) ?_
    refine Sq.skip (i := 14) rfl (Want.undef rfl rfl rfl) rfl (ltN rfl) ?_
    refine Sq.skip (i := 15) rfl (Want.undef rfl rfl rfl) rfl (ltN rfl) ?_
    refine Sq.skip (i := 16) rfl (Want.no rfl rfl rfl rfl) rfl (ltN rfl) ?_
    refine Sq.quiet (i := 17) rfl (Want.none rfl) rfl (ltN rfl) (QP.pick_t rfl rfl rfl).read ?_
    refine Sq.nil ?_
    refine hk8 _ _ ?_
    refine Run.cond_t rfl ?_
    refine Run.seq fun k9 hk9 => ?_
    refine Run.region ?_
    show Sq _ _ _ [0] _ _ _ _
    refine Sq.quiet (i := 0) rfl (Want.none rfl) rfl (ltN rfl) (QP.assign rfl rfl).read ?_
    refine Sq.nil ?_
    refine hk9 _ _ ?_
    refine Run.ret ?_
    exact J.ends (res_tmp rfl rfl) Takes.nil ⟨congrArg (Value.int .i64) (familyB_not (by omega) hx (by rw [tmpl_lo (by omega)]; intro h; cases h; exact c14 rfl)).symm, rfl⟩
   ·skip
    refine Sq.quiet (i := 7) rfl (Want.none rfl) rfl (ltN rfl) (QP.pick_t rfl rfl rfl).read ?_
    refine Sq.quiet (i := 8) rfl (Want.none rfl) rfl (ltN rfl) (QP.move rfl rfl).read ?_
    refine Sq.quiet (i := 9) rfl (Want.yes rfl rfl rfl rfl) rfl (ltN rfl) (QP.move rfl rfl).read ?_
    refine Sq.quiet (i := 10) rfl (Want.yes rfl rfl rfl rfl) rfl (ltN rfl) (QP.geq rfl rfl rfl).read ?_
    refine J.decF (by omega) ?_
    refine Sq.quiet (i := 11) rfl (Want.yes rfl rfl rfl rfl) rfl (ltN rfl) (QP.move rfl rfl).read ?_
    refine Sq.skip (i := 12) rfl (Want.no rfl rfl rfl rfl) rfl (ltN rfl) ?_
    refine Sq.skip (i := 13) rfl (Want.no rfl rfl rfl rfl) rfl (ltN rfl) ?_
    refine Sq.skip (i := 14) rfl (Want.no rfl rfl rfl rfl) rfl (ltN rfl) ?_
    refine Sq.skip (i := 15) rfl (Want.no rfl rfl rfl rfl) rfl (ltN rfl) ?_
    refine Sq.quiet (i := 16) rfl (Want.yes rfl rfl rfl rfl) rfl (ltN rfl) (QP.pick_f rfl rfl rfl).read ?_
    refine Sq.quiet (i := 17) rfl (Want.none rfl) rfl (ltN rfl) (QP.pick_f rfl rfl rfl).read ?_
    refine Sq.nil ?_
    refine hk8 _ _ ?_
    refine Run.cond_f rfl ?_
    refine Run.skip ?_
    refine hk7 _ _ ?_
    refine Run.region ?_
    show Sq _ _ _ [0, 1, 2] _ _ _ _
    have htu : tmplL[i]? = some u := by rw [tmpl_lo (by omega), u8_0 (Classical.not_not.1 c14)]
    refine Sq.quiet (i := 0) rfl (Want.none rfl) rfl (ltN rfl) (QP.move rfl rfl).read ?_
    refine Sq.quiet (i := 1) rfl (Want.none rfl) rfl (ltN rfl) (QP.add64 rfl rfl rfl (by first | omega | (simp <;> omega)) (by first | omega | (simp <;> omega))).read ?_
    refine Sq.quiet (i := 2) rfl (Want.none rfl) rfl (ltN rfl) (QP.assign rfl rfl).read ?_
    refine Sq.nil ?_
    exact J.envJ (J.keep (.cons (by repeat constructor) Takes.nil) (hl4 (i + 1) (⟨by omega, by rw [List.take_add_one, List.take_add_one, hto, hx, htu]⟩) (by omega))) ⟨rfl, rfl, trivial⟩
  ·skip
   refine Sq.quiet (i := 2) rfl (Want.none rfl) rfl (ltN rfl) (QP.move rfl rfl).read ?_
   refine Sq.skip (i := 3) rfl (Want.no rfl rfl rfl rfl) rfl (ltN rfl) ?_
   refine Sq.skip (i := 4) rfl (Want.no rfl rfl rfl rfl) rfl (ltN rfl) ?_
   refine Sq.skip (i := 5) rfl (Want.no rfl rfl rfl rfl) rfl (ltN rfl) ?_
   refine Sq.skip (i := 6) rfl (Want.no rfl rfl rfl rfl) rfl (ltN rfl) ?_
   refine Sq.quiet (i := 7) rfl (Want.none rfl) rfl (ltN rfl) (QP.pick_f rfl rfl rfl).read ?_
   refine Sq.quiet (i := 8) rfl (Want.none rfl) rfl (ltN rfl) (QP.move rfl rfl).read ?_
   refine Sq.quiet (i := 9) rfl (Want.yes rfl rfl rfl rfl) rfl (ltN rfl) (QP.move rfl rfl).read ?_
   refine Sq.quiet (i := 10) rfl (Want.yes rfl rfl rfl rfl) rfl (ltN rfl) (QP.geq rfl rfl rfl).read ?_
   refine J.decT (by omega) ?_
   refine Sq.quiet (i := 11) rfl (Want.yes rfl rfl rfl rfl) rfl (ltN rfl) (QP.move rfl rfl).read ?_
   refine Sq.quiet (i := 12) rfl (Want.yes rfl rfl rfl rfl) rfl (ltN rfl) (QP.move rfl rfl).read ?_
   refine Sq.quiet (i := 13) rfl (Want.yes rfl rfl rfl rfl) rfl (ltN rfl) (QP.indexArr rfl rfl rfl Try.underlying35 z5 (by omega) (by omega)).read ?_
   refine Sq.quiet (i := 14) rfl (Want.yes rfl rfl rfl rfl) rfl (ltN rfl) (QR.load1 rfl rfl g5 (bs_at x hx)) ?_
   refine Sq.quiet (i := 15) rfl (Want.yes rfl rfl rfl rfl) rfl (ltN rfl) (QP.neq rfl rfl rfl).read ?_
   refine J.caseD (fun c23 => ?_) (fun c23 => ?_)
   ·skip
    refine Sq.quiet (i := 16) rfl (Want.yes rfl rfl rfl rfl) rfl (ltN rfl) (QP.pick_t rfl rfl rfl).read ?_
    refine Sq.quiet (i := 17) rfl (Want.none rfl) rfl (ltN rfl) (QP.pick_f rfl rfl rfl).read ?_
    refine Sq.nil ?_
    refine hk8 _ _ ?_
    refine Run.cond_t rfl ?_
    refine Run.seq fun k10 hk10 => ?_
    refine Run.region ?_
    show Sq _ _ _ [0] _ _ _ _
    refine Sq.quiet (i := 0) rfl (Want.none rfl) rfl (ltN rfl) (QP.assign rfl rfl).read ?_
    refine Sq.nil ?_
    refine hk10 _ _ ?_
    refine Run.ret ?_
    exact J.ends (res_tmp rfl rfl) Takes.nil ⟨congrArg (Value.int .i64) (familyB_not (by omega) hx (by rw [tmpl_hi (by omega) (by omega)]; intro h; cases h; exact c23 rfl)).symm, rfl⟩
   ·skip
    refine Sq.quiet (i := 16) rfl (Want.yes rfl rfl rfl rfl) rfl (ltN rfl) (QP.pick_t rfl rfl rfl).read ?_
    refine Sq.quiet (i := 17) rfl (Want.none rfl) rfl (ltN rfl) (QP.pick_f rfl rfl rfl).read ?_
    refine Sq.nil ?_
    refine hk8 _ _ ?_
    refine Run.cond_f rfl ?_
    refine Run.skip ?_
    refine hk7 _ _ ?_
    refine Run.region ?_
    show Sq _ _ _ [0, 1, 2] _ _ _ _
    have htu : tmplL[i]? = some u := by rw [tmpl_hi (by omega) (by omega), u8_255 (Classical.not_not.1 c23)]
    refine Sq.quiet (i := 0) rfl (Want.none rfl) rfl (ltN rfl) (QP.move rfl rfl).read ?_
    refine Sq.quiet (i := 1) rfl (Want.none rfl) rfl (ltN rfl) (QP.add64 rfl rfl rfl (by first | omega | (simp <;> omega)) (by first | omega | (simp <;> omega))).read ?_
    refine Sq.quiet (i := 2) rfl (Want.none rfl) rfl (ltN rfl) (QP.assign rfl rfl).read ?_
    refine Sq.nil ?_
    exact J.envJ (J.keep (.cons (by repeat constructor) Takes.nil) (hl4 (i + 1) (⟨by omega, by rw [List.take_add_one, List.take_add_one, hto, hx, htu]⟩) (by omega))) ⟨rfl, rfl, trivial⟩
 ·skip
  refine Sq.nil ?_
  refine hk6 _ _ ?_
  refine Run.cond_f rfl ?_
  refine Run.exit rfl ?_
  refine hk2 _ _ ?_
  refine Run.seq fun k11 hk11 => ?_
  refine Run.region ?_
  show Sq _ _ _ [0] _ _ _ _
  refine Sq.quiet (i := 0) rfl (Want.none rfl) rfl (ltN rfl) (QP.assign rfl rfl).read ?_
  refine Sq.nil ?_
  refine hk11 _ _ ?_
  refine Run.ret ?_
  exact J.ends (res_tmp rfl rfl) Takes.nil ⟨congrArg (Value.int .i64) (familyB_yes (by rw [show i = 12 by omega] at hto; exact hto)).symm, rfl⟩

def betterP (b p : Pair) : Bool := decide (p.dst.len.val > b.dst.len.val) || (decide (p.dst.len.val = b.dst.len.val) && decide (p.src.len.val > b.src.len.val))
/-- The best of the first ones: its place. -/
structure Top (s d : Bs 16) (Q : List Pair) (n : Nat) (k : Nat) (ok : Bool) : Prop where
  no : ok = false → ∀ p ∈ Q.take n, matchesB p s d = false
  yes : ok = true → k < n ∧ ∃ p, Q[k]? = some p ∧ matchesB p s d = true ∧ ∀ q ∈ Q.take n, matchesB q s d = true → betterP p q = false
theorem Top.zero {s d : Bs 16} {Q : List Pair} : Top s d Q 0 0 false := ⟨fun _ => by simp, fun h => by cases h⟩
theorem Top.skip {s d : Bs 16} {Q : List Pair} {n k : Nat} {ok : Bool} {p : Pair} (h : Top s d Q n k ok) (hp : Q[n]? = some p) (hm : matchesB p s d = false ∨ (ok = true ∧ ∀ b, Q[k]? = some b → betterP b p = false)) : Top s d Q (n + 1) k ok := by
  refine ⟨fun h1 q hq => ?_, fun h1 => ?_⟩
  · rw [List.take_add_one, hp] at hq
    rcases List.mem_append.1 hq with hq | hq
    · exact h.no h1 q hq
    · simp at hq; subst hq
      rcases hm with hm | ⟨hm, _⟩
      · exact hm
      · rw [h1] at hm; cases hm
  · obtain ⟨hk, b, h2, h3, h4⟩ := h.yes h1
    refine ⟨by omega, b, h2, h3, fun q hq hqm => ?_⟩
    rw [List.take_add_one, hp] at hq
    rcases List.mem_append.1 hq with hq | hq
    · exact h4 q hq hqm
    · simp at hq; subst hq
      rcases hm with hm | ⟨_, hm⟩
      · rw [hm] at hqm; cases hqm
      · exact hm b h2
theorem betterP_trans {a b c : Pair} (h1 : betterP a b = true) (h2 : betterP a c = false) : betterP b c = false := by
  unfold betterP at *
  simp only [Bool.or_eq_true, Bool.and_eq_true, decide_eq_true_eq, Bool.or_eq_false_iff, Bool.and_eq_false_iff, decide_eq_false_iff_not] at *
  omega
theorem betterP_self (a : Pair) : betterP a a = false := by unfold betterP; simp
theorem Top.take {s d : Bs 16} {Q : List Pair} {n k : Nat} {ok : Bool} {p : Pair} (h : Top s d Q n k ok) (hp : Q[n]? = some p) (hm : matchesB p s d = true) (hb : ok = false ∨ ∀ b, Q[k]? = some b → betterP b p = true) : Top s d Q (n + 1) n true := by
  refine ⟨fun h1 => (by cases h1), fun _ => ⟨by omega, p, hp, hm, fun q hq hqm => ?_⟩⟩
  rw [List.take_add_one, hp] at hq
  rcases List.mem_append.1 hq with hq | hq
  · cases hok : ok with
    | false => rw [h.no hok q hq] at hqm; cases hqm
    | true =>
      obtain ⟨hk, b, h2, h3, h4⟩ := h.yes hok
      rcases hb with hb | hb
      · rw [hok] at hb; cases hb
      · exact betterP_trans (hb b h2) (h4 q hq hqm)
  · simp at hq; subst hq; exact betterP_self _
theorem better_or (b p : Pair) : (0 < orF [cmpF p.dst.len.val b.dst.len.val, cmpF p.src.len.val b.src.len.val]) ↔ betterP b p = true := by
  unfold betterP
  simp only [orF, cmpF, Bool.or_eq_true, Bool.and_eq_true, decide_eq_true_eq]
  repeat' split
  all_goals omega

theorem abest_spec (F : Fr) {a : Option Addr} {c : Nat} {Q : List Pair} (hh : SlH a c Q) (hl : Q.length ≤ 1000000) (s d : Bs 16) : Spec Try.prog 37 #[.agg (Bs.enc s).toArray, .agg (Bs.enc d).toArray, .slice a Q.length c] [slA 39 34 Pair.enc (.slice a Q.length c) Q] F (fun v S => ∃ (k : Nat) (ok : Bool), v = .tuple #[.int .i64 k, .bool ok] ∧ Top s d Q Q.length k ok ∧ S = [slA 39 34 Pair.enc (.slice a Q.length c) Q]) := by
 refine Spec.intro (N := 55) (args := [.agg (Bs.enc s).toArray, .agg (Bs.enc d).toArray, .slice a Q.length c]) Try.func37 rfl rfl (by simp) ?_
 refine Run.seq fun k1 hk1 => ?_
 refine Run.region ?_
 show Sq _ _ _ [0, 1, 2, 3] _ _ _ _
 refine Sq.eff (i := 0) rfl (Want.none rfl) rfl (ltN rfl) (EF.boxA rfl rfl) ?_
 rintro _ _ ⟨b3, rfl, rfl⟩
 refine Sq.eff (i := 1) rfl (Want.none rfl) rfl (ltN rfl) (EF.boxA rfl rfl) ?_
 rintro _ _ ⟨b4, rfl, rfl⟩
 refine Sq.quiet (i := 2) rfl (Want.none rfl) rfl (ltN rfl) (QP.assign rfl rfl).read ?_
 refine Sq.quiet (i := 3) rfl (Want.none rfl) rfl (ltN rfl) (QP.assign rfl rfl).read ?_
 refine Sq.nil ?_
 refine hk1 _ _ ?_
 refine Run.seq fun k2 hk2 => ?_
 refine Run.region ?_
 show Sq _ _ _ [0, 1] _ _ _ _
 refine Sq.quiet (i := 0) rfl (Want.none rfl) rfl (ltN rfl) (QP.assign rfl rfl).read ?_
 refine Sq.quiet (i := 1) rfl (Want.none rfl) rfl (ltN rfl) (QP.assign rfl rfl).read ?_
 refine Sq.nil ?_
 refine hk2 _ _ ?_
 refine Run.seq fun k3 hk3 => ?_
 refine Run.seq fun k4 hk4 => ?_
 refine Run.region ?_
 show Sq _ _ _ [0, 1, 2] _ _ _ _
 refine Sq.quiet (i := 0) rfl (Want.none rfl) rfl (ltN rfl) (QP.move rfl rfl).read ?_
 refine Sq.quiet (i := 1) rfl (Want.none rfl) rfl (ltN rfl) (QP.len rfl rfl rfl Try.underlying68).read ?_
 refine Sq.quiet (i := 2) rfl (Want.none rfl) rfl (ltN rfl) (QP.move rfl rfl).read ?_
 refine Sq.nil ?_
 refine hk4 _ _ ?_
 refine Run.block ?_
 refine Run.loop3 (fun (i : Nat) (k : Nat) (ok : Bool) => i ≤ Q.length ∧ Top s d Q i k ok ∧ k ≤ Q.length) (fun i k ok => .cons 2 (.slice a Q.length c) (.cons 3 (.pointer (some ⟨b3, 0, none⟩)) (.cons 4 (.pointer (some ⟨b4, 0, none⟩)) (.cons 8 (.int .i64 k) (.cons 9 (.bool ok) (.cons 12 (.slice a Q.length c) (.cons 13 (.int .i64 Q.length) (.cons 14 (.int .i64 i) (.nil))))))))) (fun i k ok => [slA 39 34 Pair.enc (.slice a Q.length c) Q, blk b3 (Bs.enc s) 35, blk b4 (Bs.enc d) 35]) (fun i k ok => Q.length - i) (0) (0) (false) (⟨Nat.zero_le _, Top.zero, Nat.zero_le _⟩) ?_ ?_
 ·exact fun _ j => J.envJ (J.keep (.cons (by repeat constructor) (.cons (by repeat constructor) (.cons (by repeat constructor) Takes.nil))) j) ⟨rfl, rfl, rfl, rfl, rfl, rfl, rfl, rfl, trivial⟩
 rintro i k ok ⟨hile, htop, hkle⟩ kl5 hl5
 refine Run.seq fun k6 hk6 => ?_
 refine Run.region ?_
 show Sq _ _ _ [0] _ _ _ _
 refine Sq.quiet (i := 0) rfl (Want.none rfl) rfl (ltN rfl) (QP.lss rfl rfl rfl).read ?_
 refine J.caseD (fun c15 => ?_) (fun c15 => ?_)
 ·skip
  refine Sq.nil ?_
  refine hk6 _ _ ?_
  refine Run.seq fun k7 hk7 => ?_
  refine Run.cond_t rfl ?_
  refine Run.skip ?_
  refine hk7 _ _ ?_
  refine Run.seq fun k8 hk8 => ?_
  refine Run.block ?_
  refine Run.seq fun k9 hk9 => ?_
  refine Run.region ?_
  show Sq _ _ _ [0, 1, 2, 3, 4, 5] _ _ _ _
  obtain ⟨p, hi⟩ : ∃ p, Q[i]? = some p := ⟨_, List.getElem?_eq_getElem (by omega)⟩
  obtain ⟨b0, o0, rfl⟩ := hh.get (by omega)
  refine Sq.quiet (i := 0) rfl (Want.none rfl) rfl (ltN rfl) (QP.move rfl rfl).read ?_
  refine Sq.quiet (i := 1) rfl (Want.none rfl) rfl (ltN rfl) (QP.indexAddr rfl rfl rfl Try.underlying68 z39 (by first | omega | (simp <;> omega)) (by first | omega | (simp <;> omega))).read ?_
  refine Sq.quiet (i := 2) rfl (Want.none rfl) rfl (ltN rfl) (QR.loadSl rfl rfl g39 Pair.enc_len (SlAt.own Pair.enc_len (by repeat constructor)) hi) ?_
  refine Sq.eff (i := 3) rfl (Want.none rfl) rfl (ltN rfl) (EF.allocA (l := Pair.enc Pair.zero) rfl zero39) ?_
  rintro _ _ ⟨b11, rfl, rfl⟩
  refine Sq.quiet (i := 4) rfl (Want.none rfl) rfl (ltN rfl) (QP.assign rfl rfl).read ?_
  refine Sq.act (i := 5) rfl (Want.none rfl) rfl (EF.storeA rfl rfl rfl z39 (SetL.all (Pair.enc_len _) (Pair.enc_len _)) (Pair.enc_cell _)) ?_
  rintro _ _ rfl
  refine Sq.nil ?_
  refine hk9 _ _ ?_
  refine Run.seq fun k10 hk10 => ?_
  refine Run.seq fun k11 hk11 => ?_
  refine Run.region ?_
  show Sq _ _ _ [0, 1, 2, 3, 4] _ _ _ _
  refine Sq.quiet (i := 0) rfl (Want.none rfl) rfl (ltN rfl) (QR.load rfl rfl g39 (Pair.enc_sub _)) ?_
  refine Sq.quiet (i := 1) rfl (Want.none rfl) rfl (ltN rfl) (QR.load rfl rfl g35 (Bs.sub _)) ?_
  refine Sq.quiet (i := 2) rfl (Want.none rfl) rfl (ltN rfl) (QR.load rfl rfl g35 (Bs.sub _)) ?_
  refine Sq.eff (i := 3) rfl (Want.none rfl) rfl (ltN rfl) (EF.call rfl ce54 rfl Takes.nil (fun F' hle hr => matches_spec F' p s d)) ?_
  rintro _ _ ⟨_, ⟨rfl, rfl⟩, rfl⟩
  refine J.app ?_
  refine J.caseB (fun c22 => ?_) (fun c22 => ?_)
  ·skip
   refine Sq.quiet (i := 4) rfl (Want.none rfl) rfl (ltN rfl) (QP.not rfl rfl).read ?_
   refine Sq.nil ?_
   refine hk11 _ _ ?_
   refine Run.cond_f rfl ?_
   refine Run.skip ?_
   refine hk10 _ _ ?_
   refine Run.seq fun k12 hk12 => ?_
   refine Run.regionD (M := [0, 1, 3, 7, 15, 31, 7, 7, 199, 455, 967, 1991, 4095, 7, 8199, 24583, 7, 7, 196615, 458759, 983047, 2031623, 4194303, 8388607, 16777215, 33554431, 67108863]) (q := 104853503) (r := 2132000) (by kernel_rfl) ?_
   refine Dw.pure (i := 0) rfl (by kernel_rfl) (Want.none rfl) rfl (ltN rfl) (QP.move rfl rfl) ?_
   refine J.caseB (fun c24 => ?_) (fun c24 => ?_)
   ·skip
    refine Dw.pure (i := 1) rfl (by kernel_rfl) (Want.none rfl) rfl (ltN rfl) (QP.not rfl rfl) ?_
    refine Dw.pure (i := 2) rfl (by kernel_rfl) (Want.none rfl) rfl (ltN rfl) (QP.move rfl rfl) ?_
    refine Dw.pure (i := 3) rfl (by kernel_rfl) (Want.yes rfl rfl rfl rfl) rfl (ltN rfl) (QP.fieldAddr rfl rfl f39_0) ?_
    refine Dw.pure (i := 4) rfl (by kernel_rfl) (Want.yes rfl rfl rfl rfl) rfl (ltN rfl) (QP.fieldAddr rfl rfl f37_1) ?_
    refine Dw.read (i := 5) rfl (by kernel_rfl) (Want.yes rfl rfl rfl rfl) rfl (ltN rfl) (QR.load1 rfl rfl g3 ((Pair.sub_dst _).trans (Prefix.sub_len _))) ?_
    obtain ⟨b, hk⟩ : ∃ b, Q[k]? = some b := ⟨_, List.getElem?_eq_getElem (by have := (htop.yes (by simpa using c24)).1; omega)⟩
    have hkl := (List.getElem?_eq_some_iff.1 hk).1
    refine Dw.pure (i := 6) rfl (by kernel_rfl) (Want.yes rfl rfl rfl rfl) rfl (ltN rfl) (QP.move rfl rfl) ?_
    refine Dw.pure (i := 7) rfl (by kernel_rfl) (Want.yes rfl rfl rfl rfl) rfl (ltN rfl) (QP.move rfl rfl) ?_
    refine Dw.pure (i := 8) rfl (by kernel_rfl) (Want.yes rfl rfl rfl rfl) rfl (ltN rfl) (QP.indexAddr rfl rfl rfl Try.underlying68 z39 (by first | omega | (simp <;> omega)) (by first | omega | (simp <;> omega))) ?_
    refine Dw.pure (i := 9) rfl (by kernel_rfl) (Want.yes rfl rfl rfl rfl) rfl (ltN rfl) (QP.fieldAddr rfl rfl f39_0) ?_
    refine Dw.pure (i := 10) rfl (by kernel_rfl) (Want.yes rfl rfl rfl rfl) rfl (ltN rfl) (QP.fieldAddr rfl rfl f37_1) ?_
    refine Dw.read (i := 11) rfl (by kernel_rfl) (Want.yes rfl rfl rfl rfl) rfl (ltN rfl) (QR.loadSlF1 rfl rfl g3 Pair.enc_len (SlAt.own Pair.enc_len (by repeat constructor)) hk ((Pair.sub_dst _).trans (Prefix.sub_len _))) ?_
    refine Dw.pure (i := 13) rfl (by kernel_rfl) (Want.yes rfl rfl rfl rfl) rfl (ltN rfl) (QP.fieldAddr rfl rfl f39_1) ?_
    refine Dw.pure (i := 14) rfl (by kernel_rfl) (Want.yes rfl rfl rfl rfl) rfl (ltN rfl) (QP.fieldAddr rfl rfl f37_1) ?_
    refine Dw.read (i := 15) rfl (by kernel_rfl) (Want.yes rfl rfl rfl rfl) rfl (ltN rfl) (QR.load1 rfl rfl g3 ((Pair.sub_src _).trans (Prefix.sub_len _))) ?_
    refine Dw.pure (i := 16) rfl (by kernel_rfl) (Want.yes rfl rfl rfl rfl) rfl (ltN rfl) (QP.move rfl rfl) ?_
    refine Dw.pure (i := 17) rfl (by kernel_rfl) (Want.yes rfl rfl rfl rfl) rfl (ltN rfl) (QP.move rfl rfl) ?_
    refine Dw.pure (i := 18) rfl (by kernel_rfl) (Want.yes rfl rfl rfl rfl) rfl (ltN rfl) (QP.indexAddr rfl rfl rfl Try.underlying68 z39 (by first | omega | (simp <;> omega)) (by first | omega | (simp <;> omega))) ?_
    refine Dw.pure (i := 19) rfl (by kernel_rfl) (Want.yes rfl rfl rfl rfl) rfl (ltN rfl) (QP.fieldAddr rfl rfl f39_1) ?_
    refine Dw.pure (i := 20) rfl (by kernel_rfl) (Want.yes rfl rfl rfl rfl) rfl (ltN rfl) (QP.fieldAddr rfl rfl f37_1) ?_
    refine Dw.read (i := 21) rfl (by kernel_rfl) (Want.yes rfl rfl rfl rfl) rfl (ltN rfl) (QR.loadSlF1 rfl rfl g3 Pair.enc_len (SlAt.own Pair.enc_len (by repeat constructor)) hk ((Pair.sub_src _).trans (Prefix.sub_len _))) ?_
    refine Dw.eff (i := 12) (by kernel_rfl) (by kernel_rfl) ?_
    refine One.mk (o := _) (l := [21, 15]) rfl (by kernel_rfl) (Want.yes rfl rfl rfl rfl) rfl (ltN rfl) (EF.call rfl ce55 rfl Takes.nil (fun F' hle hr => cmpCompare_spec F' (((p).dst).len).val (((b).dst).len).val)) (by kernel_rfl) ?_
    rintro _ _ ⟨_, ⟨rfl, rfl⟩, rfl⟩
    refine ⟨?_, ?_⟩
    ·rw [List.forall_mem_cons, List.forall_mem_cons]
     refine ⟨?_, ?_, fun _ h => (by cases h)⟩
     ·refine Look.app ?_
      exact Look.mk rfl rfl rfl (QR.loadSlF1 rfl rfl g3 Pair.enc_len (SlAt.own Pair.enc_len (by repeat constructor)) hk ((Pair.sub_src _).trans (Prefix.sub_len _)))
     ·refine Look.app ?_
      exact Look.mk rfl rfl rfl (QR.load1 rfl rfl g3 ((Pair.sub_src _).trans (Prefix.sub_len _)))
    refine ?_
    refine J.app ?_
    refine Dw.eff (i := 22) (by kernel_rfl) (by kernel_rfl) ?_
    refine One.mk (o := _) (l := []) rfl (by kernel_rfl) (Want.yes rfl rfl rfl rfl) rfl (ltN rfl) (EF.call rfl ce55 rfl Takes.nil (fun F' hle hr => cmpCompare_spec F' (((p).src).len).val (((b).src).len).val)) (by kernel_rfl) ?_
    rintro _ _ ⟨_, ⟨rfl, rfl⟩, rfl⟩
    refine ⟨fun _ h => (by cases h), ?_⟩
    refine J.app ?_
    refine Dw.eff (i := 23) (by kernel_rfl) (by kernel_rfl) ?_
    refine One.mk (o := _) (l := []) rfl (by kernel_rfl) (Want.yes rfl rfl rfl rfl) rfl (ltN rfl) (EF.buildSliceS rfl Try.underlying100 z3 zero3 rfl (by decide) rfl rfl rfl rfl) (by kernel_rfl) ?_
    rintro _ _ ⟨b47, rfl, rfl⟩
    refine ⟨fun _ h => (by cases h), ?_⟩
    refine Dw.eff (i := 24) (by kernel_rfl) (by kernel_rfl) ?_
    refine One.mk (o := _) (l := []) rfl (by kernel_rfl) (Want.yes rfl rfl rfl rfl) rfl (ltN rfl) (EF.call rfl ce52 rfl Takes.nil (fun F' hle hr => or_spec F' [(cmpF (((p).dst).len).val (((b).dst).len).val), (cmpF (((p).src).len).val (((b).src).len).val)] (by simp) (fun _ => SlAt.frZ (fun _ => rfl) (hr _ _ (by repeat constructor)) [] [] rfl rfl))) (by kernel_rfl) ?_
    rintro _ _ ⟨_, ⟨rfl, rfl⟩, rfl⟩
    refine ⟨fun _ h => (by cases h), ?_⟩
    refine J.app ?_
    refine Dw.pure (i := 25) rfl (by kernel_rfl) (Want.yes rfl rfl rfl rfl) rfl (ltN rfl) (QP.gtr rfl rfl rfl) ?_
    refine J.caseD (fun c49 => ?_) (fun c49 => ?_)
    ·skip
     refine Dw.pure (i := 26) rfl (by kernel_rfl) (Want.none rfl) rfl (ltN rfl) (QP.pick_f rfl rfl rfl) ?_
     refine Dw.nil (by kernel_rfl) ?_
     refine hk12 _ _ ?_
     refine Run.cond_t rfl ?_
     refine Run.region ?_
     show Sq _ _ _ [0, 1, 2] _ _ _ _
     refine Sq.quiet (i := 0) rfl (Want.none rfl) rfl (ltN rfl) (QP.move rfl rfl).read ?_
     refine Sq.quiet (i := 1) rfl (Want.none rfl) rfl (ltN rfl) (QP.assign rfl rfl).read ?_
     refine Sq.quiet (i := 2) rfl (Want.none rfl) rfl (ltN rfl) (QP.assign rfl rfl).read ?_
     refine Sq.nil ?_
     refine hk8 _ _ ?_
     refine Run.region ?_
     show Sq _ _ _ [0, 1] _ _ _ _
     refine Sq.quiet (i := 0) rfl (Want.none rfl) rfl (ltN rfl) (QP.add64 rfl rfl rfl (by first | omega | (simp <;> omega)) (by first | omega | (simp <;> omega))).read ?_
     refine Sq.quiet (i := 1) rfl (Want.none rfl) rfl (ltN rfl) (QP.move rfl rfl).read ?_
     refine Sq.nil ?_
     exact J.envJ (J.keep (.cons (by repeat constructor) (.cons (by repeat constructor) (.cons (by repeat constructor) Takes.nil))) (hl5 (i + 1) (i) (true) (⟨by omega, htop.take hi c22 (.inr fun b2 hb2 => by cases hk.symm.trans hb2; exact (better_or b p).1 c49), by omega⟩) (by omega))) ⟨rfl, rfl, rfl, rfl, rfl, rfl, rfl, rfl, trivial⟩
    ·skip
     refine Dw.pure (i := 26) rfl (by kernel_rfl) (Want.none rfl) rfl (ltN rfl) (QP.pick_f rfl rfl rfl) ?_
     refine Dw.nil (by kernel_rfl) ?_
     refine hk12 _ _ ?_
     refine Run.cond_f rfl ?_
     refine Run.skip ?_
     refine hk8 _ _ ?_
     refine Run.region ?_
     show Sq _ _ _ [0, 1] _ _ _ _
     refine Sq.quiet (i := 0) rfl (Want.none rfl) rfl (ltN rfl) (QP.add64 rfl rfl rfl (by first | omega | (simp <;> omega)) (by first | omega | (simp <;> omega))).read ?_
     refine Sq.quiet (i := 1) rfl (Want.none rfl) rfl (ltN rfl) (QP.move rfl rfl).read ?_
     refine Sq.nil ?_
     exact J.envJ (J.keep (.cons (by repeat constructor) (.cons (by repeat constructor) (.cons (by repeat constructor) Takes.nil))) (hl5 (i + 1) (k) (ok) (⟨by omega, htop.skip hi (.inr ⟨by simpa using c24, fun b2 hb2 => by cases hk.symm.trans hb2; exact Bool.eq_false_iff.2 fun h => c49 ((better_or b p).2 h)⟩), by omega⟩) (by omega))) ⟨rfl, rfl, rfl, rfl, rfl, rfl, rfl, rfl, trivial⟩
   ·skip
    refine Dw.pure (i := 1) rfl (by kernel_rfl) (Want.none rfl) rfl (ltN rfl) (QP.not rfl rfl) ?_
    refine Dw.pure (i := 2) rfl (by kernel_rfl) (Want.none rfl) rfl (ltN rfl) (QP.move rfl rfl) ?_
    refine Dw.skip (i := 3) rfl (by kernel_rfl) (Want.no rfl rfl rfl rfl) rfl (ltN rfl) ?_
    refine Dw.skip (i := 4) rfl (by kernel_rfl) (Want.no rfl rfl rfl rfl) rfl (ltN rfl) ?_
    refine Dw.skip (i := 5) rfl (by kernel_rfl) (Want.no rfl rfl rfl rfl) rfl (ltN rfl) ?_
    refine Dw.skip (i := 6) rfl (by kernel_rfl) (Want.no rfl rfl rfl rfl) rfl (ltN rfl) ?_
    refine Dw.skip (i := 7) rfl (by kernel_rfl) (Want.no rfl rfl rfl rfl) rfl (ltN rfl) ?_
    refine Dw.skip (i := 8) rfl (by kernel_rfl) (Want.no rfl rfl rfl rfl) rfl (ltN rfl) ?_
    refine Dw.skip (i := 9) rfl (by kernel_rfl) (Want.no rfl rfl rfl rfl) rfl (ltN rfl) ?_
    refine Dw.skip (i := 10) rfl (by kernel_rfl) (Want.no rfl rfl rfl rfl) rfl (ltN rfl) ?_
    refine Dw.skip (i := 11) rfl (by kernel_rfl) (Want.no rfl rfl rfl rfl) rfl (ltN rfl) ?_
    refine Dw.skip (i := 13) rfl (by kernel_rfl) (Want.no rfl rfl rfl rfl) rfl (ltN rfl) ?_
    refine Dw.skip (i := 14) rfl (by kernel_rfl) (Want.no rfl rfl rfl rfl) rfl (ltN rfl) ?_
    refine Dw.skip (i := 15) rfl (by kernel_rfl) (Want.no rfl rfl rfl rfl) rfl (ltN rfl) ?_
    refine Dw.skip (i := 16) rfl (by kernel_rfl) (Want.no rfl rfl rfl rfl) rfl (ltN rfl) ?_
    refine Dw.skip (i := 17) rfl (by kernel_rfl) (Want.no rfl rfl rfl rfl) rfl (ltN rfl) ?_
    refine Dw.skip (i := 18) rfl (by kernel_rfl) (Want.no rfl rfl rfl rfl) rfl (ltN rfl) ?_
    refine Dw.skip (i := 19) rfl (by kernel_rfl) (Want.no rfl rfl rfl rfl) rfl (ltN rfl) ?_
    refine Dw.skip (i := 20) rfl (by kernel_rfl) (Want.no rfl rfl rfl rfl) rfl (ltN rfl) ?_
    refine Dw.skip (i := 21) rfl (by kernel_rfl) (Want.no rfl rfl rfl rfl) rfl (ltN rfl) ?_
    refine Dw.eff (i := 12) (by kernel_rfl) (by kernel_rfl) ?_
    refine One.skipD (o := _) rfl (by kernel_rfl) (Want.no rfl rfl rfl rfl) rfl (ltN rfl) ?_
    refine Dw.eff (i := 22) (by kernel_rfl) (by kernel_rfl) ?_
    refine One.skipD (o := _) rfl (by kernel_rfl) (Want.no rfl rfl rfl rfl) rfl (ltN rfl) ?_
    refine Dw.eff (i := 23) (by kernel_rfl) (by kernel_rfl) ?_
    refine One.skipD (o := _) rfl (by kernel_rfl) (Want.no rfl rfl rfl rfl) rfl (ltN rfl) ?_
    refine Dw.eff (i := 24) (by kernel_rfl) (by kernel_rfl) ?_
    refine One.skipD (o := _) rfl (by kernel_rfl) (Want.no rfl rfl rfl rfl) rfl (ltN rfl) ?_
    refine Dw.skip (i := 25) rfl (by kernel_rfl) (Want.no rfl rfl rfl rfl) rfl (ltN rfl) ?_
    refine Dw.pure (i := 26) rfl (by kernel_rfl) (Want.none rfl) rfl (ltN rfl) (QP.pick_t rfl rfl rfl) ?_
    refine Dw.nil (by kernel_rfl) ?_
    refine hk12 _ _ ?_
    refine Run.cond_t rfl ?_
    refine Run.region ?_
    show Sq _ _ _ [0, 1, 2] _ _ _ _
    refine Sq.quiet (i := 0) rfl (Want.none rfl) rfl (ltN rfl) (QP.move rfl rfl).read ?_
    refine Sq.quiet (i := 1) rfl (Want.none rfl) rfl (ltN rfl) (QP.assign rfl rfl).read ?_
    refine Sq.quiet (i := 2) rfl (Want.none rfl) rfl (ltN rfl) (QP.assign rfl rfl).read ?_
    refine Sq.nil ?_
    refine hk8 _ _ ?_
    refine Run.region ?_
    show Sq _ _ _ [0, 1] _ _ _ _
    refine Sq.quiet (i := 0) rfl (Want.none rfl) rfl (ltN rfl) (QP.add64 rfl rfl rfl (by first | omega | (simp <;> omega)) (by first | omega | (simp <;> omega))).read ?_
    refine Sq.quiet (i := 1) rfl (Want.none rfl) rfl (ltN rfl) (QP.move rfl rfl).read ?_
    refine Sq.nil ?_
    exact J.envJ (J.keep (.cons (by repeat constructor) (.cons (by repeat constructor) (.cons (by repeat constructor) Takes.nil))) (hl5 (i + 1) (i) (true) (⟨by omega, htop.take hi c22 (.inl (by simpa using c24)), by omega⟩) (by omega))) ⟨rfl, rfl, rfl, rfl, rfl, rfl, rfl, rfl, trivial⟩
  ·skip
   refine Sq.quiet (i := 4) rfl (Want.none rfl) rfl (ltN rfl) (QP.not rfl rfl).read ?_
   refine Sq.nil ?_
   refine hk11 _ _ ?_
   refine Run.cond_t rfl ?_
   refine Run.exit rfl ?_
   refine hk8 _ _ ?_
   refine Run.region ?_
   show Sq _ _ _ [0, 1] _ _ _ _
   refine Sq.quiet (i := 0) rfl (Want.none rfl) rfl (ltN rfl) (QP.add64 rfl rfl rfl (by first | omega | (simp <;> omega)) (by first | omega | (simp <;> omega))).read ?_
   refine Sq.quiet (i := 1) rfl (Want.none rfl) rfl (ltN rfl) (QP.move rfl rfl).read ?_
   refine Sq.nil ?_
   exact J.envJ (J.keep (.cons (by repeat constructor) (.cons (by repeat constructor) (.cons (by repeat constructor) Takes.nil))) (hl5 (i + 1) (k) (ok) (⟨by omega, htop.skip hi (.inl c22), by omega⟩) (by omega))) ⟨rfl, rfl, rfl, rfl, rfl, rfl, rfl, rfl, trivial⟩
 ·skip
  refine Sq.nil ?_
  refine hk6 _ _ ?_
  refine Run.seq fun k13 hk13 => ?_
  refine Run.cond_f rfl ?_
  refine Run.exit rfl ?_
  refine hk3 _ _ ?_
  refine Run.seq fun k14 hk14 => ?_
  refine Run.region ?_
  show Sq _ _ _ [0, 1, 2, 3] _ _ _ _
  refine Sq.quiet (i := 0) rfl (Want.none rfl) rfl (ltN rfl) (QP.move rfl rfl).read ?_
  refine Sq.quiet (i := 1) rfl (Want.none rfl) rfl (ltN rfl) (QP.move rfl rfl).read ?_
  refine Sq.quiet (i := 2) rfl (Want.none rfl) rfl (ltN rfl) (QP.assign rfl rfl).read ?_
  refine Sq.quiet (i := 3) rfl (Want.none rfl) rfl (ltN rfl) (QP.assign rfl rfl).read ?_
  refine Sq.nil ?_
  refine hk14 _ _ ?_
  refine Run.ret ?_
  exact J.ends (res_tmp2 rfl rfl rfl) (.cons (by repeat constructor) Takes.nil) ⟨k, ok, rfl, by rw [show i = Q.length by omega] at htop; exact htop, rfl⟩
end Slb
