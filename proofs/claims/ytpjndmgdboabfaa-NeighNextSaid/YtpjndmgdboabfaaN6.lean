/- N6: a part of the proof that a law of this package holds for every input; no condition. -/
import Derived.Test.YtpjndmgdboabfaaN5
import Derived.Test.YtpjndmgdboabfaaM2
namespace Slb
open Go Go.Proofs
set_option maxRecDepth 20000
def familyB (a : Bs 16) : Int := if a.l.take 12 = [0, 0, 0, 0, 0, 0, 0, 0, 0, 0, 255, 255] then 4 else 6

theorem bs_at {n i : Nat} (x : Bs n) {u : UInt8} (h : x.l[i]? = some u) : SubL x.enc (0 + (Int.toNat i) * 1) 1 [byteV u] := by
  have hi : i < x.l.length := (List.getElem?_eq_some_iff.1 h).1
  have e : x.l = x.l.take i ++ u :: x.l.drop (i + 1) := by
    have : x.l[i] = u := (List.getElem?_eq_some_iff.1 h).2
    rw [← this, ← List.drop_eq_getElem_cons hi, List.take_append_drop]
  refine ⟨bytesV (x.l.take i), bytesV (x.l.drop (i + 1)), ?_, ?_, rfl⟩
  · unfold Bs.enc
    conv => lhs; rw [e]
    simp [bytesV]
  · rw [bytesV_length, List.length_take]
    simp; omega

theorem byte_eq {u t : UInt8} (h : (u.toNat : Int) = t.toNat) : u = t := UInt8.toNat_inj.1 (by omega)

def tmplL : List UInt8 := [0, 0, 0, 0, 0, 0, 0, 0, 0, 0, 255, 255]
theorem familyB_not {x : Bs 16} {i : Nat} {u : UInt8} (hi : i < 12) (hx : x.l[i]? = some u) (h : tmplL[i]? ≠ some u) : familyB x = 6 := by
  unfold familyB
  rw [if_neg fun hc => ?_]
  have h1 : (x.l.take 12)[i]? = some u := by rw [List.getElem?_take_of_lt hi]; exact hx
  rw [hc] at h1
  exact h h1
theorem familyB_yes {x : Bs 16} (h : x.l.take 12 = tmplL.take 12) : familyB x = 4 := by
  unfold familyB
  exact if_pos h
theorem tmpl_lo {i : Nat} (h : i < 10) : tmplL[i]? = some 0 := by
  have : ∀ j : Fin 10, tmplL[j.val]? = some 0 := by decide
  exact this ⟨i, h⟩
theorem tmpl_hi {i : Nat} (h : 10 ≤ i) (h2 : i < 12) : tmplL[i]? = some 255 := by
  have : ∀ j : Fin 12, 10 ≤ j.val → tmplL[j.val]? = some 255 := by decide
  exact this ⟨i, h2⟩ h
theorem u8_0 {u : UInt8} (h : (u.toNat : Int) = 0) : u = 0 := byte_eq h
theorem u8_255 {u : UInt8} (h : (u.toNat : Int) = 255) : u = 255 := byte_eq h

theorem rfamily_spec (F : Fr) (x : Bs 16) : Spec Try.prog 56 #[.agg (Bs.enc x).toArray] [] F (fun v S => v = .int .i64 (familyB x) ∧ S = []) := by
 refine Spec.intro (N := 26) (args := [.agg (Bs.enc x).toArray]) Try.func56 rfl rfl (by simp) ?_
 refine Run.seq fun k1 hk1 => ?_
 refine Run.region ?_
 show Sq _ _ _ [0, 1] _ _ _ _
 refine Sq.eff (i := 0) rfl (Want.none rfl) rfl (ltN rfl) (EF.boxA rfl rfl) ?_
 rintro _ _ ⟨b1, rfl, rfl⟩
 refine Sq.quiet (i := 1) rfl (Want.none rfl) rfl (ltN rfl) (QP.assign rfl rfl).read ?_
 refine Sq.nil ?_
 refine hk1 _ _ ?_
 refine Run.seq fun k2 hk2 => ?_
 refine Run.seq fun k3 hk3 => ?_
 refine Run.region ?_
 show Sq _ _ _ [0] _ _ _ _
 refine Sq.quiet (i := 0) rfl (Want.none rfl) rfl (ltN rfl) (QP.assign rfl rfl).read ?_
 refine Sq.nil ?_
 refine hk3 _ _ ?_
 refine Run.block ?_
 refine Run.loop1 (fun (i : Nat) => i ≤ 12 ∧ x.l.take i = tmplL.take i) (fun i => .cons 1 (.pointer (some ⟨b1, 0, none⟩)) (.cons 3 (.int .i64 i) (.nil))) (fun i => [blk b1 (Bs.enc x) 29]) (fun i => 12 - i) (0) (⟨Nat.zero_le _, rfl⟩) ?_ ?_
 ·exact fun _ j => J.envJ (J.keep (.cons (by repeat constructor) Takes.nil) j) ⟨rfl, rfl, trivial⟩
 rintro i ⟨hile, hto⟩ kl4 hl4
 refine Run.seq fun k5 hk5 => ?_
 refine Run.seq fun k6 hk6 => ?_
 refine Run.region ?_
 show Sq _ _ _ [0, 1] _ _ _ _
 refine Sq.quiet (i := 0) rfl (Want.none rfl) rfl (ltN rfl) (QP.move rfl rfl).read ?_
 refine Sq.quiet (i := 1) rfl (Want.none rfl) rfl (ltN rfl) (QP.lss rfl rfl rfl).read ?_
 refine J.caseD (fun c5 => ?_) (fun c5 => ?_)
 ·skip
  refine Sq.nil ?_
  refine hk6 _ _ ?_
  refine Run.cond_t rfl ?_
  refine Run.skip ?_
  refine hk5 _ _ ?_
  refine Run.seq fun k7 hk7 => ?_
  refine Run.block ?_
  refine Run.seq fun k8 hk8 => ?_
  refine Run.region ?_
  show Sq _ _ _ [0, 1, 2, 3, 4, 5, 6, 7, 8, 9, 10, 11, 12, 13, 14, 15, 16, 17] _ _ _ _
  obtain ⟨u, hx⟩ : ∃ u, x.l[i]? = some u := ⟨_, List.getElem?_eq_getElem (by rw [x.h]; omega)⟩
  refine Sq.quiet (i := 0) rfl (Want.none rfl) rfl (ltN rfl) (QP.move rfl rfl).read ?_
  refine Sq.quiet (i := 1) rfl (Want.none rfl) rfl (ltN rfl) (QP.lss rfl rfl rfl).read ?_
  refine J.caseD (fun c9 => ?_) (fun c9 => ?_)
  ·skip
   refine Sq.quiet (i := 2) rfl (Want.none rfl) rfl (ltN rfl) (QP.move rfl rfl).read ?_
   refine Sq.quiet (i := 3) rfl (Want.yes rfl rfl rfl rfl) rfl (ltN rfl) (QP.move rfl rfl).read ?_
   refine Sq.quiet (i := 4) rfl (Want.yes rfl rfl rfl rfl) rfl (ltN rfl) (QP.indexArr rfl rfl rfl Try.underlying29 z5 (by omega) (by omega)).read ?_
   refine Sq.quiet (i := 5) rfl (Want.yes rfl rfl rfl rfl) rfl (ltN rfl) (QR.load1 rfl rfl g5 (bs_at x hx)) ?_
   refine Sq.quiet (i := 6) rfl (Want.yes rfl rfl rfl rfl) rfl (ltN rfl) (QP.neq rfl rfl rfl).read ?_
   refine J.caseD (fun c14 => ?_) (fun c14 => ?_)
   ·skip
    refine Sq.quiet (i := 7) rfl (Want.none rfl) rfl (ltN rfl) (QP.pick_t rfl rfl rfl).read ?_
    refine Sq.quiet (i := 8) rfl (Want.none rfl) rfl (ltN rfl) (QP.move rfl rfl).read ?_
    refine Sq.skip (i := 9) rfl (Want.no rfl rfl rfl rfl) rfl (ltN rfl) ?_
    refine Sq.skip (i := 10) rfl (Want.no rfl rfl rfl rfl) rfl (ltN rfl) ?_
    refine Sq.skip (i := 11) rfl (Want.no rfl rfl rfl rfl) rfl (ltN rfl) ?_
    refine Sq.skip (i := 12) rfl (Want.undef rfl rfl rfl) rfl (ltN rfl) ?_
    refine Sq.skip (i := 13) rfl (Want.undef rfl rfl rfl) rfl (ltN rfl) ?_
    refine Sq.skip (i := 14) rfl (Want.undef rfl rfl rfl) rfl (ltN rfl) ?_
    refine Sq.skip (i := 15) rfl (Want.undef rfl rfl rfl) rfl (ltN rfl) ?_
    refine Sq.skip (i := 16) rfl (Want.no rfl rfl rfl rfl) rfl (ltN rfl) ?_
    refine Sq.quiet (i := 17) rfl (Want.none rfl) rfl (ltN rfl) (QP.pick_t rfl rfl rfl).read ?_
    refine Sq.nil ?_
    refine hk8 _ _ ?_
    refine Run.cond_t rfl ?_
    refine Run.seq fun k9 hk9 => ?_
    refine Run.region ?_
    show Sq _ _ _ [0] _ _ _ _
    refine Sq.quiet (i := 0) rfl (Want.none rfl) rfl (ltN rfl) (QP.assign rfl rfl).read ?_
    refine Sq.nil ?_
    refine hk9 _ _ ?_
    refine Run.ret ?_
    exact J.ends (res_tmp rfl rfl) Takes.nil ⟨congrArg (Value.int .i64) (familyB_not (by omega) hx (by rw [tmpl_lo (by omega)]; intro h; cases h; exact c14 rfl)).symm, rfl⟩
   ·skip
    refine Sq.quiet (i := 7) rfl (Want.none rfl) rfl (ltN rfl) (QP.pick_t rfl rfl rfl).read ?_
    refine Sq.quiet (i := 8) rfl (Want.none rfl) rfl (ltN rfl) (QP.move rfl rfl).read ?_
    refine Sq.quiet (i := 9) rfl (Want.yes rfl rfl rfl rfl) rfl (ltN rfl) (QP.move rfl rfl).read ?_
    refine Sq.quiet (i := 10) rfl (Want.yes rfl rfl rfl rfl) rfl (ltN rfl) (QP.geq rfl rfl rfl).read ?_
    refine J.decF (by omega) ?_
    refine Sq.quiet (i := 11) rfl (Want.yes rfl rfl rfl rfl) rfl (ltN rfl) (QP.move rfl rfl).read ?_
    refine Sq.skip (i := 12) rfl (Want.no rfl rfl rfl rfl) rfl (ltN rfl) ?_
    refine Sq.skip (i := 13) rfl (Want.no rfl rfl rfl rfl) rfl (ltN rfl) ?_
    refine Sq.skip (i := 14) rfl (Want.no rfl rfl rfl rfl) rfl (ltN rfl) ?_
    refine Sq.skip (i := 15) rfl (Want.no rfl rfl rfl rfl) rfl (ltN rfl) ?_
    refine Sq.quiet (i := 16) rfl (Want.yes rfl rfl rfl rfl) rfl (ltN rfl) (QP.pick_f rfl rfl rfl).read ?_
    refine Sq.quiet (i := 17) rfl (Want.none rfl) rfl (ltN rfl) (QP.pick_f rfl rfl rfl).read ?_
    refine Sq.nil ?_
    refine hk8 _ _ ?_
    refine Run.cond_f rfl ?_
    refine Run.skip ?_
    refine hk7 _ _ ?_
    refine Run.region ?_
    show Sq _ _ _ [0, 1, 2] _ _ _ _
    have htu : tmplL[i]? = some u := by rw [tmpl_lo (by omega), u8_0 (Classical.not_not.1 c14)]
    refine Sq.quiet (i := 0) rfl (Want.none rfl) rfl (ltN rfl) (QP.move rfl rfl).read ?_
    refine Sq.quiet (i := 1) rfl (Want.none rfl) rfl (ltN rfl) (QP.add64 rfl rfl rfl (by first | omega | (simp <;> omega)) (by first | omega | (simp <;> omega))).read ?_
    refine Sq.quiet (i := 2) rfl (Want.none rfl) rfl (ltN rfl) (QP.assign rfl rfl).read ?_
    refine Sq.nil ?_
    exact J.envJ (J.keep (.cons (by repeat constructor) Takes.nil) (hl4 (i + 1) (⟨by omega, by rw [List.take_add_one, List.take_add_one, hto, hx, htu]⟩) (by omega))) ⟨rfl, rfl, trivial⟩
  ·skip
   refine Sq.quiet (i := 2) rfl (Want.none rfl) rfl (ltN rfl) (QP.move rfl rfl).read ?_
   refine Sq.skip (i := 3) rfl (Want.no rfl rfl rfl rfl) rfl (ltN rfl) ?_
   refine Sq.skip (i := 4) rfl (Want.no rfl rfl rfl rfl) rfl (ltN rfl) ?_
   refine Sq.skip (i := 5) rfl (Want.no rfl rfl rfl rfl) rfl (ltN rfl) ?_
   refine Sq.skip (i := 6) rfl (Want.no rfl rfl rfl rfl) rfl (ltN rfl) ?_
   refine Sq.quiet (i := 7) rfl (Want.none rfl) rfl (ltN rfl) (QP.pick_f rfl rfl rfl).read ?_
   refine Sq.quiet (i := 8) rfl (Want.none rfl) rfl (ltN rfl) (QP.move rfl rfl).read ?_
   refine Sq.quiet (i := 9) rfl (Want.yes rfl rfl rfl rfl) rfl (ltN rfl) (QP.move rfl rfl).read ?_
   refine Sq.quiet (i := 10) rfl (Want.yes rfl rfl rfl rfl) rfl (ltN rfl) (QP.geq rfl rfl rfl).read ?_
   refine J.decT (by omega) ?_
   refine Sq.quiet (i := 11) rfl (Want.yes rfl rfl rfl rfl) rfl (ltN rfl) (QP.move rfl rfl).read ?_
   refine Sq.quiet (i := 12) rfl (Want.yes rfl rfl rfl rfl) rfl (ltN rfl) (QP.move rfl rfl).read ?_
   refine Sq.quiet (i := 13) rfl (Want.yes rfl rfl rfl rfl) rfl (ltN rfl) (QP.indexArr rfl rfl rfl Try.underlying29 z5 (by omega) (by omega)).read ?_
   refine Sq.quiet (i := 14) rfl (Want.yes rfl rfl rfl rfl) rfl (ltN rfl) (QR.load1 rfl rfl g5 (bs_at x hx)) ?_
   refine Sq.quiet (i := 15) rfl (Want.yes rfl rfl rfl rfl) rfl (ltN rfl) (QP.neq rfl rfl rfl).read ?_
   refine J.caseD (fun c23 => ?_) (fun c23 => ?_)
   ·skip
    refine Sq.quiet (i := 16) rfl (Want.yes rfl rfl rfl rfl) rfl (ltN rfl) (QP.pick_t rfl rfl rfl).read ?_
    refine Sq.quiet (i := 17) rfl (Want.none rfl) rfl (ltN rfl) (QP.pick_f rfl rfl rfl).read ?_
    refine Sq.nil ?_
    refine hk8 _ _ ?_
    refine Run.cond_t rfl ?_
    refine Run.seq fun k10 hk10 => ?_
    refine Run.region ?_
    show Sq _ _ _ [0] _ _ _ _
    refine Sq.quiet (i := 0) rfl (Want.none rfl) rfl (ltN rfl) (QP.assign rfl rfl).read ?_
    refine Sq.nil ?_
    refine hk10 _ _ ?_
    refine Run.ret ?_
    exact J.ends (res_tmp rfl rfl) Takes.nil ⟨congrArg (Value.int .i64) (familyB_not (by omega) hx (by rw [tmpl_hi (by omega) (by omega)]; intro h; cases h; exact c23 rfl)).symm, rfl⟩
   ·skip
    refine Sq.quiet (i := 16) rfl (Want.yes rfl rfl rfl rfl) rfl (ltN rfl) (QP.pick_t rfl rfl rfl).read ?_
    refine Sq.quiet (i := 17) rfl (Want.none rfl) rfl (ltN rfl) (QP.pick_f rfl rfl rfl).read ?_
    refine Sq.nil ?_
    refine hk8 _ _ ?_
    refine Run.cond_f rfl ?_
    refine Run.skip ?_
    refine hk7 _ _ ?_
    refine Run.region ?_
    show Sq _ _ _ [0, 1, 2] _ _ _ _
    have htu : tmplL[i]? = some u := by rw [tmpl_hi (by omega) (by omega), u8_255 (Classical.not_not.1 c23)]
    refine Sq.quiet (i := 0) rfl (Want.none rfl) rfl (ltN rfl) (QP.move rfl rfl).read ?_
    refine Sq.quiet (i := 1) rfl (Want.none rfl) rfl (ltN rfl) (QP.add64 rfl rfl rfl (by first | omega | (simp <;> omega)) (by first | omega | (simp <;> omega))).read ?_
    refine Sq.quiet (i := 2) rfl (Want.none rfl) rfl (ltN rfl) (QP.assign rfl rfl).read ?_
    refine Sq.nil ?_
    exact J.envJ (J.keep (.cons (by repeat constructor) Takes.nil) (hl4 (i + 1) (⟨by omega, by rw [List.take_add_one, List.take_add_one, hto, hx, htu]⟩) (by omega))) ⟨rfl, rfl, trivial⟩
 ·skip
  refine Sq.nil ?_
  refine hk6 _ _ ?_
  refine Run.cond_f rfl ?_
  refine Run.exit rfl ?_
  refine hk2 _ _ ?_
  refine Run.seq fun k11 hk11 => ?_
  refine Run.region ?_
  show Sq _ _ _ [0] _ _ _ _
  refine Sq.quiet (i := 0) rfl (Want.none rfl) rfl (ltN rfl) (QP.assign rfl rfl).read ?_
  refine Sq.nil ?_
  refine hk11 _ _ ?_
  refine Run.ret ?_
  exact J.ends (res_tmp rfl rfl) Takes.nil ⟨congrArg (Value.int .i64) (familyB_yes (by rw [show i = 12 by omega] at hto; exact hto)).symm, rfl⟩

def inB (a lo hi : Int) : Bool := decide (lo ≤ a) && decide (a ≤ hi)
theorem inB_iff {a lo hi : Int} : inB a lo hi = true ↔ lo ≤ a ∧ a ≤ hi := by unfold inB; simp

theorem rin_spec (F : Fr) (a lo hi : Int) : Spec Try.prog 46 #[.int .i64 a, .int .i64 lo, .int .i64 hi] [] F (fun v S => v = .bool (inB a lo hi) ∧ S = []) := by
 refine Spec.intro (N := 15) (args := [.int .i64 a, .int .i64 lo, .int .i64 hi]) Try.func46 rfl rfl (by simp) ?_
 refine Run.seq fun k1 hk1 => ?_
 refine Run.region ?_
 show Sq _ _ _ [0] _ _ _ _
 refine Sq.quiet (i := 0) rfl (Want.none rfl) rfl (ltN rfl) (QP.assign rfl rfl).read ?_
 refine Sq.nil ?_
 refine hk1 _ _ ?_
 refine Run.seq fun k2 hk2 => ?_
 refine Run.region ?_
 show Sq _ _ _ [0, 1, 2, 3, 4, 5, 6, 7, 8] _ _ _ _
 refine Sq.quiet (i := 0) rfl (Want.none rfl) rfl (ltN rfl) (QP.move rfl rfl).read ?_
 refine Sq.quiet (i := 1) rfl (Want.none rfl) rfl (ltN rfl) (QP.move rfl rfl).read ?_
 refine Sq.quiet (i := 2) rfl (Want.none rfl) rfl (ltN rfl) (QP.geq rfl rfl rfl).read ?_
 refine J.caseD (fun c9 => ?_) (fun c9 => ?_)
 ·skip
  refine Sq.quiet (i := 3) rfl (Want.none rfl) rfl (ltN rfl) (QP.move rfl rfl).read ?_
  refine Sq.quiet (i := 4) rfl (Want.yes rfl rfl rfl rfl) rfl (ltN rfl) (QP.move rfl rfl).read ?_
  refine Sq.quiet (i := 5) rfl (Want.yes rfl rfl rfl rfl) rfl (ltN rfl) (QP.move rfl rfl).read ?_
  refine Sq.quiet (i := 6) rfl (Want.yes rfl rfl rfl rfl) rfl (ltN rfl) (QP.leq rfl rfl rfl).read ?_
  refine Sq.quiet (i := 7) rfl (Want.none rfl) rfl (ltN rfl) (QP.pick_t rfl rfl rfl).read ?_
  refine Sq.quiet (i := 8) rfl (Want.none rfl) rfl (ltN rfl) (QP.assign rfl rfl).read ?_
  refine Sq.nil ?_
  refine hk2 _ _ ?_
  refine Run.ret ?_
  exact J.ends (res_tmp rfl rfl) Takes.nil ⟨by simp_all [inB] <;> (intro h; omega), rfl⟩
 ·skip
  refine Sq.quiet (i := 3) rfl (Want.none rfl) rfl (ltN rfl) (QP.move rfl rfl).read ?_
  refine Sq.skip (i := 4) rfl (Want.no rfl rfl rfl rfl) rfl (ltN rfl) ?_
  refine Sq.skip (i := 5) rfl (Want.no rfl rfl rfl rfl) rfl (ltN rfl) ?_
  refine Sq.skip (i := 6) rfl (Want.no rfl rfl rfl rfl) rfl (ltN rfl) ?_
  refine Sq.quiet (i := 7) rfl (Want.none rfl) rfl (ltN rfl) (QP.pick_f rfl rfl rfl).read ?_
  refine Sq.quiet (i := 8) rfl (Want.none rfl) rfl (ltN rfl) (QP.assign rfl rfl).read ?_
  refine Sq.nil ?_
  refine hk2 _ _ ?_
  refine Run.ret ?_
  exact J.ends (res_tmp rfl rfl) Takes.nil ⟨by simp_all [inB] <;> (intro h; omega), rfl⟩

theorem rname_spec (F : Fr) (s : ByteArray) : Spec Try.prog 54 #[.string s] [] F (fun v S => ∃ r, v = .bool r ∧ S = []) := by
 refine Spec.intro (N := 56) (args := [.string s]) Try.func54 rfl rfl (by simp) ?_
 refine Run.seq fun k1 hk1 => ?_
 refine Run.region ?_
 show Sq _ _ _ [0] _ _ _ _
 refine Sq.quiet (i := 0) rfl (Want.none rfl) rfl (ltN rfl) (QP.assign rfl rfl).read ?_
 refine Sq.nil ?_
 refine hk1 _ _ ?_
 refine Run.seq fun k2 hk2 => ?_
 refine Run.seq fun k3 hk3 => ?_
 refine Run.region ?_
 show Sq _ _ _ [0, 1, 2, 3, 4, 5, 6] _ _ _ _
 refine Sq.quiet (i := 0) rfl (Want.none rfl) rfl (ltN rfl) (QP.move rfl rfl).read ?_
 refine Sq.quiet (i := 1) rfl (Want.none rfl) rfl (ltN rfl) (QP.eqS rfl rfl rfl).read ?_
 refine J.caseD (fun c6 => ?_) (fun c6 => ?_)
 ·skip
  refine Sq.quiet (i := 2) rfl (Want.none rfl) rfl (ltN rfl) (QP.move rfl rfl).read ?_
  refine Sq.skip (i := 3) rfl (Want.no rfl rfl rfl rfl) rfl (ltN rfl) ?_
  refine Sq.skip (i := 4) rfl (Want.no rfl rfl rfl rfl) rfl (ltN rfl) ?_
  refine Sq.skip (i := 5) rfl (Want.no rfl rfl rfl rfl) rfl (ltN rfl) ?_
  refine Sq.quiet (i := 6) rfl (Want.none rfl) rfl (ltN rfl) (QP.pick_t rfl rfl rfl).read ?_
  refine Sq.nil ?_
  refine hk3 _ _ ?_
  refine Run.cond_t rfl ?_
  refine Run.seq fun k4 hk4 => ?_
  refine Run.region ?_
  show Sq _ _ _ [0] _ _ _ _
  refine Sq.quiet (i := 0) rfl (Want.none rfl) rfl (ltN rfl) (QP.assign rfl rfl).read ?_
  refine Sq.nil ?_
  refine hk4 _ _ ?_
  refine Run.ret ?_
  exact J.ends (res_tmp rfl rfl) Takes.nil ⟨_, rfl, rfl⟩
 ·skip
  refine Sq.quiet (i := 2) rfl (Want.none rfl) rfl (ltN rfl) (QP.move rfl rfl).read ?_
  refine Sq.quiet (i := 3) rfl (Want.yes rfl rfl rfl rfl) rfl (ltN rfl) (QP.move rfl rfl).read ?_
  refine Sq.quiet (i := 4) rfl (Want.yes rfl rfl rfl rfl) rfl (ltN rfl) (QP.lenS rfl rfl rfl Try.underlying9).read ?_
  refine Sq.quiet (i := 5) rfl (Want.yes rfl rfl rfl rfl) rfl (ltN rfl) (QP.gtr rfl rfl rfl).read ?_
  refine J.caseD (fun c10 => ?_) (fun c10 => ?_)
  ·skip
   refine Sq.quiet (i := 6) rfl (Want.none rfl) rfl (ltN rfl) (QP.pick_f rfl rfl rfl).read ?_
   refine Sq.nil ?_
   refine hk3 _ _ ?_
   refine Run.cond_t rfl ?_
   refine Run.seq fun k5 hk5 => ?_
   refine Run.region ?_
   show Sq _ _ _ [0] _ _ _ _
   refine Sq.quiet (i := 0) rfl (Want.none rfl) rfl (ltN rfl) (QP.assign rfl rfl).read ?_
   refine Sq.nil ?_
   refine hk5 _ _ ?_
   refine Run.ret ?_
   exact J.ends (res_tmp rfl rfl) Takes.nil ⟨_, rfl, rfl⟩
  ·skip
   refine Sq.quiet (i := 6) rfl (Want.none rfl) rfl (ltN rfl) (QP.pick_f rfl rfl rfl).read ?_
   refine Sq.nil ?_
   refine hk3 _ _ ?_
   refine Run.cond_f rfl ?_
   refine Run.skip ?_
   refine hk2 _ _ ?_
   refine Run.seq fun k6 hk6 => ?_
   refine Run.seq fun k7 hk7 => ?_
   refine Run.region ?_
   show Sq _ _ _ [0] _ _ _ _
   refine Sq.quiet (i := 0) rfl (Want.none rfl) rfl (ltN rfl) (QP.assign rfl rfl).read ?_
   refine Sq.nil ?_
   refine hk7 _ _ ?_
   refine Run.block ?_
   refine Run.loop1 (fun (i : Nat) => i ≤ s.size ∧ s.size ≤ 15) (fun i => .cons 0 (.string s) (.cons 3 (.int .i64 i) (.nil))) (fun i => []) (fun i => s.size - i) (0) (⟨Nat.zero_le _, by omega⟩) ?_ ?_
   ·exact fun _ j => J.envJ (J.keep Takes.nil j) ⟨rfl, rfl, trivial⟩
   rintro i ⟨hile, hsz⟩ kl8 hl8
   refine Run.seq fun k9 hk9 => ?_
   refine Run.seq fun k10 hk10 => ?_
   refine Run.region ?_
   show Sq _ _ _ [0, 1, 2, 3] _ _ _ _
   refine Sq.quiet (i := 0) rfl (Want.none rfl) rfl (ltN rfl) (QP.move rfl rfl).read ?_
   refine Sq.quiet (i := 1) rfl (Want.none rfl) rfl (ltN rfl) (QP.move rfl rfl).read ?_
   refine Sq.quiet (i := 2) rfl (Want.none rfl) rfl (ltN rfl) (QP.lenS rfl rfl rfl Try.underlying9).read ?_
   refine Sq.quiet (i := 3) rfl (Want.none rfl) rfl (ltN rfl) (QP.lss rfl rfl rfl).read ?_
   refine J.caseD (fun c15 => ?_) (fun c15 => ?_)
   ·skip
    refine Sq.nil ?_
    refine hk10 _ _ ?_
    refine Run.cond_t rfl ?_
    refine Run.skip ?_
    refine hk9 _ _ ?_
    refine Run.seq fun k11 hk11 => ?_
    refine Run.block ?_
    refine Run.seq fun k12 hk12 => ?_
    refine Run.region ?_
    show Sq _ _ _ [0, 1, 2, 3] _ _ _ _
    obtain ⟨c, hc⟩ := str_get (s := s) (i := i) (by omega)
    refine Sq.quiet (i := 0) rfl (Want.none rfl) rfl (ltN rfl) (QP.move rfl rfl).read ?_
    refine Sq.quiet (i := 1) rfl (Want.none rfl) rfl (ltN rfl) (QP.move rfl rfl).read ?_
    refine Sq.quiet (i := 2) rfl (Want.none rfl) rfl (ltN rfl) (QP.indexS rfl rfl rfl Try.underlying9 (by omega) hc).read ?_
    refine Sq.quiet (i := 3) rfl (Want.none rfl) rfl (ltN rfl) (QP.assign rfl rfl).read ?_
    refine Sq.nil ?_
    refine hk12 _ _ ?_
    refine Run.seq fun k13 hk13 => ?_
    refine Run.region ?_
    show Sq _ _ _ [0, 1, 2, 3, 4, 5, 6, 7, 8, 9, 10, 11, 12, 13, 14, 15, 16, 17, 18, 19, 20, 21, 22, 23, 24, 25, 26, 27, 28, 29, 30, 31, 32, 33, 34] _ _ _ _
    refine Sq.quiet (i := 0) rfl (Want.none rfl) rfl (ltN rfl) (QP.move rfl rfl).read ?_
    refine Sq.quiet (i := 1) rfl (Want.none rfl) rfl (ltN rfl) (QP.geq rfl rfl rfl).read ?_
    refine J.caseD (fun c22 => ?_) (fun c22 => ?_)
    ·skip
     refine Sq.quiet (i := 2) rfl (Want.none rfl) rfl (ltN rfl) (QP.move rfl rfl).read ?_
     refine Sq.quiet (i := 3) rfl (Want.yes rfl rfl rfl rfl) rfl (ltN rfl) (QP.move rfl rfl).read ?_
     refine Sq.quiet (i := 4) rfl (Want.yes rfl rfl rfl rfl) rfl (ltN rfl) (QP.leq rfl rfl rfl).read ?_
     refine J.caseD (fun c25 => ?_) (fun c25 => ?_)
     ·skip
      refine Sq.quiet (i := 5) rfl (Want.none rfl) rfl (ltN rfl) (QP.pick_t rfl rfl rfl).read ?_
      refine Sq.quiet (i := 6) rfl (Want.none rfl) rfl (ltN rfl) (QP.move rfl rfl).read ?_
      refine Sq.skip (i := 7) rfl (Want.no rfl rfl rfl rfl) rfl (ltN rfl) ?_
      refine Sq.skip (i := 8) rfl (Want.no rfl rfl rfl rfl) rfl (ltN rfl) ?_
      refine Sq.skip (i := 9) rfl (Want.no rfl rfl rfl rfl) rfl (ltN rfl) ?_
      refine Sq.skip (i := 10) rfl (Want.undef rfl rfl rfl) rfl (ltN rfl) ?_
      refine Sq.skip (i := 11) rfl (Want.undef rfl rfl rfl) rfl (ltN rfl) ?_
      refine Sq.skip (i := 12) rfl (Want.no rfl rfl rfl rfl) rfl (ltN rfl) ?_
      refine Sq.quiet (i := 13) rfl (Want.none rfl) rfl (ltN rfl) (QP.pick_t rfl rfl rfl).read ?_
      refine Sq.quiet (i := 14) rfl (Want.none rfl) rfl (ltN rfl) (QP.move rfl rfl).read ?_
      refine Sq.skip (i := 15) rfl (Want.no rfl rfl rfl rfl) rfl (ltN rfl) ?_
      refine Sq.skip (i := 16) rfl (Want.no rfl rfl rfl rfl) rfl (ltN rfl) ?_
      refine Sq.skip (i := 17) rfl (Want.no rfl rfl rfl rfl) rfl (ltN rfl) ?_
      refine Sq.skip (i := 18) rfl (Want.undef rfl rfl rfl) rfl (ltN rfl) ?_
      refine Sq.skip (i := 19) rfl (Want.undef rfl rfl rfl) rfl (ltN rfl) ?_
      refine Sq.skip (i := 20) rfl (Want.no rfl rfl rfl rfl) rfl (ltN rfl) ?_
      refine Sq.quiet (i := 21) rfl (Want.none rfl) rfl (ltN rfl) (QP.pick_t rfl rfl rfl).read ?_
      refine Sq.quiet (i := 22) rfl (Want.none rfl) rfl (ltN rfl) (QP.move rfl rfl).read ?_
      refine Sq.skip (i := 23) rfl (Want.no rfl rfl rfl rfl) rfl (ltN rfl) ?_
      refine Sq.skip (i := 24) rfl (Want.no rfl rfl rfl rfl) rfl (ltN rfl) ?_
      refine Sq.quiet (i := 25) rfl (Want.none rfl) rfl (ltN rfl) (QP.pick_t rfl rfl rfl).read ?_
      refine Sq.quiet (i := 26) rfl (Want.none rfl) rfl (ltN rfl) (QP.move rfl rfl).read ?_
      refine Sq.skip (i := 27) rfl (Want.no rfl rfl rfl rfl) rfl (ltN rfl) ?_
      refine Sq.skip (i := 28) rfl (Want.no rfl rfl rfl rfl) rfl (ltN rfl) ?_
      refine Sq.quiet (i := 29) rfl (Want.none rfl) rfl (ltN rfl) (QP.pick_t rfl rfl rfl).read ?_
      refine Sq.quiet (i := 30) rfl (Want.none rfl) rfl (ltN rfl) (QP.move rfl rfl).read ?_
      refine Sq.skip (i := 31) rfl (Want.no rfl rfl rfl rfl) rfl (ltN rfl) ?_
      refine Sq.skip (i := 32) rfl (Want.no rfl rfl rfl rfl) rfl (ltN rfl) ?_
      refine Sq.quiet (i := 33) rfl (Want.none rfl) rfl (ltN rfl) (QP.pick_t rfl rfl rfl).read ?_
      refine Sq.quiet (i := 34) rfl (Want.none rfl) rfl (ltN rfl) (QP.not rfl rfl).read ?_
      refine Sq.nil ?_
      refine hk13 _ _ ?_
      refine Run.cond_f rfl ?_
      refine Run.skip ?_
      refine hk11 _ _ ?_
      refine Run.region ?_
      show Sq _ _ _ [0, 1, 2] _ _ _ _
      refine Sq.quiet (i := 0) rfl (Want.none rfl) rfl (ltN rfl) (QP.move rfl rfl).read ?_
      refine Sq.quiet (i := 1) rfl (Want.none rfl) rfl (ltN rfl) (QP.add64 rfl rfl rfl (by first | omega | (simp <;> omega)) (by first | omega | (simp <;> omega))).read ?_
      refine Sq.quiet (i := 2) rfl (Want.none rfl) rfl (ltN rfl) (QP.assign rfl rfl).read ?_
      refine Sq.nil ?_
      exact J.envJ (J.keep Takes.nil (hl8 (i + 1) (⟨by omega, hsz⟩) (by omega))) ⟨rfl, rfl, trivial⟩
     ·skip
      refine Sq.quiet (i := 5) rfl (Want.none rfl) rfl (ltN rfl) (QP.pick_t rfl rfl rfl).read ?_
      refine Sq.quiet (i := 6) rfl (Want.none rfl) rfl (ltN rfl) (QP.move rfl rfl).read ?_
      refine Sq.quiet (i := 7) rfl (Want.yes rfl rfl rfl rfl) rfl (ltN rfl) (QP.move rfl rfl).read ?_
      refine Sq.quiet (i := 8) rfl (Want.yes rfl rfl rfl rfl) rfl (ltN rfl) (QP.geq rfl rfl rfl).read ?_
      refine J.caseD (fun c29 => ?_) (fun c29 => ?_)
      ·skip
       refine Sq.quiet (i := 9) rfl (Want.yes rfl rfl rfl rfl) rfl (ltN rfl) (QP.move rfl rfl).read ?_
       refine Sq.quiet (i := 10) rfl (Want.yes rfl rfl rfl rfl) rfl (ltN rfl) (QP.move rfl rfl).read ?_
       refine Sq.quiet (i := 11) rfl (Want.yes rfl rfl rfl rfl) rfl (ltN rfl) (QP.leq rfl rfl rfl).read ?_
       refine J.caseD (fun c32 => ?_) (fun c32 => ?_)
       ·skip
        refine Sq.quiet (i := 12) rfl (Want.yes rfl rfl rfl rfl) rfl (ltN rfl) (QP.pick_t rfl rfl rfl).read ?_
        refine Sq.quiet (i := 13) rfl (Want.none rfl) rfl (ltN rfl) (QP.pick_f rfl rfl rfl).read ?_
        refine Sq.quiet (i := 14) rfl (Want.none rfl) rfl (ltN rfl) (QP.move rfl rfl).read ?_
        refine Sq.skip (i := 15) rfl (Want.no rfl rfl rfl rfl) rfl (ltN rfl) ?_
        refine Sq.skip (i := 16) rfl (Want.no rfl rfl rfl rfl) rfl (ltN rfl) ?_
        refine Sq.skip (i := 17) rfl (Want.no rfl rfl rfl rfl) rfl (ltN rfl) ?_
        refine Sq.skip (i := 18) rfl (Want.undef rfl rfl rfl) rfl (ltN rfl) ?_
        refine Sq.skip (i := 19) rfl (Want.undef rfl rfl rfl) rfl (ltN rfl) ?_
        refine Sq.skip (i := 20) rfl (Want.no rfl rfl rfl rfl) rfl (ltN rfl) ?_
        refine Sq.quiet (i := 21) rfl (Want.none rfl) rfl (ltN rfl) (QP.pick_t rfl rfl rfl).read ?_
        refine Sq.quiet (i := 22) rfl (Want.none rfl) rfl (ltN rfl) (QP.move rfl rfl).read ?_
        refine Sq.skip (i := 23) rfl (Want.no rfl rfl rfl rfl) rfl (ltN rfl) ?_
        refine Sq.skip (i := 24) rfl (Want.no rfl rfl rfl rfl) rfl (ltN rfl) ?_
        refine Sq.quiet (i := 25) rfl (Want.none rfl) rfl (ltN rfl) (QP.pick_t rfl rfl rfl).read ?_
        refine Sq.quiet (i := 26) rfl (Want.none rfl) rfl (ltN rfl) (QP.move rfl rfl).read ?_
        refine Sq.skip (i := 27) rfl (Want.no rfl rfl rfl rfl) rfl (ltN rfl) ?_
        refine Sq.skip (i := 28) rfl (Want.no rfl rfl rfl rfl) rfl (ltN rfl) ?_
        refine Sq.quiet (i := 29) rfl (Want.none rfl) rfl (ltN rfl) (QP.pick_t rfl rfl rfl).read ?_
        refine Sq.quiet (i := 30) rfl (Want.none rfl) rfl (ltN rfl) (QP.move rfl rfl).read ?_
        refine Sq.skip (i := 31) rfl (Want.no rfl rfl rfl rfl) rfl (ltN rfl) ?_
        refine Sq.skip (i := 32) rfl (Want.no rfl rfl rfl rfl) rfl (ltN rfl) ?_
        refine Sq.quiet (i := 33) rfl (Want.none rfl) rfl (ltN rfl) (QP.pick_t rfl rfl rfl).read ?_
        refine Sq.quiet (i := 34) rfl (Want.none rfl) rfl (ltN rfl) (QP.not rfl rfl).read ?_
        refine Sq.nil ?_
        refine hk13 _ _ ?_
        refine Run.cond_f rfl ?_
        refine Run.skip ?_
        refine hk11 _ _ ?_
        refine Run.region ?_
        show Sq _ _ _ [0, 1, 2] _ _ _ _
        refine Sq.quiet (i := 0) rfl (Want.none rfl) rfl (ltN rfl) (QP.move rfl rfl).read ?_
        refine Sq.quiet (i := 1) rfl (Want.none rfl) rfl (ltN rfl) (QP.add64 rfl rfl rfl (by first | omega | (simp <;> omega)) (by first | omega | (simp <;> omega))).read ?_
        refine Sq.quiet (i := 2) rfl (Want.none rfl) rfl (ltN rfl) (QP.assign rfl rfl).read ?_
        refine Sq.nil ?_
        exact J.envJ (J.keep Takes.nil (hl8 (i + 1) (⟨by omega, hsz⟩) (by omega))) ⟨rfl, rfl, trivial⟩
       ·skip
        refine Sq.quiet (i := 12) rfl (Want.yes rfl rfl rfl rfl) rfl (ltN rfl) (QP.pick_t rfl rfl rfl).read ?_
        refine Sq.quiet (i := 13) rfl (Want.none rfl) rfl (ltN rfl) (QP.pick_f rfl rfl rfl).read ?_
        refine Sq.quiet (i := 14) rfl (Want.none rfl) rfl (ltN rfl) (QP.move rfl rfl).read ?_
        refine Sq.quiet (i := 15) rfl (Want.yes rfl rfl rfl rfl) rfl (ltN rfl) (QP.move rfl rfl).read ?_
        refine Sq.quiet (i := 16) rfl (Want.yes rfl rfl rfl rfl) rfl (ltN rfl) (QP.geq rfl rfl rfl).read ?_
        refine J.caseD (fun c37 => ?_) (fun c37 => ?_)
        ·skip
         refine Sq.quiet (i := 17) rfl (Want.yes rfl rfl rfl rfl) rfl (ltN rfl) (QP.move rfl rfl).read ?_
         refine Sq.quiet (i := 18) rfl (Want.yes rfl rfl rfl rfl) rfl (ltN rfl) (QP.move rfl rfl).read ?_
         refine Sq.quiet (i := 19) rfl (Want.yes rfl rfl rfl rfl) rfl (ltN rfl) (QP.leq rfl rfl rfl).read ?_
         refine J.caseD (fun c40 => ?_) (fun c40 => ?_)
         ·skip
          refine Sq.quiet (i := 20) rfl (Want.yes rfl rfl rfl rfl) rfl (ltN rfl) (QP.pick_t rfl rfl rfl).read ?_
          refine Sq.quiet (i := 21) rfl (Want.none rfl) rfl (ltN rfl) (QP.pick_f rfl rfl rfl).read ?_
          refine Sq.quiet (i := 22) rfl (Want.none rfl) rfl (ltN rfl) (QP.move rfl rfl).read ?_
          refine Sq.skip (i := 23) rfl (Want.no rfl rfl rfl rfl) rfl (ltN rfl) ?_
          refine Sq.skip (i := 24) rfl (Want.no rfl rfl rfl rfl) rfl (ltN rfl) ?_
          refine Sq.quiet (i := 25) rfl (Want.none rfl) rfl (ltN rfl) (QP.pick_t rfl rfl rfl).read ?_
          refine Sq.quiet (i := 26) rfl (Want.none rfl) rfl (ltN rfl) (QP.move rfl rfl).read ?_
          refine Sq.skip (i := 27) rfl (Want.no rfl rfl rfl rfl) rfl (ltN rfl) ?_
          refine Sq.skip (i := 28) rfl (Want.no rfl rfl rfl rfl) rfl (ltN rfl) ?_
          refine Sq.quiet (i := 29) rfl (Want.none rfl) rfl (ltN rfl) (QP.pick_t rfl rfl rfl).read ?_
          refine Sq.quiet (i := 30) rfl (Want.none rfl) rfl (ltN rfl) (QP.move rfl rfl).read ?_
          refine Sq.skip (i := 31) rfl (Want.no rfl rfl rfl rfl) rfl (ltN rfl) ?_
          refine Sq.skip (i := 32) rfl (Want.no rfl rfl rfl rfl) rfl (ltN rfl) ?_
          refine Sq.quiet (i := 33) rfl (Want.none rfl) rfl (ltN rfl) (QP.pick_t rfl rfl rfl).read ?_
          refine Sq.quiet (i := 34) rfl (Want.none rfl) rfl (ltN rfl) (QP.not rfl rfl).read ?_
          refine Sq.nil ?_
          refine hk13 _ _ ?_
          refine Run.cond_f rfl ?_
          refine Run.skip ?_
          refine hk11 _ _ ?_
          refine Run.region ?_
          show Sq _ _ _ [0, 1, 2] _ _ _ _
          refine Sq.quiet (i := 0) rfl (Want.none rfl) rfl (ltN rfl) (QP.move rfl rfl).read ?_
          refine Sq.quiet (i := 1) rfl (Want.none rfl) rfl (ltN rfl) (QP.add64 rfl rfl rfl (by first | omega | (simp <;> omega)) (by first | omega | (simp <;> omega))).read ?_
          refine Sq.quiet (i := 2) rfl (Want.none rfl) rfl (ltN rfl) (QP.assign rfl rfl).read ?_
          refine Sq.nil ?_
          exact J.envJ (J.keep Takes.nil (hl8 (i + 1) (⟨by omega, hsz⟩) (by omega))) ⟨rfl, rfl, trivial⟩
         ·skip
          refine Sq.quiet (i := 20) rfl (Want.yes rfl rfl rfl rfl) rfl (ltN rfl) (QP.pick_t rfl rfl rfl).read ?_
          refine Sq.quiet (i := 21) rfl (Want.none rfl) rfl (ltN rfl) (QP.pick_f rfl rfl rfl).read ?_
          refine Sq.quiet (i := 22) rfl (Want.none rfl) rfl (ltN rfl) (QP.move rfl rfl).read ?_
          refine Sq.quiet (i := 23) rfl (Want.yes rfl rfl rfl rfl) rfl (ltN rfl) (QP.move rfl rfl).read ?_
          refine Sq.quiet (i := 24) rfl (Want.yes rfl rfl rfl rfl) rfl (ltN rfl) (QP.eql rfl rfl rfl).read ?_
          refine J.caseD (fun c45 => ?_) (fun c45 => ?_)
          ·skip
           refine Sq.quiet (i := 25) rfl (Want.none rfl) rfl (ltN rfl) (QP.pick_f rfl rfl rfl).read ?_
           refine Sq.quiet (i := 26) rfl (Want.none rfl) rfl (ltN rfl) (QP.move rfl rfl).read ?_
           refine Sq.skip (i := 27) rfl (Want.no rfl rfl rfl rfl) rfl (ltN rfl) ?_
           refine Sq.skip (i := 28) rfl (Want.no rfl rfl rfl rfl) rfl (ltN rfl) ?_
           refine Sq.quiet (i := 29) rfl (Want.none rfl) rfl (ltN rfl) (QP.pick_t rfl rfl rfl).read ?_
           refine Sq.quiet (i := 30) rfl (Want.none rfl) rfl (ltN rfl) (QP.move rfl rfl).read ?_
           refine Sq.skip (i := 31) rfl (Want.no rfl rfl rfl rfl) rfl (ltN rfl) ?_
           refine Sq.skip (i := 32) rfl (Want.no rfl rfl rfl rfl) rfl (ltN rfl) ?_
           refine Sq.quiet (i := 33) rfl (Want.none rfl) rfl (ltN rfl) (QP.pick_t rfl rfl rfl).read ?_
           refine Sq.quiet (i := 34) rfl (Want.none rfl) rfl (ltN rfl) (QP.not rfl rfl).read ?_
           refine Sq.nil ?_
           refine hk13 _ _ ?_
           refine Run.cond_f rfl ?_
           refine Run.skip ?_
           refine hk11 _ _ ?_
           refine Run.region ?_
           show Sq _ _ _ [0, 1, 2] _ _ _ _
           refine Sq.quiet (i := 0) rfl (Want.none rfl) rfl (ltN rfl) (QP.move rfl rfl).read ?_
           refine Sq.quiet (i := 1) rfl (Want.none rfl) rfl (ltN rfl) (QP.add64 rfl rfl rfl (by first | omega | (simp <;> omega)) (by first | omega | (simp <;> omega))).read ?_
           refine Sq.quiet (i := 2) rfl (Want.none rfl) rfl (ltN rfl) (QP.assign rfl rfl).read ?_
           refine Sq.nil ?_
           exact J.envJ (J.keep Takes.nil (hl8 (i + 1) (⟨by omega, hsz⟩) (by omega))) ⟨rfl, rfl, trivial⟩
          ·skip
           refine Sq.quiet (i := 25) rfl (Want.none rfl) rfl (ltN rfl) (QP.pick_f rfl rfl rfl).read ?_
           refine Sq.quiet (i := 26) rfl (Want.none rfl) rfl (ltN rfl) (QP.move rfl rfl).read ?_
           refine Sq.quiet (i := 27) rfl (Want.yes rfl rfl rfl rfl) rfl (ltN rfl) (QP.move rfl rfl).read ?_
           refine Sq.quiet (i := 28) rfl (Want.yes rfl rfl rfl rfl) rfl (ltN rfl) (QP.eql rfl rfl rfl).read ?_
           refine J.caseD (fun c49 => ?_) (fun c49 => ?_)
           ·skip
            refine Sq.quiet (i := 29) rfl (Want.none rfl) rfl (ltN rfl) (QP.pick_f rfl rfl rfl).read ?_
            refine Sq.quiet (i := 30) rfl (Want.none rfl) rfl (ltN rfl) (QP.move rfl rfl).read ?_
            refine Sq.skip (i := 31) rfl (Want.no rfl rfl rfl rfl) rfl (ltN rfl) ?_
            refine Sq.skip (i := 32) rfl (Want.no rfl rfl rfl rfl) rfl (ltN rfl) ?_
            refine Sq.quiet (i := 33) rfl (Want.none rfl) rfl (ltN rfl) (QP.pick_t rfl rfl rfl).read ?_
            refine Sq.quiet (i := 34) rfl (Want.none rfl) rfl (ltN rfl) (QP.not rfl rfl).read ?_
            refine Sq.nil ?_
            refine hk13 _ _ ?_
            refine Run.cond_f rfl ?_
            refine Run.skip ?_
            refine hk11 _ _ ?_
            refine Run.region ?_
            show Sq _ _ _ [0, 1, 2] _ _ _ _
            refine Sq.quiet (i := 0) rfl (Want.none rfl) rfl (ltN rfl) (QP.move rfl rfl).read ?_
            refine Sq.quiet (i := 1) rfl (Want.none rfl) rfl (ltN rfl) (QP.add64 rfl rfl rfl (by first | omega | (simp <;> omega)) (by first | omega | (simp <;> omega))).read ?_
            refine Sq.quiet (i := 2) rfl (Want.none rfl) rfl (ltN rfl) (QP.assign rfl rfl).read ?_
            refine Sq.nil ?_
            exact J.envJ (J.keep Takes.nil (hl8 (i + 1) (⟨by omega, hsz⟩) (by omega))) ⟨rfl, rfl, trivial⟩
           ·skip
            refine Sq.quiet (i := 29) rfl (Want.none rfl) rfl (ltN rfl) (QP.pick_f rfl rfl rfl).read ?_
            refine Sq.quiet (i := 30) rfl (Want.none rfl) rfl (ltN rfl) (QP.move rfl rfl).read ?_
            refine Sq.quiet (i := 31) rfl (Want.yes rfl rfl rfl rfl) rfl (ltN rfl) (QP.move rfl rfl).read ?_
            refine Sq.quiet (i := 32) rfl (Want.yes rfl rfl rfl rfl) rfl (ltN rfl) (QP.eql rfl rfl rfl).read ?_
            refine J.caseD (fun c53 => ?_) (fun c53 => ?_)
            ·skip
             refine Sq.quiet (i := 33) rfl (Want.none rfl) rfl (ltN rfl) (QP.pick_f rfl rfl rfl).read ?_
             refine Sq.quiet (i := 34) rfl (Want.none rfl) rfl (ltN rfl) (QP.not rfl rfl).read ?_
             refine Sq.nil ?_
             refine hk13 _ _ ?_
             refine Run.cond_f rfl ?_
             refine Run.skip ?_
             refine hk11 _ _ ?_
             refine Run.region ?_
             show Sq _ _ _ [0, 1, 2] _ _ _ _
             refine Sq.quiet (i := 0) rfl (Want.none rfl) rfl (ltN rfl) (QP.move rfl rfl).read ?_
             refine Sq.quiet (i := 1) rfl (Want.none rfl) rfl (ltN rfl) (QP.add64 rfl rfl rfl (by first | omega | (simp <;> omega)) (by first | omega | (simp <;> omega))).read ?_
             refine Sq.quiet (i := 2) rfl (Want.none rfl) rfl (ltN rfl) (QP.assign rfl rfl).read ?_
             refine Sq.nil ?_
             exact J.envJ (J.keep Takes.nil (hl8 (i + 1) (⟨by omega, hsz⟩) (by omega))) ⟨rfl, rfl, trivial⟩
            ·skip
             refine Sq.quiet (i := 33) rfl (Want.none rfl) rfl (ltN rfl) (QP.pick_f rfl rfl rfl).read ?_
             refine Sq.quiet (i := 34) rfl (Want.none rfl) rfl (ltN rfl) (QP.not rfl rfl).read ?_
             refine Sq.nil ?_
             refine hk13 _ _ ?_
             refine Run.cond_t rfl ?_
             refine Run.seq fun k14 hk14 => ?_
             refine Run.region ?_
             show Sq _ _ _ [0] _ _ _ _
             refine Sq.quiet (i := 0) rfl (Want.none rfl) rfl (ltN rfl) (QP.assign rfl rfl).read ?_
             refine Sq.nil ?_
             refine hk14 _ _ ?_
             refine Run.ret ?_
             exact J.ends (res_tmp rfl rfl) Takes.nil ⟨_, rfl, rfl⟩
        ·skip
         refine Sq.quiet (i := 17) rfl (Want.yes rfl rfl rfl rfl) rfl (ltN rfl) (QP.move rfl rfl).read ?_
         refine Sq.skip (i := 18) rfl (Want.no rfl rfl rfl rfl) rfl (ltN rfl) ?_
         refine Sq.skip (i := 19) rfl (Want.no rfl rfl rfl rfl) rfl (ltN rfl) ?_
         refine Sq.quiet (i := 20) rfl (Want.yes rfl rfl rfl rfl) rfl (ltN rfl) (QP.pick_f rfl rfl rfl).read ?_
         refine Sq.quiet (i := 21) rfl (Want.none rfl) rfl (ltN rfl) (QP.pick_f rfl rfl rfl).read ?_
         refine Sq.quiet (i := 22) rfl (Want.none rfl) rfl (ltN rfl) (QP.move rfl rfl).read ?_
         refine Sq.quiet (i := 23) rfl (Want.yes rfl rfl rfl rfl) rfl (ltN rfl) (QP.move rfl rfl).read ?_
         refine Sq.quiet (i := 24) rfl (Want.yes rfl rfl rfl rfl) rfl (ltN rfl) (QP.eql rfl rfl rfl).read ?_
         refine J.caseD (fun c45 => ?_) (fun c45 => ?_)
         ·skip
          refine Sq.quiet (i := 25) rfl (Want.none rfl) rfl (ltN rfl) (QP.pick_f rfl rfl rfl).read ?_
          refine Sq.quiet (i := 26) rfl (Want.none rfl) rfl (ltN rfl) (QP.move rfl rfl).read ?_
          refine Sq.skip (i := 27) rfl (Want.no rfl rfl rfl rfl) rfl (ltN rfl) ?_
          refine Sq.skip (i := 28) rfl (Want.no rfl rfl rfl rfl) rfl (ltN rfl) ?_
          refine Sq.quiet (i := 29) rfl (Want.none rfl) rfl (ltN rfl) (QP.pick_t rfl rfl rfl).read ?_
          refine Sq.quiet (i := 30) rfl (Want.none rfl) rfl (ltN rfl) (QP.move rfl rfl).read ?_
          refine Sq.skip (i := 31) rfl (Want.no rfl rfl rfl rfl) rfl (ltN rfl) ?_
          refine Sq.skip (i := 32) rfl (Want.no rfl rfl rfl rfl) rfl (ltN rfl) ?_
          refine Sq.quiet (i := 33) rfl (Want.none rfl) rfl (ltN rfl) (QP.pick_t rfl rfl rfl).read ?_
          refine Sq.quiet (i := 34) rfl (Want.none rfl) rfl (ltN rfl) (QP.not rfl rfl).read ?_
          refine Sq.nil ?_
          refine hk13 _ _ ?_
          refine Run.cond_f rfl ?_
          refine Run.skip ?_
          refine hk11 _ _ ?_
          refine Run.region ?_
          show Sq _ _ _ [0, 1, 2] _ _ _ _
          refine Sq.quiet (i := 0) rfl (Want.none rfl) rfl (ltN rfl) (QP.move rfl rfl).read ?_
          refine Sq.quiet (i := 1) rfl (Want.none rfl) rfl (ltN rfl) (QP.add64 rfl rfl rfl (by first | omega | (simp <;> omega)) (by first | omega | (simp <;> omega))).read ?_
          refine Sq.quiet (i := 2) rfl (Want.none rfl) rfl (ltN rfl) (QP.assign rfl rfl).read ?_
          refine Sq.nil ?_
          exact J.envJ (J.keep Takes.nil (hl8 (i + 1) (⟨by omega, hsz⟩) (by omega))) ⟨rfl, rfl, trivial⟩
         ·skip
          refine Sq.quiet (i := 25) rfl (Want.none rfl) rfl (ltN rfl) (QP.pick_f rfl rfl rfl).read ?_
          refine Sq.quiet (i := 26) rfl (Want.none rfl) rfl (ltN rfl) (QP.move rfl rfl).read ?_
          refine Sq.quiet (i := 27) rfl (Want.yes rfl rfl rfl rfl) rfl (ltN rfl) (QP.move rfl rfl).read ?_
          refine Sq.quiet (i := 28) rfl (Want.yes rfl rfl rfl rfl) rfl (ltN rfl) (QP.eql rfl rfl rfl).read ?_
          refine J.caseD (fun c49 => ?_) (fun c49 => ?_)
          ·skip
           refine Sq.quiet (i := 29) rfl (Want.none rfl) rfl (ltN rfl) (QP.pick_f rfl rfl rfl).read ?_
           refine Sq.quiet (i := 30) rfl (Want.none rfl) rfl (ltN rfl) (QP.move rfl rfl).read ?_
           refine Sq.skip (i := 31) rfl (Want.no rfl rfl rfl rfl) rfl (ltN rfl) ?_
           refine Sq.skip (i := 32) rfl (Want.no rfl rfl rfl rfl) rfl (ltN rfl) ?_
           refine Sq.quiet (i := 33) rfl (Want.none rfl) rfl (ltN rfl) (QP.pick_t rfl rfl rfl).read ?_
           refine Sq.quiet (i := 34) rfl (Want.none rfl) rfl (ltN rfl) (QP.not rfl rfl).read ?_
           refine Sq.nil ?_
           refine hk13 _ _ ?_
           refine Run.cond_f rfl ?_
           refine Run.skip ?_
           refine hk11 _ _ ?_
           refine Run.region ?_
           show Sq _ _ _ [0, 1, 2] _ _ _ _
           refine Sq.quiet (i := 0) rfl (Want.none rfl) rfl (ltN rfl) (QP.move rfl rfl).read ?_
           refine Sq.quiet (i := 1) rfl (Want.none rfl) rfl (ltN rfl) (QP.add64 rfl rfl rfl (by first | omega | (simp <;> omega)) (by first | omega | (simp <;> omega))).read ?_
           refine Sq.quiet (i := 2) rfl (Want.none rfl) rfl (ltN rfl) (QP.assign rfl rfl).read ?_
           refine Sq.nil ?_
           exact J.envJ (J.keep Takes.nil (hl8 (i + 1) (⟨by omega, hsz⟩) (by omega))) ⟨rfl, rfl, trivial⟩
          ·skip
           refine Sq.quiet (i := 29) rfl (Want.none rfl) rfl (ltN rfl) (QP.pick_f rfl rfl rfl).read ?_
           refine Sq.quiet (i := 30) rfl (Want.none rfl) rfl (ltN rfl) (QP.move rfl rfl).read ?_
           refine Sq.quiet (i := 31) rfl (Want.yes rfl rfl rfl rfl) rfl (ltN rfl) (QP.move rfl rfl).read ?_
           refine Sq.quiet (i := 32) rfl (Want.yes rfl rfl rfl rfl) rfl (ltN rfl) (QP.eql rfl rfl rfl).read ?_
           refine J.caseD (fun c53 => ?_) (fun c53 => ?_)
           ·skip
            refine Sq.quiet (i := 33) rfl (Want.none rfl) rfl (ltN rfl) (QP.pick_f rfl rfl rfl).read ?_
            refine Sq.quiet (i := 34) rfl (Want.none rfl) rfl (ltN rfl) (QP.not rfl rfl).read ?_
            refine Sq.nil ?_
            refine hk13 _ _ ?_
            refine Run.cond_f rfl ?_
            refine Run.skip ?_
            refine hk11 _ _ ?_
            refine Run.region ?_
            show Sq _ _ _ [0, 1, 2] _ _ _ _
            refine Sq.quiet (i := 0) rfl (Want.none rfl) rfl (ltN rfl) (QP.move rfl rfl).read ?_
            refine Sq.quiet (i := 1) rfl (Want.none rfl) rfl (ltN rfl) (QP.add64 rfl rfl rfl (by first | omega | (simp <;> omega)) (by first | omega | (simp <;> omega))).read ?_
            refine Sq.quiet (i := 2) rfl (Want.none rfl) rfl (ltN rfl) (QP.assign rfl rfl).read ?_
            refine Sq.nil ?_
            exact J.envJ (J.keep Takes.nil (hl8 (i + 1) (⟨by omega, hsz⟩) (by omega))) ⟨rfl, rfl, trivial⟩
           ·skip
            refine Sq.quiet (i := 33) rfl (Want.none rfl) rfl (ltN rfl) (QP.pick_f rfl rfl rfl).read ?_
            refine Sq.quiet (i := 34) rfl (Want.none rfl) rfl (ltN rfl) (QP.not rfl rfl).read ?_
            refine Sq.nil ?_
            refine hk13 _ _ ?_
            refine Run.cond_t rfl ?_
            refine Run.seq fun k15 hk15 => ?_
            refine Run.region ?_
            show Sq _ _ _ [0] _ _ _ _
            refine Sq.quiet (i := 0) rfl (Want.none rfl) rfl (ltN rfl) (QP.assign rfl rfl).read ?_
            refine Sq.nil ?_
            refine hk15 _ _ ?_
            refine Run.ret ?_
            exact J.ends (res_tmp rfl rfl) Takes.nil ⟨_, rfl, rfl⟩
      ·skip
       refine Sq.quiet (i := 9) rfl (Want.yes rfl rfl rfl rfl) rfl (ltN rfl) (QP.move rfl rfl).read ?_
       refine Sq.skip (i := 10) rfl (Want.no rfl rfl rfl rfl) rfl (ltN rfl) ?_
       refine Sq.skip (i := 11) rfl (Want.no rfl rfl rfl rfl) rfl (ltN rfl) ?_
       refine Sq.quiet (i := 12) rfl (Want.yes rfl rfl rfl rfl) rfl (ltN rfl) (QP.pick_f rfl rfl rfl).read ?_
       refine Sq.quiet (i := 13) rfl (Want.none rfl) rfl (ltN rfl) (QP.pick_f rfl rfl rfl).read ?_
       refine Sq.quiet (i := 14) rfl (Want.none rfl) rfl (ltN rfl) (QP.move rfl rfl).read ?_
       refine Sq.quiet (i := 15) rfl (Want.yes rfl rfl rfl rfl) rfl (ltN rfl) (QP.move rfl rfl).read ?_
       refine Sq.quiet (i := 16) rfl (Want.yes rfl rfl rfl rfl) rfl (ltN rfl) (QP.geq rfl rfl rfl).read ?_
       refine J.caseD (fun c37 => ?_) (fun c37 => ?_)
       ·skip
        refine Sq.quiet (i := 17) rfl (Want.yes rfl rfl rfl rfl) rfl (ltN rfl) (QP.move rfl rfl).read ?_
        refine Sq.quiet (i := 18) rfl (Want.yes rfl rfl rfl rfl) rfl (ltN rfl) (QP.move rfl rfl).read ?_
        refine Sq.quiet (i := 19) rfl (Want.yes rfl rfl rfl rfl) rfl (ltN rfl) (QP.leq rfl rfl rfl).read ?_
        refine J.caseD (fun c40 => ?_) (fun c40 => ?_)
        ·skip
         refine Sq.quiet (i := 20) rfl (Want.yes rfl rfl rfl rfl) rfl (ltN rfl) (QP.pick_t rfl rfl rfl).read ?_
         refine Sq.quiet (i := 21) rfl (Want.none rfl) rfl (ltN rfl) (QP.pick_f rfl rfl rfl).read ?_
         refine Sq.quiet (i := 22) rfl (Want.none rfl) rfl (ltN rfl) (QP.move rfl rfl).read ?_
         refine Sq.skip (i := 23) rfl (Want.no rfl rfl rfl rfl) rfl (ltN rfl) ?_
         refine Sq.skip (i := 24) rfl (Want.no rfl rfl rfl rfl) rfl (ltN rfl) ?_
         refine Sq.quiet (i := 25) rfl (Want.none rfl) rfl (ltN rfl) (QP.pick_t rfl rfl rfl).read ?_
         refine Sq.quiet (i := 26) rfl (Want.none rfl) rfl (ltN rfl) (QP.move rfl rfl).read ?_
         refine Sq.skip (i := 27) rfl (Want.no rfl rfl rfl rfl) rfl (ltN rfl) ?_
         refine Sq.skip (i := 28) rfl (Want.no rfl rfl rfl rfl) rfl (ltN rfl) ?_
         refine Sq.quiet (i := 29) rfl (Want.none rfl) rfl (ltN rfl) (QP.pick_t rfl rfl rfl).read ?_
         refine Sq.quiet (i := 30) rfl (Want.none rfl) rfl (ltN rfl) (QP.move rfl rfl).read ?_
         refine Sq.skip (i := 31) rfl (Want.no rfl rfl rfl rfl) rfl (ltN rfl) ?_
         refine Sq.skip (i := 32) rfl (Want.no rfl rfl rfl rfl) rfl (ltN rfl) ?_
         refine Sq.quiet (i := 33) rfl (Want.none rfl) rfl (ltN rfl) (QP.pick_t rfl rfl rfl).read ?_
         refine Sq.quiet (i := 34) rfl (Want.none rfl) rfl (ltN rfl) (QP.not rfl rfl).read ?_
         refine Sq.nil ?_
         refine hk13 _ _ ?_
         refine Run.cond_f rfl ?_
         refine Run.skip ?_
         refine hk11 _ _ ?_
         refine Run.region ?_
         show Sq _ _ _ [0, 1, 2] _ _ _ _
         refine Sq.quiet (i := 0) rfl (Want.none rfl) rfl (ltN rfl) (QP.move rfl rfl).read ?_
         refine Sq.quiet (i := 1) rfl (Want.none rfl) rfl (ltN rfl) (QP.add64 rfl rfl rfl (by first | omega | (simp <;> omega)) (by first | omega | (simp <;> omega))).read ?_
         refine Sq.quiet (i := 2) rfl (Want.none rfl) rfl (ltN rfl) (QP.assign rfl rfl).read ?_
         refine Sq.nil ?_
         exact J.envJ (J.keep Takes.nil (hl8 (i + 1) (⟨by omega, hsz⟩) (by omega))) ⟨rfl, rfl, trivial⟩
        ·skip
         refine Sq.quiet (i := 20) rfl (Want.yes rfl rfl rfl rfl) rfl (ltN rfl) (QP.pick_t rfl rfl rfl).read ?_
         refine Sq.quiet (i := 21) rfl (Want.none rfl) rfl (ltN rfl) (QP.pick_f rfl rfl rfl).read ?_
         refine Sq.quiet (i := 22) rfl (Want.none rfl) rfl (ltN rfl) (QP.move rfl rfl).read ?_
         refine Sq.quiet (i := 23) rfl (Want.yes rfl rfl rfl rfl) rfl (ltN rfl) (QP.move rfl rfl).read ?_
         refine Sq.quiet (i := 24) rfl (Want.yes rfl rfl rfl rfl) rfl (ltN rfl) (QP.eql rfl rfl rfl).read ?_
         refine J.caseD (fun c45 => ?_) (fun c45 => ?_)
         ·skip
          refine Sq.quiet (i := 25) rfl (Want.none rfl) rfl (ltN rfl) (QP.pick_f rfl rfl rfl).read ?_
          refine Sq.quiet (i := 26) rfl (Want.none rfl) rfl (ltN rfl) (QP.move rfl rfl).read ?_
          refine Sq.skip (i := 27) rfl (Want.no rfl rfl rfl rfl) rfl (ltN rfl) ?_
          refine Sq.skip (i := 28) rfl (Want.no rfl rfl rfl rfl) rfl (ltN rfl) ?_
          refine Sq.quiet (i := 29) rfl (Want.none rfl) rfl (ltN rfl) (QP.pick_t rfl rfl rfl).read ?_
          refine Sq.quiet (i := 30) rfl (Want.none rfl) rfl (ltN rfl) (QP.move rfl rfl).read ?_
          refine Sq.skip (i := 31) rfl (Want.no rfl rfl rfl rfl) rfl (ltN rfl) ?_
          refine Sq.skip (i := 32) rfl (Want.no rfl rfl rfl rfl) rfl (ltN rfl) ?_
          refine Sq.quiet (i := 33) rfl (Want.none rfl) rfl (ltN rfl) (QP.pick_t rfl rfl rfl).read ?_
          refine Sq.quiet (i := 34) rfl (Want.none rfl) rfl (ltN rfl) (QP.not rfl rfl).read ?_
          refine Sq.nil ?_
          refine hk13 _ _ ?_
          refine Run.cond_f rfl ?_
          refine Run.skip ?_
          refine hk11 _ _ ?_
          refine Run.region ?_
          show Sq _ _ _ [0, 1, 2] _ _ _ _
          refine Sq.quiet (i := 0) rfl (Want.none rfl) rfl (ltN rfl) (QP.move rfl rfl).read ?_
          refine Sq.quiet (i := 1) rfl (Want.none rfl) rfl (ltN rfl) (QP.add64 rfl rfl rfl (by first | omega | (simp <;> omega)) (by first | omega | (simp <;> omega))).read ?_
          refine Sq.quiet (i := 2) rfl (Want.none rfl) rfl (ltN rfl) (QP.assign rfl rfl).read ?_
          refine Sq.nil ?_
          exact J.envJ (J.keep Takes.nil (hl8 (i + 1) (⟨by omega, hsz⟩) (by omega))) ⟨rfl, rfl, trivial⟩
         ·skip
          refine Sq.quiet (i := 25) rfl (Want.none rfl) rfl (ltN rfl) (QP.pick_f rfl rfl rfl).read ?_
          refine Sq.quiet (i := 26) rfl (Want.none rfl) rfl (ltN rfl) (QP.move rfl rfl).read ?_
          refine Sq.quiet (i := 27) rfl (Want.yes rfl rfl rfl rfl) rfl (ltN rfl) (QP.move rfl rfl).read ?_
          refine Sq.quiet (i := 28) rfl (Want.yes rfl rfl rfl rfl) rfl (ltN rfl) (QP.eql rfl rfl rfl).read ?_
          refine J.caseD (fun c49 => ?_) (fun c49 => ?_)
          ·skip
           refine Sq.quiet (i := 29) rfl (Want.none rfl) rfl (ltN rfl) (QP.pick_f rfl rfl rfl).read ?_
           refine Sq.quiet (i := 30) rfl (Want.none rfl) rfl (ltN rfl) (QP.move rfl rfl).read ?_
           refine Sq.skip (i := 31) rfl (Want.no rfl rfl rfl rfl) rfl (ltN rfl) ?_
           refine Sq.skip (i := 32) rfl (Want.no rfl rfl rfl rfl) rfl (ltN rfl) ?_
           refine Sq.quiet (i := 33) rfl (Want.none rfl) rfl (ltN rfl) (QP.pick_t rfl rfl rfl).read ?_
           refine Sq.quiet (i := 34) rfl (Want.none rfl) rfl (ltN rfl) (QP.not rfl rfl).read ?_
           refine Sq.nil ?_
           refine hk13 _ _ ?_
           refine Run.cond_f rfl ?_
           refine Run.skip ?_
           refine hk11 _ _ ?_
           refine Run.region ?_
           show Sq _ _ _ [0, 1, 2] _ _ _ _
           refine Sq.quiet (i := 0) rfl (Want.none rfl) rfl (ltN rfl) (QP.move rfl rfl).read ?_
           refine Sq.quiet (i := 1) rfl (Want.none rfl) rfl (ltN rfl) (QP.add64 rfl rfl rfl (by first | omega | (simp <;> omega)) (by first | omega | (simp <;> omega))).read ?_
           refine Sq.quiet (i := 2) rfl (Want.none rfl) rfl (ltN rfl) (QP.assign rfl rfl).read ?_
           refine Sq.nil ?_
           exact J.envJ (J.keep Takes.nil (hl8 (i + 1) (⟨by omega, hsz⟩) (by omega))) ⟨rfl, rfl, trivial⟩
          ·skip
           refine Sq.quiet (i := 29) rfl (Want.none rfl) rfl (ltN rfl) (QP.pick_f rfl rfl rfl).read ?_
           refine Sq.quiet (i := 30) rfl (Want.none rfl) rfl (ltN rfl) (QP.move rfl rfl).read ?_
           refine Sq.quiet (i := 31) rfl (Want.yes rfl rfl rfl rfl) rfl (ltN rfl) (QP.move rfl rfl).read ?_
           refine Sq.quiet (i := 32) rfl (Want.yes rfl rfl rfl rfl) rfl (ltN rfl) (QP.eql rfl rfl rfl).read ?_
           refine J.caseD (fun c53 => ?_) (fun c53 => ?_)
           ·skip
            refine Sq.quiet (i := 33) rfl (Want.none rfl) rfl (ltN rfl) (QP.pick_f rfl rfl rfl).read ?_
            refine Sq.quiet (i := 34) rfl (Want.none rfl) rfl (ltN rfl) (QP.not rfl rfl).read ?_
            refine Sq.nil ?_
            refine hk13 _ _ ?_
            refine Run.cond_f rfl ?_
            refine Run.skip ?_
            refine hk11 _ _ ?_
            refine Run.region ?_
            show Sq _ _ _ [0, 1, 2] _ _ _ _
            refine Sq.quiet (i := 0) rfl (Want.none rfl) rfl (ltN rfl) (QP.move rfl rfl).read ?_
            refine Sq.quiet (i := 1) rfl (Want.none rfl) rfl (ltN rfl) (QP.add64 rfl rfl rfl (by first | omega | (simp <;> omega)) (by first | omega | (simp <;> omega))).read ?_
            refine Sq.quiet (i := 2) rfl (Want.none rfl) rfl (ltN rfl) (QP.assign rfl rfl).read ?_
            refine Sq.nil ?_
            exact J.envJ (J.keep Takes.nil (hl8 (i + 1) (⟨by omega, hsz⟩) (by omega))) ⟨rfl, rfl, trivial⟩
           ·skip
            refine Sq.quiet (i := 33) rfl (Want.none rfl) rfl (ltN rfl) (QP.pick_f rfl rfl rfl).read ?_
            refine Sq.quiet (i := 34) rfl (Want.none rfl) rfl (ltN rfl) (QP.not rfl rfl).read ?_
            refine Sq.nil ?_
            refine hk13 _ _ ?_
            refine Run.cond_t rfl ?_
            refine Run.seq fun k16 hk16 => ?_
            refine Run.region ?_
            show Sq _ _ _ [0] _ _ _ _
            refine Sq.quiet (i := 0) rfl (Want.none rfl) rfl (ltN rfl) (QP.assign rfl rfl).read ?_
            refine Sq.nil ?_
            refine hk16 _ _ ?_
            refine Run.ret ?_
            exact J.ends (res_tmp rfl rfl) Takes.nil ⟨_, rfl, rfl⟩
       ·skip
        refine Sq.quiet (i := 17) rfl (Want.yes rfl rfl rfl rfl) rfl (ltN rfl) (QP.move rfl rfl).read ?_
        refine Sq.skip (i := 18) rfl (Want.no rfl rfl rfl rfl) rfl (ltN rfl) ?_
        refine Sq.skip (i := 19) rfl (Want.no rfl rfl rfl rfl) rfl (ltN rfl) ?_
        refine Sq.quiet (i := 20) rfl (Want.yes rfl rfl rfl rfl) rfl (ltN rfl) (QP.pick_f rfl rfl rfl).read ?_
        refine Sq.quiet (i := 21) rfl (Want.none rfl) rfl (ltN rfl) (QP.pick_f rfl rfl rfl).read ?_
        refine Sq.quiet (i := 22) rfl (Want.none rfl) rfl (ltN rfl) (QP.move rfl rfl).read ?_
        refine Sq.quiet (i := 23) rfl (Want.yes rfl rfl rfl rfl) rfl (ltN rfl) (QP.move rfl rfl).read ?_
        refine Sq.quiet (i := 24) rfl (Want.yes rfl rfl rfl rfl) rfl (ltN rfl) (QP.eql rfl rfl rfl).read ?_
        refine J.caseD (fun c45 => ?_) (fun c45 => ?_)
        ·skip
         refine Sq.quiet (i := 25) rfl (Want.none rfl) rfl (ltN rfl) (QP.pick_f rfl rfl rfl).read ?_
         refine Sq.quiet (i := 26) rfl (Want.none rfl) rfl (ltN rfl) (QP.move rfl rfl).read ?_
         refine Sq.skip (i := 27) rfl (Want.no rfl rfl rfl rfl) rfl (ltN rfl) ?_
         refine Sq.skip (i := 28) rfl (Want.no rfl rfl rfl rfl) rfl (ltN rfl) ?_
         refine Sq.quiet (i := 29) rfl (Want.none rfl) rfl (ltN rfl) (QP.pick_t rfl rfl rfl).read ?_
         refine Sq.quiet (i := 30) rfl (Want.none rfl) rfl (ltN rfl) (QP.move rfl rfl).read ?_
         refine Sq.skip (i := 31) rfl (Want.no rfl rfl rfl rfl) rfl (ltN rfl) ?_
         refine Sq.skip (i := 32) rfl (Want.no rfl rfl rfl rfl) rfl (ltN rfl) ?_
         refine Sq.quiet (i := 33) rfl (Want.none rfl) rfl (ltN rfl) (QP.pick_t rfl rfl rfl).read ?_
         refine Sq.quiet (i := 34) rfl (Want.none rfl) rfl (ltN rfl) (QP.not rfl rfl).read ?_
         refine Sq.nil ?_
         refine hk13 _ _ ?_
         refine Run.cond_f rfl ?_
         refine Run.skip ?_
         refine hk11 _ _ ?_
         refine Run.region ?_
         show Sq _ _ _ [0, 1, 2] _ _ _ _
         refine Sq.quiet (i := 0) rfl (Want.none rfl) rfl (ltN rfl) (QP.move rfl rfl).read ?_
         refine Sq.quiet (i := 1) rfl (Want.none rfl) rfl (ltN rfl) (QP.add64 rfl rfl rfl (by first | omega | (simp <;> omega)) (by first | omega | (simp <;> omega))).read ?_
         refine Sq.quiet (i := 2) rfl (Want.none rfl) rfl (ltN rfl) (QP.assign rfl rfl).read ?_
         refine Sq.nil ?_
         exact J.envJ (J.keep Takes.nil (hl8 (i + 1) (⟨by omega, hsz⟩) (by omega))) ⟨rfl, rfl, trivial⟩
        ·skip
         refine Sq.quiet (i := 25) rfl (Want.none rfl) rfl (ltN rfl) (QP.pick_f rfl rfl rfl).read ?_
         refine Sq.quiet (i := 26) rfl (Want.none rfl) rfl (ltN rfl) (QP.move rfl rfl).read ?_
         refine Sq.quiet (i := 27) rfl (Want.yes rfl rfl rfl rfl) rfl (ltN rfl) (QP.move rfl rfl).read ?_
         refine Sq.quiet (i := 28) rfl (Want.yes rfl rfl rfl rfl) rfl (ltN rfl) (QP.eql rfl rfl rfl).read ?_
         refine J.caseD (fun c49 => ?_) (fun c49 => ?_)
         ·skip
          refine Sq.quiet (i := 29) rfl (Want.none rfl) rfl (ltN rfl) (QP.pick_f rfl rfl rfl).read ?_
          refine Sq.quiet (i := 30) rfl (Want.none rfl) rfl (ltN rfl) (QP.move rfl rfl).read ?_
          refine Sq.skip (i := 31) rfl (Want.no rfl rfl rfl rfl) rfl (ltN rfl) ?_
          refine Sq.skip (i := 32) rfl (Want.no rfl rfl rfl rfl) rfl (ltN rfl) ?_
          refine Sq.quiet (i := 33) rfl (Want.none rfl) rfl (ltN rfl) (QP.pick_t rfl rfl rfl).read ?_
          refine Sq.quiet (i := 34) rfl (Want.none rfl) rfl (ltN rfl) (QP.not rfl rfl).read ?_
          refine Sq.nil ?_
          refine hk13 _ _ ?_
          refine Run.cond_f rfl ?_
          refine Run.skip ?_
          refine hk11 _ _ ?_
          refine Run.region ?_
          show Sq _ _ _ [0, 1, 2] _ _ _ _
          refine Sq.quiet (i := 0) rfl (Want.none rfl) rfl (ltN rfl) (QP.move rfl rfl).read ?_
          refine Sq.quiet (i := 1) rfl (Want.none rfl) rfl (ltN rfl) (QP.add64 rfl rfl rfl (by first | omega | (simp <;> omega)) (by first | omega | (simp <;> omega))).read ?_
          refine Sq.quiet (i := 2) rfl (Want.none rfl) rfl (ltN rfl) (QP.assign rfl rfl).read ?_
          refine Sq.nil ?_
          exact J.envJ (J.keep Takes.nil (hl8 (i + 1) (⟨by omega, hsz⟩) (by omega))) ⟨rfl, rfl, trivial⟩
         ·skip
          refine Sq.quiet (i := 29) rfl (Want.none rfl) rfl (ltN rfl) (QP.pick_f rfl rfl rfl).read ?_
          refine Sq.quiet (i := 30) rfl (Want.none rfl) rfl (ltN rfl) (QP.move rfl rfl).read ?_
          refine Sq.quiet (i := 31) rfl (Want.yes rfl rfl rfl rfl) rfl (ltN rfl) (QP.move rfl rfl).read ?_
          refine Sq.quiet (i := 32) rfl (Want.yes rfl rfl rfl rfl) rfl (ltN rfl) (QP.eql rfl rfl rfl).read ?_
          refine J.caseD (fun c53 => ?_) (fun c53 => ?_)
          ·skip
           refine Sq.quiet (i := 33) rfl (Want.none rfl) rfl (ltN rfl) (QP.pick_f rfl rfl rfl).read ?_
           refine Sq.quiet (i := 34) rfl (Want.none rfl) rfl (ltN rfl) (QP.not rfl rfl).read ?_
           refine Sq.nil ?_
           refine hk13 _ _ ?_
           refine Run.cond_f rfl ?_
           refine Run.skip ?_
           refine hk11 _ _ ?_
           refine Run.region ?_
           show Sq _ _ _ [0, 1, 2] _ _ _ _
           refine Sq.quiet (i := 0) rfl (Want.none rfl) rfl (ltN rfl) (QP.move rfl rfl).read ?_
           refine Sq.quiet (i := 1) rfl (Want.none rfl) rfl (ltN rfl) (QP.add64 rfl rfl rfl (by first | omega | (simp <;> omega)) (by first | omega | (simp <;> omega))).read ?_
           refine Sq.quiet (i := 2) rfl (Want.none rfl) rfl (ltN rfl) (QP.assign rfl rfl).read ?_
           refine Sq.nil ?_
           exact J.envJ (J.keep Takes.nil (hl8 (i + 1) (⟨by omega, hsz⟩) (by omega))) ⟨rfl, rfl, trivial⟩
          ·skip
           refine Sq.quiet (i := 33) rfl (Want.none rfl) rfl (ltN rfl) (QP.pick_f rfl rfl rfl).read ?_
           refine Sq.quiet (i := 34) rfl (Want.none rfl) rfl (ltN rfl) (QP.not rfl rfl).read ?_
           refine Sq.nil ?_
           refine hk13 _ _ ?_
           refine Run.cond_t rfl ?_
           refine Run.seq fun k17 hk17 => ?_
           refine Run.region ?_
           show Sq _ _ _ [0] _ _ _ _
           refine Sq.quiet (i := 0) rfl (Want.none rfl) rfl (ltN rfl) (QP.assign rfl rfl).read ?_
           refine Sq.nil ?_
           refine hk17 _ _ ?_
           refine Run.ret ?_
           exact J.ends (res_tmp rfl rfl) Takes.nil ⟨_, rfl, rfl⟩
    ·skip
     refine Sq.quiet (i := 2) rfl (Want.none rfl) rfl (ltN rfl) (QP.move rfl rfl).read ?_
     refine Sq.skip (i := 3) rfl (Want.no rfl rfl rfl rfl) rfl (ltN rfl) ?_
     refine Sq.skip (i := 4) rfl (Want.no rfl rfl rfl rfl) rfl (ltN rfl) ?_
     refine Sq.quiet (i := 5) rfl (Want.none rfl) rfl (ltN rfl) (QP.pick_f rfl rfl rfl).read ?_
     refine Sq.quiet (i := 6) rfl (Want.none rfl) rfl (ltN rfl) (QP.move rfl rfl).read ?_
     refine Sq.quiet (i := 7) rfl (Want.yes rfl rfl rfl rfl) rfl (ltN rfl) (QP.move rfl rfl).read ?_
     refine Sq.quiet (i := 8) rfl (Want.yes rfl rfl rfl rfl) rfl (ltN rfl) (QP.geq rfl rfl rfl).read ?_
     refine J.caseD (fun c29 => ?_) (fun c29 => ?_)
     ·skip
      refine Sq.quiet (i := 9) rfl (Want.yes rfl rfl rfl rfl) rfl (ltN rfl) (QP.move rfl rfl).read ?_
      refine Sq.quiet (i := 10) rfl (Want.yes rfl rfl rfl rfl) rfl (ltN rfl) (QP.move rfl rfl).read ?_
      refine Sq.quiet (i := 11) rfl (Want.yes rfl rfl rfl rfl) rfl (ltN rfl) (QP.leq rfl rfl rfl).read ?_
      refine J.caseD (fun c32 => ?_) (fun c32 => ?_)
      ·skip
       refine Sq.quiet (i := 12) rfl (Want.yes rfl rfl rfl rfl) rfl (ltN rfl) (QP.pick_t rfl rfl rfl).read ?_
       refine Sq.quiet (i := 13) rfl (Want.none rfl) rfl (ltN rfl) (QP.pick_f rfl rfl rfl).read ?_
       refine Sq.quiet (i := 14) rfl (Want.none rfl) rfl (ltN rfl) (QP.move rfl rfl).read ?_
       refine Sq.skip (i := 15) rfl (Want.no rfl rfl rfl rfl) rfl (ltN rfl) ?_
       refine Sq.skip (i := 16) rfl (Want.no rfl rfl rfl rfl) rfl (ltN rfl) ?_
       refine Sq.skip (i := 17) rfl (Want.no rfl rfl rfl rfl) rfl (ltN rfl) ?_
       refine Sq.skip (i := 18) rfl (Want.undef rfl rfl rfl) rfl (ltN rfl) ?_
       refine Sq.skip (i := 19) rfl (Want.undef rfl rfl rfl) rfl (ltN rfl) ?_
       refine Sq.skip (i := 20) rfl (Want.no rfl rfl rfl rfl) rfl (ltN rfl) ?_
       refine Sq.quiet (i := 21) rfl (Want.none rfl) rfl (ltN rfl) (QP.pick_t rfl rfl rfl).read ?_
       refine Sq.quiet (i := 22) rfl (Want.none rfl) rfl (ltN rfl) (QP.move rfl rfl).read ?_
       refine Sq.skip (i := 23) rfl (Want.no rfl rfl rfl rfl) rfl (ltN rfl) ?_
       refine Sq.skip (i := 24) rfl (Want.no rfl rfl rfl rfl) rfl (ltN rfl) ?_
       refine Sq.quiet (i := 25) rfl (Want.none rfl) rfl (ltN rfl) (QP.pick_t rfl rfl rfl).read ?_
       refine Sq.quiet (i := 26) rfl (Want.none rfl) rfl (ltN rfl) (QP.move rfl rfl).read ?_
       refine Sq.skip (i := 27) rfl (Want.no rfl rfl rfl rfl) rfl (ltN rfl) ?_
       refine Sq.skip (i := 28) rfl (Want.no rfl rfl rfl rfl) rfl (ltN rfl) ?_
       refine Sq.quiet (i := 29) rfl (Want.none rfl) rfl (ltN rfl) (QP.pick_t rfl rfl rfl).read ?_
       refine Sq.quiet (i := 30) rfl (Want.none rfl) rfl (ltN rfl) (QP.move rfl rfl).read ?_
       refine Sq.skip (i := 31) rfl (Want.no rfl rfl rfl rfl) rfl (ltN rfl) ?_
       refine Sq.skip (i := 32) rfl (Want.no rfl rfl rfl rfl) rfl (ltN rfl) ?_
       refine Sq.quiet (i := 33) rfl (Want.none rfl) rfl (ltN rfl) (QP.pick_t rfl rfl rfl).read ?_
       refine Sq.quiet (i := 34) rfl (Want.none rfl) rfl (ltN rfl) (QP.not rfl rfl).read ?_
       refine Sq.nil ?_
       refine hk13 _ _ ?_
       refine Run.cond_f rfl ?_
       refine Run.skip ?_
       refine hk11 _ _ ?_
       refine Run.region ?_
       show Sq _ _ _ [0, 1, 2] _ _ _ _
       refine Sq.quiet (i := 0) rfl (Want.none rfl) rfl (ltN rfl) (QP.move rfl rfl).read ?_
       refine Sq.quiet (i := 1) rfl (Want.none rfl) rfl (ltN rfl) (QP.add64 rfl rfl rfl (by first | omega | (simp <;> omega)) (by first | omega | (simp <;> omega))).read ?_
       refine Sq.quiet (i := 2) rfl (Want.none rfl) rfl (ltN rfl) (QP.assign rfl rfl).read ?_
       refine Sq.nil ?_
       exact J.envJ (J.keep Takes.nil (hl8 (i + 1) (⟨by omega, hsz⟩) (by omega))) ⟨rfl, rfl, trivial⟩
      ·skip
       refine Sq.quiet (i := 12) rfl (Want.yes rfl rfl rfl rfl) rfl (ltN rfl) (QP.pick_t rfl rfl rfl).read ?_
       refine Sq.quiet (i := 13) rfl (Want.none rfl) rfl (ltN rfl) (QP.pick_f rfl rfl rfl).read ?_
       refine Sq.quiet (i := 14) rfl (Want.none rfl) rfl (ltN rfl) (QP.move rfl rfl).read ?_
       refine Sq.quiet (i := 15) rfl (Want.yes rfl rfl rfl rfl) rfl (ltN rfl) (QP.move rfl rfl).read ?_
       refine Sq.quiet (i := 16) rfl (Want.yes rfl rfl rfl rfl) rfl (ltN rfl) (QP.geq rfl rfl rfl).read ?_
       refine J.caseD (fun c37 => ?_) (fun c37 => ?_)
       ·skip
        refine Sq.quiet (i := 17) rfl (Want.yes rfl rfl rfl rfl) rfl (ltN rfl) (QP.move rfl rfl).read ?_
        refine Sq.quiet (i := 18) rfl (Want.yes rfl rfl rfl rfl) rfl (ltN rfl) (QP.move rfl rfl).read ?_
        refine Sq.quiet (i := 19) rfl (Want.yes rfl rfl rfl rfl) rfl (ltN rfl) (QP.leq rfl rfl rfl).read ?_
        refine J.caseD (fun c40 => ?_) (fun c40 => ?_)
        ·skip
         refine Sq.quiet (i := 20) rfl (Want.yes rfl rfl rfl rfl) rfl (ltN rfl) (QP.pick_t rfl rfl rfl).read ?_
         refine Sq.quiet (i := 21) rfl (Want.none rfl) rfl (ltN rfl) (QP.pick_f rfl rfl rfl).read ?_
         refine Sq.quiet (i := 22) rfl (Want.none rfl) rfl (ltN rfl) (QP.move rfl rfl).read ?_
         refine Sq.skip (i := 23) rfl (Want.no rfl rfl rfl rfl) rfl (ltN rfl) ?_
         refine Sq.skip (i := 24) rfl (Want.no rfl rfl rfl rfl) rfl (ltN rfl) ?_
         refine Sq.quiet (i := 25) rfl (Want.none rfl) rfl (ltN rfl) (QP.pick_t rfl rfl rfl).read ?_
         refine Sq.quiet (i := 26) rfl (Want.none rfl) rfl (ltN rfl) (QP.move rfl rfl).read ?_
         refine Sq.skip (i := 27) rfl (Want.no rfl rfl rfl rfl) rfl (ltN rfl) ?_
         refine Sq.skip (i := 28) rfl (Want.no rfl rfl rfl rfl) rfl (ltN rfl) ?_
         refine Sq.quiet (i := 29) rfl (Want.none rfl) rfl (ltN rfl) (QP.pick_t rfl rfl rfl).read ?_
         refine Sq.quiet (i := 30) rfl (Want.none rfl) rfl (ltN rfl) (QP.move rfl rfl).read ?_
         refine Sq.skip (i := 31) rfl (Want.no rfl rfl rfl rfl) rfl (ltN rfl) ?_
         refine Sq.skip (i := 32) rfl (Want.no rfl rfl rfl rfl) rfl (ltN rfl) ?_
         refine Sq.quiet (i := 33) rfl (Want.none rfl) rfl (ltN rfl) (QP.pick_t rfl rfl rfl).read ?_
         refine Sq.quiet (i := 34) rfl (Want.none rfl) rfl (ltN rfl) (QP.not rfl rfl).read ?_
         refine Sq.nil ?_
         refine hk13 _ _ ?_
         refine Run.cond_f rfl ?_
         refine Run.skip ?_
         refine hk11 _ _ ?_
         refine Run.region ?_
         show Sq _ _ _ [0, 1, 2] _ _ _ _
         refine Sq.quiet (i := 0) rfl (Want.none rfl) rfl (ltN rfl) (QP.move rfl rfl).read ?_
         refine Sq.quiet (i := 1) rfl (Want.none rfl) rfl (ltN rfl) (QP.add64 rfl rfl rfl (by first | omega | (simp <;> omega)) (by first | omega | (simp <;> omega))).read ?_
         refine Sq.quiet (i := 2) rfl (Want.none rfl) rfl (ltN rfl) (QP.assign rfl rfl).read ?_
         refine Sq.nil ?_
         exact J.envJ (J.keep Takes.nil (hl8 (i + 1) (⟨by omega, hsz⟩) (by omega))) ⟨rfl, rfl, trivial⟩
        ·skip
         refine Sq.quiet (i := 20) rfl (Want.yes rfl rfl rfl rfl) rfl (ltN rfl) (QP.pick_t rfl rfl rfl).read ?_
         refine Sq.quiet (i := 21) rfl (Want.none rfl) rfl (ltN rfl) (QP.pick_f rfl rfl rfl).read ?_
         refine Sq.quiet (i := 22) rfl (Want.none rfl) rfl (ltN rfl) (QP.move rfl rfl).read ?_
         refine Sq.quiet (i := 23) rfl (Want.yes rfl rfl rfl rfl) rfl (ltN rfl) (QP.move rfl rfl).read ?_
         refine Sq.quiet (i := 24) rfl (Want.yes rfl rfl rfl rfl) rfl (ltN rfl) (QP.eql rfl rfl rfl).read ?_
         refine J.caseD (fun c45 => ?_) (fun c45 => ?_)
         ·skip
          refine Sq.quiet (i := 25) rfl (Want.none rfl) rfl (ltN rfl) (QP.pick_f rfl rfl rfl).read ?_
          refine Sq.quiet (i := 26) rfl (Want.none rfl) rfl (ltN rfl) (QP.move rfl rfl).read ?_
          refine Sq.skip (i := 27) rfl (Want.no rfl rfl rfl rfl) rfl (ltN rfl) ?_
          refine Sq.skip (i := 28) rfl (Want.no rfl rfl rfl rfl) rfl (ltN rfl) ?_
          refine Sq.quiet (i := 29) rfl (Want.none rfl) rfl (ltN rfl) (QP.pick_t rfl rfl rfl).read ?_
          refine Sq.quiet (i := 30) rfl (Want.none rfl) rfl (ltN rfl) (QP.move rfl rfl).read ?_
          refine Sq.skip (i := 31) rfl (Want.no rfl rfl rfl rfl) rfl (ltN rfl) ?_
          refine Sq.skip (i := 32) rfl (Want.no rfl rfl rfl rfl) rfl (ltN rfl) ?_
          refine Sq.quiet (i := 33) rfl (Want.none rfl) rfl (ltN rfl) (QP.pick_t rfl rfl rfl).read ?_
          refine Sq.quiet (i := 34) rfl (Want.none rfl) rfl (ltN rfl) (QP.not rfl rfl).read ?_
          refine Sq.nil ?_
          refine hk13 _ _ ?_
          refine Run.cond_f rfl ?_
          refine Run.skip ?_
          refine hk11 _ _ ?_
          refine Run.region ?_
          show Sq _ _ _ [0, 1, 2] _ _ _ _
          refine Sq.quiet (i := 0) rfl (Want.none rfl) rfl (ltN rfl) (QP.move rfl rfl).read ?_
          refine Sq.quiet (i := 1) rfl (Want.none rfl) rfl (ltN rfl) (QP.add64 rfl rfl rfl (by first | omega | (simp <;> omega)) (by first | omega | (simp <;> omega))).read ?_
          refine Sq.quiet (i := 2) rfl (Want.none rfl) rfl (ltN rfl) (QP.assign rfl rfl).read ?_
          refine Sq.nil ?_
          exact J.envJ (J.keep Takes.nil (hl8 (i + 1) (⟨by omega, hsz⟩) (by omega))) ⟨rfl, rfl, trivial⟩
         ·skip
          refine Sq.quiet (i := 25) rfl (Want.none rfl) rfl (ltN rfl) (QP.pick_f rfl rfl rfl).read ?_
          refine Sq.quiet (i := 26) rfl (Want.none rfl) rfl (ltN rfl) (QP.move rfl rfl).read ?_
          refine Sq.quiet (i := 27) rfl (Want.yes rfl rfl rfl rfl) rfl (ltN rfl) (QP.move rfl rfl).read ?_
          refine Sq.quiet (i := 28) rfl (Want.yes rfl rfl rfl rfl) rfl (ltN rfl) (QP.eql rfl rfl rfl).read ?_
          refine J.caseD (fun c49 => ?_) (fun c49 => ?_)
          ·skip
           refine Sq.quiet (i := 29) rfl (Want.none rfl) rfl (ltN rfl) (QP.pick_f rfl rfl rfl).read ?_
           refine Sq.quiet (i := 30) rfl (Want.none rfl) rfl (ltN rfl) (QP.move rfl rfl).read ?_
           refine Sq.skip (i := 31) rfl (Want.no rfl rfl rfl rfl) rfl (ltN rfl) ?_
           refine Sq.skip (i := 32) rfl (Want.no rfl rfl rfl rfl) rfl (ltN rfl) ?_
           refine Sq.quiet (i := 33) rfl (Want.none rfl) rfl (ltN rfl) (QP.pick_t rfl rfl rfl).read ?_
           refine Sq.quiet (i := 34) rfl (Want.none rfl) rfl (ltN rfl) (QP.not rfl rfl).read ?_
           refine Sq.nil ?_
           refine hk13 _ _ ?_
           refine Run.cond_f rfl ?_
           refine Run.skip ?_
           refine hk11 _ _ ?_
           refine Run.region ?_
           show Sq _ _ _ [0, 1, 2] _ _ _ _
           refine Sq.quiet (i := 0) rfl (Want.none rfl) rfl (ltN rfl) (QP.move rfl rfl).read ?_
           refine Sq.quiet (i := 1) rfl (Want.none rfl) rfl (ltN rfl) (QP.add64 rfl rfl rfl (by first | omega | (simp <;> omega)) (by first | omega | (simp <;> omega))).read ?_
           refine Sq.quiet (i := 2) rfl (Want.none rfl) rfl (ltN rfl) (QP.assign rfl rfl).read ?_
           refine Sq.nil ?_
           exact J.envJ (J.keep Takes.nil (hl8 (i + 1) (⟨by omega, hsz⟩) (by omega))) ⟨rfl, rfl, trivial⟩
          ·skip
           refine Sq.quiet (i := 29) rfl (Want.none rfl) rfl (ltN rfl) (QP.pick_f rfl rfl rfl).read ?_
           refine Sq.quiet (i := 30) rfl (Want.none rfl) rfl (ltN rfl) (QP.move rfl rfl).read ?_
           refine Sq.quiet (i := 31) rfl (Want.yes rfl rfl rfl rfl) rfl (ltN rfl) (QP.move rfl rfl).read ?_
           refine Sq.quiet (i := 32) rfl (Want.yes rfl rfl rfl rfl) rfl (ltN rfl) (QP.eql rfl rfl rfl).read ?_
           refine J.caseD (fun c53 => ?_) (fun c53 => ?_)
           ·skip
            refine Sq.quiet (i := 33) rfl (Want.none rfl) rfl (ltN rfl) (QP.pick_f rfl rfl rfl).read ?_
            refine Sq.quiet (i := 34) rfl (Want.none rfl) rfl (ltN rfl) (QP.not rfl rfl).read ?_
            refine Sq.nil ?_
            refine hk13 _ _ ?_
            refine Run.cond_f rfl ?_
            refine Run.skip ?_
            refine hk11 _ _ ?_
            refine Run.region ?_
            show Sq _ _ _ [0, 1, 2] _ _ _ _
            refine Sq.quiet (i := 0) rfl (Want.none rfl) rfl (ltN rfl) (QP.move rfl rfl).read ?_
            refine Sq.quiet (i := 1) rfl (Want.none rfl) rfl (ltN rfl) (QP.add64 rfl rfl rfl (by first | omega | (simp <;> omega)) (by first | omega | (simp <;> omega))).read ?_
            refine Sq.quiet (i := 2) rfl (Want.none rfl) rfl (ltN rfl) (QP.assign rfl rfl).read ?_
            refine Sq.nil ?_
            exact J.envJ (J.keep Takes.nil (hl8 (i + 1) (⟨by omega, hsz⟩) (by omega))) ⟨rfl, rfl, trivial⟩
           ·skip
            refine Sq.quiet (i := 33) rfl (Want.none rfl) rfl (ltN rfl) (QP.pick_f rfl rfl rfl).read ?_
            refine Sq.quiet (i := 34) rfl (Want.none rfl) rfl (ltN rfl) (QP.not rfl rfl).read ?_
            refine Sq.nil ?_
            refine hk13 _ _ ?_
            refine Run.cond_t rfl ?_
            refine Run.seq fun k18 hk18 => ?_
            refine Run.region ?_
            show Sq _ _ _ [0] _ _ _ _
            refine Sq.quiet (i := 0) rfl (Want.none rfl) rfl (ltN rfl) (QP.assign rfl rfl).read ?_
            refine Sq.nil ?_
            refine hk18 _ _ ?_
            refine Run.ret ?_
            exact J.ends (res_tmp rfl rfl) Takes.nil ⟨_, rfl, rfl⟩
       ·skip
        refine Sq.quiet (i := 17) rfl (Want.yes rfl rfl rfl rfl) rfl (ltN rfl) (QP.move rfl rfl).read ?_
        refine Sq.skip (i := 18) rfl (Want.no rfl rfl rfl rfl) rfl (ltN rfl) ?_
        refine Sq.skip (i := 19) rfl (Want.no rfl rfl rfl rfl) rfl (ltN rfl) ?_
        refine Sq.quiet (i := 20) rfl (Want.yes rfl rfl rfl rfl) rfl (ltN rfl) (QP.pick_f rfl rfl rfl).read ?_
        refine Sq.quiet (i := 21) rfl (Want.none rfl) rfl (ltN rfl) (QP.pick_f rfl rfl rfl).read ?_
        refine Sq.quiet (i := 22) rfl (Want.none rfl) rfl (ltN rfl) (QP.move rfl rfl).read ?_
        refine Sq.quiet (i := 23) rfl (Want.yes rfl rfl rfl rfl) rfl (ltN rfl) (QP.move rfl rfl).read ?_
        refine Sq.quiet (i := 24) rfl (Want.yes rfl rfl rfl rfl) rfl (ltN rfl) (QP.eql rfl rfl rfl).read ?_
        refine J.caseD (fun c45 => ?_) (fun c45 => ?_)
        ·skip
         refine Sq.quiet (i := 25) rfl (Want.none rfl) rfl (ltN rfl) (QP.pick_f rfl rfl rfl).read ?_
         refine Sq.quiet (i := 26) rfl (Want.none rfl) rfl (ltN rfl) (QP.move rfl rfl).read ?_
         refine Sq.skip (i := 27) rfl (Want.no rfl rfl rfl rfl) rfl (ltN rfl) ?_
         refine Sq.skip (i := 28) rfl (Want.no rfl rfl rfl rfl) rfl (ltN rfl) ?_
         refine Sq.quiet (i := 29) rfl (Want.none rfl) rfl (ltN rfl) (QP.pick_t rfl rfl rfl).read ?_
         refine Sq.quiet (i := 30) rfl (Want.none rfl) rfl (ltN rfl) (QP.move rfl rfl).read ?_
         refine Sq.skip (i := 31) rfl (Want.no rfl rfl rfl rfl) rfl (ltN rfl) ?_
         refine Sq.skip (i := 32) rfl (Want.no rfl rfl rfl rfl) rfl (ltN rfl) ?_
         refine Sq.quiet (i := 33) rfl (Want.none rfl) rfl (ltN rfl) (QP.pick_t rfl rfl rfl).read ?_
         refine Sq.quiet (i := 34) rfl (Want.none rfl) rfl (ltN rfl) (QP.not rfl rfl).read ?_
         refine Sq.nil ?_
         refine hk13 _ _ ?_
         refine Run.cond_f rfl ?_
         refine Run.skip ?_
         refine hk11 _ _ ?_
         refine Run.region ?_
         show Sq _ _ _ [0, 1, 2] _ _ _ _
         refine Sq.quiet (i := 0) rfl (Want.none rfl) rfl (ltN rfl) (QP.move rfl rfl).read ?_
         refine Sq.quiet (i := 1) rfl (Want.none rfl) rfl (ltN rfl) (QP.add64 rfl rfl rfl (by first | omega | (simp <;> omega)) (by first | omega | (simp <;> omega))).read ?_
         refine Sq.quiet (i := 2) rfl (Want.none rfl) rfl (ltN rfl) (QP.assign rfl rfl).read ?_
         refine Sq.nil ?_
         exact J.envJ (J.keep Takes.nil (hl8 (i + 1) (⟨by omega, hsz⟩) (by omega))) ⟨rfl, rfl, trivial⟩
        ·skip
         refine Sq.quiet (i := 25) rfl (Want.none rfl) rfl (ltN rfl) (QP.pick_f rfl rfl rfl).read ?_
         refine Sq.quiet (i := 26) rfl (Want.none rfl) rfl (ltN rfl) (QP.move rfl rfl).read ?_
         refine Sq.quiet (i := 27) rfl (Want.yes rfl rfl rfl rfl) rfl (ltN rfl) (QP.move rfl rfl).read ?_
         refine Sq.quiet (i := 28) rfl (Want.yes rfl rfl rfl rfl) rfl (ltN rfl) (QP.eql rfl rfl rfl).read ?_
         refine J.caseD (fun c49 => ?_) (fun c49 => ?_)
         ·skip
          refine Sq.quiet (i := 29) rfl (Want.none rfl) rfl (ltN rfl) (QP.pick_f rfl rfl rfl).read ?_
          refine Sq.quiet (i := 30) rfl (Want.none rfl) rfl (ltN rfl) (QP.move rfl rfl).read ?_
          refine Sq.skip (i := 31) rfl (Want.no rfl rfl rfl rfl) rfl (ltN rfl) ?_
          refine Sq.skip (i := 32) rfl (Want.no rfl rfl rfl rfl) rfl (ltN rfl) ?_
          refine Sq.quiet (i := 33) rfl (Want.none rfl) rfl (ltN rfl) (QP.pick_t rfl rfl rfl).read ?_
          refine Sq.quiet (i := 34) rfl (Want.none rfl) rfl (ltN rfl) (QP.not rfl rfl).read ?_
          refine Sq.nil ?_
          refine hk13 _ _ ?_
          refine Run.cond_f rfl ?_
          refine Run.skip ?_
          refine hk11 _ _ ?_
          refine Run.region ?_
          show Sq _ _ _ [0, 1, 2] _ _ _ _
          refine Sq.quiet (i := 0) rfl (Want.none rfl) rfl (ltN rfl) (QP.move rfl rfl).read ?_
          refine Sq.quiet (i := 1) rfl (Want.none rfl) rfl (ltN rfl) (QP.add64 rfl rfl rfl (by first | omega | (simp <;> omega)) (by first | omega | (simp <;> omega))).read ?_
          refine Sq.quiet (i := 2) rfl (Want.none rfl) rfl (ltN rfl) (QP.assign rfl rfl).read ?_
          refine Sq.nil ?_
          exact J.envJ (J.keep Takes.nil (hl8 (i + 1) (⟨by omega, hsz⟩) (by omega))) ⟨rfl, rfl, trivial⟩
         ·skip
          refine Sq.quiet (i := 29) rfl (Want.none rfl) rfl (ltN rfl) (QP.pick_f rfl rfl rfl).read ?_
          refine Sq.quiet (i := 30) rfl (Want.none rfl) rfl (ltN rfl) (QP.move rfl rfl).read ?_
          refine Sq.quiet (i := 31) rfl (Want.yes rfl rfl rfl rfl) rfl (ltN rfl) (QP.move rfl rfl).read ?_
          refine Sq.quiet (i := 32) rfl (Want.yes rfl rfl rfl rfl) rfl (ltN rfl) (QP.eql rfl rfl rfl).read ?_
          refine J.caseD (fun c53 => ?_) (fun c53 => ?_)
          ·skip
           refine Sq.quiet (i := 33) rfl (Want.none rfl) rfl (ltN rfl) (QP.pick_f rfl rfl rfl).read ?_
           refine Sq.quiet (i := 34) rfl (Want.none rfl) rfl (ltN rfl) (QP.not rfl rfl).read ?_
           refine Sq.nil ?_
           refine hk13 _ _ ?_
           refine Run.cond_f rfl ?_
           refine Run.skip ?_
           refine hk11 _ _ ?_
           refine Run.region ?_
           show Sq _ _ _ [0, 1, 2] _ _ _ _
           refine Sq.quiet (i := 0) rfl (Want.none rfl) rfl (ltN rfl) (QP.move rfl rfl).read ?_
           refine Sq.quiet (i := 1) rfl (Want.none rfl) rfl (ltN rfl) (QP.add64 rfl rfl rfl (by first | omega | (simp <;> omega)) (by first | omega | (simp <;> omega))).read ?_
           refine Sq.quiet (i := 2) rfl (Want.none rfl) rfl (ltN rfl) (QP.assign rfl rfl).read ?_
           refine Sq.nil ?_
           exact J.envJ (J.keep Takes.nil (hl8 (i + 1) (⟨by omega, hsz⟩) (by omega))) ⟨rfl, rfl, trivial⟩
          ·skip
           refine Sq.quiet (i := 33) rfl (Want.none rfl) rfl (ltN rfl) (QP.pick_f rfl rfl rfl).read ?_
           refine Sq.quiet (i := 34) rfl (Want.none rfl) rfl (ltN rfl) (QP.not rfl rfl).read ?_
           refine Sq.nil ?_
           refine hk13 _ _ ?_
           refine Run.cond_t rfl ?_
           refine Run.seq fun k19 hk19 => ?_
           refine Run.region ?_
           show Sq _ _ _ [0] _ _ _ _
           refine Sq.quiet (i := 0) rfl (Want.none rfl) rfl (ltN rfl) (QP.assign rfl rfl).read ?_
           refine Sq.nil ?_
           refine hk19 _ _ ?_
           refine Run.ret ?_
           exact J.ends (res_tmp rfl rfl) Takes.nil ⟨_, rfl, rfl⟩
     ·skip
      refine Sq.quiet (i := 9) rfl (Want.yes rfl rfl rfl rfl) rfl (ltN rfl) (QP.move rfl rfl).read ?_
      refine Sq.skip (i := 10) rfl (Want.no rfl rfl rfl rfl) rfl (ltN rfl) ?_
      refine Sq.skip (i := 11) rfl (Want.no rfl rfl rfl rfl) rfl (ltN rfl) ?_
      refine Sq.quiet (i := 12) rfl (Want.yes rfl rfl rfl rfl) rfl (ltN rfl) (QP.pick_f rfl rfl rfl).read ?_
      refine Sq.quiet (i := 13) rfl (Want.none rfl) rfl (ltN rfl) (QP.pick_f rfl rfl rfl).read ?_
      refine Sq.quiet (i := 14) rfl (Want.none rfl) rfl (ltN rfl) (QP.move rfl rfl).read ?_
      refine Sq.quiet (i := 15) rfl (Want.yes rfl rfl rfl rfl) rfl (ltN rfl) (QP.move rfl rfl).read ?_
      refine Sq.quiet (i := 16) rfl (Want.yes rfl rfl rfl rfl) rfl (ltN rfl) (QP.geq rfl rfl rfl).read ?_
      refine J.caseD (fun c37 => ?_) (fun c37 => ?_)
      ·skip
       refine Sq.quiet (i := 17) rfl (Want.yes rfl rfl rfl rfl) rfl (ltN rfl) (QP.move rfl rfl).read ?_
       refine Sq.quiet (i := 18) rfl (Want.yes rfl rfl rfl rfl) rfl (ltN rfl) (QP.move rfl rfl).read ?_
       refine Sq.quiet (i := 19) rfl (Want.yes rfl rfl rfl rfl) rfl (ltN rfl) (QP.leq rfl rfl rfl).read ?_
       refine J.caseD (fun c40 => ?_) (fun c40 => ?_)
       ·skip
        refine Sq.quiet (i := 20) rfl (Want.yes rfl rfl rfl rfl) rfl (ltN rfl) (QP.pick_t rfl rfl rfl).read ?_
        refine Sq.quiet (i := 21) rfl (Want.none rfl) rfl (ltN rfl) (QP.pick_f rfl rfl rfl).read ?_
        refine Sq.quiet (i := 22) rfl (Want.none rfl) rfl (ltN rfl) (QP.move rfl rfl).read ?_
        refine Sq.skip (i := 23) rfl (Want.no rfl rfl rfl rfl) rfl (ltN rfl) ?_
        refine Sq.skip (i := 24) rfl (Want.no rfl rfl rfl rfl) rfl (ltN rfl) ?_
        refine Sq.quiet (i := 25) rfl (Want.none rfl) rfl (ltN rfl) (QP.pick_t rfl rfl rfl).read ?_
        refine Sq.quiet (i := 26) rfl (Want.none rfl) rfl (ltN rfl) (QP.move rfl rfl).read ?_
        refine Sq.skip (i := 27) rfl (Want.no rfl rfl rfl rfl) rfl (ltN rfl) ?_
        refine Sq.skip (i := 28) rfl (Want.no rfl rfl rfl rfl) rfl (ltN rfl) ?_
        refine Sq.quiet (i := 29) rfl (Want.none rfl) rfl (ltN rfl) (QP.pick_t rfl rfl rfl).read ?_
        refine Sq.quiet (i := 30) rfl (Want.none rfl) rfl (ltN rfl) (QP.move rfl rfl).read ?_
        refine Sq.skip (i := 31) rfl (Want.no rfl rfl rfl rfl) rfl (ltN rfl) ?_
        refine Sq.skip (i := 32) rfl (Want.no rfl rfl rfl rfl) rfl (ltN rfl) ?_
        refine Sq.quiet (i := 33) rfl (Want.none rfl) rfl (ltN rfl) (QP.pick_t rfl rfl rfl).read ?_
        refine Sq.quiet (i := 34) rfl (Want.none rfl) rfl (ltN rfl) (QP.not rfl rfl).read ?_
        refine Sq.nil ?_
        refine hk13 _ _ ?_
        refine Run.cond_f rfl ?_
        refine Run.skip ?_
        refine hk11 _ _ ?_
        refine Run.region ?_
        show Sq _ _ _ [0, 1, 2] _ _ _ _
        refine Sq.quiet (i := 0) rfl (Want.none rfl) rfl (ltN rfl) (QP.move rfl rfl).read ?_
        refine Sq.quiet (i := 1) rfl (Want.none rfl) rfl (ltN rfl) (QP.add64 rfl rfl rfl (by first | omega | (simp <;> omega)) (by first | omega | (simp <;> omega))).read ?_
        refine Sq.quiet (i := 2) rfl (Want.none rfl) rfl (ltN rfl) (QP.assign rfl rfl).read ?_
        refine Sq.nil ?_
        exact J.envJ (J.keep Takes.nil (hl8 (i + 1) (⟨by omega, hsz⟩) (by omega))) ⟨rfl, rfl, trivial⟩
       ·skip
        refine Sq.quiet (i := 20) rfl (Want.yes rfl rfl rfl rfl) rfl (ltN rfl) (QP.pick_t rfl rfl rfl).read ?_
        refine Sq.quiet (i := 21) rfl (Want.none rfl) rfl (ltN rfl) (QP.pick_f rfl rfl rfl).read ?_
        refine Sq.quiet (i := 22) rfl (Want.none rfl) rfl (ltN rfl) (QP.move rfl rfl).read ?_
        refine Sq.quiet (i := 23) rfl (Want.yes rfl rfl rfl rfl) rfl (ltN rfl) (QP.move rfl rfl).read ?_
        refine Sq.quiet (i := 24) rfl (Want.yes rfl rfl rfl rfl) rfl (ltN rfl) (QP.eql rfl rfl rfl).read ?_
        refine J.caseD (fun c45 => ?_) (fun c45 => ?_)
        ·skip
         refine Sq.quiet (i := 25) rfl (Want.none rfl) rfl (ltN rfl) (QP.pick_f rfl rfl rfl).read ?_
         refine Sq.quiet (i := 26) rfl (Want.none rfl) rfl (ltN rfl) (QP.move rfl rfl).read ?_
         refine Sq.skip (i := 27) rfl (Want.no rfl rfl rfl rfl) rfl (ltN rfl) ?_
         refine Sq.skip (i := 28) rfl (Want.no rfl rfl rfl rfl) rfl (ltN rfl) ?_
         refine Sq.quiet (i := 29) rfl (Want.none rfl) rfl (ltN rfl) (QP.pick_t rfl rfl rfl).read ?_
         refine Sq.quiet (i := 30) rfl (Want.none rfl) rfl (ltN rfl) (QP.move rfl rfl).read ?_
         refine Sq.skip (i := 31) rfl (Want.no rfl rfl rfl rfl) rfl (ltN rfl) ?_
         refine Sq.skip (i := 32) rfl (Want.no rfl rfl rfl rfl) rfl (ltN rfl) ?_
         refine Sq.quiet (i := 33) rfl (Want.none rfl) rfl (ltN rfl) (QP.pick_t rfl rfl rfl).read ?_
         refine Sq.quiet (i := 34) rfl (Want.none rfl) rfl (ltN rfl) (QP.not rfl rfl).read ?_
         refine Sq.nil ?_
         refine hk13 _ _ ?_
         refine Run.cond_f rfl ?_
         refine Run.skip ?_
         refine hk11 _ _ ?_
         refine Run.region ?_
         show Sq _ _ _ [0, 1, 2] _ _ _ _
         refine Sq.quiet (i := 0) rfl (Want.none rfl) rfl (ltN rfl) (QP.move rfl rfl).read ?_
         refine Sq.quiet (i := 1) rfl (Want.none rfl) rfl (ltN rfl) (QP.add64 rfl rfl rfl (by first | omega | (simp <;> omega)) (by first | omega | (simp <;> omega))).read ?_
         refine Sq.quiet (i := 2) rfl (Want.none rfl) rfl (ltN rfl) (QP.assign rfl rfl).read ?_
         refine Sq.nil ?_
         exact J.envJ (J.keep Takes.nil (hl8 (i + 1) (⟨by omega, hsz⟩) (by omega))) ⟨rfl, rfl, trivial⟩
        ·skip
         refine Sq.quiet (i := 25) rfl (Want.none rfl) rfl (ltN rfl) (QP.pick_f rfl rfl rfl).read ?_
         refine Sq.quiet (i := 26) rfl (Want.none rfl) rfl (ltN rfl) (QP.move rfl rfl).read ?_
         refine Sq.quiet (i := 27) rfl (Want.yes rfl rfl rfl rfl) rfl (ltN rfl) (QP.move rfl rfl).read ?_
         refine Sq.quiet (i := 28) rfl (Want.yes rfl rfl rfl rfl) rfl (ltN rfl) (QP.eql rfl rfl rfl).read ?_
         refine J.caseD (fun c49 => ?_) (fun c49 => ?_)
         ·skip
          refine Sq.quiet (i := 29) rfl (Want.none rfl) rfl (ltN rfl) (QP.pick_f rfl rfl rfl).read ?_
          refine Sq.quiet (i := 30) rfl (Want.none rfl) rfl (ltN rfl) (QP.move rfl rfl).read ?_
          refine Sq.skip (i := 31) rfl (Want.no rfl rfl rfl rfl) rfl (ltN rfl) ?_
          refine Sq.skip (i := 32) rfl (Want.no rfl rfl rfl rfl) rfl (ltN rfl) ?_
          refine Sq.quiet (i := 33) rfl (Want.none rfl) rfl (ltN rfl) (QP.pick_t rfl rfl rfl).read ?_
          refine Sq.quiet (i := 34) rfl (Want.none rfl) rfl (ltN rfl) (QP.not rfl rfl).read ?_
          refine Sq.nil ?_
          refine hk13 _ _ ?_
          refine Run.cond_f rfl ?_
          refine Run.skip ?_
          refine hk11 _ _ ?_
          refine Run.region ?_
          show Sq _ _ _ [0, 1, 2] _ _ _ _
          refine Sq.quiet (i := 0) rfl (Want.none rfl) rfl (ltN rfl) (QP.move rfl rfl).read ?_
          refine Sq.quiet (i := 1) rfl (Want.none rfl) rfl (ltN rfl) (QP.add64 rfl rfl rfl (by first | omega | (simp <;> omega)) (by first | omega | (simp <;> omega))).read ?_
          refine Sq.quiet (i := 2) rfl (Want.none rfl) rfl (ltN rfl) (QP.assign rfl rfl).read ?_
          refine Sq.nil ?_
          exact J.envJ (J.keep Takes.nil (hl8 (i + 1) (⟨by omega, hsz⟩) (by omega))) ⟨rfl, rfl, trivial⟩
         ·skip
          refine Sq.quiet (i := 29) rfl (Want.none rfl) rfl (ltN rfl) (QP.pick_f rfl rfl rfl).read ?_
          refine Sq.quiet (i := 30) rfl (Want.none rfl) rfl (ltN rfl) (QP.move rfl rfl).read ?_
          refine Sq.quiet (i := 31) rfl (Want.yes rfl rfl rfl rfl) rfl (ltN rfl) (QP.move rfl rfl).read ?_
          refine Sq.quiet (i := 32) rfl (Want.yes rfl rfl rfl rfl) rfl (ltN rfl) (QP.eql rfl rfl rfl).read ?_
          refine J.caseD (fun c53 => ?_) (fun c53 => ?_)
          ·skip
           refine Sq.quiet (i := 33) rfl (Want.none rfl) rfl (ltN rfl) (QP.pick_f rfl rfl rfl).read ?_
           refine Sq.quiet (i := 34) rfl (Want.none rfl) rfl (ltN rfl) (QP.not rfl rfl).read ?_
           refine Sq.nil ?_
           refine hk13 _ _ ?_
           refine Run.cond_f rfl ?_
           refine Run.skip ?_
           refine hk11 _ _ ?_
           refine Run.region ?_
           show Sq _ _ _ [0, 1, 2] _ _ _ _
           refine Sq.quiet (i := 0) rfl (Want.none rfl) rfl (ltN rfl) (QP.move rfl rfl).read ?_
           refine Sq.quiet (i := 1) rfl (Want.none rfl) rfl (ltN rfl) (QP.add64 rfl rfl rfl (by first | omega | (simp <;> omega)) (by first | omega | (simp <;> omega))).read ?_
           refine Sq.quiet (i := 2) rfl (Want.none rfl) rfl (ltN rfl) (QP.assign rfl rfl).read ?_
           refine Sq.nil ?_
           exact J.envJ (J.keep Takes.nil (hl8 (i + 1) (⟨by omega, hsz⟩) (by omega))) ⟨rfl, rfl, trivial⟩
          ·skip
           refine Sq.quiet (i := 33) rfl (Want.none rfl) rfl (ltN rfl) (QP.pick_f rfl rfl rfl).read ?_
           refine Sq.quiet (i := 34) rfl (Want.none rfl) rfl (ltN rfl) (QP.not rfl rfl).read ?_
           refine Sq.nil ?_
           refine hk13 _ _ ?_
           refine Run.cond_t rfl ?_
           refine Run.seq fun k20 hk20 => ?_
           refine Run.region ?_
           show Sq _ _ _ [0] _ _ _ _
           refine Sq.quiet (i := 0) rfl (Want.none rfl) rfl (ltN rfl) (QP.assign rfl rfl).read ?_
           refine Sq.nil ?_
           refine hk20 _ _ ?_
           refine Run.ret ?_
           exact J.ends (res_tmp rfl rfl) Takes.nil ⟨_, rfl, rfl⟩
      ·skip
       refine Sq.quiet (i := 17) rfl (Want.yes rfl rfl rfl rfl) rfl (ltN rfl) (QP.move rfl rfl).read ?_
       refine Sq.skip (i := 18) rfl (Want.no rfl rfl rfl rfl) rfl (ltN rfl) ?_
       refine Sq.skip (i := 19) rfl (Want.no rfl rfl rfl rfl) rfl (ltN rfl) ?_
       refine Sq.quiet (i := 20) rfl (Want.yes rfl rfl rfl rfl) rfl (ltN rfl) (QP.pick_f rfl rfl rfl).read ?_
       refine Sq.quiet (i := 21) rfl (Want.none rfl) rfl (ltN rfl) (QP.pick_f rfl rfl rfl).read ?_
       refine Sq.quiet (i := 22) rfl (Want.none rfl) rfl (ltN rfl) (QP.move rfl rfl).read ?_
       refine Sq.quiet (i := 23) rfl (Want.yes rfl rfl rfl rfl) rfl (ltN rfl) (QP.move rfl rfl).read ?_
       refine Sq.quiet (i := 24) rfl (Want.yes rfl rfl rfl rfl) rfl (ltN rfl) (QP.eql rfl rfl rfl).read ?_
       refine J.caseD (fun c45 => ?_) (fun c45 => ?_)
       ·skip
        refine Sq.quiet (i := 25) rfl (Want.none rfl) rfl (ltN rfl) (QP.pick_f rfl rfl rfl).read ?_
        refine Sq.quiet (i := 26) rfl (Want.none rfl) rfl (ltN rfl) (QP.move rfl rfl).read ?_
        refine Sq.skip (i := 27) rfl (Want.no rfl rfl rfl rfl) rfl (ltN rfl) ?_
        refine Sq.skip (i := 28) rfl (Want.no rfl rfl rfl rfl) rfl (ltN rfl) ?_
        refine Sq.quiet (i := 29) rfl (Want.none rfl) rfl (ltN rfl) (QP.pick_t rfl rfl rfl).read ?_
        refine Sq.quiet (i := 30) rfl (Want.none rfl) rfl (ltN rfl) (QP.move rfl rfl).read ?_
        refine Sq.skip (i := 31) rfl (Want.no rfl rfl rfl rfl) rfl (ltN rfl) ?_
        refine Sq.skip (i := 32) rfl (Want.no rfl rfl rfl rfl) rfl (ltN rfl) ?_
        refine Sq.quiet (i := 33) rfl (Want.none rfl) rfl (ltN rfl) (QP.pick_t rfl rfl rfl).read ?_
        refine Sq.quiet (i := 34) rfl (Want.none rfl) rfl (ltN rfl) (QP.not rfl rfl).read ?_
        refine Sq.nil ?_
        refine hk13 _ _ ?_
        refine Run.cond_f rfl ?_
        refine Run.skip ?_
        refine hk11 _ _ ?_
        refine Run.region ?_
        show Sq _ _ _ [0, 1, 2] _ _ _ _
        refine Sq.quiet (i := 0) rfl (Want.none rfl) rfl (ltN rfl) (QP.move rfl rfl).read ?_
        refine Sq.quiet (i := 1) rfl (Want.none rfl) rfl (ltN rfl) (QP.add64 rfl rfl rfl (by first | omega | (simp <;> omega)) (by first | omega | (simp <;> omega))).read ?_
        refine Sq.quiet (i := 2) rfl (Want.none rfl) rfl (ltN rfl) (QP.assign rfl rfl).read ?_
        refine Sq.nil ?_
        exact J.envJ (J.keep Takes.nil (hl8 (i + 1) (⟨by omega, hsz⟩) (by omega))) ⟨rfl, rfl, trivial⟩
       ·skip
        refine Sq.quiet (i := 25) rfl (Want.none rfl) rfl (ltN rfl) (QP.pick_f rfl rfl rfl).read ?_
        refine Sq.quiet (i := 26) rfl (Want.none rfl) rfl (ltN rfl) (QP.move rfl rfl).read ?_
        refine Sq.quiet (i := 27) rfl (Want.yes rfl rfl rfl rfl) rfl (ltN rfl) (QP.move rfl rfl).read ?_
        refine Sq.quiet (i := 28) rfl (Want.yes rfl rfl rfl rfl) rfl (ltN rfl) (QP.eql rfl rfl rfl).read ?_
        refine J.caseD (fun c49 => ?_) (fun c49 => ?_)
        ·skip
         refine Sq.quiet (i := 29) rfl (Want.none rfl) rfl (ltN rfl) (QP.pick_f rfl rfl rfl).read ?_
         refine Sq.quiet (i := 30) rfl (Want.none rfl) rfl (ltN rfl) (QP.move rfl rfl).read ?_
         refine Sq.skip (i := 31) rfl (Want.no rfl rfl rfl rfl) rfl (ltN rfl) ?_
         refine Sq.skip (i := 32) rfl (Want.no rfl rfl rfl rfl) rfl (ltN rfl) ?_
         refine Sq.quiet (i := 33) rfl (Want.none rfl) rfl (ltN rfl) (QP.pick_t rfl rfl rfl).read ?_
         refine Sq.quiet (i := 34) rfl (Want.none rfl) rfl (ltN rfl) (QP.not rfl rfl).read ?_
         refine Sq.nil ?_
         refine hk13 _ _ ?_
         refine Run.cond_f rfl ?_
         refine Run.skip ?_
         refine hk11 _ _ ?_
         refine Run.region ?_
         show Sq _ _ _ [0, 1, 2] _ _ _ _
         refine Sq.quiet (i := 0) rfl (Want.none rfl) rfl (ltN rfl) (QP.move rfl rfl).read ?_
         refine Sq.quiet (i := 1) rfl (Want.none rfl) rfl (ltN rfl) (QP.add64 rfl rfl rfl (by first | omega | (simp <;> omega)) (by first | omega | (simp <;> omega))).read ?_
         refine Sq.quiet (i := 2) rfl (Want.none rfl) rfl (ltN rfl) (QP.assign rfl rfl).read ?_
         refine Sq.nil ?_
         exact J.envJ (J.keep Takes.nil (hl8 (i + 1) (⟨by omega, hsz⟩) (by omega))) ⟨rfl, rfl, trivial⟩
        ·skip
         refine Sq.quiet (i := 29) rfl (Want.none rfl) rfl (ltN rfl) (QP.pick_f rfl rfl rfl).read ?_
         refine Sq.quiet (i := 30) rfl (Want.none rfl) rfl (ltN rfl) (QP.move rfl rfl).read ?_
         refine Sq.quiet (i := 31) rfl (Want.yes rfl rfl rfl rfl) rfl (ltN rfl) (QP.move rfl rfl).read ?_
         refine Sq.quiet (i := 32) rfl (Want.yes rfl rfl rfl rfl) rfl (ltN rfl) (QP.eql rfl rfl rfl).read ?_
         refine J.caseD (fun c53 => ?_) (fun c53 => ?_)
         ·skip
          refine Sq.quiet (i := 33) rfl (Want.none rfl) rfl (ltN rfl) (QP.pick_f rfl rfl rfl).read ?_
          refine Sq.quiet (i := 34) rfl (Want.none rfl) rfl (ltN rfl) (QP.not rfl rfl).read ?_
          refine Sq.nil ?_
          refine hk13 _ _ ?_
          refine Run.cond_f rfl ?_
          refine Run.skip ?_
          refine hk11 _ _ ?_
          refine Run.region ?_
          show Sq _ _ _ [0, 1, 2] _ _ _ _
          refine Sq.quiet (i := 0) rfl (Want.none rfl) rfl (ltN rfl) (QP.move rfl rfl).read ?_
          refine Sq.quiet (i := 1) rfl (Want.none rfl) rfl (ltN rfl) (QP.add64 rfl rfl rfl (by first | omega | (simp <;> omega)) (by first | omega | (simp <;> omega))).read ?_
          refine Sq.quiet (i := 2) rfl (Want.none rfl) rfl (ltN rfl) (QP.assign rfl rfl).read ?_
          refine Sq.nil ?_
          exact J.envJ (J.keep Takes.nil (hl8 (i + 1) (⟨by omega, hsz⟩) (by omega))) ⟨rfl, rfl, trivial⟩
         ·skip
          refine Sq.quiet (i := 33) rfl (Want.none rfl) rfl (ltN rfl) (QP.pick_f rfl rfl rfl).read ?_
          refine Sq.quiet (i := 34) rfl (Want.none rfl) rfl (ltN rfl) (QP.not rfl rfl).read ?_
          refine Sq.nil ?_
          refine hk13 _ _ ?_
          refine Run.cond_t rfl ?_
          refine Run.seq fun k21 hk21 => ?_
          refine Run.region ?_
          show Sq _ _ _ [0] _ _ _ _
          refine Sq.quiet (i := 0) rfl (Want.none rfl) rfl (ltN rfl) (QP.assign rfl rfl).read ?_
          refine Sq.nil ?_
          refine hk21 _ _ ?_
          refine Run.ret ?_
          exact J.ends (res_tmp rfl rfl) Takes.nil ⟨_, rfl, rfl⟩
   ·skip
    refine Sq.nil ?_
    refine hk10 _ _ ?_
    refine Run.cond_f rfl ?_
    refine Run.exit rfl ?_
    refine hk6 _ _ ?_
    refine Run.seq fun k22 hk22 => ?_
    refine Run.region ?_
    show Sq _ _ _ [0] _ _ _ _
    refine Sq.quiet (i := 0) rfl (Want.none rfl) rfl (ltN rfl) (QP.assign rfl rfl).read ?_
    refine Sq.nil ?_
    refine hk22 _ _ ?_
    refine Run.ret ?_
    exact J.ends (res_tmp rfl rfl) Takes.nil ⟨_, rfl, rfl⟩

theorem rlocal_spec (F : Fr) (x : Bs 16) : Spec Try.prog 55 #[.agg (Bs.enc x).toArray] [] F (fun v S => ∃ r, v = .bool r ∧ (r = true → x.l[0]? = some 254) ∧ S = []) := by
 refine Spec.intro (N := 36) (args := [.agg (Bs.enc x).toArray]) Try.func55 rfl rfl (by simp) ?_
 refine Run.seq fun k1 hk1 => ?_
 refine Run.region ?_
 show Sq _ _ _ [0, 1] _ _ _ _
 refine Sq.eff (i := 0) rfl (Want.none rfl) rfl (ltN rfl) (EF.boxA rfl rfl) ?_
 rintro _ _ ⟨b1, rfl, rfl⟩
 refine Sq.quiet (i := 1) rfl (Want.none rfl) rfl (ltN rfl) (QP.assign rfl rfl).read ?_
 refine Sq.nil ?_
 refine hk1 _ _ ?_
 refine Run.seq fun k2 hk2 => ?_
 refine Run.seq fun k3 hk3 => ?_
 refine Run.region ?_
 show Sq _ _ _ [0] _ _ _ _
 refine Sq.quiet (i := 0) rfl (Want.none rfl) rfl (ltN rfl) (QP.assign rfl rfl).read ?_
 refine Sq.nil ?_
 refine hk3 _ _ ?_
 refine Run.block ?_
 refine Run.loop1 (fun (i : Nat) => i ≤ 8 ∧ (0 < i → x.l[0]? = some 254)) (fun i => .cons 1 (.pointer (some ⟨b1, 0, none⟩)) (.cons 3 (.int .i64 i) (.nil))) (fun i => [blk b1 (Bs.enc x) 29]) (fun i => 8 - i) (0) (⟨Nat.zero_le _, fun h => absurd h (by omega)⟩) ?_ ?_
 ·exact fun _ j => J.envJ (J.keep (.cons (by repeat constructor) Takes.nil) j) ⟨rfl, rfl, trivial⟩
 rintro i ⟨hile, hall⟩ kl4 hl4
 refine Run.seq fun k5 hk5 => ?_
 refine Run.seq fun k6 hk6 => ?_
 refine Run.region ?_
 show Sq _ _ _ [0, 1] _ _ _ _
 refine Sq.quiet (i := 0) rfl (Want.none rfl) rfl (ltN rfl) (QP.move rfl rfl).read ?_
 refine Sq.quiet (i := 1) rfl (Want.none rfl) rfl (ltN rfl) (QP.lss rfl rfl rfl).read ?_
 refine J.caseD (fun c5 => ?_) (fun c5 => ?_)
 ·skip
  refine Sq.nil ?_
  refine hk6 _ _ ?_
  refine Run.cond_t rfl ?_
  refine Run.skip ?_
  refine hk5 _ _ ?_
  refine Run.seq fun k7 hk7 => ?_
  refine Run.block ?_
  refine Run.seq fun k8 hk8 => ?_
  refine Run.region ?_
  show Sq _ _ _ [0, 1, 2, 3, 4, 5, 6, 7, 8, 9, 10, 11, 12, 13, 14, 15, 16, 17, 18, 19, 20, 21, 22, 23, 24, 25, 26, 27] _ _ _ _
  obtain ⟨u, hx⟩ : ∃ u, x.l[i]? = some u := ⟨_, List.getElem?_eq_getElem (by rw [x.h]; omega)⟩
  refine Sq.quiet (i := 0) rfl (Want.none rfl) rfl (ltN rfl) (QP.move rfl rfl).read ?_
  refine Sq.quiet (i := 1) rfl (Want.none rfl) rfl (ltN rfl) (QP.eql rfl rfl rfl).read ?_
  refine J.caseD (fun c9 => ?_) (fun c9 => ?_)
  ·skip
   refine Sq.quiet (i := 2) rfl (Want.none rfl) rfl (ltN rfl) (QP.move rfl rfl).read ?_
   refine Sq.quiet (i := 3) rfl (Want.yes rfl rfl rfl rfl) rfl (ltN rfl) (QP.move rfl rfl).read ?_
   refine Sq.quiet (i := 4) rfl (Want.yes rfl rfl rfl rfl) rfl (ltN rfl) (QP.indexArr rfl rfl rfl Try.underlying29 z5 (by omega) (by omega)).read ?_
   refine Sq.quiet (i := 5) rfl (Want.yes rfl rfl rfl rfl) rfl (ltN rfl) (QR.load1 rfl rfl g5 (bs_at x hx)) ?_
   refine Sq.quiet (i := 6) rfl (Want.yes rfl rfl rfl rfl) rfl (ltN rfl) (QP.neq rfl rfl rfl).read ?_
   refine J.caseD (fun c14 => ?_) (fun c14 => ?_)
   ·skip
    refine Sq.quiet (i := 7) rfl (Want.none rfl) rfl (ltN rfl) (QP.pick_t rfl rfl rfl).read ?_
    refine Sq.quiet (i := 8) rfl (Want.none rfl) rfl (ltN rfl) (QP.move rfl rfl).read ?_
    refine Sq.skip (i := 9) rfl (Want.no rfl rfl rfl rfl) rfl (ltN rfl) ?_
    refine Sq.skip (i := 10) rfl (Want.no rfl rfl rfl rfl) rfl (ltN rfl) ?_
    refine Sq.skip (i := 11) rfl (Want.no rfl rfl rfl rfl) rfl (ltN rfl) ?_
    refine Sq.skip (i := 12) rfl (Want.undef rfl rfl rfl) rfl (ltN rfl) ?_
    refine Sq.skip (i := 13) rfl (Want.undef rfl rfl rfl) rfl (ltN rfl) ?_
    refine Sq.skip (i := 14) rfl (Want.undef rfl rfl rfl) rfl (ltN rfl) ?_
    refine Sq.skip (i := 15) rfl (Want.undef rfl rfl rfl) rfl (ltN rfl) ?_
    refine Sq.skip (i := 16) rfl (Want.no rfl rfl rfl rfl) rfl (ltN rfl) ?_
    refine Sq.quiet (i := 17) rfl (Want.none rfl) rfl (ltN rfl) (QP.pick_t rfl rfl rfl).read ?_
    refine Sq.quiet (i := 18) rfl (Want.none rfl) rfl (ltN rfl) (QP.move rfl rfl).read ?_
    refine Sq.skip (i := 19) rfl (Want.no rfl rfl rfl rfl) rfl (ltN rfl) ?_
    refine Sq.skip (i := 20) rfl (Want.no rfl rfl rfl rfl) rfl (ltN rfl) ?_
    refine Sq.skip (i := 21) rfl (Want.no rfl rfl rfl rfl) rfl (ltN rfl) ?_
    refine Sq.skip (i := 22) rfl (Want.undef rfl rfl rfl) rfl (ltN rfl) ?_
    refine Sq.skip (i := 23) rfl (Want.undef rfl rfl rfl) rfl (ltN rfl) ?_
    refine Sq.skip (i := 24) rfl (Want.undef rfl rfl rfl) rfl (ltN rfl) ?_
    refine Sq.skip (i := 25) rfl (Want.undef rfl rfl rfl) rfl (ltN rfl) ?_
    refine Sq.skip (i := 26) rfl (Want.no rfl rfl rfl rfl) rfl (ltN rfl) ?_
    refine Sq.quiet (i := 27) rfl (Want.none rfl) rfl (ltN rfl) (QP.pick_t rfl rfl rfl).read ?_
    refine Sq.nil ?_
    refine hk8 _ _ ?_
    refine Run.cond_t rfl ?_
    refine Run.seq fun k9 hk9 => ?_
    refine Run.region ?_
    show Sq _ _ _ [0] _ _ _ _
    refine Sq.quiet (i := 0) rfl (Want.none rfl) rfl (ltN rfl) (QP.assign rfl rfl).read ?_
    refine Sq.nil ?_
    refine hk9 _ _ ?_
    refine Run.ret ?_
    exact J.ends (res_tmp rfl rfl) Takes.nil ⟨false, rfl, fun h => (by cases h), rfl⟩
   ·skip
    refine Sq.quiet (i := 7) rfl (Want.none rfl) rfl (ltN rfl) (QP.pick_t rfl rfl rfl).read ?_
    refine Sq.quiet (i := 8) rfl (Want.none rfl) rfl (ltN rfl) (QP.move rfl rfl).read ?_
    refine Sq.quiet (i := 9) rfl (Want.yes rfl rfl rfl rfl) rfl (ltN rfl) (QP.move rfl rfl).read ?_
    refine Sq.quiet (i := 10) rfl (Want.yes rfl rfl rfl rfl) rfl (ltN rfl) (QP.eql rfl rfl rfl).read ?_
    refine J.caseD (fun c18 => ?_) (fun c18 => ?_)
    ·skip
     refine Sq.quiet (i := 11) rfl (Want.yes rfl rfl rfl rfl) rfl (ltN rfl) (QP.move rfl rfl).read ?_
     refine Sq.quiet (i := 12) rfl (Want.yes rfl rfl rfl rfl) rfl (ltN rfl) (QP.move rfl rfl).read ?_
     refine Sq.quiet (i := 13) rfl (Want.yes rfl rfl rfl rfl) rfl (ltN rfl) (QP.indexArr rfl rfl rfl Try.underlying29 z5 (by omega) (by omega)).read ?_
     refine Sq.quiet (i := 14) rfl (Want.yes rfl rfl rfl rfl) rfl (ltN rfl) (QR.load1 rfl rfl g5 (bs_at x hx)) ?_
     refine Sq.quiet (i := 15) rfl (Want.yes rfl rfl rfl rfl) rfl (ltN rfl) (QP.neq rfl rfl rfl).read ?_
     refine J.caseD (fun c23 => ?_) (fun c23 => ?_)
     ·skip
      refine Sq.quiet (i := 16) rfl (Want.yes rfl rfl rfl rfl) rfl (ltN rfl) (QP.pick_t rfl rfl rfl).read ?_
      refine Sq.quiet (i := 17) rfl (Want.none rfl) rfl (ltN rfl) (QP.pick_f rfl rfl rfl).read ?_
      refine Sq.quiet (i := 18) rfl (Want.none rfl) rfl (ltN rfl) (QP.move rfl rfl).read ?_
      refine Sq.skip (i := 19) rfl (Want.no rfl rfl rfl rfl) rfl (ltN rfl) ?_
      refine Sq.skip (i := 20) rfl (Want.no rfl rfl rfl rfl) rfl (ltN rfl) ?_
      refine Sq.skip (i := 21) rfl (Want.no rfl rfl rfl rfl) rfl (ltN rfl) ?_
      refine Sq.skip (i := 22) rfl (Want.undef rfl rfl rfl) rfl (ltN rfl) ?_
      refine Sq.skip (i := 23) rfl (Want.undef rfl rfl rfl) rfl (ltN rfl) ?_
      refine Sq.skip (i := 24) rfl (Want.undef rfl rfl rfl) rfl (ltN rfl) ?_
      refine Sq.skip (i := 25) rfl (Want.undef rfl rfl rfl) rfl (ltN rfl) ?_
      refine Sq.skip (i := 26) rfl (Want.no rfl rfl rfl rfl) rfl (ltN rfl) ?_
      refine Sq.quiet (i := 27) rfl (Want.none rfl) rfl (ltN rfl) (QP.pick_t rfl rfl rfl).read ?_
      refine Sq.nil ?_
      refine hk8 _ _ ?_
      refine Run.cond_t rfl ?_
      refine Run.seq fun k10 hk10 => ?_
      refine Run.region ?_
      show Sq _ _ _ [0] _ _ _ _
      refine Sq.quiet (i := 0) rfl (Want.none rfl) rfl (ltN rfl) (QP.assign rfl rfl).read ?_
      refine Sq.nil ?_
      refine hk10 _ _ ?_
      refine Run.ret ?_
      exact J.ends (res_tmp rfl rfl) Takes.nil ⟨false, rfl, fun h => (by cases h), rfl⟩
     ·skip
      refine Sq.quiet (i := 16) rfl (Want.yes rfl rfl rfl rfl) rfl (ltN rfl) (QP.pick_t rfl rfl rfl).read ?_
      refine Sq.quiet (i := 17) rfl (Want.none rfl) rfl (ltN rfl) (QP.pick_f rfl rfl rfl).read ?_
      refine Sq.quiet (i := 18) rfl (Want.none rfl) rfl (ltN rfl) (QP.move rfl rfl).read ?_
      refine Sq.quiet (i := 19) rfl (Want.yes rfl rfl rfl rfl) rfl (ltN rfl) (QP.move rfl rfl).read ?_
      refine Sq.quiet (i := 20) rfl (Want.yes rfl rfl rfl rfl) rfl (ltN rfl) (QP.gtr rfl rfl rfl).read ?_
      refine J.caseD (fun c28 => ?_) (fun c28 => ?_)
      ·skip
       refine Sq.quiet (i := 21) rfl (Want.yes rfl rfl rfl rfl) rfl (ltN rfl) (QP.move rfl rfl).read ?_
       refine Sq.quiet (i := 22) rfl (Want.yes rfl rfl rfl rfl) rfl (ltN rfl) (QP.move rfl rfl).read ?_
       refine Sq.quiet (i := 23) rfl (Want.yes rfl rfl rfl rfl) rfl (ltN rfl) (QP.indexArr rfl rfl rfl Try.underlying29 z5 (by omega) (by omega)).read ?_
       refine Sq.quiet (i := 24) rfl (Want.yes rfl rfl rfl rfl) rfl (ltN rfl) (QR.load1 rfl rfl g5 (bs_at x hx)) ?_
       refine Sq.quiet (i := 25) rfl (Want.yes rfl rfl rfl rfl) rfl (ltN rfl) (QP.neq rfl rfl rfl).read ?_
       refine J.caseD (fun c33 => ?_) (fun c33 => ?_)
       ·skip
        refine Sq.quiet (i := 26) rfl (Want.yes rfl rfl rfl rfl) rfl (ltN rfl) (QP.pick_t rfl rfl rfl).read ?_
        refine Sq.quiet (i := 27) rfl (Want.none rfl) rfl (ltN rfl) (QP.pick_f rfl rfl rfl).read ?_
        refine Sq.nil ?_
        refine hk8 _ _ ?_
        refine Run.cond_t rfl ?_
        refine Run.seq fun k11 hk11 => ?_
        refine Run.region ?_
        show Sq _ _ _ [0] _ _ _ _
        refine Sq.quiet (i := 0) rfl (Want.none rfl) rfl (ltN rfl) (QP.assign rfl rfl).read ?_
        refine Sq.nil ?_
        refine hk11 _ _ ?_
        refine Run.ret ?_
        exact J.ends (res_tmp rfl rfl) Takes.nil ⟨false, rfl, fun h => (by cases h), rfl⟩
       ·skip
        refine Sq.quiet (i := 26) rfl (Want.yes rfl rfl rfl rfl) rfl (ltN rfl) (QP.pick_t rfl rfl rfl).read ?_
        refine Sq.quiet (i := 27) rfl (Want.none rfl) rfl (ltN rfl) (QP.pick_f rfl rfl rfl).read ?_
        refine Sq.nil ?_
        refine hk8 _ _ ?_
        refine Run.cond_f rfl ?_
        refine Run.skip ?_
        refine hk7 _ _ ?_
        refine Run.region ?_
        show Sq _ _ _ [0, 1, 2] _ _ _ _
        refine Sq.quiet (i := 0) rfl (Want.none rfl) rfl (ltN rfl) (QP.move rfl rfl).read ?_
        refine Sq.quiet (i := 1) rfl (Want.none rfl) rfl (ltN rfl) (QP.add64 rfl rfl rfl (by first | omega | (simp <;> omega)) (by first | omega | (simp <;> omega))).read ?_
        refine Sq.quiet (i := 2) rfl (Want.none rfl) rfl (ltN rfl) (QP.assign rfl rfl).read ?_
        refine Sq.nil ?_
        exact J.envJ (J.keep (.cons (by repeat constructor) Takes.nil) (hl4 (i + 1) (⟨by omega, fun _ => by have hi0 : i = 0 := (by omega); subst hi0; rw [hx, byte_eq (t := 254) (Classical.not_not.1 c14)]⟩) (by omega))) ⟨rfl, rfl, trivial⟩
      ·skip
       refine Sq.quiet (i := 21) rfl (Want.yes rfl rfl rfl rfl) rfl (ltN rfl) (QP.move rfl rfl).read ?_
       refine Sq.skip (i := 22) rfl (Want.no rfl rfl rfl rfl) rfl (ltN rfl) ?_
       refine Sq.skip (i := 23) rfl (Want.no rfl rfl rfl rfl) rfl (ltN rfl) ?_
       refine Sq.skip (i := 24) rfl (Want.no rfl rfl rfl rfl) rfl (ltN rfl) ?_
       refine Sq.skip (i := 25) rfl (Want.no rfl rfl rfl rfl) rfl (ltN rfl) ?_
       refine Sq.quiet (i := 26) rfl (Want.yes rfl rfl rfl rfl) rfl (ltN rfl) (QP.pick_f rfl rfl rfl).read ?_
       refine Sq.quiet (i := 27) rfl (Want.none rfl) rfl (ltN rfl) (QP.pick_f rfl rfl rfl).read ?_
       refine Sq.nil ?_
       refine hk8 _ _ ?_
       refine Run.cond_f rfl ?_
       refine Run.skip ?_
       refine hk7 _ _ ?_
       refine Run.region ?_
       show Sq _ _ _ [0, 1, 2] _ _ _ _
       refine Sq.quiet (i := 0) rfl (Want.none rfl) rfl (ltN rfl) (QP.move rfl rfl).read ?_
       refine Sq.quiet (i := 1) rfl (Want.none rfl) rfl (ltN rfl) (QP.add64 rfl rfl rfl (by first | omega | (simp <;> omega)) (by first | omega | (simp <;> omega))).read ?_
       refine Sq.quiet (i := 2) rfl (Want.none rfl) rfl (ltN rfl) (QP.assign rfl rfl).read ?_
       refine Sq.nil ?_
       exact J.envJ (J.keep (.cons (by repeat constructor) Takes.nil) (hl4 (i + 1) (⟨by omega, fun _ => by have hi0 : i = 0 := (by omega); subst hi0; rw [hx, byte_eq (t := 254) (Classical.not_not.1 c14)]⟩) (by omega))) ⟨rfl, rfl, trivial⟩
    ·skip
     refine Sq.quiet (i := 11) rfl (Want.yes rfl rfl rfl rfl) rfl (ltN rfl) (QP.move rfl rfl).read ?_
     refine Sq.skip (i := 12) rfl (Want.no rfl rfl rfl rfl) rfl (ltN rfl) ?_
     refine Sq.skip (i := 13) rfl (Want.no rfl rfl rfl rfl) rfl (ltN rfl) ?_
     refine Sq.skip (i := 14) rfl (Want.no rfl rfl rfl rfl) rfl (ltN rfl) ?_
     refine Sq.skip (i := 15) rfl (Want.no rfl rfl rfl rfl) rfl (ltN rfl) ?_
     refine Sq.quiet (i := 16) rfl (Want.yes rfl rfl rfl rfl) rfl (ltN rfl) (QP.pick_f rfl rfl rfl).read ?_
     refine Sq.quiet (i := 17) rfl (Want.none rfl) rfl (ltN rfl) (QP.pick_f rfl rfl rfl).read ?_
     refine Sq.quiet (i := 18) rfl (Want.none rfl) rfl (ltN rfl) (QP.move rfl rfl).read ?_
     refine Sq.quiet (i := 19) rfl (Want.yes rfl rfl rfl rfl) rfl (ltN rfl) (QP.move rfl rfl).read ?_
     refine Sq.quiet (i := 20) rfl (Want.yes rfl rfl rfl rfl) rfl (ltN rfl) (QP.gtr rfl rfl rfl).read ?_
     refine J.caseD (fun c28 => ?_) (fun c28 => ?_)
     ·skip
      refine Sq.quiet (i := 21) rfl (Want.yes rfl rfl rfl rfl) rfl (ltN rfl) (QP.move rfl rfl).read ?_
      refine Sq.quiet (i := 22) rfl (Want.yes rfl rfl rfl rfl) rfl (ltN rfl) (QP.move rfl rfl).read ?_
      refine Sq.quiet (i := 23) rfl (Want.yes rfl rfl rfl rfl) rfl (ltN rfl) (QP.indexArr rfl rfl rfl Try.underlying29 z5 (by omega) (by omega)).read ?_
      refine Sq.quiet (i := 24) rfl (Want.yes rfl rfl rfl rfl) rfl (ltN rfl) (QR.load1 rfl rfl g5 (bs_at x hx)) ?_
      refine Sq.quiet (i := 25) rfl (Want.yes rfl rfl rfl rfl) rfl (ltN rfl) (QP.neq rfl rfl rfl).read ?_
      refine J.caseD (fun c33 => ?_) (fun c33 => ?_)
      ·skip
       refine Sq.quiet (i := 26) rfl (Want.yes rfl rfl rfl rfl) rfl (ltN rfl) (QP.pick_t rfl rfl rfl).read ?_
       refine Sq.quiet (i := 27) rfl (Want.none rfl) rfl (ltN rfl) (QP.pick_f rfl rfl rfl).read ?_
       refine Sq.nil ?_
       refine hk8 _ _ ?_
       refine Run.cond_t rfl ?_
       refine Run.seq fun k12 hk12 => ?_
       refine Run.region ?_
       show Sq _ _ _ [0] _ _ _ _
       refine Sq.quiet (i := 0) rfl (Want.none rfl) rfl (ltN rfl) (QP.assign rfl rfl).read ?_
       refine Sq.nil ?_
       refine hk12 _ _ ?_
       refine Run.ret ?_
       exact J.ends (res_tmp rfl rfl) Takes.nil ⟨false, rfl, fun h => (by cases h), rfl⟩
      ·skip
       refine Sq.quiet (i := 26) rfl (Want.yes rfl rfl rfl rfl) rfl (ltN rfl) (QP.pick_t rfl rfl rfl).read ?_
       refine Sq.quiet (i := 27) rfl (Want.none rfl) rfl (ltN rfl) (QP.pick_f rfl rfl rfl).read ?_
       refine Sq.nil ?_
       refine hk8 _ _ ?_
       refine Run.cond_f rfl ?_
       refine Run.skip ?_
       refine hk7 _ _ ?_
       refine Run.region ?_
       show Sq _ _ _ [0, 1, 2] _ _ _ _
       refine Sq.quiet (i := 0) rfl (Want.none rfl) rfl (ltN rfl) (QP.move rfl rfl).read ?_
       refine Sq.quiet (i := 1) rfl (Want.none rfl) rfl (ltN rfl) (QP.add64 rfl rfl rfl (by first | omega | (simp <;> omega)) (by first | omega | (simp <;> omega))).read ?_
       refine Sq.quiet (i := 2) rfl (Want.none rfl) rfl (ltN rfl) (QP.assign rfl rfl).read ?_
       refine Sq.nil ?_
       exact J.envJ (J.keep (.cons (by repeat constructor) Takes.nil) (hl4 (i + 1) (⟨by omega, fun _ => by have hi0 : i = 0 := (by omega); subst hi0; rw [hx, byte_eq (t := 254) (Classical.not_not.1 c14)]⟩) (by omega))) ⟨rfl, rfl, trivial⟩
     ·skip
      refine Sq.quiet (i := 21) rfl (Want.yes rfl rfl rfl rfl) rfl (ltN rfl) (QP.move rfl rfl).read ?_
      refine Sq.skip (i := 22) rfl (Want.no rfl rfl rfl rfl) rfl (ltN rfl) ?_
      refine Sq.skip (i := 23) rfl (Want.no rfl rfl rfl rfl) rfl (ltN rfl) ?_
      refine Sq.skip (i := 24) rfl (Want.no rfl rfl rfl rfl) rfl (ltN rfl) ?_
      refine Sq.skip (i := 25) rfl (Want.no rfl rfl rfl rfl) rfl (ltN rfl) ?_
      refine Sq.quiet (i := 26) rfl (Want.yes rfl rfl rfl rfl) rfl (ltN rfl) (QP.pick_f rfl rfl rfl).read ?_
      refine Sq.quiet (i := 27) rfl (Want.none rfl) rfl (ltN rfl) (QP.pick_f rfl rfl rfl).read ?_
      refine Sq.nil ?_
      refine hk8 _ _ ?_
      refine Run.cond_f rfl ?_
      refine Run.skip ?_
      refine hk7 _ _ ?_
      refine Run.region ?_
      show Sq _ _ _ [0, 1, 2] _ _ _ _
      refine Sq.quiet (i := 0) rfl (Want.none rfl) rfl (ltN rfl) (QP.move rfl rfl).read ?_
      refine Sq.quiet (i := 1) rfl (Want.none rfl) rfl (ltN rfl) (QP.add64 rfl rfl rfl (by first | omega | (simp <;> omega)) (by first | omega | (simp <;> omega))).read ?_
      refine Sq.quiet (i := 2) rfl (Want.none rfl) rfl (ltN rfl) (QP.assign rfl rfl).read ?_
      refine Sq.nil ?_
      exact J.envJ (J.keep (.cons (by repeat constructor) Takes.nil) (hl4 (i + 1) (⟨by omega, fun _ => by have hi0 : i = 0 := (by omega); subst hi0; rw [hx, byte_eq (t := 254) (Classical.not_not.1 c14)]⟩) (by omega))) ⟨rfl, rfl, trivial⟩
  ·skip
   refine Sq.quiet (i := 2) rfl (Want.none rfl) rfl (ltN rfl) (QP.move rfl rfl).read ?_
   refine Sq.skip (i := 3) rfl (Want.no rfl rfl rfl rfl) rfl (ltN rfl) ?_
   refine Sq.skip (i := 4) rfl (Want.no rfl rfl rfl rfl) rfl (ltN rfl) ?_
   refine Sq.skip (i := 5) rfl (Want.no rfl rfl rfl rfl) rfl (ltN rfl) ?_
   refine Sq.skip (i := 6) rfl (Want.no rfl rfl rfl rfl) rfl (ltN rfl) ?_
   refine Sq.quiet (i := 7) rfl (Want.none rfl) rfl (ltN rfl) (QP.pick_f rfl rfl rfl).read ?_
   refine Sq.quiet (i := 8) rfl (Want.none rfl) rfl (ltN rfl) (QP.move rfl rfl).read ?_
   refine Sq.quiet (i := 9) rfl (Want.yes rfl rfl rfl rfl) rfl (ltN rfl) (QP.move rfl rfl).read ?_
   refine Sq.quiet (i := 10) rfl (Want.yes rfl rfl rfl rfl) rfl (ltN rfl) (QP.eql rfl rfl rfl).read ?_
   refine J.caseD (fun c18 => ?_) (fun c18 => ?_)
   ·skip
    refine Sq.quiet (i := 11) rfl (Want.yes rfl rfl rfl rfl) rfl (ltN rfl) (QP.move rfl rfl).read ?_
    refine Sq.quiet (i := 12) rfl (Want.yes rfl rfl rfl rfl) rfl (ltN rfl) (QP.move rfl rfl).read ?_
    refine Sq.quiet (i := 13) rfl (Want.yes rfl rfl rfl rfl) rfl (ltN rfl) (QP.indexArr rfl rfl rfl Try.underlying29 z5 (by omega) (by omega)).read ?_
    refine Sq.quiet (i := 14) rfl (Want.yes rfl rfl rfl rfl) rfl (ltN rfl) (QR.load1 rfl rfl g5 (bs_at x hx)) ?_
    refine Sq.quiet (i := 15) rfl (Want.yes rfl rfl rfl rfl) rfl (ltN rfl) (QP.neq rfl rfl rfl).read ?_
    refine J.caseD (fun c23 => ?_) (fun c23 => ?_)
    ·skip
     refine Sq.quiet (i := 16) rfl (Want.yes rfl rfl rfl rfl) rfl (ltN rfl) (QP.pick_t rfl rfl rfl).read ?_
     refine Sq.quiet (i := 17) rfl (Want.none rfl) rfl (ltN rfl) (QP.pick_f rfl rfl rfl).read ?_
     refine Sq.quiet (i := 18) rfl (Want.none rfl) rfl (ltN rfl) (QP.move rfl rfl).read ?_
     refine Sq.skip (i := 19) rfl (Want.no rfl rfl rfl rfl) rfl (ltN rfl) ?_
     refine Sq.skip (i := 20) rfl (Want.no rfl rfl rfl rfl) rfl (ltN rfl) ?_
     refine Sq.skip (i := 21) rfl (Want.no rfl rfl rfl rfl) rfl (ltN rfl) ?_
     refine Sq.skip (i := 22) rfl (Want.undef rfl rfl rfl) rfl (ltN rfl) ?_
     refine Sq.skip (i := 23) rfl (Want.undef rfl rfl rfl) rfl (ltN rfl) ?_
     refine Sq.skip (i := 24) rfl (Want.undef rfl rfl rfl) rfl (ltN rfl) ?_
     refine Sq.skip (i := 25) rfl (Want.undef rfl rfl rfl) rfl (ltN rfl) ?_
     refine Sq.skip (i := 26) rfl (Want.no rfl rfl rfl rfl) rfl (ltN rfl) ?_
     refine Sq.quiet (i := 27) rfl (Want.none rfl) rfl (ltN rfl) (QP.pick_t rfl rfl rfl).read ?_
     refine Sq.nil ?_
     refine hk8 _ _ ?_
     refine Run.cond_t rfl ?_
     refine Run.seq fun k13 hk13 => ?_
     refine Run.region ?_
     show Sq _ _ _ [0] _ _ _ _
     refine Sq.quiet (i := 0) rfl (Want.none rfl) rfl (ltN rfl) (QP.assign rfl rfl).read ?_
     refine Sq.nil ?_
     refine hk13 _ _ ?_
     refine Run.ret ?_
     exact J.ends (res_tmp rfl rfl) Takes.nil ⟨false, rfl, fun h => (by cases h), rfl⟩
    ·skip
     refine Sq.quiet (i := 16) rfl (Want.yes rfl rfl rfl rfl) rfl (ltN rfl) (QP.pick_t rfl rfl rfl).read ?_
     refine Sq.quiet (i := 17) rfl (Want.none rfl) rfl (ltN rfl) (QP.pick_f rfl rfl rfl).read ?_
     refine Sq.quiet (i := 18) rfl (Want.none rfl) rfl (ltN rfl) (QP.move rfl rfl).read ?_
     refine Sq.quiet (i := 19) rfl (Want.yes rfl rfl rfl rfl) rfl (ltN rfl) (QP.move rfl rfl).read ?_
     refine Sq.quiet (i := 20) rfl (Want.yes rfl rfl rfl rfl) rfl (ltN rfl) (QP.gtr rfl rfl rfl).read ?_
     refine J.caseD (fun c28 => ?_) (fun c28 => ?_)
     ·skip
      refine Sq.quiet (i := 21) rfl (Want.yes rfl rfl rfl rfl) rfl (ltN rfl) (QP.move rfl rfl).read ?_
      refine Sq.quiet (i := 22) rfl (Want.yes rfl rfl rfl rfl) rfl (ltN rfl) (QP.move rfl rfl).read ?_
      refine Sq.quiet (i := 23) rfl (Want.yes rfl rfl rfl rfl) rfl (ltN rfl) (QP.indexArr rfl rfl rfl Try.underlying29 z5 (by omega) (by omega)).read ?_
      refine Sq.quiet (i := 24) rfl (Want.yes rfl rfl rfl rfl) rfl (ltN rfl) (QR.load1 rfl rfl g5 (bs_at x hx)) ?_
      refine Sq.quiet (i := 25) rfl (Want.yes rfl rfl rfl rfl) rfl (ltN rfl) (QP.neq rfl rfl rfl).read ?_
      refine J.caseD (fun c33 => ?_) (fun c33 => ?_)
      ·skip
       refine Sq.quiet (i := 26) rfl (Want.yes rfl rfl rfl rfl) rfl (ltN rfl) (QP.pick_t rfl rfl rfl).read ?_
       refine Sq.quiet (i := 27) rfl (Want.none rfl) rfl (ltN rfl) (QP.pick_f rfl rfl rfl).read ?_
       refine Sq.nil ?_
       refine hk8 _ _ ?_
       refine Run.cond_t rfl ?_
       refine Run.seq fun k14 hk14 => ?_
       refine Run.region ?_
       show Sq _ _ _ [0] _ _ _ _
       refine Sq.quiet (i := 0) rfl (Want.none rfl) rfl (ltN rfl) (QP.assign rfl rfl).read ?_
       refine Sq.nil ?_
       refine hk14 _ _ ?_
       refine Run.ret ?_
       exact J.ends (res_tmp rfl rfl) Takes.nil ⟨false, rfl, fun h => (by cases h), rfl⟩
      ·skip
       refine Sq.quiet (i := 26) rfl (Want.yes rfl rfl rfl rfl) rfl (ltN rfl) (QP.pick_t rfl rfl rfl).read ?_
       refine Sq.quiet (i := 27) rfl (Want.none rfl) rfl (ltN rfl) (QP.pick_f rfl rfl rfl).read ?_
       refine Sq.nil ?_
       refine hk8 _ _ ?_
       refine Run.cond_f rfl ?_
       refine Run.skip ?_
       refine hk7 _ _ ?_
       refine Run.region ?_
       show Sq _ _ _ [0, 1, 2] _ _ _ _
       refine Sq.quiet (i := 0) rfl (Want.none rfl) rfl (ltN rfl) (QP.move rfl rfl).read ?_
       refine Sq.quiet (i := 1) rfl (Want.none rfl) rfl (ltN rfl) (QP.add64 rfl rfl rfl (by first | omega | (simp <;> omega)) (by first | omega | (simp <;> omega))).read ?_
       refine Sq.quiet (i := 2) rfl (Want.none rfl) rfl (ltN rfl) (QP.assign rfl rfl).read ?_
       refine Sq.nil ?_
       exact J.envJ (J.keep (.cons (by repeat constructor) Takes.nil) (hl4 (i + 1) (⟨by omega, fun _ => hall (by omega)⟩) (by omega))) ⟨rfl, rfl, trivial⟩
     ·skip
      refine Sq.quiet (i := 21) rfl (Want.yes rfl rfl rfl rfl) rfl (ltN rfl) (QP.move rfl rfl).read ?_
      refine Sq.skip (i := 22) rfl (Want.no rfl rfl rfl rfl) rfl (ltN rfl) ?_
      refine Sq.skip (i := 23) rfl (Want.no rfl rfl rfl rfl) rfl (ltN rfl) ?_
      refine Sq.skip (i := 24) rfl (Want.no rfl rfl rfl rfl) rfl (ltN rfl) ?_
      refine Sq.skip (i := 25) rfl (Want.no rfl rfl rfl rfl) rfl (ltN rfl) ?_
      refine Sq.quiet (i := 26) rfl (Want.yes rfl rfl rfl rfl) rfl (ltN rfl) (QP.pick_f rfl rfl rfl).read ?_
      refine Sq.quiet (i := 27) rfl (Want.none rfl) rfl (ltN rfl) (QP.pick_f rfl rfl rfl).read ?_
      refine Sq.nil ?_
      refine hk8 _ _ ?_
      refine Run.cond_f rfl ?_
      refine Run.skip ?_
      refine hk7 _ _ ?_
      refine Run.region ?_
      show Sq _ _ _ [0, 1, 2] _ _ _ _
      refine Sq.quiet (i := 0) rfl (Want.none rfl) rfl (ltN rfl) (QP.move rfl rfl).read ?_
      refine Sq.quiet (i := 1) rfl (Want.none rfl) rfl (ltN rfl) (QP.add64 rfl rfl rfl (by first | omega | (simp <;> omega)) (by first | omega | (simp <;> omega))).read ?_
      refine Sq.quiet (i := 2) rfl (Want.none rfl) rfl (ltN rfl) (QP.assign rfl rfl).read ?_
      refine Sq.nil ?_
      exact J.envJ (J.keep (.cons (by repeat constructor) Takes.nil) (hl4 (i + 1) (⟨by omega, fun _ => hall (by omega)⟩) (by omega))) ⟨rfl, rfl, trivial⟩
   ·skip
    refine Sq.quiet (i := 11) rfl (Want.yes rfl rfl rfl rfl) rfl (ltN rfl) (QP.move rfl rfl).read ?_
    refine Sq.skip (i := 12) rfl (Want.no rfl rfl rfl rfl) rfl (ltN rfl) ?_
    refine Sq.skip (i := 13) rfl (Want.no rfl rfl rfl rfl) rfl (ltN rfl) ?_
    refine Sq.skip (i := 14) rfl (Want.no rfl rfl rfl rfl) rfl (ltN rfl) ?_
    refine Sq.skip (i := 15) rfl (Want.no rfl rfl rfl rfl) rfl (ltN rfl) ?_
    refine Sq.quiet (i := 16) rfl (Want.yes rfl rfl rfl rfl) rfl (ltN rfl) (QP.pick_f rfl rfl rfl).read ?_
    refine Sq.quiet (i := 17) rfl (Want.none rfl) rfl (ltN rfl) (QP.pick_f rfl rfl rfl).read ?_
    refine Sq.quiet (i := 18) rfl (Want.none rfl) rfl (ltN rfl) (QP.move rfl rfl).read ?_
    refine Sq.quiet (i := 19) rfl (Want.yes rfl rfl rfl rfl) rfl (ltN rfl) (QP.move rfl rfl).read ?_
    refine Sq.quiet (i := 20) rfl (Want.yes rfl rfl rfl rfl) rfl (ltN rfl) (QP.gtr rfl rfl rfl).read ?_
    refine J.caseD (fun c28 => ?_) (fun c28 => ?_)
    ·skip
     refine Sq.quiet (i := 21) rfl (Want.yes rfl rfl rfl rfl) rfl (ltN rfl) (QP.move rfl rfl).read ?_
     refine Sq.quiet (i := 22) rfl (Want.yes rfl rfl rfl rfl) rfl (ltN rfl) (QP.move rfl rfl).read ?_
     refine Sq.quiet (i := 23) rfl (Want.yes rfl rfl rfl rfl) rfl (ltN rfl) (QP.indexArr rfl rfl rfl Try.underlying29 z5 (by omega) (by omega)).read ?_
     refine Sq.quiet (i := 24) rfl (Want.yes rfl rfl rfl rfl) rfl (ltN rfl) (QR.load1 rfl rfl g5 (bs_at x hx)) ?_
     refine Sq.quiet (i := 25) rfl (Want.yes rfl rfl rfl rfl) rfl (ltN rfl) (QP.neq rfl rfl rfl).read ?_
     refine J.caseD (fun c33 => ?_) (fun c33 => ?_)
     ·skip
      refine Sq.quiet (i := 26) rfl (Want.yes rfl rfl rfl rfl) rfl (ltN rfl) (QP.pick_t rfl rfl rfl).read ?_
      refine Sq.quiet (i := 27) rfl (Want.none rfl) rfl (ltN rfl) (QP.pick_f rfl rfl rfl).read ?_
      refine Sq.nil ?_
      refine hk8 _ _ ?_
      refine Run.cond_t rfl ?_
      refine Run.seq fun k15 hk15 => ?_
      refine Run.region ?_
      show Sq _ _ _ [0] _ _ _ _
      refine Sq.quiet (i := 0) rfl (Want.none rfl) rfl (ltN rfl) (QP.assign rfl rfl).read ?_
      refine Sq.nil ?_
      refine hk15 _ _ ?_
      refine Run.ret ?_
      exact J.ends (res_tmp rfl rfl) Takes.nil ⟨false, rfl, fun h => (by cases h), rfl⟩
     ·skip
      refine Sq.quiet (i := 26) rfl (Want.yes rfl rfl rfl rfl) rfl (ltN rfl) (QP.pick_t rfl rfl rfl).read ?_
      refine Sq.quiet (i := 27) rfl (Want.none rfl) rfl (ltN rfl) (QP.pick_f rfl rfl rfl).read ?_
      refine Sq.nil ?_
      refine hk8 _ _ ?_
      refine Run.cond_f rfl ?_
      refine Run.skip ?_
      refine hk7 _ _ ?_
      refine Run.region ?_
      show Sq _ _ _ [0, 1, 2] _ _ _ _
      refine Sq.quiet (i := 0) rfl (Want.none rfl) rfl (ltN rfl) (QP.move rfl rfl).read ?_
      refine Sq.quiet (i := 1) rfl (Want.none rfl) rfl (ltN rfl) (QP.add64 rfl rfl rfl (by first | omega | (simp <;> omega)) (by first | omega | (simp <;> omega))).read ?_
      refine Sq.quiet (i := 2) rfl (Want.none rfl) rfl (ltN rfl) (QP.assign rfl rfl).read ?_
      refine Sq.nil ?_
      exact J.envJ (J.keep (.cons (by repeat constructor) Takes.nil) (hl4 (i + 1) (⟨by omega, fun _ => hall (by omega)⟩) (by omega))) ⟨rfl, rfl, trivial⟩
    ·skip
     refine Sq.quiet (i := 21) rfl (Want.yes rfl rfl rfl rfl) rfl (ltN rfl) (QP.move rfl rfl).read ?_
     refine Sq.skip (i := 22) rfl (Want.no rfl rfl rfl rfl) rfl (ltN rfl) ?_
     refine Sq.skip (i := 23) rfl (Want.no rfl rfl rfl rfl) rfl (ltN rfl) ?_
     refine Sq.skip (i := 24) rfl (Want.no rfl rfl rfl rfl) rfl (ltN rfl) ?_
     refine Sq.skip (i := 25) rfl (Want.no rfl rfl rfl rfl) rfl (ltN rfl) ?_
     refine Sq.quiet (i := 26) rfl (Want.yes rfl rfl rfl rfl) rfl (ltN rfl) (QP.pick_f rfl rfl rfl).read ?_
     refine Sq.quiet (i := 27) rfl (Want.none rfl) rfl (ltN rfl) (QP.pick_f rfl rfl rfl).read ?_
     refine Sq.nil ?_
     refine hk8 _ _ ?_
     refine Run.cond_f rfl ?_
     refine Run.skip ?_
     refine hk7 _ _ ?_
     refine Run.region ?_
     show Sq _ _ _ [0, 1, 2] _ _ _ _
     refine Sq.quiet (i := 0) rfl (Want.none rfl) rfl (ltN rfl) (QP.move rfl rfl).read ?_
     refine Sq.quiet (i := 1) rfl (Want.none rfl) rfl (ltN rfl) (QP.add64 rfl rfl rfl (by first | omega | (simp <;> omega)) (by first | omega | (simp <;> omega))).read ?_
     refine Sq.quiet (i := 2) rfl (Want.none rfl) rfl (ltN rfl) (QP.assign rfl rfl).read ?_
     refine Sq.nil ?_
     exact J.envJ (J.keep (.cons (by repeat constructor) Takes.nil) (hl4 (i + 1) (⟨by omega, fun _ => hall (by omega)⟩) (by omega))) ⟨rfl, rfl, trivial⟩
 ·skip
  refine Sq.nil ?_
  refine hk6 _ _ ?_
  refine Run.cond_f rfl ?_
  refine Run.exit rfl ?_
  refine hk2 _ _ ?_
  refine Run.seq fun k16 hk16 => ?_
  refine Run.region ?_
  show Sq _ _ _ [0] _ _ _ _
  refine Sq.quiet (i := 0) rfl (Want.none rfl) rfl (ltN rfl) (QP.assign rfl rfl).read ?_
  refine Sq.nil ?_
  refine hk16 _ _ ?_
  refine Run.ret ?_
  exact J.ends (res_tmp rfl rfl) Takes.nil ⟨true, rfl, fun _ => hall (by omega), rfl⟩

theorem rfull_spec (F : Fr) (x : Bs 8) : Spec Try.prog 42 #[.agg (Bs.enc x).toArray] [] F (fun v S => ∃ r, v = .bool r ∧ (r = true → ∀ i, i < 8 → x.l[i]? = some 255) ∧ S = []) := by
 refine Spec.intro (N := 12) (args := [.agg (Bs.enc x).toArray]) Try.func42 rfl rfl (by simp) ?_
 refine Run.seq fun k1 hk1 => ?_
 refine Run.region ?_
 show Sq _ _ _ [0, 1] _ _ _ _
 refine Sq.eff (i := 0) rfl (Want.none rfl) rfl (ltN rfl) (EF.boxA rfl rfl) ?_
 rintro _ _ ⟨b1, rfl, rfl⟩
 refine Sq.quiet (i := 1) rfl (Want.none rfl) rfl (ltN rfl) (QP.assign rfl rfl).read ?_
 refine Sq.nil ?_
 refine hk1 _ _ ?_
 refine Run.seq fun k2 hk2 => ?_
 refine Run.seq fun k3 hk3 => ?_
 refine Run.region ?_
 show Sq _ _ _ [0] _ _ _ _
 refine Sq.quiet (i := 0) rfl (Want.none rfl) rfl (ltN rfl) (QP.assign rfl rfl).read ?_
 refine Sq.nil ?_
 refine hk3 _ _ ?_
 refine Run.block ?_
 refine Run.loop1 (fun (i : Nat) => i ≤ 8 ∧ ∀ j, j < i → x.l[j]? = some 255) (fun i => .cons 1 (.pointer (some ⟨b1, 0, none⟩)) (.cons 3 (.int .i64 i) (.nil))) (fun i => [blk b1 (Bs.enc x) 32]) (fun i => 8 - i) (0) (⟨Nat.zero_le _, fun _ h => absurd h (by omega)⟩) ?_ ?_
 ·exact fun _ j => J.envJ (J.keep (.cons (by repeat constructor) Takes.nil) j) ⟨rfl, rfl, trivial⟩
 rintro i ⟨hile, hall⟩ kl4 hl4
 refine Run.seq fun k5 hk5 => ?_
 refine Run.seq fun k6 hk6 => ?_
 refine Run.region ?_
 show Sq _ _ _ [0, 1] _ _ _ _
 refine Sq.quiet (i := 0) rfl (Want.none rfl) rfl (ltN rfl) (QP.move rfl rfl).read ?_
 refine Sq.quiet (i := 1) rfl (Want.none rfl) rfl (ltN rfl) (QP.lss rfl rfl rfl).read ?_
 refine J.caseD (fun c5 => ?_) (fun c5 => ?_)
 ·skip
  refine Sq.nil ?_
  refine hk6 _ _ ?_
  refine Run.cond_t rfl ?_
  refine Run.skip ?_
  refine hk5 _ _ ?_
  refine Run.seq fun k7 hk7 => ?_
  refine Run.block ?_
  refine Run.seq fun k8 hk8 => ?_
  refine Run.region ?_
  show Sq _ _ _ [0, 1, 2, 3] _ _ _ _
  obtain ⟨u, hx⟩ : ∃ u, x.l[i]? = some u := ⟨_, List.getElem?_eq_getElem (by rw [x.h]; omega)⟩
  refine Sq.quiet (i := 0) rfl (Want.none rfl) rfl (ltN rfl) (QP.move rfl rfl).read ?_
  refine Sq.quiet (i := 1) rfl (Want.none rfl) rfl (ltN rfl) (QP.indexArr rfl rfl rfl Try.underlying32 z5 (by omega) (by omega)).read ?_
  refine Sq.quiet (i := 2) rfl (Want.none rfl) rfl (ltN rfl) (QR.load1 rfl rfl g5 (bs_at x hx)) ?_
  refine Sq.quiet (i := 3) rfl (Want.none rfl) rfl (ltN rfl) (QP.neq rfl rfl rfl).read ?_
  refine J.caseD (fun c11 => ?_) (fun c11 => ?_)
  ·skip
   refine Sq.nil ?_
   refine hk8 _ _ ?_
   refine Run.cond_t rfl ?_
   refine Run.seq fun k9 hk9 => ?_
   refine Run.region ?_
   show Sq _ _ _ [0] _ _ _ _
   refine Sq.quiet (i := 0) rfl (Want.none rfl) rfl (ltN rfl) (QP.assign rfl rfl).read ?_
   refine Sq.nil ?_
   refine hk9 _ _ ?_
   refine Run.ret ?_
   exact J.ends (res_tmp rfl rfl) Takes.nil ⟨false, rfl, fun h => (by cases h), rfl⟩
  ·skip
   refine Sq.nil ?_
   refine hk8 _ _ ?_
   refine Run.cond_f rfl ?_
   refine Run.skip ?_
   refine hk7 _ _ ?_
   refine Run.region ?_
   show Sq _ _ _ [0, 1, 2] _ _ _ _
   refine Sq.quiet (i := 0) rfl (Want.none rfl) rfl (ltN rfl) (QP.move rfl rfl).read ?_
   refine Sq.quiet (i := 1) rfl (Want.none rfl) rfl (ltN rfl) (QP.add64 rfl rfl rfl (by first | omega | (simp <;> omega)) (by first | omega | (simp <;> omega))).read ?_
   refine Sq.quiet (i := 2) rfl (Want.none rfl) rfl (ltN rfl) (QP.assign rfl rfl).read ?_
   refine Sq.nil ?_
   exact J.envJ (J.keep (.cons (by repeat constructor) Takes.nil) (hl4 (i + 1) (⟨by omega, fun j hj => by rcases Nat.lt_succ_iff_lt_or_eq.1 hj with h | h; exact hall j h; subst h; rw [hx, byte_eq (t := 255) (Classical.not_not.1 c11)]⟩) (by omega))) ⟨rfl, rfl, trivial⟩
 ·skip
  refine Sq.nil ?_
  refine hk6 _ _ ?_
  refine Run.cond_f rfl ?_
  refine Run.exit rfl ?_
  refine hk2 _ _ ?_
  refine Run.seq fun k10 hk10 => ?_
  refine Run.region ?_
  show Sq _ _ _ [0] _ _ _ _
  refine Sq.quiet (i := 0) rfl (Want.none rfl) rfl (ltN rfl) (QP.assign rfl rfl).read ?_
  refine Sq.nil ?_
  refine hk10 _ _ ?_
  refine Run.ret ?_
  exact J.ends (res_tmp rfl rfl) Takes.nil ⟨true, rfl, fun _ j hj => hall j (by omega), rfl⟩

/-- What is known of an interface that may be. -/
structure IfOk (x : IfConf) : Prop where
  kind : x.kind = 0 ∨ x.kind = 1
  cost : 1 ≤ x.cost ∧ x.cost ≤ 65534
  mtu : 64 ≤ x.mtu ∧ x.mtu ≤ 65539
  hello : 10 ≤ x.hello ∧ x.hello ≤ 655350
  update : 10 ≤ x.update ∧ x.update ≤ 655350
  hello10 : x.hello.tmod 10 = 0
  update10 : x.update.tmod 10 = 0
  addr : x.addr.l[0]? = some 254
  addr4 : x.addr4 = Bs.zero 16 ∨ familyB x.addr4 = 4
  rtt : x.rtt = Rtt.zero ∨ (0 ≤ x.rtt.min ∧ x.rtt.min < x.rtt.max ∧ x.rtt.max ≤ 1000000 ∧ (1 ≤ x.rtt.cost ∧ x.rtt.cost ≤ 65534) ∧ (1 ≤ x.rtt.decay ∧ x.rtt.decay ≤ 256))

set_option maxHeartbeats 1600000 in
theorem riface_spec (F : Fr) (x : IfConf) : Spec Try.prog 43 #[.agg (IfConf.enc x).toArray] [] F (fun v S => ∃ r, v = .bool r ∧ (r = true → IfOk x) ∧ S = []) := by
 refine Spec.intro (N := 101) (args := [.agg (IfConf.enc x).toArray]) Try.func43 rfl rfl (by simp) ?_
 refine Run.seq fun k1 hk1 => ?_
 refine Run.region ?_
 show Sq _ _ _ [0, 1] _ _ _ _
 refine Sq.eff (i := 0) rfl (Want.none rfl) rfl (ltN rfl) (EF.boxA rfl rfl) ?_
 rintro _ _ ⟨b1, rfl, rfl⟩
 refine Sq.quiet (i := 1) rfl (Want.none rfl) rfl (ltN rfl) (QP.assign rfl rfl).read ?_
 refine Sq.nil ?_
 refine hk1 _ _ ?_
 refine Run.seq fun k2 hk2 => ?_
 refine Run.region ?_
 show Sq _ _ _ [0, 1, 2, 3] _ _ _ _
 refine Sq.quiet (i := 0) rfl (Want.none rfl) rfl (ltN rfl) (QP.fieldAddr rfl rfl f60_8).read ?_
 refine Sq.quiet (i := 1) rfl (Want.none rfl) rfl (ltN rfl) (QR.load rfl rfl g58 (IfConf.sub_rtt _)) ?_
 refine Sq.eff (i := 2) rfl (Want.none rfl) rfl (ltN rfl) (EF.allocA (l := Rtt.enc Rtt.zero) rfl zero58) ?_
 rintro _ _ ⟨b3, rfl, rfl⟩
 refine Sq.act (i := 3) rfl (Want.none rfl) rfl (EF.storeA rfl rfl rfl z58 (SetL.all (Rtt.enc_len _) (Rtt.enc_len _)) (Rtt.enc_cell _)) ?_
 rintro _ _ rfl
 refine Sq.nil ?_
 refine hk2 _ _ ?_
 refine Run.seq fun k3 hk3 => ?_
 refine Run.seq fun k4 hk4 => ?_
 refine Run.region ?_
 show Sq _ _ _ [0, 1, 2, 3, 4, 5, 6, 7, 8, 9, 10, 11, 12, 13, 14, 15, 16, 17, 18, 19, 20, 21, 22, 23, 24, 25] _ _ _ _
 refine Sq.quiet (i := 0) rfl (Want.none rfl) rfl (ltN rfl) (QP.fieldAddr rfl rfl f60_0).read ?_
 refine Sq.quiet (i := 1) rfl (Want.none rfl) rfl (ltN rfl) (QR.load1 rfl rfl g9 (IfConf.sub_name _)) ?_
 refine Sq.eff (i := 2) rfl (Want.none rfl) rfl (ltN rfl) (EF.call rfl ce54 rfl Takes.nil (fun F' hle hr => rname_spec F' _)) ?_
 rintro _ _ ⟨_, ⟨r8, rfl, rfl⟩, rfl⟩
 refine J.app ?_
 refine J.caseB (fun c8 => ?_) (fun c8 => ?_)
 ·skip
  refine Sq.quiet (i := 3) rfl (Want.none rfl) rfl (ltN rfl) (QP.not rfl rfl).read ?_
  refine Sq.quiet (i := 4) rfl (Want.none rfl) rfl (ltN rfl) (QP.move rfl rfl).read ?_
  refine Sq.quiet (i := 5) rfl (Want.yes rfl rfl rfl rfl) rfl (ltN rfl) (QP.fieldAddr rfl rfl f60_1).read ?_
  refine Sq.quiet (i := 6) rfl (Want.yes rfl rfl rfl rfl) rfl (ltN rfl) (QR.load1 rfl rfl g3 (IfConf.sub_kind _)) ?_
  refine Sq.quiet (i := 7) rfl (Want.yes rfl rfl rfl rfl) rfl (ltN rfl) (QP.neq rfl rfl rfl).read ?_
  refine J.caseD (fun c13 => ?_) (fun c13 => ?_)
  ·skip
   refine Sq.quiet (i := 8) rfl (Want.yes rfl rfl rfl rfl) rfl (ltN rfl) (QP.move rfl rfl).read ?_
   refine Sq.quiet (i := 9) rfl (Want.yes rfl rfl rfl rfl) rfl (ltN rfl) (QP.fieldAddr rfl rfl f60_1).read ?_
   refine Sq.quiet (i := 10) rfl (Want.yes rfl rfl rfl rfl) rfl (ltN rfl) (QR.load1 rfl rfl g3 (IfConf.sub_kind _)) ?_
   refine Sq.quiet (i := 11) rfl (Want.yes rfl rfl rfl rfl) rfl (ltN rfl) (QP.neq rfl rfl rfl).read ?_
   refine J.caseD (fun c17 => ?_) (fun c17 => ?_)
   ·skip
    refine Sq.quiet (i := 12) rfl (Want.yes rfl rfl rfl rfl) rfl (ltN rfl) (QP.pick_t rfl rfl rfl).read ?_
    refine Sq.quiet (i := 13) rfl (Want.none rfl) rfl (ltN rfl) (QP.pick_f rfl rfl rfl).read ?_
    refine Sq.quiet (i := 14) rfl (Want.none rfl) rfl (ltN rfl) (QP.move rfl rfl).read ?_
    refine Sq.skip (i := 15) rfl (Want.no rfl rfl rfl rfl) rfl (ltN rfl) ?_
    refine Sq.skip (i := 16) rfl (Want.no rfl rfl rfl rfl) rfl (ltN rfl) ?_
    refine Sq.skip (i := 17) rfl (Want.no rfl rfl rfl rfl) rfl (ltN rfl) ?_
    refine Sq.skip (i := 18) rfl (Want.no rfl rfl rfl rfl) rfl (ltN rfl) ?_
    refine Sq.quiet (i := 19) rfl (Want.none rfl) rfl (ltN rfl) (QP.pick_t rfl rfl rfl).read ?_
    refine Sq.quiet (i := 20) rfl (Want.none rfl) rfl (ltN rfl) (QP.move rfl rfl).read ?_
    refine Sq.skip (i := 21) rfl (Want.no rfl rfl rfl rfl) rfl (ltN rfl) ?_
    refine Sq.skip (i := 22) rfl (Want.no rfl rfl rfl rfl) rfl (ltN rfl) ?_
    refine Sq.skip (i := 23) rfl (Want.no rfl rfl rfl rfl) rfl (ltN rfl) ?_
    refine Sq.skip (i := 24) rfl (Want.no rfl rfl rfl rfl) rfl (ltN rfl) ?_
    refine Sq.quiet (i := 25) rfl (Want.none rfl) rfl (ltN rfl) (QP.pick_t rfl rfl rfl).read ?_
    refine Sq.nil ?_
    refine hk4 _ _ ?_
    refine Run.cond_t rfl ?_
    refine Run.seq fun k5 hk5 => ?_
    refine Run.region ?_
    show Sq _ _ _ [0] _ _ _ _
    refine Sq.quiet (i := 0) rfl (Want.none rfl) rfl (ltN rfl) (QP.assign rfl rfl).read ?_
    refine Sq.nil ?_
    refine hk5 _ _ ?_
    refine Run.ret ?_
    exact J.ends (res_tmp rfl rfl) Takes.nil ⟨false, rfl, fun h => (by cases h), rfl⟩
   ·skip
    refine Sq.quiet (i := 12) rfl (Want.yes rfl rfl rfl rfl) rfl (ltN rfl) (QP.pick_t rfl rfl rfl).read ?_
    refine Sq.quiet (i := 13) rfl (Want.none rfl) rfl (ltN rfl) (QP.pick_f rfl rfl rfl).read ?_
    refine Sq.quiet (i := 14) rfl (Want.none rfl) rfl (ltN rfl) (QP.move rfl rfl).read ?_
    refine Sq.quiet (i := 15) rfl (Want.yes rfl rfl rfl rfl) rfl (ltN rfl) (QP.fieldAddr rfl rfl f60_2).read ?_
    refine Sq.quiet (i := 16) rfl (Want.yes rfl rfl rfl rfl) rfl (ltN rfl) (QR.load1 rfl rfl g3 (IfConf.sub_cost _)) ?_
    refine Sq.eff (i := 17) rfl (Want.yes rfl rfl rfl rfl) rfl (ltN rfl) (EF.call rfl ce46 rfl Takes.nil (fun F' hle hr => rin_spec F' ((x).cost) (1) (65534))) ?_
    rintro _ _ ⟨_, ⟨rfl, rfl⟩, rfl⟩
    refine J.app ?_
    refine J.caseB (fun c23 => ?_) (fun c23 => ?_)
    ·skip
     refine Sq.quiet (i := 18) rfl (Want.yes rfl rfl rfl rfl) rfl (ltN rfl) (QP.not rfl rfl).read ?_
     refine Sq.quiet (i := 19) rfl (Want.none rfl) rfl (ltN rfl) (QP.pick_f rfl rfl rfl).read ?_
     refine Sq.quiet (i := 20) rfl (Want.none rfl) rfl (ltN rfl) (QP.move rfl rfl).read ?_
     refine Sq.quiet (i := 21) rfl (Want.yes rfl rfl rfl rfl) rfl (ltN rfl) (QP.fieldAddr rfl rfl f60_5).read ?_
     refine Sq.quiet (i := 22) rfl (Want.yes rfl rfl rfl rfl) rfl (ltN rfl) (QR.load1 rfl rfl g3 (IfConf.sub_mtu _)) ?_
     refine Sq.eff (i := 23) rfl (Want.yes rfl rfl rfl rfl) rfl (ltN rfl) (EF.call rfl ce46 rfl Takes.nil (fun F' hle hr => rin_spec F' ((x).mtu) (64) (65539))) ?_
     rintro _ _ ⟨_, ⟨rfl, rfl⟩, rfl⟩
     refine J.app ?_
     refine J.caseB (fun c29 => ?_) (fun c29 => ?_)
     ·skip
      refine Sq.quiet (i := 24) rfl (Want.yes rfl rfl rfl rfl) rfl (ltN rfl) (QP.not rfl rfl).read ?_
      refine Sq.quiet (i := 25) rfl (Want.none rfl) rfl (ltN rfl) (QP.pick_f rfl rfl rfl).read ?_
      refine Sq.nil ?_
      refine hk4 _ _ ?_
      refine Run.cond_f rfl ?_
      refine Run.skip ?_
      refine hk3 _ _ ?_
      refine Run.seq fun k6 hk6 => ?_
      refine Run.seq fun k7 hk7 => ?_
      refine Run.region ?_
      show Sq _ _ _ [0, 1, 2, 3, 4, 5, 6, 7, 8, 9, 10, 11, 12, 13, 14, 15, 16, 17, 18, 19, 20, 21] _ _ _ _
      refine Sq.quiet (i := 0) rfl (Want.none rfl) rfl (ltN rfl) (QP.fieldAddr rfl rfl f60_3).read ?_
      refine Sq.quiet (i := 1) rfl (Want.none rfl) rfl (ltN rfl) (QR.load1 rfl rfl g3 (IfConf.sub_hello _)) ?_
      refine Sq.eff (i := 2) rfl (Want.none rfl) rfl (ltN rfl) (EF.call rfl ce46 rfl Takes.nil (fun F' hle hr => rin_spec F' ((x).hello) (10) (655350))) ?_
      rintro _ _ ⟨_, ⟨rfl, rfl⟩, rfl⟩
      refine J.app ?_
      refine J.caseB (fun c34 => ?_) (fun c34 => ?_)
      ·skip
       refine Sq.quiet (i := 3) rfl (Want.none rfl) rfl (ltN rfl) (QP.not rfl rfl).read ?_
       refine Sq.quiet (i := 4) rfl (Want.none rfl) rfl (ltN rfl) (QP.move rfl rfl).read ?_
       refine Sq.quiet (i := 5) rfl (Want.yes rfl rfl rfl rfl) rfl (ltN rfl) (QP.fieldAddr rfl rfl f60_4).read ?_
       refine Sq.quiet (i := 6) rfl (Want.yes rfl rfl rfl rfl) rfl (ltN rfl) (QR.load1 rfl rfl g3 (IfConf.sub_update _)) ?_
       refine Sq.eff (i := 7) rfl (Want.yes rfl rfl rfl rfl) rfl (ltN rfl) (EF.call rfl ce46 rfl Takes.nil (fun F' hle hr => rin_spec F' ((x).update) (10) (655350))) ?_
       rintro _ _ ⟨_, ⟨rfl, rfl⟩, rfl⟩
       refine J.app ?_
       refine J.caseB (fun c39 => ?_) (fun c39 => ?_)
       ·skip
        refine Sq.quiet (i := 8) rfl (Want.yes rfl rfl rfl rfl) rfl (ltN rfl) (QP.not rfl rfl).read ?_
        refine Sq.quiet (i := 9) rfl (Want.none rfl) rfl (ltN rfl) (QP.pick_f rfl rfl rfl).read ?_
        refine Sq.quiet (i := 10) rfl (Want.none rfl) rfl (ltN rfl) (QP.move rfl rfl).read ?_
        refine Sq.quiet (i := 11) rfl (Want.yes rfl rfl rfl rfl) rfl (ltN rfl) (QP.fieldAddr rfl rfl f60_3).read ?_
        refine Sq.quiet (i := 12) rfl (Want.yes rfl rfl rfl rfl) rfl (ltN rfl) (QR.load1 rfl rfl g3 (IfConf.sub_hello _)) ?_
        refine Sq.quiet (i := 13) rfl (Want.yes rfl rfl rfl rfl) rfl (ltN rfl) (QP.rem rfl rfl rfl (by decide)).read ?_
        refine Sq.quiet (i := 14) rfl (Want.yes rfl rfl rfl rfl) rfl (ltN rfl) (QP.neq rfl rfl rfl).read ?_
        refine J.caseD (fun c46 => ?_) (fun c46 => ?_)
        ·skip
         refine Sq.quiet (i := 15) rfl (Want.none rfl) rfl (ltN rfl) (QP.pick_f rfl rfl rfl).read ?_
         refine Sq.quiet (i := 16) rfl (Want.none rfl) rfl (ltN rfl) (QP.move rfl rfl).read ?_
         refine Sq.skip (i := 17) rfl (Want.no rfl rfl rfl rfl) rfl (ltN rfl) ?_
         refine Sq.skip (i := 18) rfl (Want.no rfl rfl rfl rfl) rfl (ltN rfl) ?_
         refine Sq.skip (i := 19) rfl (Want.no rfl rfl rfl rfl) rfl (ltN rfl) ?_
         refine Sq.skip (i := 20) rfl (Want.no rfl rfl rfl rfl) rfl (ltN rfl) ?_
         refine Sq.quiet (i := 21) rfl (Want.none rfl) rfl (ltN rfl) (QP.pick_t rfl rfl rfl).read ?_
         refine Sq.nil ?_
         refine hk7 _ _ ?_
         refine Run.cond_t rfl ?_
         refine Run.seq fun k8 hk8 => ?_
         refine Run.region ?_
         show Sq _ _ _ [0] _ _ _ _
         refine Sq.quiet (i := 0) rfl (Want.none rfl) rfl (ltN rfl) (QP.assign rfl rfl).read ?_
         refine Sq.nil ?_
         refine hk8 _ _ ?_
         refine Run.ret ?_
         exact J.ends (res_tmp rfl rfl) Takes.nil ⟨false, rfl, fun h => (by cases h), rfl⟩
        ·skip
         refine Sq.quiet (i := 15) rfl (Want.none rfl) rfl (ltN rfl) (QP.pick_f rfl rfl rfl).read ?_
         refine Sq.quiet (i := 16) rfl (Want.none rfl) rfl (ltN rfl) (QP.move rfl rfl).read ?_
         refine Sq.quiet (i := 17) rfl (Want.yes rfl rfl rfl rfl) rfl (ltN rfl) (QP.fieldAddr rfl rfl f60_4).read ?_
         refine Sq.quiet (i := 18) rfl (Want.yes rfl rfl rfl rfl) rfl (ltN rfl) (QR.load1 rfl rfl g3 (IfConf.sub_update _)) ?_
         refine Sq.quiet (i := 19) rfl (Want.yes rfl rfl rfl rfl) rfl (ltN rfl) (QP.rem rfl rfl rfl (by decide)).read ?_
         refine Sq.quiet (i := 20) rfl (Want.yes rfl rfl rfl rfl) rfl (ltN rfl) (QP.neq rfl rfl rfl).read ?_
         refine J.caseD (fun c52 => ?_) (fun c52 => ?_)
         ·skip
          refine Sq.quiet (i := 21) rfl (Want.none rfl) rfl (ltN rfl) (QP.pick_f rfl rfl rfl).read ?_
          refine Sq.nil ?_
          refine hk7 _ _ ?_
          refine Run.cond_t rfl ?_
          refine Run.seq fun k9 hk9 => ?_
          refine Run.region ?_
          show Sq _ _ _ [0] _ _ _ _
          refine Sq.quiet (i := 0) rfl (Want.none rfl) rfl (ltN rfl) (QP.assign rfl rfl).read ?_
          refine Sq.nil ?_
          refine hk9 _ _ ?_
          refine Run.ret ?_
          exact J.ends (res_tmp rfl rfl) Takes.nil ⟨false, rfl, fun h => (by cases h), rfl⟩
         ·skip
          refine Sq.quiet (i := 21) rfl (Want.none rfl) rfl (ltN rfl) (QP.pick_f rfl rfl rfl).read ?_
          refine Sq.nil ?_
          refine hk7 _ _ ?_
          refine Run.cond_f rfl ?_
          refine Run.skip ?_
          refine hk6 _ _ ?_
          refine Run.seq fun k10 hk10 => ?_
          refine Run.seq fun k11 hk11 => ?_
          refine Run.region ?_
          show Sq _ _ _ [0, 1, 2, 3, 4, 5, 6, 7, 8, 9, 10, 11, 12, 13, 14, 15] _ _ _ _
          refine Sq.quiet (i := 0) rfl (Want.none rfl) rfl (ltN rfl) (QP.fieldAddr rfl rfl f60_6).read ?_
          refine Sq.quiet (i := 1) rfl (Want.none rfl) rfl (ltN rfl) (QR.load rfl rfl g29 (IfConf.sub_addr _)) ?_
          refine Sq.eff (i := 2) rfl (Want.none rfl) rfl (ltN rfl) (EF.call rfl ce55 rfl Takes.nil (fun F' hle hr => rlocal_spec F' ((x).addr))) ?_
          rintro _ _ ⟨_, ⟨r56, rfl, hl56, rfl⟩, rfl⟩
          refine J.app ?_
          refine J.caseB (fun c56 => ?_) (fun c56 => ?_)
          ·skip
           refine Sq.quiet (i := 3) rfl (Want.none rfl) rfl (ltN rfl) (QP.not rfl rfl).read ?_
           refine Sq.quiet (i := 4) rfl (Want.none rfl) rfl (ltN rfl) (QP.move rfl rfl).read ?_
           refine Sq.quiet (i := 5) rfl (Want.yes rfl rfl rfl rfl) rfl (ltN rfl) (QP.fieldAddr rfl rfl f60_7).read ?_
           refine Sq.quiet (i := 6) rfl (Want.yes rfl rfl rfl rfl) rfl (ltN rfl) (QR.load rfl rfl g29 (IfConf.sub_addr4 _)) ?_
           refine Sq.quiet (i := 7) rfl (Want.yes rfl rfl rfl rfl) rfl (ltN rfl) (QP.const (.agg (Bs.enc (⟨[0, 0, 0, 0, 0, 0, 0, 0, 0, 0, 0, 0, 0, 0, 0, 0], rfl⟩ : Bs 16)).toArray) (fun _ _ => by kernel_rfl)).read ?_
           refine Sq.quiet (i := 8) rfl (Want.yes rfl rfl rfl rfl) rfl (ltN rfl) (QP.neq_agg eq29 rfl rfl rfl).read ?_
           refine J.caseD (fun c62 => ?_) (fun c62 => ?_)
           ·skip
            refine Sq.quiet (i := 9) rfl (Want.yes rfl rfl rfl rfl) rfl (ltN rfl) (QP.move rfl rfl).read ?_
            refine Sq.quiet (i := 10) rfl (Want.yes rfl rfl rfl rfl) rfl (ltN rfl) (QP.fieldAddr rfl rfl f60_7).read ?_
            refine Sq.quiet (i := 11) rfl (Want.yes rfl rfl rfl rfl) rfl (ltN rfl) (QR.load rfl rfl g29 (IfConf.sub_addr4 _)) ?_
            refine Sq.eff (i := 12) rfl (Want.yes rfl rfl rfl rfl) rfl (ltN rfl) (EF.call rfl ce56 rfl Takes.nil (fun F' hle hr => rfamily_spec F' ((x).addr4))) ?_
            rintro _ _ ⟨_, ⟨rfl, rfl⟩, rfl⟩
            refine J.app ?_
            refine Sq.quiet (i := 13) rfl (Want.yes rfl rfl rfl rfl) rfl (ltN rfl) (QP.neq rfl rfl rfl).read ?_
            refine J.caseD (fun c67 => ?_) (fun c67 => ?_)
            ·skip
             refine Sq.quiet (i := 14) rfl (Want.yes rfl rfl rfl rfl) rfl (ltN rfl) (QP.pick_t rfl rfl rfl).read ?_
             refine Sq.quiet (i := 15) rfl (Want.none rfl) rfl (ltN rfl) (QP.pick_f rfl rfl rfl).read ?_
             refine Sq.nil ?_
             refine hk11 _ _ ?_
             refine Run.cond_t rfl ?_
             refine Run.seq fun k12 hk12 => ?_
             refine Run.region ?_
             show Sq _ _ _ [0] _ _ _ _
             refine Sq.quiet (i := 0) rfl (Want.none rfl) rfl (ltN rfl) (QP.assign rfl rfl).read ?_
             refine Sq.nil ?_
             refine hk12 _ _ ?_
             refine Run.ret ?_
             exact J.ends (res_tmp rfl rfl) Takes.nil ⟨false, rfl, fun h => (by cases h), rfl⟩
            ·skip
             refine Sq.quiet (i := 14) rfl (Want.yes rfl rfl rfl rfl) rfl (ltN rfl) (QP.pick_t rfl rfl rfl).read ?_
             refine Sq.quiet (i := 15) rfl (Want.none rfl) rfl (ltN rfl) (QP.pick_f rfl rfl rfl).read ?_
             refine Sq.nil ?_
             refine hk11 _ _ ?_
             refine Run.cond_f rfl ?_
             refine Run.skip ?_
             refine hk10 _ _ ?_
             refine Run.seq fun k13 hk13 => ?_
             refine Run.seq fun k14 hk14 => ?_
             refine Run.region ?_
             show Sq _ _ _ [0, 1, 2] _ _ _ _
             refine Sq.quiet (i := 0) rfl (Want.none rfl) rfl (ltN rfl) (QP.fieldAddr rfl rfl f58_0).read ?_
             refine Sq.quiet (i := 1) rfl (Want.none rfl) rfl (ltN rfl) (QR.load1 rfl rfl g4 (Rtt.sub_on_ _)) ?_
             refine J.caseB (fun c71 => ?_) (fun c71 => ?_)
             ·skip
              refine Sq.quiet (i := 2) rfl (Want.none rfl) rfl (ltN rfl) (QP.not rfl rfl).read ?_
              refine Sq.nil ?_
              refine hk14 _ _ ?_
              refine Run.cond_f rfl ?_
              refine Run.skip ?_
              refine hk13 _ _ ?_
              refine Run.seq fun k15 hk15 => ?_
              refine Run.region ?_
              show Sq _ _ _ [0, 1, 2, 3, 4, 5, 6, 7, 8, 9, 10, 11, 12, 13, 14, 15, 16, 17, 18, 19, 20, 21, 22, 23, 24, 25] _ _ _ _
              refine Sq.quiet (i := 0) rfl (Want.none rfl) rfl (ltN rfl) (QP.fieldAddr rfl rfl f58_1).read ?_
              refine Sq.quiet (i := 1) rfl (Want.none rfl) rfl (ltN rfl) (QR.load1 rfl rfl g3 (Rtt.sub_min _)) ?_
              refine Sq.eff (i := 2) rfl (Want.none rfl) rfl (ltN rfl) (EF.call rfl ce46 rfl Takes.nil (fun F' hle hr => rin_spec F' (((x).rtt).min) (0) (1000000))) ?_
              rintro _ _ ⟨_, ⟨rfl, rfl⟩, rfl⟩
              refine J.app ?_
              refine J.caseB (fun c78 => ?_) (fun c78 => ?_)
              ·skip
               refine Sq.quiet (i := 3) rfl (Want.none rfl) rfl (ltN rfl) (QP.move rfl rfl).read ?_
               refine Sq.quiet (i := 4) rfl (Want.yes rfl rfl rfl rfl) rfl (ltN rfl) (QP.fieldAddr rfl rfl f58_2).read ?_
               refine Sq.quiet (i := 5) rfl (Want.yes rfl rfl rfl rfl) rfl (ltN rfl) (QR.load1 rfl rfl g3 (Rtt.sub_max _)) ?_
               refine Sq.quiet (i := 6) rfl (Want.yes rfl rfl rfl rfl) rfl (ltN rfl) (QP.fieldAddr rfl rfl f58_1).read ?_
               refine Sq.quiet (i := 7) rfl (Want.yes rfl rfl rfl rfl) rfl (ltN rfl) (QR.load1 rfl rfl g3 (Rtt.sub_min _)) ?_
               refine Sq.quiet (i := 8) rfl (Want.yes rfl rfl rfl rfl) rfl (ltN rfl) (QP.gtr rfl rfl rfl).read ?_
               refine J.caseD (fun c84 => ?_) (fun c84 => ?_)
               ·skip
                refine Sq.quiet (i := 9) rfl (Want.none rfl) rfl (ltN rfl) (QP.pick_t rfl rfl rfl).read ?_
                refine Sq.quiet (i := 10) rfl (Want.none rfl) rfl (ltN rfl) (QP.move rfl rfl).read ?_
                refine Sq.quiet (i := 11) rfl (Want.yes rfl rfl rfl rfl) rfl (ltN rfl) (QP.fieldAddr rfl rfl f58_2).read ?_
                refine Sq.quiet (i := 12) rfl (Want.yes rfl rfl rfl rfl) rfl (ltN rfl) (QR.load1 rfl rfl g3 (Rtt.sub_max _)) ?_
                refine Sq.quiet (i := 13) rfl (Want.yes rfl rfl rfl rfl) rfl (ltN rfl) (QP.leq rfl rfl rfl).read ?_
                refine J.caseD (fun c89 => ?_) (fun c89 => ?_)
                ·skip
                 refine Sq.quiet (i := 14) rfl (Want.none rfl) rfl (ltN rfl) (QP.pick_t rfl rfl rfl).read ?_
                 refine Sq.quiet (i := 15) rfl (Want.none rfl) rfl (ltN rfl) (QP.move rfl rfl).read ?_
                 refine Sq.quiet (i := 16) rfl (Want.yes rfl rfl rfl rfl) rfl (ltN rfl) (QP.fieldAddr rfl rfl f58_3).read ?_
                 refine Sq.quiet (i := 17) rfl (Want.yes rfl rfl rfl rfl) rfl (ltN rfl) (QR.load1 rfl rfl g3 (Rtt.sub_cost _)) ?_
                 refine Sq.eff (i := 18) rfl (Want.yes rfl rfl rfl rfl) rfl (ltN rfl) (EF.call rfl ce46 rfl Takes.nil (fun F' hle hr => rin_spec F' (((x).rtt).cost) (1) (65534))) ?_
                 rintro _ _ ⟨_, ⟨rfl, rfl⟩, rfl⟩
                 refine J.app ?_
                 refine J.caseB (fun c94 => ?_) (fun c94 => ?_)
                 ·skip
                  refine Sq.quiet (i := 19) rfl (Want.none rfl) rfl (ltN rfl) (QP.pick_t rfl rfl rfl).read ?_
                  refine Sq.quiet (i := 20) rfl (Want.none rfl) rfl (ltN rfl) (QP.move rfl rfl).read ?_
                  refine Sq.quiet (i := 21) rfl (Want.yes rfl rfl rfl rfl) rfl (ltN rfl) (QP.fieldAddr rfl rfl f58_4).read ?_
                  refine Sq.quiet (i := 22) rfl (Want.yes rfl rfl rfl rfl) rfl (ltN rfl) (QR.load1 rfl rfl g3 (Rtt.sub_decay _)) ?_
                  refine Sq.eff (i := 23) rfl (Want.yes rfl rfl rfl rfl) rfl (ltN rfl) (EF.call rfl ce46 rfl Takes.nil (fun F' hle hr => rin_spec F' (((x).rtt).decay) (1) (256))) ?_
                  rintro _ _ ⟨_, ⟨rfl, rfl⟩, rfl⟩
                  refine J.app ?_
                  refine Sq.quiet (i := 24) rfl (Want.none rfl) rfl (ltN rfl) (QP.pick_t rfl rfl rfl).read ?_
                  refine Sq.quiet (i := 25) rfl (Want.none rfl) rfl (ltN rfl) (QP.assign rfl rfl).read ?_
                  refine Sq.nil ?_
                  refine hk15 _ _ ?_
                  refine Run.ret ?_
                  exact J.ends (res_tmp rfl rfl) Takes.nil ⟨_, rfl, fun h => { kind := by omega, cost := inB_iff.1 c23, mtu := inB_iff.1 c29, hello := inB_iff.1 c34, update := inB_iff.1 c39, hello10 := by omega, update10 := by omega, addr := hl56 (by simpa using c56), addr4 := .inr (by omega), rtt := .inr ⟨(inB_iff.1 c78).1, by omega, by omega, inB_iff.1 c94, inB_iff.1 h⟩ }, rfl⟩
                 ·skip
                  refine Sq.quiet (i := 19) rfl (Want.none rfl) rfl (ltN rfl) (QP.pick_t rfl rfl rfl).read ?_
                  refine Sq.quiet (i := 20) rfl (Want.none rfl) rfl (ltN rfl) (QP.move rfl rfl).read ?_
                  refine Sq.skip (i := 21) rfl (Want.no rfl rfl rfl rfl) rfl (ltN rfl) ?_
                  refine Sq.skip (i := 22) rfl (Want.no rfl rfl rfl rfl) rfl (ltN rfl) ?_
                  refine Sq.skip (i := 23) rfl (Want.no rfl rfl rfl rfl) rfl (ltN rfl) ?_
                  refine Sq.quiet (i := 24) rfl (Want.none rfl) rfl (ltN rfl) (QP.pick_f rfl rfl rfl).read ?_
                  refine Sq.quiet (i := 25) rfl (Want.none rfl) rfl (ltN rfl) (QP.assign rfl rfl).read ?_
                  refine Sq.nil ?_
                  refine hk15 _ _ ?_
                  refine Run.ret ?_
                  exact J.ends (res_tmp rfl rfl) Takes.nil ⟨false, rfl, fun h => (by cases h), rfl⟩
                ·skip
                 refine Sq.quiet (i := 14) rfl (Want.none rfl) rfl (ltN rfl) (QP.pick_t rfl rfl rfl).read ?_
                 refine Sq.quiet (i := 15) rfl (Want.none rfl) rfl (ltN rfl) (QP.move rfl rfl).read ?_
                 refine Sq.skip (i := 16) rfl (Want.no rfl rfl rfl rfl) rfl (ltN rfl) ?_
                 refine Sq.skip (i := 17) rfl (Want.no rfl rfl rfl rfl) rfl (ltN rfl) ?_
                 refine Sq.skip (i := 18) rfl (Want.no rfl rfl rfl rfl) rfl (ltN rfl) ?_
                 refine Sq.quiet (i := 19) rfl (Want.none rfl) rfl (ltN rfl) (QP.pick_f rfl rfl rfl).read ?_
                 refine Sq.quiet (i := 20) rfl (Want.none rfl) rfl (ltN rfl) (QP.move rfl rfl).read ?_
                 refine Sq.skip (i := 21) rfl (Want.no rfl rfl rfl rfl) rfl (ltN rfl) ?_
                 refine Sq.skip (i := 22) rfl (Want.no rfl rfl rfl rfl) rfl (ltN rfl) ?_
                 refine Sq.skip (i := 23) rfl (Want.no rfl rfl rfl rfl) rfl (ltN rfl) ?_
                 refine Sq.quiet (i := 24) rfl (Want.none rfl) rfl (ltN rfl) (QP.pick_f rfl rfl rfl).read ?_
                 refine Sq.quiet (i := 25) rfl (Want.none rfl) rfl (ltN rfl) (QP.assign rfl rfl).read ?_
                 refine Sq.nil ?_
                 refine hk15 _ _ ?_
                 refine Run.ret ?_
                 exact J.ends (res_tmp rfl rfl) Takes.nil ⟨false, rfl, fun h => (by cases h), rfl⟩
               ·skip
                refine Sq.quiet (i := 9) rfl (Want.none rfl) rfl (ltN rfl) (QP.pick_t rfl rfl rfl).read ?_
                refine Sq.quiet (i := 10) rfl (Want.none rfl) rfl (ltN rfl) (QP.move rfl rfl).read ?_
                refine Sq.skip (i := 11) rfl (Want.no rfl rfl rfl rfl) rfl (ltN rfl) ?_
                refine Sq.skip (i := 12) rfl (Want.no rfl rfl rfl rfl) rfl (ltN rfl) ?_
                refine Sq.skip (i := 13) rfl (Want.no rfl rfl rfl rfl) rfl (ltN rfl) ?_
                refine Sq.quiet (i := 14) rfl (Want.none rfl) rfl (ltN rfl) (QP.pick_f rfl rfl rfl).read ?_
                refine Sq.quiet (i := 15) rfl (Want.none rfl) rfl (ltN rfl) (QP.move rfl rfl).read ?_
                refine Sq.skip (i := 16) rfl (Want.no rfl rfl rfl rfl) rfl (ltN rfl) ?_
                refine Sq.skip (i := 17) rfl (Want.no rfl rfl rfl rfl) rfl (ltN rfl) ?_
                refine Sq.skip (i := 18) rfl (Want.no rfl rfl rfl rfl) rfl (ltN rfl) ?_
                refine Sq.quiet (i := 19) rfl (Want.none rfl) rfl (ltN rfl) (QP.pick_f rfl rfl rfl).read ?_
                refine Sq.quiet (i := 20) rfl (Want.none rfl) rfl (ltN rfl) (QP.move rfl rfl).read ?_
                refine Sq.skip (i := 21) rfl (Want.no rfl rfl rfl rfl) rfl (ltN rfl) ?_
                refine Sq.skip (i := 22) rfl (Want.no rfl rfl rfl rfl) rfl (ltN rfl) ?_
                refine Sq.skip (i := 23) rfl (Want.no rfl rfl rfl rfl) rfl (ltN rfl) ?_
                refine Sq.quiet (i := 24) rfl (Want.none rfl) rfl (ltN rfl) (QP.pick_f rfl rfl rfl).read ?_
                refine Sq.quiet (i := 25) rfl (Want.none rfl) rfl (ltN rfl) (QP.assign rfl rfl).read ?_
                refine Sq.nil ?_
                refine hk15 _ _ ?_
                refine Run.ret ?_
                exact J.ends (res_tmp rfl rfl) Takes.nil ⟨false, rfl, fun h => (by cases h), rfl⟩
              ·skip
               refine Sq.quiet (i := 3) rfl (Want.none rfl) rfl (ltN rfl) (QP.move rfl rfl).read ?_
               refine Sq.skip (i := 4) rfl (Want.no rfl rfl rfl rfl) rfl (ltN rfl) ?_
               refine Sq.skip (i := 5) rfl (Want.no rfl rfl rfl rfl) rfl (ltN rfl) ?_
               refine Sq.skip (i := 6) rfl (Want.no rfl rfl rfl rfl) rfl (ltN rfl) ?_
               refine Sq.skip (i := 7) rfl (Want.no rfl rfl rfl rfl) rfl (ltN rfl) ?_
               refine Sq.skip (i := 8) rfl (Want.no rfl rfl rfl rfl) rfl (ltN rfl) ?_
               refine Sq.quiet (i := 9) rfl (Want.none rfl) rfl (ltN rfl) (QP.pick_f rfl rfl rfl).read ?_
               refine Sq.quiet (i := 10) rfl (Want.none rfl) rfl (ltN rfl) (QP.move rfl rfl).read ?_
               refine Sq.skip (i := 11) rfl (Want.no rfl rfl rfl rfl) rfl (ltN rfl) ?_
               refine Sq.skip (i := 12) rfl (Want.no rfl rfl rfl rfl) rfl (ltN rfl) ?_
               refine Sq.skip (i := 13) rfl (Want.no rfl rfl rfl rfl) rfl (ltN rfl) ?_
               refine Sq.quiet (i := 14) rfl (Want.none rfl) rfl (ltN rfl) (QP.pick_f rfl rfl rfl).read ?_
               refine Sq.quiet (i := 15) rfl (Want.none rfl) rfl (ltN rfl) (QP.move rfl rfl).read ?_
               refine Sq.skip (i := 16) rfl (Want.no rfl rfl rfl rfl) rfl (ltN rfl) ?_
               refine Sq.skip (i := 17) rfl (Want.no rfl rfl rfl rfl) rfl (ltN rfl) ?_
               refine Sq.skip (i := 18) rfl (Want.no rfl rfl rfl rfl) rfl (ltN rfl) ?_
               refine Sq.quiet (i := 19) rfl (Want.none rfl) rfl (ltN rfl) (QP.pick_f rfl rfl rfl).read ?_
               refine Sq.quiet (i := 20) rfl (Want.none rfl) rfl (ltN rfl) (QP.move rfl rfl).read ?_
               refine Sq.skip (i := 21) rfl (Want.no rfl rfl rfl rfl) rfl (ltN rfl) ?_
               refine Sq.skip (i := 22) rfl (Want.no rfl rfl rfl rfl) rfl (ltN rfl) ?_
               refine Sq.skip (i := 23) rfl (Want.no rfl rfl rfl rfl) rfl (ltN rfl) ?_
               refine Sq.quiet (i := 24) rfl (Want.none rfl) rfl (ltN rfl) (QP.pick_f rfl rfl rfl).read ?_
               refine Sq.quiet (i := 25) rfl (Want.none rfl) rfl (ltN rfl) (QP.assign rfl rfl).read ?_
               refine Sq.nil ?_
               refine hk15 _ _ ?_
               refine Run.ret ?_
               exact J.ends (res_tmp rfl rfl) Takes.nil ⟨false, rfl, fun h => (by cases h), rfl⟩
             ·skip
              refine Sq.quiet (i := 2) rfl (Want.none rfl) rfl (ltN rfl) (QP.not rfl rfl).read ?_
              refine Sq.nil ?_
              refine hk14 _ _ ?_
              refine Run.cond_t rfl ?_
              refine Run.seq fun k16 hk16 => ?_
              refine Run.region ?_
              show Sq _ _ _ [0, 1, 2, 3] _ _ _ _
              refine Sq.quiet (i := 0) rfl (Want.none rfl) rfl (ltN rfl) (QR.load rfl rfl g58 (Rtt.enc_sub _)) ?_
              refine Sq.quiet (i := 1) rfl (Want.none rfl) rfl (ltN rfl) (QP.build (l := Rtt.enc Rtt.zero) rfl st58 rfl (by exact trivial) rfl).read ?_
              refine Sq.quiet (i := 2) rfl (Want.none rfl) rfl (ltN rfl) (QP.eql_agg eq58 rfl rfl rfl).read ?_
              refine Sq.quiet (i := 3) rfl (Want.none rfl) rfl (ltN rfl) (QP.assign rfl rfl).read ?_
              refine Sq.nil ?_
              refine hk16 _ _ ?_
              refine Run.ret ?_
              exact J.ends (res_tmp rfl rfl) Takes.nil ⟨_, rfl, fun h => { kind := by omega, cost := inB_iff.1 c23, mtu := inB_iff.1 c29, hello := inB_iff.1 c34, update := inB_iff.1 c39, hello10 := by omega, update10 := by omega, addr := hl56 (by simpa using c56), addr4 := .inr (by omega), rtt := .inl (of_decide_eq_true h) }, rfl⟩
           ·skip
            refine Sq.quiet (i := 9) rfl (Want.yes rfl rfl rfl rfl) rfl (ltN rfl) (QP.move rfl rfl).read ?_
            refine Sq.skip (i := 10) rfl (Want.no rfl rfl rfl rfl) rfl (ltN rfl) ?_
            refine Sq.skip (i := 11) rfl (Want.no rfl rfl rfl rfl) rfl (ltN rfl) ?_
            refine Sq.skip (i := 12) rfl (Want.no rfl rfl rfl rfl) rfl (ltN rfl) ?_
            refine Sq.skip (i := 13) rfl (Want.no rfl rfl rfl rfl) rfl (ltN rfl) ?_
            refine Sq.quiet (i := 14) rfl (Want.yes rfl rfl rfl rfl) rfl (ltN rfl) (QP.pick_f rfl rfl rfl).read ?_
            refine Sq.quiet (i := 15) rfl (Want.none rfl) rfl (ltN rfl) (QP.pick_f rfl rfl rfl).read ?_
            refine Sq.nil ?_
            refine hk11 _ _ ?_
            refine Run.cond_f rfl ?_
            refine Run.skip ?_
            refine hk10 _ _ ?_
            refine Run.seq fun k17 hk17 => ?_
            refine Run.seq fun k18 hk18 => ?_
            refine Run.region ?_
            show Sq _ _ _ [0, 1, 2] _ _ _ _
            refine Sq.quiet (i := 0) rfl (Want.none rfl) rfl (ltN rfl) (QP.fieldAddr rfl rfl f58_0).read ?_
            refine Sq.quiet (i := 1) rfl (Want.none rfl) rfl (ltN rfl) (QR.load1 rfl rfl g4 (Rtt.sub_on_ _)) ?_
            refine J.caseB (fun c71 => ?_) (fun c71 => ?_)
            ·skip
             refine Sq.quiet (i := 2) rfl (Want.none rfl) rfl (ltN rfl) (QP.not rfl rfl).read ?_
             refine Sq.nil ?_
             refine hk18 _ _ ?_
             refine Run.cond_f rfl ?_
             refine Run.skip ?_
             refine hk17 _ _ ?_
             refine Run.seq fun k19 hk19 => ?_
             refine Run.region ?_
             show Sq _ _ _ [0, 1, 2, 3, 4, 5, 6, 7, 8, 9, 10, 11, 12, 13, 14, 15, 16, 17, 18, 19, 20, 21, 22, 23, 24, 25] _ _ _ _
             refine Sq.quiet (i := 0) rfl (Want.none rfl) rfl (ltN rfl) (QP.fieldAddr rfl rfl f58_1).read ?_
             refine Sq.quiet (i := 1) rfl (Want.none rfl) rfl (ltN rfl) (QR.load1 rfl rfl g3 (Rtt.sub_min _)) ?_
             refine Sq.eff (i := 2) rfl (Want.none rfl) rfl (ltN rfl) (EF.call rfl ce46 rfl Takes.nil (fun F' hle hr => rin_spec F' (((x).rtt).min) (0) (1000000))) ?_
             rintro _ _ ⟨_, ⟨rfl, rfl⟩, rfl⟩
             refine J.app ?_
             refine J.caseB (fun c78 => ?_) (fun c78 => ?_)
             ·skip
              refine Sq.quiet (i := 3) rfl (Want.none rfl) rfl (ltN rfl) (QP.move rfl rfl).read ?_
              refine Sq.quiet (i := 4) rfl (Want.yes rfl rfl rfl rfl) rfl (ltN rfl) (QP.fieldAddr rfl rfl f58_2).read ?_
              refine Sq.quiet (i := 5) rfl (Want.yes rfl rfl rfl rfl) rfl (ltN rfl) (QR.load1 rfl rfl g3 (Rtt.sub_max _)) ?_
              refine Sq.quiet (i := 6) rfl (Want.yes rfl rfl rfl rfl) rfl (ltN rfl) (QP.fieldAddr rfl rfl f58_1).read ?_
              refine Sq.quiet (i := 7) rfl (Want.yes rfl rfl rfl rfl) rfl (ltN rfl) (QR.load1 rfl rfl g3 (Rtt.sub_min _)) ?_
              refine Sq.quiet (i := 8) rfl (Want.yes rfl rfl rfl rfl) rfl (ltN rfl) (QP.gtr rfl rfl rfl).read ?_
              refine J.caseD (fun c84 => ?_) (fun c84 => ?_)
              ·skip
               refine Sq.quiet (i := 9) rfl (Want.none rfl) rfl (ltN rfl) (QP.pick_t rfl rfl rfl).read ?_
               refine Sq.quiet (i := 10) rfl (Want.none rfl) rfl (ltN rfl) (QP.move rfl rfl).read ?_
               refine Sq.quiet (i := 11) rfl (Want.yes rfl rfl rfl rfl) rfl (ltN rfl) (QP.fieldAddr rfl rfl f58_2).read ?_
               refine Sq.quiet (i := 12) rfl (Want.yes rfl rfl rfl rfl) rfl (ltN rfl) (QR.load1 rfl rfl g3 (Rtt.sub_max _)) ?_
               refine Sq.quiet (i := 13) rfl (Want.yes rfl rfl rfl rfl) rfl (ltN rfl) (QP.leq rfl rfl rfl).read ?_
               refine J.caseD (fun c89 => ?_) (fun c89 => ?_)
               ·skip
                refine Sq.quiet (i := 14) rfl (Want.none rfl) rfl (ltN rfl) (QP.pick_t rfl rfl rfl).read ?_
                refine Sq.quiet (i := 15) rfl (Want.none rfl) rfl (ltN rfl) (QP.move rfl rfl).read ?_
                refine Sq.quiet (i := 16) rfl (Want.yes rfl rfl rfl rfl) rfl (ltN rfl) (QP.fieldAddr rfl rfl f58_3).read ?_
                refine Sq.quiet (i := 17) rfl (Want.yes rfl rfl rfl rfl) rfl (ltN rfl) (QR.load1 rfl rfl g3 (Rtt.sub_cost _)) ?_
                refine Sq.eff (i := 18) rfl (Want.yes rfl rfl rfl rfl) rfl (ltN rfl) (EF.call rfl ce46 rfl Takes.nil (fun F' hle hr => rin_spec F' (((x).rtt).cost) (1) (65534))) ?_
                rintro _ _ ⟨_, ⟨rfl, rfl⟩, rfl⟩
                refine J.app ?_
                refine J.caseB (fun c94 => ?_) (fun c94 => ?_)
                ·skip
                 refine Sq.quiet (i := 19) rfl (Want.none rfl) rfl (ltN rfl) (QP.pick_t rfl rfl rfl).read ?_
                 refine Sq.quiet (i := 20) rfl (Want.none rfl) rfl (ltN rfl) (QP.move rfl rfl).read ?_
                 refine Sq.quiet (i := 21) rfl (Want.yes rfl rfl rfl rfl) rfl (ltN rfl) (QP.fieldAddr rfl rfl f58_4).read ?_
                 refine Sq.quiet (i := 22) rfl (Want.yes rfl rfl rfl rfl) rfl (ltN rfl) (QR.load1 rfl rfl g3 (Rtt.sub_decay _)) ?_
                 refine Sq.eff (i := 23) rfl (Want.yes rfl rfl rfl rfl) rfl (ltN rfl) (EF.call rfl ce46 rfl Takes.nil (fun F' hle hr => rin_spec F' (((x).rtt).decay) (1) (256))) ?_
                 rintro _ _ ⟨_, ⟨rfl, rfl⟩, rfl⟩
                 refine J.app ?_
                 refine Sq.quiet (i := 24) rfl (Want.none rfl) rfl (ltN rfl) (QP.pick_t rfl rfl rfl).read ?_
                 refine Sq.quiet (i := 25) rfl (Want.none rfl) rfl (ltN rfl) (QP.assign rfl rfl).read ?_
                 refine Sq.nil ?_
                 refine hk19 _ _ ?_
                 refine Run.ret ?_
                 exact J.ends (res_tmp rfl rfl) Takes.nil ⟨_, rfl, fun h => { kind := by omega, cost := inB_iff.1 c23, mtu := inB_iff.1 c29, hello := inB_iff.1 c34, update := inB_iff.1 c39, hello10 := by omega, update10 := by omega, addr := hl56 (by simpa using c56), addr4 := .inl (Classical.not_not.1 c62), rtt := .inr ⟨(inB_iff.1 c78).1, by omega, by omega, inB_iff.1 c94, inB_iff.1 h⟩ }, rfl⟩
                ·skip
                 refine Sq.quiet (i := 19) rfl (Want.none rfl) rfl (ltN rfl) (QP.pick_t rfl rfl rfl).read ?_
                 refine Sq.quiet (i := 20) rfl (Want.none rfl) rfl (ltN rfl) (QP.move rfl rfl).read ?_
                 refine Sq.skip (i := 21) rfl (Want.no rfl rfl rfl rfl) rfl (ltN rfl) ?_
                 refine Sq.skip (i := 22) rfl (Want.no rfl rfl rfl rfl) rfl (ltN rfl) ?_
                 refine Sq.skip (i := 23) rfl (Want.no rfl rfl rfl rfl) rfl (ltN rfl) ?_
                 refine Sq.quiet (i := 24) rfl (Want.none rfl) rfl (ltN rfl) (QP.pick_f rfl rfl rfl).read ?_
                 refine Sq.quiet (i := 25) rfl (Want.none rfl) rfl (ltN rfl) (QP.assign rfl rfl).read ?_
                 refine Sq.nil ?_
                 refine hk19 _ _ ?_
                 refine Run.ret ?_
                 exact J.ends (res_tmp rfl rfl) Takes.nil ⟨false, rfl, fun h => (by cases h), rfl⟩
               ·skip
                refine Sq.quiet (i := 14) rfl (Want.none rfl) rfl (ltN rfl) (QP.pick_t rfl rfl rfl).read ?_
                refine Sq.quiet (i := 15) rfl (Want.none rfl) rfl (ltN rfl) (QP.move rfl rfl).read ?_
                refine Sq.skip (i := 16) rfl (Want.no rfl rfl rfl rfl) rfl (ltN rfl) ?_
                refine Sq.skip (i := 17) rfl (Want.no rfl rfl rfl rfl) rfl (ltN rfl) ?_
                refine Sq.skip (i := 18) rfl (Want.no rfl rfl rfl rfl) rfl (ltN rfl) ?_
                refine Sq.quiet (i := 19) rfl (Want.none rfl) rfl (ltN rfl) (QP.pick_f rfl rfl rfl).read ?_
                refine Sq.quiet (i := 20) rfl (Want.none rfl) rfl (ltN rfl) (QP.move rfl rfl).read ?_
                refine Sq.skip (i := 21) rfl (Want.no rfl rfl rfl rfl) rfl (ltN rfl) ?_
                refine Sq.skip (i := 22) rfl (Want.no rfl rfl rfl rfl) rfl (ltN rfl) ?_
                refine Sq.skip (i := 23) rfl (Want.no rfl rfl rfl rfl) rfl (ltN rfl) ?_
                refine Sq.quiet (i := 24) rfl (Want.none rfl) rfl (ltN rfl) (QP.pick_f rfl rfl rfl).read ?_
                refine Sq.quiet (i := 25) rfl (Want.none rfl) rfl (ltN rfl) (QP.assign rfl rfl).read ?_
                refine Sq.nil ?_
                refine hk19 _ _ ?_
                refine Run.ret ?_
                exact J.ends (res_tmp rfl rfl) Takes.nil ⟨false, rfl, fun h => (by cases h), rfl⟩
              ·skip
               refine Sq.quiet (i := 9) rfl (Want.none rfl) rfl (ltN rfl) (QP.pick_t rfl rfl rfl).read ?_
               refine Sq.quiet (i := 10) rfl (Want.none rfl) rfl (ltN rfl) (QP.move rfl rfl).read ?_
               refine Sq.skip (i := 11) rfl (Want.no rfl rfl rfl rfl) rfl (ltN rfl) ?_
               refine Sq.skip (i := 12) rfl (Want.no rfl rfl rfl rfl) rfl (ltN rfl) ?_
               refine Sq.skip (i := 13) rfl (Want.no rfl rfl rfl rfl) rfl (ltN rfl) ?_
               refine Sq.quiet (i := 14) rfl (Want.none rfl) rfl (ltN rfl) (QP.pick_f rfl rfl rfl).read ?_
               refine Sq.quiet (i := 15) rfl (Want.none rfl) rfl (ltN rfl) (QP.move rfl rfl).read ?_
               refine Sq.skip (i := 16) rfl (Want.no rfl rfl rfl rfl) rfl (ltN rfl) ?_
               refine Sq.skip (i := 17) rfl (Want.no rfl rfl rfl rfl) rfl (ltN rfl) ?_
               refine Sq.skip (i := 18) rfl (Want.no rfl rfl rfl rfl) rfl (ltN rfl) ?_
               refine Sq.quiet (i := 19) rfl (Want.none rfl) rfl (ltN rfl) (QP.pick_f rfl rfl rfl).read ?_
               refine Sq.quiet (i := 20) rfl (Want.none rfl) rfl (ltN rfl) (QP.move rfl rfl).read ?_
               refine Sq.skip (i := 21) rfl (Want.no rfl rfl rfl rfl) rfl (ltN rfl) ?_
               refine Sq.skip (i := 22) rfl (Want.no rfl rfl rfl rfl) rfl (ltN rfl) ?_
               refine Sq.skip (i := 23) rfl (Want.no rfl rfl rfl rfl) rfl (ltN rfl) ?_
               refine Sq.quiet (i := 24) rfl (Want.none rfl) rfl (ltN rfl) (QP.pick_f rfl rfl rfl).read ?_
               refine Sq.quiet (i := 25) rfl (Want.none rfl) rfl (ltN rfl) (QP.assign rfl rfl).read ?_
               refine Sq.nil ?_
               refine hk19 _ _ ?_
               refine Run.ret ?_
               exact J.ends (res_tmp rfl rfl) Takes.nil ⟨false, rfl, fun h => (by cases h), rfl⟩
             ·skip
              refine Sq.quiet (i := 3) rfl (Want.none rfl) rfl (ltN rfl) (QP.move rfl rfl).read ?_
              refine Sq.skip (i := 4) rfl (Want.no rfl rfl rfl rfl) rfl (ltN rfl) ?_
              refine Sq.skip (i := 5) rfl (Want.no rfl rfl rfl rfl) rfl (ltN rfl) ?_
              refine Sq.skip (i := 6) rfl (Want.no rfl rfl rfl rfl) rfl (ltN rfl) ?_
              refine Sq.skip (i := 7) rfl (Want.no rfl rfl rfl rfl) rfl (ltN rfl) ?_
              refine Sq.skip (i := 8) rfl (Want.no rfl rfl rfl rfl) rfl (ltN rfl) ?_
              refine Sq.quiet (i := 9) rfl (Want.none rfl) rfl (ltN rfl) (QP.pick_f rfl rfl rfl).read ?_
              refine Sq.quiet (i := 10) rfl (Want.none rfl) rfl (ltN rfl) (QP.move rfl rfl).read ?_
              refine Sq.skip (i := 11) rfl (Want.no rfl rfl rfl rfl) rfl (ltN rfl) ?_
              refine Sq.skip (i := 12) rfl (Want.no rfl rfl rfl rfl) rfl (ltN rfl) ?_
              refine Sq.skip (i := 13) rfl (Want.no rfl rfl rfl rfl) rfl (ltN rfl) ?_
              refine Sq.quiet (i := 14) rfl (Want.none rfl) rfl (ltN rfl) (QP.pick_f rfl rfl rfl).read ?_
              refine Sq.quiet (i := 15) rfl (Want.none rfl) rfl (ltN rfl) (QP.move rfl rfl).read ?_
              refine Sq.skip (i := 16) rfl (Want.no rfl rfl rfl rfl) rfl (ltN rfl) ?_
              refine Sq.skip (i := 17) rfl (Want.no rfl rfl rfl rfl) rfl (ltN rfl) ?_
              refine Sq.skip (i := 18) rfl (Want.no rfl rfl rfl rfl) rfl (ltN rfl) ?_
              refine Sq.quiet (i := 19) rfl (Want.none rfl) rfl (ltN rfl) (QP.pick_f rfl rfl rfl).read ?_
              refine Sq.quiet (i := 20) rfl (Want.none rfl) rfl (ltN rfl) (QP.move rfl rfl).read ?_
              refine Sq.skip (i := 21) rfl (Want.no rfl rfl rfl rfl) rfl (ltN rfl) ?_
              refine Sq.skip (i := 22) rfl (Want.no rfl rfl rfl rfl) rfl (ltN rfl) ?_
              refine Sq.skip (i := 23) rfl (Want.no rfl rfl rfl rfl) rfl (ltN rfl) ?_
              refine Sq.quiet (i := 24) rfl (Want.none rfl) rfl (ltN rfl) (QP.pick_f rfl rfl rfl).read ?_
              refine Sq.quiet (i := 25) rfl (Want.none rfl) rfl (ltN rfl) (QP.assign rfl rfl).read ?_
              refine Sq.nil ?_
              refine hk19 _ _ ?_
              refine Run.ret ?_
              exact J.ends (res_tmp rfl rfl) Takes.nil ⟨false, rfl, fun h => (by cases h), rfl⟩
            ·skip
             refine Sq.quiet (i := 2) rfl (Want.none rfl) rfl (ltN rfl) (QP.not rfl rfl).read ?_
             refine Sq.nil ?_
             refine hk18 _ _ ?_
             refine Run.cond_t rfl ?_
             refine Run.seq fun k20 hk20 => ?_
             refine Run.region ?_
             show Sq _ _ _ [0, 1, 2, 3] _ _ _ _
             refine Sq.quiet (i := 0) rfl (Want.none rfl) rfl (ltN rfl) (QR.load rfl rfl g58 (Rtt.enc_sub _)) ?_
             refine Sq.quiet (i := 1) rfl (Want.none rfl) rfl (ltN rfl) (QP.build (l := Rtt.enc Rtt.zero) rfl st58 rfl (by exact trivial) rfl).read ?_
             refine Sq.quiet (i := 2) rfl (Want.none rfl) rfl (ltN rfl) (QP.eql_agg eq58 rfl rfl rfl).read ?_
             refine Sq.quiet (i := 3) rfl (Want.none rfl) rfl (ltN rfl) (QP.assign rfl rfl).read ?_
             refine Sq.nil ?_
             refine hk20 _ _ ?_
             refine Run.ret ?_
             exact J.ends (res_tmp rfl rfl) Takes.nil ⟨_, rfl, fun h => { kind := by omega, cost := inB_iff.1 c23, mtu := inB_iff.1 c29, hello := inB_iff.1 c34, update := inB_iff.1 c39, hello10 := by omega, update10 := by omega, addr := hl56 (by simpa using c56), addr4 := .inl (Classical.not_not.1 c62), rtt := .inl (of_decide_eq_true h) }, rfl⟩
          ·skip
           refine Sq.quiet (i := 3) rfl (Want.none rfl) rfl (ltN rfl) (QP.not rfl rfl).read ?_
           refine Sq.quiet (i := 4) rfl (Want.none rfl) rfl (ltN rfl) (QP.move rfl rfl).read ?_
           refine Sq.skip (i := 5) rfl (Want.no rfl rfl rfl rfl) rfl (ltN rfl) ?_
           refine Sq.skip (i := 6) rfl (Want.no rfl rfl rfl rfl) rfl (ltN rfl) ?_
           refine Sq.skip (i := 7) rfl (Want.no rfl rfl rfl rfl) rfl (ltN rfl) ?_
           refine Sq.skip (i := 8) rfl (Want.no rfl rfl rfl rfl) rfl (ltN rfl) ?_
           refine Sq.skip (i := 9) rfl (Want.no rfl rfl rfl rfl) rfl (ltN rfl) ?_
           refine Sq.skip (i := 10) rfl (Want.undef rfl rfl rfl) rfl (ltN rfl) ?_
           refine Sq.skip (i := 11) rfl (Want.undef rfl rfl rfl) rfl (ltN rfl) ?_
           refine Sq.skip (i := 12) rfl (Want.undef rfl rfl rfl) rfl (ltN rfl) ?_
           refine Sq.skip (i := 13) rfl (Want.undef rfl rfl rfl) rfl (ltN rfl) ?_
           refine Sq.skip (i := 14) rfl (Want.no rfl rfl rfl rfl) rfl (ltN rfl) ?_
           refine Sq.quiet (i := 15) rfl (Want.none rfl) rfl (ltN rfl) (QP.pick_t rfl rfl rfl).read ?_
           refine Sq.nil ?_
           refine hk11 _ _ ?_
           refine Run.cond_t rfl ?_
           refine Run.seq fun k21 hk21 => ?_
           refine Run.region ?_
           show Sq _ _ _ [0] _ _ _ _
           refine Sq.quiet (i := 0) rfl (Want.none rfl) rfl (ltN rfl) (QP.assign rfl rfl).read ?_
           refine Sq.nil ?_
           refine hk21 _ _ ?_
           refine Run.ret ?_
           exact J.ends (res_tmp rfl rfl) Takes.nil ⟨false, rfl, fun h => (by cases h), rfl⟩
       ·skip
        refine Sq.quiet (i := 8) rfl (Want.yes rfl rfl rfl rfl) rfl (ltN rfl) (QP.not rfl rfl).read ?_
        refine Sq.quiet (i := 9) rfl (Want.none rfl) rfl (ltN rfl) (QP.pick_f rfl rfl rfl).read ?_
        refine Sq.quiet (i := 10) rfl (Want.none rfl) rfl (ltN rfl) (QP.move rfl rfl).read ?_
        refine Sq.skip (i := 11) rfl (Want.no rfl rfl rfl rfl) rfl (ltN rfl) ?_
        refine Sq.skip (i := 12) rfl (Want.no rfl rfl rfl rfl) rfl (ltN rfl) ?_
        refine Sq.skip (i := 13) rfl (Want.no rfl rfl rfl rfl) rfl (ltN rfl) ?_
        refine Sq.skip (i := 14) rfl (Want.no rfl rfl rfl rfl) rfl (ltN rfl) ?_
        refine Sq.quiet (i := 15) rfl (Want.none rfl) rfl (ltN rfl) (QP.pick_t rfl rfl rfl).read ?_
        refine Sq.quiet (i := 16) rfl (Want.none rfl) rfl (ltN rfl) (QP.move rfl rfl).read ?_
        refine Sq.skip (i := 17) rfl (Want.no rfl rfl rfl rfl) rfl (ltN rfl) ?_
        refine Sq.skip (i := 18) rfl (Want.no rfl rfl rfl rfl) rfl (ltN rfl) ?_
        refine Sq.skip (i := 19) rfl (Want.no rfl rfl rfl rfl) rfl (ltN rfl) ?_
        refine Sq.skip (i := 20) rfl (Want.no rfl rfl rfl rfl) rfl (ltN rfl) ?_
        refine Sq.quiet (i := 21) rfl (Want.none rfl) rfl (ltN rfl) (QP.pick_t rfl rfl rfl).read ?_
        refine Sq.nil ?_
        refine hk7 _ _ ?_
        refine Run.cond_t rfl ?_
        refine Run.seq fun k22 hk22 => ?_
        refine Run.region ?_
        show Sq _ _ _ [0] _ _ _ _
        refine Sq.quiet (i := 0) rfl (Want.none rfl) rfl (ltN rfl) (QP.assign rfl rfl).read ?_
        refine Sq.nil ?_
        refine hk22 _ _ ?_
        refine Run.ret ?_
        exact J.ends (res_tmp rfl rfl) Takes.nil ⟨false, rfl, fun h => (by cases h), rfl⟩
      ·skip
       refine Sq.quiet (i := 3) rfl (Want.none rfl) rfl (ltN rfl) (QP.not rfl rfl).read ?_
       refine Sq.quiet (i := 4) rfl (Want.none rfl) rfl (ltN rfl) (QP.move rfl rfl).read ?_
       refine Sq.skip (i := 5) rfl (Want.no rfl rfl rfl rfl) rfl (ltN rfl) ?_
       refine Sq.skip (i := 6) rfl (Want.no rfl rfl rfl rfl) rfl (ltN rfl) ?_
       refine Sq.skip (i := 7) rfl (Want.no rfl rfl rfl rfl) rfl (ltN rfl) ?_
       refine Sq.skip (i := 8) rfl (Want.no rfl rfl rfl rfl) rfl (ltN rfl) ?_
       refine Sq.quiet (i := 9) rfl (Want.none rfl) rfl (ltN rfl) (QP.pick_t rfl rfl rfl).read ?_
       refine Sq.quiet (i := 10) rfl (Want.none rfl) rfl (ltN rfl) (QP.move rfl rfl).read ?_
       refine Sq.skip (i := 11) rfl (Want.no rfl rfl rfl rfl) rfl (ltN rfl) ?_
       refine Sq.skip (i := 12) rfl (Want.no rfl rfl rfl rfl) rfl (ltN rfl) ?_
       refine Sq.skip (i := 13) rfl (Want.no rfl rfl rfl rfl) rfl (ltN rfl) ?_
       refine Sq.skip (i := 14) rfl (Want.no rfl rfl rfl rfl) rfl (ltN rfl) ?_
       refine Sq.quiet (i := 15) rfl (Want.none rfl) rfl (ltN rfl) (QP.pick_t rfl rfl rfl).read ?_
       refine Sq.quiet (i := 16) rfl (Want.none rfl) rfl (ltN rfl) (QP.move rfl rfl).read ?_
       refine Sq.skip (i := 17) rfl (Want.no rfl rfl rfl rfl) rfl (ltN rfl) ?_
       refine Sq.skip (i := 18) rfl (Want.no rfl rfl rfl rfl) rfl (ltN rfl) ?_
       refine Sq.skip (i := 19) rfl (Want.no rfl rfl rfl rfl) rfl (ltN rfl) ?_
       refine Sq.skip (i := 20) rfl (Want.no rfl rfl rfl rfl) rfl (ltN rfl) ?_
       refine Sq.quiet (i := 21) rfl (Want.none rfl) rfl (ltN rfl) (QP.pick_t rfl rfl rfl).read ?_
       refine Sq.nil ?_
       refine hk7 _ _ ?_
       refine Run.cond_t rfl ?_
       refine Run.seq fun k23 hk23 => ?_
       refine Run.region ?_
       show Sq _ _ _ [0] _ _ _ _
       refine Sq.quiet (i := 0) rfl (Want.none rfl) rfl (ltN rfl) (QP.assign rfl rfl).read ?_
       refine Sq.nil ?_
       refine hk23 _ _ ?_
       refine Run.ret ?_
       exact J.ends (res_tmp rfl rfl) Takes.nil ⟨false, rfl, fun h => (by cases h), rfl⟩
     ·skip
      refine Sq.quiet (i := 24) rfl (Want.yes rfl rfl rfl rfl) rfl (ltN rfl) (QP.not rfl rfl).read ?_
      refine Sq.quiet (i := 25) rfl (Want.none rfl) rfl (ltN rfl) (QP.pick_f rfl rfl rfl).read ?_
      refine Sq.nil ?_
      refine hk4 _ _ ?_
      refine Run.cond_t rfl ?_
      refine Run.seq fun k24 hk24 => ?_
      refine Run.region ?_
      show Sq _ _ _ [0] _ _ _ _
      refine Sq.quiet (i := 0) rfl (Want.none rfl) rfl (ltN rfl) (QP.assign rfl rfl).read ?_
      refine Sq.nil ?_
      refine hk24 _ _ ?_
      refine Run.ret ?_
      exact J.ends (res_tmp rfl rfl) Takes.nil ⟨false, rfl, fun h => (by cases h), rfl⟩
    ·skip
     refine Sq.quiet (i := 18) rfl (Want.yes rfl rfl rfl rfl) rfl (ltN rfl) (QP.not rfl rfl).read ?_
     refine Sq.quiet (i := 19) rfl (Want.none rfl) rfl (ltN rfl) (QP.pick_f rfl rfl rfl).read ?_
     refine Sq.quiet (i := 20) rfl (Want.none rfl) rfl (ltN rfl) (QP.move rfl rfl).read ?_
     refine Sq.skip (i := 21) rfl (Want.no rfl rfl rfl rfl) rfl (ltN rfl) ?_
     refine Sq.skip (i := 22) rfl (Want.no rfl rfl rfl rfl) rfl (ltN rfl) ?_
     refine Sq.skip (i := 23) rfl (Want.no rfl rfl rfl rfl) rfl (ltN rfl) ?_
     refine Sq.skip (i := 24) rfl (Want.no rfl rfl rfl rfl) rfl (ltN rfl) ?_
     refine Sq.quiet (i := 25) rfl (Want.none rfl) rfl (ltN rfl) (QP.pick_t rfl rfl rfl).read ?_
     refine Sq.nil ?_
     refine hk4 _ _ ?_
     refine Run.cond_t rfl ?_
     refine Run.seq fun k25 hk25 => ?_
     refine Run.region ?_
     show Sq _ _ _ [0] _ _ _ _
     refine Sq.quiet (i := 0) rfl (Want.none rfl) rfl (ltN rfl) (QP.assign rfl rfl).read ?_
     refine Sq.nil ?_
     refine hk25 _ _ ?_
     refine Run.ret ?_
     exact J.ends (res_tmp rfl rfl) Takes.nil ⟨false, rfl, fun h => (by cases h), rfl⟩
  ·skip
   refine Sq.quiet (i := 8) rfl (Want.yes rfl rfl rfl rfl) rfl (ltN rfl) (QP.move rfl rfl).read ?_
   refine Sq.skip (i := 9) rfl (Want.no rfl rfl rfl rfl) rfl (ltN rfl) ?_
   refine Sq.skip (i := 10) rfl (Want.no rfl rfl rfl rfl) rfl (ltN rfl) ?_
   refine Sq.skip (i := 11) rfl (Want.no rfl rfl rfl rfl) rfl (ltN rfl) ?_
   refine Sq.quiet (i := 12) rfl (Want.yes rfl rfl rfl rfl) rfl (ltN rfl) (QP.pick_f rfl rfl rfl).read ?_
   refine Sq.quiet (i := 13) rfl (Want.none rfl) rfl (ltN rfl) (QP.pick_f rfl rfl rfl).read ?_
   refine Sq.quiet (i := 14) rfl (Want.none rfl) rfl (ltN rfl) (QP.move rfl rfl).read ?_
   refine Sq.quiet (i := 15) rfl (Want.yes rfl rfl rfl rfl) rfl (ltN rfl) (QP.fieldAddr rfl rfl f60_2).read ?_
   refine Sq.quiet (i := 16) rfl (Want.yes rfl rfl rfl rfl) rfl (ltN rfl) (QR.load1 rfl rfl g3 (IfConf.sub_cost _)) ?_
   refine Sq.eff (i := 17) rfl (Want.yes rfl rfl rfl rfl) rfl (ltN rfl) (EF.call rfl ce46 rfl Takes.nil (fun F' hle hr => rin_spec F' ((x).cost) (1) (65534))) ?_
   rintro _ _ ⟨_, ⟨rfl, rfl⟩, rfl⟩
   refine J.app ?_
   refine J.caseB (fun c23 => ?_) (fun c23 => ?_)
   ·skip
    refine Sq.quiet (i := 18) rfl (Want.yes rfl rfl rfl rfl) rfl (ltN rfl) (QP.not rfl rfl).read ?_
    refine Sq.quiet (i := 19) rfl (Want.none rfl) rfl (ltN rfl) (QP.pick_f rfl rfl rfl).read ?_
    refine Sq.quiet (i := 20) rfl (Want.none rfl) rfl (ltN rfl) (QP.move rfl rfl).read ?_
    refine Sq.quiet (i := 21) rfl (Want.yes rfl rfl rfl rfl) rfl (ltN rfl) (QP.fieldAddr rfl rfl f60_5).read ?_
    refine Sq.quiet (i := 22) rfl (Want.yes rfl rfl rfl rfl) rfl (ltN rfl) (QR.load1 rfl rfl g3 (IfConf.sub_mtu _)) ?_
    refine Sq.eff (i := 23) rfl (Want.yes rfl rfl rfl rfl) rfl (ltN rfl) (EF.call rfl ce46 rfl Takes.nil (fun F' hle hr => rin_spec F' ((x).mtu) (64) (65539))) ?_
    rintro _ _ ⟨_, ⟨rfl, rfl⟩, rfl⟩
    refine J.app ?_
    refine J.caseB (fun c29 => ?_) (fun c29 => ?_)
    ·skip
     refine Sq.quiet (i := 24) rfl (Want.yes rfl rfl rfl rfl) rfl (ltN rfl) (QP.not rfl rfl).read ?_
     refine Sq.quiet (i := 25) rfl (Want.none rfl) rfl (ltN rfl) (QP.pick_f rfl rfl rfl).read ?_
     refine Sq.nil ?_
     refine hk4 _ _ ?_
     refine Run.cond_f rfl ?_
     refine Run.skip ?_
     refine hk3 _ _ ?_
     refine Run.seq fun k26 hk26 => ?_
     refine Run.seq fun k27 hk27 => ?_
     refine Run.region ?_
     show Sq _ _ _ [0, 1, 2, 3, 4, 5, 6, 7, 8, 9, 10, 11, 12, 13, 14, 15, 16, 17, 18, 19, 20, 21] _ _ _ _
     refine Sq.quiet (i := 0) rfl (Want.none rfl) rfl (ltN rfl) (QP.fieldAddr rfl rfl f60_3).read ?_
     refine Sq.quiet (i := 1) rfl (Want.none rfl) rfl (ltN rfl) (QR.load1 rfl rfl g3 (IfConf.sub_hello _)) ?_
     refine Sq.eff (i := 2) rfl (Want.none rfl) rfl (ltN rfl) (EF.call rfl ce46 rfl Takes.nil (fun F' hle hr => rin_spec F' ((x).hello) (10) (655350))) ?_
     rintro _ _ ⟨_, ⟨rfl, rfl⟩, rfl⟩
     refine J.app ?_
     refine J.caseB (fun c34 => ?_) (fun c34 => ?_)
     ·skip
      refine Sq.quiet (i := 3) rfl (Want.none rfl) rfl (ltN rfl) (QP.not rfl rfl).read ?_
      refine Sq.quiet (i := 4) rfl (Want.none rfl) rfl (ltN rfl) (QP.move rfl rfl).read ?_
      refine Sq.quiet (i := 5) rfl (Want.yes rfl rfl rfl rfl) rfl (ltN rfl) (QP.fieldAddr rfl rfl f60_4).read ?_
      refine Sq.quiet (i := 6) rfl (Want.yes rfl rfl rfl rfl) rfl (ltN rfl) (QR.load1 rfl rfl g3 (IfConf.sub_update _)) ?_
      refine Sq.eff (i := 7) rfl (Want.yes rfl rfl rfl rfl) rfl (ltN rfl) (EF.call rfl ce46 rfl Takes.nil (fun F' hle hr => rin_spec F' ((x).update) (10) (655350))) ?_
      rintro _ _ ⟨_, ⟨rfl, rfl⟩, rfl⟩
      refine J.app ?_
      refine J.caseB (fun c39 => ?_) (fun c39 => ?_)
      ·skip
       refine Sq.quiet (i := 8) rfl (Want.yes rfl rfl rfl rfl) rfl (ltN rfl) (QP.not rfl rfl).read ?_
       refine Sq.quiet (i := 9) rfl (Want.none rfl) rfl (ltN rfl) (QP.pick_f rfl rfl rfl).read ?_
       refine Sq.quiet (i := 10) rfl (Want.none rfl) rfl (ltN rfl) (QP.move rfl rfl).read ?_
       refine Sq.quiet (i := 11) rfl (Want.yes rfl rfl rfl rfl) rfl (ltN rfl) (QP.fieldAddr rfl rfl f60_3).read ?_
       refine Sq.quiet (i := 12) rfl (Want.yes rfl rfl rfl rfl) rfl (ltN rfl) (QR.load1 rfl rfl g3 (IfConf.sub_hello _)) ?_
       refine Sq.quiet (i := 13) rfl (Want.yes rfl rfl rfl rfl) rfl (ltN rfl) (QP.rem rfl rfl rfl (by decide)).read ?_
       refine Sq.quiet (i := 14) rfl (Want.yes rfl rfl rfl rfl) rfl (ltN rfl) (QP.neq rfl rfl rfl).read ?_
       refine J.caseD (fun c46 => ?_) (fun c46 => ?_)
       ·skip
        refine Sq.quiet (i := 15) rfl (Want.none rfl) rfl (ltN rfl) (QP.pick_f rfl rfl rfl).read ?_
        refine Sq.quiet (i := 16) rfl (Want.none rfl) rfl (ltN rfl) (QP.move rfl rfl).read ?_
        refine Sq.skip (i := 17) rfl (Want.no rfl rfl rfl rfl) rfl (ltN rfl) ?_
        refine Sq.skip (i := 18) rfl (Want.no rfl rfl rfl rfl) rfl (ltN rfl) ?_
        refine Sq.skip (i := 19) rfl (Want.no rfl rfl rfl rfl) rfl (ltN rfl) ?_
        refine Sq.skip (i := 20) rfl (Want.no rfl rfl rfl rfl) rfl (ltN rfl) ?_
        refine Sq.quiet (i := 21) rfl (Want.none rfl) rfl (ltN rfl) (QP.pick_t rfl rfl rfl).read ?_
        refine Sq.nil ?_
        refine hk27 _ _ ?_
        refine Run.cond_t rfl ?_
        refine Run.seq fun k28 hk28 => ?_
        refine Run.region ?_
        show Sq _ _ _ [0] _ _ _ _
        refine Sq.quiet (i := 0) rfl (Want.none rfl) rfl (ltN rfl) (QP.assign rfl rfl).read ?_
        refine Sq.nil ?_
        refine hk28 _ _ ?_
        refine Run.ret ?_
        exact J.ends (res_tmp rfl rfl) Takes.nil ⟨false, rfl, fun h => (by cases h), rfl⟩
       ·skip
        refine Sq.quiet (i := 15) rfl (Want.none rfl) rfl (ltN rfl) (QP.pick_f rfl rfl rfl).read ?_
        refine Sq.quiet (i := 16) rfl (Want.none rfl) rfl (ltN rfl) (QP.move rfl rfl).read ?_
        refine Sq.quiet (i := 17) rfl (Want.yes rfl rfl rfl rfl) rfl (ltN rfl) (QP.fieldAddr rfl rfl f60_4).read ?_
        refine Sq.quiet (i := 18) rfl (Want.yes rfl rfl rfl rfl) rfl (ltN rfl) (QR.load1 rfl rfl g3 (IfConf.sub_update _)) ?_
        refine Sq.quiet (i := 19) rfl (Want.yes rfl rfl rfl rfl) rfl (ltN rfl) (QP.rem rfl rfl rfl (by decide)).read ?_
        refine Sq.quiet (i := 20) rfl (Want.yes rfl rfl rfl rfl) rfl (ltN rfl) (QP.neq rfl rfl rfl).read ?_
        refine J.caseD (fun c52 => ?_) (fun c52 => ?_)
        ·skip
         refine Sq.quiet (i := 21) rfl (Want.none rfl) rfl (ltN rfl) (QP.pick_f rfl rfl rfl).read ?_
         refine Sq.nil ?_
         refine hk27 _ _ ?_
         refine Run.cond_t rfl ?_
         refine Run.seq fun k29 hk29 => ?_
         refine Run.region ?_
         show Sq _ _ _ [0] _ _ _ _
         refine Sq.quiet (i := 0) rfl (Want.none rfl) rfl (ltN rfl) (QP.assign rfl rfl).read ?_
         refine Sq.nil ?_
         refine hk29 _ _ ?_
         refine Run.ret ?_
         exact J.ends (res_tmp rfl rfl) Takes.nil ⟨false, rfl, fun h => (by cases h), rfl⟩
        ·skip
         refine Sq.quiet (i := 21) rfl (Want.none rfl) rfl (ltN rfl) (QP.pick_f rfl rfl rfl).read ?_
         refine Sq.nil ?_
         refine hk27 _ _ ?_
         refine Run.cond_f rfl ?_
         refine Run.skip ?_
         refine hk26 _ _ ?_
         refine Run.seq fun k30 hk30 => ?_
         refine Run.seq fun k31 hk31 => ?_
         refine Run.region ?_
         show Sq _ _ _ [0, 1, 2, 3, 4, 5, 6, 7, 8, 9, 10, 11, 12, 13, 14, 15] _ _ _ _
         refine Sq.quiet (i := 0) rfl (Want.none rfl) rfl (ltN rfl) (QP.fieldAddr rfl rfl f60_6).read ?_
         refine Sq.quiet (i := 1) rfl (Want.none rfl) rfl (ltN rfl) (QR.load rfl rfl g29 (IfConf.sub_addr _)) ?_
         refine Sq.eff (i := 2) rfl (Want.none rfl) rfl (ltN rfl) (EF.call rfl ce55 rfl Takes.nil (fun F' hle hr => rlocal_spec F' ((x).addr))) ?_
         rintro _ _ ⟨_, ⟨r56, rfl, hl56, rfl⟩, rfl⟩
         refine J.app ?_
         refine J.caseB (fun c56 => ?_) (fun c56 => ?_)
         ·skip
          refine Sq.quiet (i := 3) rfl (Want.none rfl) rfl (ltN rfl) (QP.not rfl rfl).read ?_
          refine Sq.quiet (i := 4) rfl (Want.none rfl) rfl (ltN rfl) (QP.move rfl rfl).read ?_
          refine Sq.quiet (i := 5) rfl (Want.yes rfl rfl rfl rfl) rfl (ltN rfl) (QP.fieldAddr rfl rfl f60_7).read ?_
          refine Sq.quiet (i := 6) rfl (Want.yes rfl rfl rfl rfl) rfl (ltN rfl) (QR.load rfl rfl g29 (IfConf.sub_addr4 _)) ?_
          refine Sq.quiet (i := 7) rfl (Want.yes rfl rfl rfl rfl) rfl (ltN rfl) (QP.const (.agg (Bs.enc (⟨[0, 0, 0, 0, 0, 0, 0, 0, 0, 0, 0, 0, 0, 0, 0, 0], rfl⟩ : Bs 16)).toArray) (fun _ _ => by kernel_rfl)).read ?_
          refine Sq.quiet (i := 8) rfl (Want.yes rfl rfl rfl rfl) rfl (ltN rfl) (QP.neq_agg eq29 rfl rfl rfl).read ?_
          refine J.caseD (fun c62 => ?_) (fun c62 => ?_)
          ·skip
           refine Sq.quiet (i := 9) rfl (Want.yes rfl rfl rfl rfl) rfl (ltN rfl) (QP.move rfl rfl).read ?_
           refine Sq.quiet (i := 10) rfl (Want.yes rfl rfl rfl rfl) rfl (ltN rfl) (QP.fieldAddr rfl rfl f60_7).read ?_
           refine Sq.quiet (i := 11) rfl (Want.yes rfl rfl rfl rfl) rfl (ltN rfl) (QR.load rfl rfl g29 (IfConf.sub_addr4 _)) ?_
           refine Sq.eff (i := 12) rfl (Want.yes rfl rfl rfl rfl) rfl (ltN rfl) (EF.call rfl ce56 rfl Takes.nil (fun F' hle hr => rfamily_spec F' ((x).addr4))) ?_
           rintro _ _ ⟨_, ⟨rfl, rfl⟩, rfl⟩
           refine J.app ?_
           refine Sq.quiet (i := 13) rfl (Want.yes rfl rfl rfl rfl) rfl (ltN rfl) (QP.neq rfl rfl rfl).read ?_
           refine J.caseD (fun c67 => ?_) (fun c67 => ?_)
           ·skip
            refine Sq.quiet (i := 14) rfl (Want.yes rfl rfl rfl rfl) rfl (ltN rfl) (QP.pick_t rfl rfl rfl).read ?_
            refine Sq.quiet (i := 15) rfl (Want.none rfl) rfl (ltN rfl) (QP.pick_f rfl rfl rfl).read ?_
            refine Sq.nil ?_
            refine hk31 _ _ ?_
            refine Run.cond_t rfl ?_
            refine Run.seq fun k32 hk32 => ?_
            refine Run.region ?_
            show Sq _ _ _ [0] _ _ _ _
            refine Sq.quiet (i := 0) rfl (Want.none rfl) rfl (ltN rfl) (QP.assign rfl rfl).read ?_
            refine Sq.nil ?_
            refine hk32 _ _ ?_
            refine Run.ret ?_
            exact J.ends (res_tmp rfl rfl) Takes.nil ⟨false, rfl, fun h => (by cases h), rfl⟩
           ·skip
            refine Sq.quiet (i := 14) rfl (Want.yes rfl rfl rfl rfl) rfl (ltN rfl) (QP.pick_t rfl rfl rfl).read ?_
            refine Sq.quiet (i := 15) rfl (Want.none rfl) rfl (ltN rfl) (QP.pick_f rfl rfl rfl).read ?_
            refine Sq.nil ?_
            refine hk31 _ _ ?_
            refine Run.cond_f rfl ?_
            refine Run.skip ?_
            refine hk30 _ _ ?_
            refine Run.seq fun k33 hk33 => ?_
            refine Run.seq fun k34 hk34 => ?_
            refine Run.region ?_
            show Sq _ _ _ [0, 1, 2] _ _ _ _
            refine Sq.quiet (i := 0) rfl (Want.none rfl) rfl (ltN rfl) (QP.fieldAddr rfl rfl f58_0).read ?_
            refine Sq.quiet (i := 1) rfl (Want.none rfl) rfl (ltN rfl) (QR.load1 rfl rfl g4 (Rtt.sub_on_ _)) ?_
            refine J.caseB (fun c71 => ?_) (fun c71 => ?_)
            ·skip
             refine Sq.quiet (i := 2) rfl (Want.none rfl) rfl (ltN rfl) (QP.not rfl rfl).read ?_
             refine Sq.nil ?_
             refine hk34 _ _ ?_
             refine Run.cond_f rfl ?_
             refine Run.skip ?_
             refine hk33 _ _ ?_
             refine Run.seq fun k35 hk35 => ?_
             refine Run.region ?_
             show Sq _ _ _ [0, 1, 2, 3, 4, 5, 6, 7, 8, 9, 10, 11, 12, 13, 14, 15, 16, 17, 18, 19, 20, 21, 22, 23, 24, 25] _ _ _ _
             refine Sq.quiet (i := 0) rfl (Want.none rfl) rfl (ltN rfl) (QP.fieldAddr rfl rfl f58_1).read ?_
             refine Sq.quiet (i := 1) rfl (Want.none rfl) rfl (ltN rfl) (QR.load1 rfl rfl g3 (Rtt.sub_min _)) ?_
             refine Sq.eff (i := 2) rfl (Want.none rfl) rfl (ltN rfl) (EF.call rfl ce46 rfl Takes.nil (fun F' hle hr => rin_spec F' (((x).rtt).min) (0) (1000000))) ?_
             rintro _ _ ⟨_, ⟨rfl, rfl⟩, rfl⟩
             refine J.app ?_
             refine J.caseB (fun c78 => ?_) (fun c78 => ?_)
             ·skip
              refine Sq.quiet (i := 3) rfl (Want.none rfl) rfl (ltN rfl) (QP.move rfl rfl).read ?_
              refine Sq.quiet (i := 4) rfl (Want.yes rfl rfl rfl rfl) rfl (ltN rfl) (QP.fieldAddr rfl rfl f58_2).read ?_
              refine Sq.quiet (i := 5) rfl (Want.yes rfl rfl rfl rfl) rfl (ltN rfl) (QR.load1 rfl rfl g3 (Rtt.sub_max _)) ?_
              refine Sq.quiet (i := 6) rfl (Want.yes rfl rfl rfl rfl) rfl (ltN rfl) (QP.fieldAddr rfl rfl f58_1).read ?_
              refine Sq.quiet (i := 7) rfl (Want.yes rfl rfl rfl rfl) rfl (ltN rfl) (QR.load1 rfl rfl g3 (Rtt.sub_min _)) ?_
              refine Sq.quiet (i := 8) rfl (Want.yes rfl rfl rfl rfl) rfl (ltN rfl) (QP.gtr rfl rfl rfl).read ?_
              refine J.caseD (fun c84 => ?_) (fun c84 => ?_)
              ·skip
               refine Sq.quiet (i := 9) rfl (Want.none rfl) rfl (ltN rfl) (QP.pick_t rfl rfl rfl).read ?_
               refine Sq.quiet (i := 10) rfl (Want.none rfl) rfl (ltN rfl) (QP.move rfl rfl).read ?_
               refine Sq.quiet (i := 11) rfl (Want.yes rfl rfl rfl rfl) rfl (ltN rfl) (QP.fieldAddr rfl rfl f58_2).read ?_
               refine Sq.quiet (i := 12) rfl (Want.yes rfl rfl rfl rfl) rfl (ltN rfl) (QR.load1 rfl rfl g3 (Rtt.sub_max _)) ?_
               refine Sq.quiet (i := 13) rfl (Want.yes rfl rfl rfl rfl) rfl (ltN rfl) (QP.leq rfl rfl rfl).read ?_
               refine J.caseD (fun c89 => ?_) (fun c89 => ?_)
               ·skip
                refine Sq.quiet (i := 14) rfl (Want.none rfl) rfl (ltN rfl) (QP.pick_t rfl rfl rfl).read ?_
                refine Sq.quiet (i := 15) rfl (Want.none rfl) rfl (ltN rfl) (QP.move rfl rfl).read ?_
                refine Sq.quiet (i := 16) rfl (Want.yes rfl rfl rfl rfl) rfl (ltN rfl) (QP.fieldAddr rfl rfl f58_3).read ?_
                refine Sq.quiet (i := 17) rfl (Want.yes rfl rfl rfl rfl) rfl (ltN rfl) (QR.load1 rfl rfl g3 (Rtt.sub_cost _)) ?_
                refine Sq.eff (i := 18) rfl (Want.yes rfl rfl rfl rfl) rfl (ltN rfl) (EF.call rfl ce46 rfl Takes.nil (fun F' hle hr => rin_spec F' (((x).rtt).cost) (1) (65534))) ?_
                rintro _ _ ⟨_, ⟨rfl, rfl⟩, rfl⟩
                refine J.app ?_
                refine J.caseB (fun c94 => ?_) (fun c94 => ?_)
                ·skip
                 refine Sq.quiet (i := 19) rfl (Want.none rfl) rfl (ltN rfl) (QP.pick_t rfl rfl rfl).read ?_
                 refine Sq.quiet (i := 20) rfl (Want.none rfl) rfl (ltN rfl) (QP.move rfl rfl).read ?_
                 refine Sq.quiet (i := 21) rfl (Want.yes rfl rfl rfl rfl) rfl (ltN rfl) (QP.fieldAddr rfl rfl f58_4).read ?_
                 refine Sq.quiet (i := 22) rfl (Want.yes rfl rfl rfl rfl) rfl (ltN rfl) (QR.load1 rfl rfl g3 (Rtt.sub_decay _)) ?_
                 refine Sq.eff (i := 23) rfl (Want.yes rfl rfl rfl rfl) rfl (ltN rfl) (EF.call rfl ce46 rfl Takes.nil (fun F' hle hr => rin_spec F' (((x).rtt).decay) (1) (256))) ?_
                 rintro _ _ ⟨_, ⟨rfl, rfl⟩, rfl⟩
                 refine J.app ?_
                 refine Sq.quiet (i := 24) rfl (Want.none rfl) rfl (ltN rfl) (QP.pick_t rfl rfl rfl).read ?_
                 refine Sq.quiet (i := 25) rfl (Want.none rfl) rfl (ltN rfl) (QP.assign rfl rfl).read ?_
                 refine Sq.nil ?_
                 refine hk35 _ _ ?_
                 refine Run.ret ?_
                 exact J.ends (res_tmp rfl rfl) Takes.nil ⟨_, rfl, fun h => { kind := by omega, cost := inB_iff.1 c23, mtu := inB_iff.1 c29, hello := inB_iff.1 c34, update := inB_iff.1 c39, hello10 := by omega, update10 := by omega, addr := hl56 (by simpa using c56), addr4 := .inr (by omega), rtt := .inr ⟨(inB_iff.1 c78).1, by omega, by omega, inB_iff.1 c94, inB_iff.1 h⟩ }, rfl⟩
                ·skip
                 refine Sq.quiet (i := 19) rfl (Want.none rfl) rfl (ltN rfl) (QP.pick_t rfl rfl rfl).read ?_
                 refine Sq.quiet (i := 20) rfl (Want.none rfl) rfl (ltN rfl) (QP.move rfl rfl).read ?_
                 refine Sq.skip (i := 21) rfl (Want.no rfl rfl rfl rfl) rfl (ltN rfl) ?_
                 refine Sq.skip (i := 22) rfl (Want.no rfl rfl rfl rfl) rfl (ltN rfl) ?_
                 refine Sq.skip (i := 23) rfl (Want.no rfl rfl rfl rfl) rfl (ltN rfl) ?_
                 refine Sq.quiet (i := 24) rfl (Want.none rfl) rfl (ltN rfl) (QP.pick_f rfl rfl rfl).read ?_
                 refine Sq.quiet (i := 25) rfl (Want.none rfl) rfl (ltN rfl) (QP.assign rfl rfl).read ?_
                 refine Sq.nil ?_
                 refine hk35 _ _ ?_
                 refine Run.ret ?_
                 exact J.ends (res_tmp rfl rfl) Takes.nil ⟨false, rfl, fun h => (by cases h), rfl⟩
               ·skip
                refine Sq.quiet (i := 14) rfl (Want.none rfl) rfl (ltN rfl) (QP.pick_t rfl rfl rfl).read ?_
                refine Sq.quiet (i := 15) rfl (Want.none rfl) rfl (ltN rfl) (QP.move rfl rfl).read ?_
                refine Sq.skip (i := 16) rfl (Want.no rfl rfl rfl rfl) rfl (ltN rfl) ?_
                refine Sq.skip (i := 17) rfl (Want.no rfl rfl rfl rfl) rfl (ltN rfl) ?_
                refine Sq.skip (i := 18) rfl (Want.no rfl rfl rfl rfl) rfl (ltN rfl) ?_
                refine Sq.quiet (i := 19) rfl (Want.none rfl) rfl (ltN rfl) (QP.pick_f rfl rfl rfl).read ?_
                refine Sq.quiet (i := 20) rfl (Want.none rfl) rfl (ltN rfl) (QP.move rfl rfl).read ?_
                refine Sq.skip (i := 21) rfl (Want.no rfl rfl rfl rfl) rfl (ltN rfl) ?_
                refine Sq.skip (i := 22) rfl (Want.no rfl rfl rfl rfl) rfl (ltN rfl) ?_
                refine Sq.skip (i := 23) rfl (Want.no rfl rfl rfl rfl) rfl (ltN rfl) ?_
                refine Sq.quiet (i := 24) rfl (Want.none rfl) rfl (ltN rfl) (QP.pick_f rfl rfl rfl).read ?_
                refine Sq.quiet (i := 25) rfl (Want.none rfl) rfl (ltN rfl) (QP.assign rfl rfl).read ?_
                refine Sq.nil ?_
                refine hk35 _ _ ?_
                refine Run.ret ?_
                exact J.ends (res_tmp rfl rfl) Takes.nil ⟨false, rfl, fun h => (by cases h), rfl⟩
              ·skip
               refine Sq.quiet (i := 9) rfl (Want.none rfl) rfl (ltN rfl) (QP.pick_t rfl rfl rfl).read ?_
               refine Sq.quiet (i := 10) rfl (Want.none rfl) rfl (ltN rfl) (QP.move rfl rfl).read ?_
               refine Sq.skip (i := 11) rfl (Want.no rfl rfl rfl rfl) rfl (ltN rfl) ?_
               refine Sq.skip (i := 12) rfl (Want.no rfl rfl rfl rfl) rfl (ltN rfl) ?_
               refine Sq.skip (i := 13) rfl (Want.no rfl rfl rfl rfl) rfl (ltN rfl) ?_
               refine Sq.quiet (i := 14) rfl (Want.none rfl) rfl (ltN rfl) (QP.pick_f rfl rfl rfl).read ?_
               refine Sq.quiet (i := 15) rfl (Want.none rfl) rfl (ltN rfl) (QP.move rfl rfl).read ?_
               refine Sq.skip (i := 16) rfl (Want.no rfl rfl rfl rfl) rfl (ltN rfl) ?_
               refine Sq.skip (i := 17) rfl (Want.no rfl rfl rfl rfl) rfl (ltN rfl) ?_
               refine Sq.skip (i := 18) rfl (Want.no rfl rfl rfl rfl) rfl (ltN rfl) ?_
               refine Sq.quiet (i := 19) rfl (Want.none rfl) rfl (ltN rfl) (QP.pick_f rfl rfl rfl).read ?_
               refine Sq.quiet (i := 20) rfl (Want.none rfl) rfl (ltN rfl) (QP.move rfl rfl).read ?_
               refine Sq.skip (i := 21) rfl (Want.no rfl rfl rfl rfl) rfl (ltN rfl) ?_
               refine Sq.skip (i := 22) rfl (Want.no rfl rfl rfl rfl) rfl (ltN rfl) ?_
               refine Sq.skip (i := 23) rfl (Want.no rfl rfl rfl rfl) rfl (ltN rfl) ?_
               refine Sq.quiet (i := 24) rfl (Want.none rfl) rfl (ltN rfl) (QP.pick_f rfl rfl rfl).read ?_
               refine Sq.quiet (i := 25) rfl (Want.none rfl) rfl (ltN rfl) (QP.assign rfl rfl).read ?_
               refine Sq.nil ?_
               refine hk35 _ _ ?_
               refine Run.ret ?_
               exact J.ends (res_tmp rfl rfl) Takes.nil ⟨false, rfl, fun h => (by cases h), rfl⟩
             ·skip
              refine Sq.quiet (i := 3) rfl (Want.none rfl) rfl (ltN rfl) (QP.move rfl rfl).read ?_
              refine Sq.skip (i := 4) rfl (Want.no rfl rfl rfl rfl) rfl (ltN rfl) ?_
              refine Sq.skip (i := 5) rfl (Want.no rfl rfl rfl rfl) rfl (ltN rfl) ?_
              refine Sq.skip (i := 6) rfl (Want.no rfl rfl rfl rfl) rfl (ltN rfl) ?_
              refine Sq.skip (i := 7) rfl (Want.no rfl rfl rfl rfl) rfl (ltN rfl) ?_
              refine Sq.skip (i := 8) rfl (Want.no rfl rfl rfl rfl) rfl (ltN rfl) ?_
              refine Sq.quiet (i := 9) rfl (Want.none rfl) rfl (ltN rfl) (QP.pick_f rfl rfl rfl).read ?_
              refine Sq.quiet (i := 10) rfl (Want.none rfl) rfl (ltN rfl) (QP.move rfl rfl).read ?_
              refine Sq.skip (i := 11) rfl (Want.no rfl rfl rfl rfl) rfl (ltN rfl) ?_
              refine Sq.skip (i := 12) rfl (Want.no rfl rfl rfl rfl) rfl (ltN rfl) ?_
              refine Sq.skip (i := 13) rfl (Want.no rfl rfl rfl rfl) rfl (ltN rfl) ?_
              refine Sq.quiet (i := 14) rfl (Want.none rfl) rfl (ltN rfl) (QP.pick_f rfl rfl rfl).read ?_
              refine Sq.quiet (i := 15) rfl (Want.none rfl) rfl (ltN rfl) (QP.move rfl rfl).read ?_
              refine Sq.skip (i := 16) rfl (Want.no rfl rfl rfl rfl) rfl (ltN rfl) ?_
              refine Sq.skip (i := 17) rfl (Want.no rfl rfl rfl rfl) rfl (ltN rfl) ?_
              refine Sq.skip (i := 18) rfl (Want.no rfl rfl rfl rfl) rfl (ltN rfl) ?_
              refine Sq.quiet (i := 19) rfl (Want.none rfl) rfl (ltN rfl) (QP.pick_f rfl rfl rfl).read ?_
              refine Sq.quiet (i := 20) rfl (Want.none rfl) rfl (ltN rfl) (QP.move rfl rfl).read ?_
              refine Sq.skip (i := 21) rfl (Want.no rfl rfl rfl rfl) rfl (ltN rfl) ?_
              refine Sq.skip (i := 22) rfl (Want.no rfl rfl rfl rfl) rfl (ltN rfl) ?_
              refine Sq.skip (i := 23) rfl (Want.no rfl rfl rfl rfl) rfl (ltN rfl) ?_
              refine Sq.quiet (i := 24) rfl (Want.none rfl) rfl (ltN rfl) (QP.pick_f rfl rfl rfl).read ?_
              refine Sq.quiet (i := 25) rfl (Want.none rfl) rfl (ltN rfl) (QP.assign rfl rfl).read ?_
              refine Sq.nil ?_
              refine hk35 _ _ ?_
              refine Run.ret ?_
              exact J.ends (res_tmp rfl rfl) Takes.nil ⟨false, rfl, fun h => (by cases h), rfl⟩
            ·skip
             refine Sq.quiet (i := 2) rfl (Want.none rfl) rfl (ltN rfl) (QP.not rfl rfl).read ?_
             refine Sq.nil ?_
             refine hk34 _ _ ?_
             refine Run.cond_t rfl ?_
             refine Run.seq fun k36 hk36 => ?_
             refine Run.region ?_
             show Sq _ _ _ [0, 1, 2, 3] _ _ _ _
             refine Sq.quiet (i := 0) rfl (Want.none rfl) rfl (ltN rfl) (QR.load rfl rfl g58 (Rtt.enc_sub _)) ?_
             refine Sq.quiet (i := 1) rfl (Want.none rfl) rfl (ltN rfl) (QP.build (l := Rtt.enc Rtt.zero) rfl st58 rfl (by exact trivial) rfl).read ?_
             refine Sq.quiet (i := 2) rfl (Want.none rfl) rfl (ltN rfl) (QP.eql_agg eq58 rfl rfl rfl).read ?_
             refine Sq.quiet (i := 3) rfl (Want.none rfl) rfl (ltN rfl) (QP.assign rfl rfl).read ?_
             refine Sq.nil ?_
             refine hk36 _ _ ?_
             refine Run.ret ?_
             exact J.ends (res_tmp rfl rfl) Takes.nil ⟨_, rfl, fun h => { kind := by omega, cost := inB_iff.1 c23, mtu := inB_iff.1 c29, hello := inB_iff.1 c34, update := inB_iff.1 c39, hello10 := by omega, update10 := by omega, addr := hl56 (by simpa using c56), addr4 := .inr (by omega), rtt := .inl (of_decide_eq_true h) }, rfl⟩
          ·skip
           refine Sq.quiet (i := 9) rfl (Want.yes rfl rfl rfl rfl) rfl (ltN rfl) (QP.move rfl rfl).read ?_
           refine Sq.skip (i := 10) rfl (Want.no rfl rfl rfl rfl) rfl (ltN rfl) ?_
           refine Sq.skip (i := 11) rfl (Want.no rfl rfl rfl rfl) rfl (ltN rfl) ?_
           refine Sq.skip (i := 12) rfl (Want.no rfl rfl rfl rfl) rfl (ltN rfl) ?_
           refine Sq.skip (i := 13) rfl (Want.no rfl rfl rfl rfl) rfl (ltN rfl) ?_
           refine Sq.quiet (i := 14) rfl (Want.yes rfl rfl rfl rfl) rfl (ltN rfl) (QP.pick_f rfl rfl rfl).read ?_
           refine Sq.quiet (i := 15) rfl (Want.none rfl) rfl (ltN rfl) (QP.pick_f rfl rfl rfl).read ?_
           refine Sq.nil ?_
           refine hk31 _ _ ?_
           refine Run.cond_f rfl ?_
           refine Run.skip ?_
           refine hk30 _ _ ?_
           refine Run.seq fun k37 hk37 => ?_
           refine Run.seq fun k38 hk38 => ?_
           refine Run.region ?_
           show Sq _ _ _ [0, 1, 2] _ _ _ _
           refine Sq.quiet (i := 0) rfl (Want.none rfl) rfl (ltN rfl) (QP.fieldAddr rfl rfl f58_0).read ?_
           refine Sq.quiet (i := 1) rfl (Want.none rfl) rfl (ltN rfl) (QR.load1 rfl rfl g4 (Rtt.sub_on_ _)) ?_
           refine J.caseB (fun c71 => ?_) (fun c71 => ?_)
           ·skip
            refine Sq.quiet (i := 2) rfl (Want.none rfl) rfl (ltN rfl) (QP.not rfl rfl).read ?_
            refine Sq.nil ?_
            refine hk38 _ _ ?_
            refine Run.cond_f rfl ?_
            refine Run.skip ?_
            refine hk37 _ _ ?_
            refine Run.seq fun k39 hk39 => ?_
            refine Run.region ?_
            show Sq _ _ _ [0, 1, 2, 3, 4, 5, 6, 7, 8, 9, 10, 11, 12, 13, 14, 15, 16, 17, 18, 19, 20, 21, 22, 23, 24, 25] _ _ _ _
            refine Sq.quiet (i := 0) rfl (Want.none rfl) rfl (ltN rfl) (QP.fieldAddr rfl rfl f58_1).read ?_
            refine Sq.quiet (i := 1) rfl (Want.none rfl) rfl (ltN rfl) (QR.load1 rfl rfl g3 (Rtt.sub_min _)) ?_
            refine Sq.eff (i := 2) rfl (Want.none rfl) rfl (ltN rfl) (EF.call rfl ce46 rfl Takes.nil (fun F' hle hr => rin_spec F' (((x).rtt).min) (0) (1000000))) ?_
            rintro _ _ ⟨_, ⟨rfl, rfl⟩, rfl⟩
            refine J.app ?_
            refine J.caseB (fun c78 => ?_) (fun c78 => ?_)
            ·skip
             refine Sq.quiet (i := 3) rfl (Want.none rfl) rfl (ltN rfl) (QP.move rfl rfl).read ?_
             refine Sq.quiet (i := 4) rfl (Want.yes rfl rfl rfl rfl) rfl (ltN rfl) (QP.fieldAddr rfl rfl f58_2).read ?_
             refine Sq.quiet (i := 5) rfl (Want.yes rfl rfl rfl rfl) rfl (ltN rfl) (QR.load1 rfl rfl g3 (Rtt.sub_max _)) ?_
             refine Sq.quiet (i := 6) rfl (Want.yes rfl rfl rfl rfl) rfl (ltN rfl) (QP.fieldAddr rfl rfl f58_1).read ?_
             refine Sq.quiet (i := 7) rfl (Want.yes rfl rfl rfl rfl) rfl (ltN rfl) (QR.load1 rfl rfl g3 (Rtt.sub_min _)) ?_
             refine Sq.quiet (i := 8) rfl (Want.yes rfl rfl rfl rfl) rfl (ltN rfl) (QP.gtr rfl rfl rfl).read ?_
             refine J.caseD (fun c84 => ?_) (fun c84 => ?_)
             ·skip
              refine Sq.quiet (i := 9) rfl (Want.none rfl) rfl (ltN rfl) (QP.pick_t rfl rfl rfl).read ?_
              refine Sq.quiet (i := 10) rfl (Want.none rfl) rfl (ltN rfl) (QP.move rfl rfl).read ?_
              refine Sq.quiet (i := 11) rfl (Want.yes rfl rfl rfl rfl) rfl (ltN rfl) (QP.fieldAddr rfl rfl f58_2).read ?_
              refine Sq.quiet (i := 12) rfl (Want.yes rfl rfl rfl rfl) rfl (ltN rfl) (QR.load1 rfl rfl g3 (Rtt.sub_max _)) ?_
              refine Sq.quiet (i := 13) rfl (Want.yes rfl rfl rfl rfl) rfl (ltN rfl) (QP.leq rfl rfl rfl).read ?_
              refine J.caseD (fun c89 => ?_) (fun c89 => ?_)
              ·skip
               refine Sq.quiet (i := 14) rfl (Want.none rfl) rfl (ltN rfl) (QP.pick_t rfl rfl rfl).read ?_
               refine Sq.quiet (i := 15) rfl (Want.none rfl) rfl (ltN rfl) (QP.move rfl rfl).read ?_
               refine Sq.quiet (i := 16) rfl (Want.yes rfl rfl rfl rfl) rfl (ltN rfl) (QP.fieldAddr rfl rfl f58_3).read ?_
               refine Sq.quiet (i := 17) rfl (Want.yes rfl rfl rfl rfl) rfl (ltN rfl) (QR.load1 rfl rfl g3 (Rtt.sub_cost _)) ?_
               refine Sq.eff (i := 18) rfl (Want.yes rfl rfl rfl rfl) rfl (ltN rfl) (EF.call rfl ce46 rfl Takes.nil (fun F' hle hr => rin_spec F' (((x).rtt).cost) (1) (65534))) ?_
               rintro _ _ ⟨_, ⟨rfl, rfl⟩, rfl⟩
               refine J.app ?_
               refine J.caseB (fun c94 => ?_) (fun c94 => ?_)
               ·skip
                refine Sq.quiet (i := 19) rfl (Want.none rfl) rfl (ltN rfl) (QP.pick_t rfl rfl rfl).read ?_
                refine Sq.quiet (i := 20) rfl (Want.none rfl) rfl (ltN rfl) (QP.move rfl rfl).read ?_
                refine Sq.quiet (i := 21) rfl (Want.yes rfl rfl rfl rfl) rfl (ltN rfl) (QP.fieldAddr rfl rfl f58_4).read ?_
                refine Sq.quiet (i := 22) rfl (Want.yes rfl rfl rfl rfl) rfl (ltN rfl) (QR.load1 rfl rfl g3 (Rtt.sub_decay _)) ?_
                refine Sq.eff (i := 23) rfl (Want.yes rfl rfl rfl rfl) rfl (ltN rfl) (EF.call rfl ce46 rfl Takes.nil (fun F' hle hr => rin_spec F' (((x).rtt).decay) (1) (256))) ?_
                rintro _ _ ⟨_, ⟨rfl, rfl⟩, rfl⟩
                refine J.app ?_
                refine Sq.quiet (i := 24) rfl (Want.none rfl) rfl (ltN rfl) (QP.pick_t rfl rfl rfl).read ?_
                refine Sq.quiet (i := 25) rfl (Want.none rfl) rfl (ltN rfl) (QP.assign rfl rfl).read ?_
                refine Sq.nil ?_
                refine hk39 _ _ ?_
                refine Run.ret ?_
                exact J.ends (res_tmp rfl rfl) Takes.nil ⟨_, rfl, fun h => { kind := by omega, cost := inB_iff.1 c23, mtu := inB_iff.1 c29, hello := inB_iff.1 c34, update := inB_iff.1 c39, hello10 := by omega, update10 := by omega, addr := hl56 (by simpa using c56), addr4 := .inl (Classical.not_not.1 c62), rtt := .inr ⟨(inB_iff.1 c78).1, by omega, by omega, inB_iff.1 c94, inB_iff.1 h⟩ }, rfl⟩
               ·skip
                refine Sq.quiet (i := 19) rfl (Want.none rfl) rfl (ltN rfl) (QP.pick_t rfl rfl rfl).read ?_
                refine Sq.quiet (i := 20) rfl (Want.none rfl) rfl (ltN rfl) (QP.move rfl rfl).read ?_
                refine Sq.skip (i := 21) rfl (Want.no rfl rfl rfl rfl) rfl (ltN rfl) ?_
                refine Sq.skip (i := 22) rfl (Want.no rfl rfl rfl rfl) rfl (ltN rfl) ?_
                refine Sq.skip (i := 23) rfl (Want.no rfl rfl rfl rfl) rfl (ltN rfl) ?_
                refine Sq.quiet (i := 24) rfl (Want.none rfl) rfl (ltN rfl) (QP.pick_f rfl rfl rfl).read ?_
                refine Sq.quiet (i := 25) rfl (Want.none rfl) rfl (ltN rfl) (QP.assign rfl rfl).read ?_
                refine Sq.nil ?_
                refine hk39 _ _ ?_
                refine Run.ret ?_
                exact J.ends (res_tmp rfl rfl) Takes.nil ⟨false, rfl, fun h => (by cases h), rfl⟩
              ·skip
               refine Sq.quiet (i := 14) rfl (Want.none rfl) rfl (ltN rfl) (QP.pick_t rfl rfl rfl).read ?_
               refine Sq.quiet (i := 15) rfl (Want.none rfl) rfl (ltN rfl) (QP.move rfl rfl).read ?_
               refine Sq.skip (i := 16) rfl (Want.no rfl rfl rfl rfl) rfl (ltN rfl) ?_
               refine Sq.skip (i := 17) rfl (Want.no rfl rfl rfl rfl) rfl (ltN rfl) ?_
               refine Sq.skip (i := 18) rfl (Want.no rfl rfl rfl rfl) rfl (ltN rfl) ?_
               refine Sq.quiet (i := 19) rfl (Want.none rfl) rfl (ltN rfl) (QP.pick_f rfl rfl rfl).read ?_
               refine Sq.quiet (i := 20) rfl (Want.none rfl) rfl (ltN rfl) (QP.move rfl rfl).read ?_
               refine Sq.skip (i := 21) rfl (Want.no rfl rfl rfl rfl) rfl (ltN rfl) ?_
               refine Sq.skip (i := 22) rfl (Want.no rfl rfl rfl rfl) rfl (ltN rfl) ?_
               refine Sq.skip (i := 23) rfl (Want.no rfl rfl rfl rfl) rfl (ltN rfl) ?_
               refine Sq.quiet (i := 24) rfl (Want.none rfl) rfl (ltN rfl) (QP.pick_f rfl rfl rfl).read ?_
               refine Sq.quiet (i := 25) rfl (Want.none rfl) rfl (ltN rfl) (QP.assign rfl rfl).read ?_
               refine Sq.nil ?_
               refine hk39 _ _ ?_
               refine Run.ret ?_
               exact J.ends (res_tmp rfl rfl) Takes.nil ⟨false, rfl, fun h => (by cases h), rfl⟩
             ·skip
              refine Sq.quiet (i := 9) rfl (Want.none rfl) rfl (ltN rfl) (QP.pick_t rfl rfl rfl).read ?_
              refine Sq.quiet (i := 10) rfl (Want.none rfl) rfl (ltN rfl) (QP.move rfl rfl).read ?_
              refine Sq.skip (i := 11) rfl (Want.no rfl rfl rfl rfl) rfl (ltN rfl) ?_
              refine Sq.skip (i := 12) rfl (Want.no rfl rfl rfl rfl) rfl (ltN rfl) ?_
              refine Sq.skip (i := 13) rfl (Want.no rfl rfl rfl rfl) rfl (ltN rfl) ?_
              refine Sq.quiet (i := 14) rfl (Want.none rfl) rfl (ltN rfl) (QP.pick_f rfl rfl rfl).read ?_
              refine Sq.quiet (i := 15) rfl (Want.none rfl) rfl (ltN rfl) (QP.move rfl rfl).read ?_
              refine Sq.skip (i := 16) rfl (Want.no rfl rfl rfl rfl) rfl (ltN rfl) ?_
              refine Sq.skip (i := 17) rfl (Want.no rfl rfl rfl rfl) rfl (ltN rfl) ?_
              refine Sq.skip (i := 18) rfl (Want.no rfl rfl rfl rfl) rfl (ltN rfl) ?_
              refine Sq.quiet (i := 19) rfl (Want.none rfl) rfl (ltN rfl) (QP.pick_f rfl rfl rfl).read ?_
              refine Sq.quiet (i := 20) rfl (Want.none rfl) rfl (ltN rfl) (QP.move rfl rfl).read ?_
              refine Sq.skip (i := 21) rfl (Want.no rfl rfl rfl rfl) rfl (ltN rfl) ?_
              refine Sq.skip (i := 22) rfl (Want.no rfl rfl rfl rfl) rfl (ltN rfl) ?_
              refine Sq.skip (i := 23) rfl (Want.no rfl rfl rfl rfl) rfl (ltN rfl) ?_
              refine Sq.quiet (i := 24) rfl (Want.none rfl) rfl (ltN rfl) (QP.pick_f rfl rfl rfl).read ?_
              refine Sq.quiet (i := 25) rfl (Want.none rfl) rfl (ltN rfl) (QP.assign rfl rfl).read ?_
              refine Sq.nil ?_
              refine hk39 _ _ ?_
              refine Run.ret ?_
              exact J.ends (res_tmp rfl rfl) Takes.nil ⟨false, rfl, fun h => (by cases h), rfl⟩
            ·skip
             refine Sq.quiet (i := 3) rfl (Want.none rfl) rfl (ltN rfl) (QP.move rfl rfl).read ?_
             refine Sq.skip (i := 4) rfl (Want.no rfl rfl rfl rfl) rfl (ltN rfl) ?_
             refine Sq.skip (i := 5) rfl (Want.no rfl rfl rfl rfl) rfl (ltN rfl) ?_
             refine Sq.skip (i := 6) rfl (Want.no rfl rfl rfl rfl) rfl (ltN rfl) ?_
             refine Sq.skip (i := 7) rfl (Want.no rfl rfl rfl rfl) rfl (ltN rfl) ?_
             refine Sq.skip (i := 8) rfl (Want.no rfl rfl rfl rfl) rfl (ltN rfl) ?_
             refine Sq.quiet (i := 9) rfl (Want.none rfl) rfl (ltN rfl) (QP.pick_f rfl rfl rfl).read ?_
             refine Sq.quiet (i := 10) rfl (Want.none rfl) rfl (ltN rfl) (QP.move rfl rfl).read ?_
             refine Sq.skip (i := 11) rfl (Want.no rfl rfl rfl rfl) rfl (ltN rfl) ?_
             refine Sq.skip (i := 12) rfl (Want.no rfl rfl rfl rfl) rfl (ltN rfl) ?_
             refine Sq.skip (i := 13) rfl (Want.no rfl rfl rfl rfl) rfl (ltN rfl) ?_
             refine Sq.quiet (i := 14) rfl (Want.none rfl) rfl (ltN rfl) (QP.pick_f rfl rfl rfl).read ?_
             refine Sq.quiet (i := 15) rfl (Want.none rfl) rfl (ltN rfl) (QP.move rfl rfl).read ?_
             refine Sq.skip (i := 16) rfl (Want.no rfl rfl rfl rfl) rfl (ltN rfl) ?_
             refine Sq.skip (i := 17) rfl (Want.no rfl rfl rfl rfl) rfl (ltN rfl) ?_
             refine Sq.skip (i := 18) rfl (Want.no rfl rfl rfl rfl) rfl (ltN rfl) ?_
             refine Sq.quiet (i := 19) rfl (Want.none rfl) rfl (ltN rfl) (QP.pick_f rfl rfl rfl).read ?_
             refine Sq.quiet (i := 20) rfl (Want.none rfl) rfl (ltN rfl) (QP.move rfl rfl).read ?_
             refine Sq.skip (i := 21) rfl (Want.no rfl rfl rfl rfl) rfl (ltN rfl) ?_
             refine Sq.skip (i := 22) rfl (Want.no rfl rfl rfl rfl) rfl (ltN rfl) ?_
             refine Sq.skip (i := 23) rfl (Want.no rfl rfl rfl rfl) rfl (ltN rfl) ?_
             refine Sq.quiet (i := 24) rfl (Want.none rfl) rfl (ltN rfl) (QP.pick_f rfl rfl rfl).read ?_
             refine Sq.quiet (i := 25) rfl (Want.none rfl) rfl (ltN rfl) (QP.assign rfl rfl).read ?_
             refine Sq.nil ?_
             refine hk39 _ _ ?_
             refine Run.ret ?_
             exact J.ends (res_tmp rfl rfl) Takes.nil ⟨false, rfl, fun h => (by cases h), rfl⟩
           ·skip
            refine Sq.quiet (i := 2) rfl (Want.none rfl) rfl (ltN rfl) (QP.not rfl rfl).read ?_
            refine Sq.nil ?_
            refine hk38 _ _ ?_
            refine Run.cond_t rfl ?_
            refine Run.seq fun k40 hk40 => ?_
            refine Run.region ?_
            show Sq _ _ _ [0, 1, 2, 3] _ _ _ _
            refine Sq.quiet (i := 0) rfl (Want.none rfl) rfl (ltN rfl) (QR.load rfl rfl g58 (Rtt.enc_sub _)) ?_
            refine Sq.quiet (i := 1) rfl (Want.none rfl) rfl (ltN rfl) (QP.build (l := Rtt.enc Rtt.zero) rfl st58 rfl (by exact trivial) rfl).read ?_
            refine Sq.quiet (i := 2) rfl (Want.none rfl) rfl (ltN rfl) (QP.eql_agg eq58 rfl rfl rfl).read ?_
            refine Sq.quiet (i := 3) rfl (Want.none rfl) rfl (ltN rfl) (QP.assign rfl rfl).read ?_
            refine Sq.nil ?_
            refine hk40 _ _ ?_
            refine Run.ret ?_
            exact J.ends (res_tmp rfl rfl) Takes.nil ⟨_, rfl, fun h => { kind := by omega, cost := inB_iff.1 c23, mtu := inB_iff.1 c29, hello := inB_iff.1 c34, update := inB_iff.1 c39, hello10 := by omega, update10 := by omega, addr := hl56 (by simpa using c56), addr4 := .inl (Classical.not_not.1 c62), rtt := .inl (of_decide_eq_true h) }, rfl⟩
         ·skip
          refine Sq.quiet (i := 3) rfl (Want.none rfl) rfl (ltN rfl) (QP.not rfl rfl).read ?_
          refine Sq.quiet (i := 4) rfl (Want.none rfl) rfl (ltN rfl) (QP.move rfl rfl).read ?_
          refine Sq.skip (i := 5) rfl (Want.no rfl rfl rfl rfl) rfl (ltN rfl) ?_
          refine Sq.skip (i := 6) rfl (Want.no rfl rfl rfl rfl) rfl (ltN rfl) ?_
          refine Sq.skip (i := 7) rfl (Want.no rfl rfl rfl rfl) rfl (ltN rfl) ?_
          refine Sq.skip (i := 8) rfl (Want.no rfl rfl rfl rfl) rfl (ltN rfl) ?_
          refine Sq.skip (i := 9) rfl (Want.no rfl rfl rfl rfl) rfl (ltN rfl) ?_
          refine Sq.skip (i := 10) rfl (Want.undef rfl rfl rfl) rfl (ltN rfl) ?_
          refine Sq.skip (i := 11) rfl (Want.undef rfl rfl rfl) rfl (ltN rfl) ?_
          refine Sq.skip (i := 12) rfl (Want.undef rfl rfl rfl) rfl (ltN rfl) ?_
          refine Sq.skip (i := 13) rfl (Want.undef rfl rfl rfl) rfl (ltN rfl) ?_
          refine Sq.skip (i := 14) rfl (Want.no rfl rfl rfl rfl) rfl (ltN rfl) ?_
          refine Sq.quiet (i := 15) rfl (Want.none rfl) rfl (ltN rfl) (QP.pick_t rfl rfl rfl).read ?_
          refine Sq.nil ?_
          refine hk31 _ _ ?_
          refine Run.cond_t rfl ?_
          refine Run.seq fun k41 hk41 => ?_
          refine Run.region ?_
          show Sq _ _ _ [0] _ _ _ _
          refine Sq.quiet (i := 0) rfl (Want.none rfl) rfl (ltN rfl) (QP.assign rfl rfl).read ?_
          refine Sq.nil ?_
          refine hk41 _ _ ?_
          refine Run.ret ?_
          exact J.ends (res_tmp rfl rfl) Takes.nil ⟨false, rfl, fun h => (by cases h), rfl⟩
      ·skip
       refine Sq.quiet (i := 8) rfl (Want.yes rfl rfl rfl rfl) rfl (ltN rfl) (QP.not rfl rfl).read ?_
       refine Sq.quiet (i := 9) rfl (Want.none rfl) rfl (ltN rfl) (QP.pick_f rfl rfl rfl).read ?_
       refine Sq.quiet (i := 10) rfl (Want.none rfl) rfl (ltN rfl) (QP.move rfl rfl).read ?_
       refine Sq.skip (i := 11) rfl (Want.no rfl rfl rfl rfl) rfl (ltN rfl) ?_
       refine Sq.skip (i := 12) rfl (Want.no rfl rfl rfl rfl) rfl (ltN rfl) ?_
       refine Sq.skip (i := 13) rfl (Want.no rfl rfl rfl rfl) rfl (ltN rfl) ?_
       refine Sq.skip (i := 14) rfl (Want.no rfl rfl rfl rfl) rfl (ltN rfl) ?_
       refine Sq.quiet (i := 15) rfl (Want.none rfl) rfl (ltN rfl) (QP.pick_t rfl rfl rfl).read ?_
       refine Sq.quiet (i := 16) rfl (Want.none rfl) rfl (ltN rfl) (QP.move rfl rfl).read ?_
       refine Sq.skip (i := 17) rfl (Want.no rfl rfl rfl rfl) rfl (ltN rfl) ?_
       refine Sq.skip (i := 18) rfl (Want.no rfl rfl rfl rfl) rfl (ltN rfl) ?_
       refine Sq.skip (i := 19) rfl (Want.no rfl rfl rfl rfl) rfl (ltN rfl) ?_
       refine Sq.skip (i := 20) rfl (Want.no rfl rfl rfl rfl) rfl (ltN rfl) ?_
       refine Sq.quiet (i := 21) rfl (Want.none rfl) rfl (ltN rfl) (QP.pick_t rfl rfl rfl).read ?_
       refine Sq.nil ?_
       refine hk27 _ _ ?_
       refine Run.cond_t rfl ?_
       refine Run.seq fun k42 hk42 => ?_
       refine Run.region ?_
       show Sq _ _ _ [0] _ _ _ _
       refine Sq.quiet (i := 0) rfl (Want.none rfl) rfl (ltN rfl) (QP.assign rfl rfl).read ?_
       refine Sq.nil ?_
       refine hk42 _ _ ?_
       refine Run.ret ?_
       exact J.ends (res_tmp rfl rfl) Takes.nil ⟨false, rfl, fun h => (by cases h), rfl⟩
     ·skip
      refine Sq.quiet (i := 3) rfl (Want.none rfl) rfl (ltN rfl) (QP.not rfl rfl).read ?_
      refine Sq.quiet (i := 4) rfl (Want.none rfl) rfl (ltN rfl) (QP.move rfl rfl).read ?_
      refine Sq.skip (i := 5) rfl (Want.no rfl rfl rfl rfl) rfl (ltN rfl) ?_
      refine Sq.skip (i := 6) rfl (Want.no rfl rfl rfl rfl) rfl (ltN rfl) ?_
      refine Sq.skip (i := 7) rfl (Want.no rfl rfl rfl rfl) rfl (ltN rfl) ?_
      refine Sq.skip (i := 8) rfl (Want.no rfl rfl rfl rfl) rfl (ltN rfl) ?_
      refine Sq.quiet (i := 9) rfl (Want.none rfl) rfl (ltN rfl) (QP.pick_t rfl rfl rfl).read ?_
      refine Sq.quiet (i := 10) rfl (Want.none rfl) rfl (ltN rfl) (QP.move rfl rfl).read ?_
      refine Sq.skip (i := 11) rfl (Want.no rfl rfl rfl rfl) rfl (ltN rfl) ?_
      refine Sq.skip (i := 12) rfl (Want.no rfl rfl rfl rfl) rfl (ltN rfl) ?_
      refine Sq.skip (i := 13) rfl (Want.no rfl rfl rfl rfl) rfl (ltN rfl) ?_
      refine Sq.skip (i := 14) rfl (Want.no rfl rfl rfl rfl) rfl (ltN rfl) ?_
      refine Sq.quiet (i := 15) rfl (Want.none rfl) rfl (ltN rfl) (QP.pick_t rfl rfl rfl).read ?_
      refine Sq.quiet (i := 16) rfl (Want.none rfl) rfl (ltN rfl) (QP.move rfl rfl).read ?_
      refine Sq.skip (i := 17) rfl (Want.no rfl rfl rfl rfl) rfl (ltN rfl) ?_
      refine Sq.skip (i := 18) rfl (Want.no rfl rfl rfl rfl) rfl (ltN rfl) ?_
      refine Sq.skip (i := 19) rfl (Want.no rfl rfl rfl rfl) rfl (ltN rfl) ?_
      refine Sq.skip (i := 20) rfl (Want.no rfl rfl rfl rfl) rfl (ltN rfl) ?_
      refine Sq.quiet (i := 21) rfl (Want.none rfl) rfl (ltN rfl) (QP.pick_t rfl rfl rfl).read ?_
      refine Sq.nil ?_
      refine hk27 _ _ ?_
      refine Run.cond_t rfl ?_
      refine Run.seq fun k43 hk43 => ?_
      refine Run.region ?_
      show Sq _ _ _ [0] _ _ _ _
      refine Sq.quiet (i := 0) rfl (Want.none rfl) rfl (ltN rfl) (QP.assign rfl rfl).read ?_
      refine Sq.nil ?_
      refine hk43 _ _ ?_
      refine Run.ret ?_
      exact J.ends (res_tmp rfl rfl) Takes.nil ⟨false, rfl, fun h => (by cases h), rfl⟩
    ·skip
     refine Sq.quiet (i := 24) rfl (Want.yes rfl rfl rfl rfl) rfl (ltN rfl) (QP.not rfl rfl).read ?_
     refine Sq.quiet (i := 25) rfl (Want.none rfl) rfl (ltN rfl) (QP.pick_f rfl rfl rfl).read ?_
     refine Sq.nil ?_
     refine hk4 _ _ ?_
     refine Run.cond_t rfl ?_
     refine Run.seq fun k44 hk44 => ?_
     refine Run.region ?_
     show Sq _ _ _ [0] _ _ _ _
     refine Sq.quiet (i := 0) rfl (Want.none rfl) rfl (ltN rfl) (QP.assign rfl rfl).read ?_
     refine Sq.nil ?_
     refine hk44 _ _ ?_
     refine Run.ret ?_
     exact J.ends (res_tmp rfl rfl) Takes.nil ⟨false, rfl, fun h => (by cases h), rfl⟩
   ·skip
    refine Sq.quiet (i := 18) rfl (Want.yes rfl rfl rfl rfl) rfl (ltN rfl) (QP.not rfl rfl).read ?_
    refine Sq.quiet (i := 19) rfl (Want.none rfl) rfl (ltN rfl) (QP.pick_f rfl rfl rfl).read ?_
    refine Sq.quiet (i := 20) rfl (Want.none rfl) rfl (ltN rfl) (QP.move rfl rfl).read ?_
    refine Sq.skip (i := 21) rfl (Want.no rfl rfl rfl rfl) rfl (ltN rfl) ?_
    refine Sq.skip (i := 22) rfl (Want.no rfl rfl rfl rfl) rfl (ltN rfl) ?_
    refine Sq.skip (i := 23) rfl (Want.no rfl rfl rfl rfl) rfl (ltN rfl) ?_
    refine Sq.skip (i := 24) rfl (Want.no rfl rfl rfl rfl) rfl (ltN rfl) ?_
    refine Sq.quiet (i := 25) rfl (Want.none rfl) rfl (ltN rfl) (QP.pick_t rfl rfl rfl).read ?_
    refine Sq.nil ?_
    refine hk4 _ _ ?_
    refine Run.cond_t rfl ?_
    refine Run.seq fun k45 hk45 => ?_
    refine Run.region ?_
    show Sq _ _ _ [0] _ _ _ _
    refine Sq.quiet (i := 0) rfl (Want.none rfl) rfl (ltN rfl) (QP.assign rfl rfl).read ?_
    refine Sq.nil ?_
    refine hk45 _ _ ?_
    refine Run.ret ?_
    exact J.ends (res_tmp rfl rfl) Takes.nil ⟨false, rfl, fun h => (by cases h), rfl⟩
 ·skip
  refine Sq.quiet (i := 3) rfl (Want.none rfl) rfl (ltN rfl) (QP.not rfl rfl).read ?_
  refine Sq.quiet (i := 4) rfl (Want.none rfl) rfl (ltN rfl) (QP.move rfl rfl).read ?_
  refine Sq.skip (i := 5) rfl (Want.no rfl rfl rfl rfl) rfl (ltN rfl) ?_
  refine Sq.skip (i := 6) rfl (Want.no rfl rfl rfl rfl) rfl (ltN rfl) ?_
  refine Sq.skip (i := 7) rfl (Want.no rfl rfl rfl rfl) rfl (ltN rfl) ?_
  refine Sq.skip (i := 8) rfl (Want.no rfl rfl rfl rfl) rfl (ltN rfl) ?_
  refine Sq.skip (i := 9) rfl (Want.undef rfl rfl rfl) rfl (ltN rfl) ?_
  refine Sq.skip (i := 10) rfl (Want.undef rfl rfl rfl) rfl (ltN rfl) ?_
  refine Sq.skip (i := 11) rfl (Want.undef rfl rfl rfl) rfl (ltN rfl) ?_
  refine Sq.skip (i := 12) rfl (Want.no rfl rfl rfl rfl) rfl (ltN rfl) ?_
  refine Sq.quiet (i := 13) rfl (Want.none rfl) rfl (ltN rfl) (QP.pick_t rfl rfl rfl).read ?_
  refine Sq.quiet (i := 14) rfl (Want.none rfl) rfl (ltN rfl) (QP.move rfl rfl).read ?_
  refine Sq.skip (i := 15) rfl (Want.no rfl rfl rfl rfl) rfl (ltN rfl) ?_
  refine Sq.skip (i := 16) rfl (Want.no rfl rfl rfl rfl) rfl (ltN rfl) ?_
  refine Sq.skip (i := 17) rfl (Want.no rfl rfl rfl rfl) rfl (ltN rfl) ?_
  refine Sq.skip (i := 18) rfl (Want.no rfl rfl rfl rfl) rfl (ltN rfl) ?_
  refine Sq.quiet (i := 19) rfl (Want.none rfl) rfl (ltN rfl) (QP.pick_t rfl rfl rfl).read ?_
  refine Sq.quiet (i := 20) rfl (Want.none rfl) rfl (ltN rfl) (QP.move rfl rfl).read ?_
  refine Sq.skip (i := 21) rfl (Want.no rfl rfl rfl rfl) rfl (ltN rfl) ?_
  refine Sq.skip (i := 22) rfl (Want.no rfl rfl rfl rfl) rfl (ltN rfl) ?_
  refine Sq.skip (i := 23) rfl (Want.no rfl rfl rfl rfl) rfl (ltN rfl) ?_
  refine Sq.skip (i := 24) rfl (Want.no rfl rfl rfl rfl) rfl (ltN rfl) ?_
  refine Sq.quiet (i := 25) rfl (Want.none rfl) rfl (ltN rfl) (QP.pick_t rfl rfl rfl).read ?_
  refine Sq.nil ?_
  refine hk4 _ _ ?_
  refine Run.cond_t rfl ?_
  refine Run.seq fun k46 hk46 => ?_
  refine Run.region ?_
  show Sq _ _ _ [0] _ _ _ _
  refine Sq.quiet (i := 0) rfl (Want.none rfl) rfl (ltN rfl) (QP.assign rfl rfl).read ?_
  refine Sq.nil ?_
  refine hk46 _ _ ?_
  refine Run.ret ?_
  exact J.ends (res_tmp rfl rfl) Takes.nil ⟨false, rfl, fun h => (by cases h), rfl⟩

def id1 : Bs 8 := ⟨[0, 0, 0, 0, 0, 0, 0, 1], rfl⟩
def conf1 (b off c : Nat) : Config := ⟨id1, ⟨some ⟨b, off, none⟩, 1, c⟩, Slc.zero, Slc.zero, 1, 1, 1, 1⟩

theorem rcheckC_spec (F : Fr) {b off c : Nat} {x : IfConf} (hb : ArgSl F (some ⟨b, off, none⟩) 43 IfConf.enc [x]) : Spec Try.prog 22 #[.agg (Config.enc (conf1 b off c)).toArray] [] F (fun v S => ∃ n, v = .int .i64 n ∧ (n = 0 → IfOk x) ∧ S = []) := by
 obtain ⟨b9, o9, e9, hb1⟩ := hb.get (by simp)
 cases e9
 refine Spec.intro (N := 151) (args := [.agg (Config.enc (conf1 b off c)).toArray]) Try.func22 rfl rfl (by simp) ?_
 refine Run.seq fun k1 hk1 => ?_
 refine Run.region ?_
 show Sq _ _ _ [0, 1] _ _ _ _
 refine Sq.eff (i := 0) rfl (Want.none rfl) rfl (ltN rfl) (EF.boxA rfl rfl) ?_
 rintro _ _ ⟨b1, rfl, rfl⟩
 refine Sq.quiet (i := 1) rfl (Want.none rfl) rfl (ltN rfl) (QP.assign rfl rfl).read ?_
 refine Sq.nil ?_
 refine hk1 _ _ ?_
 refine Run.seq fun k2 hk2 => ?_
 refine Run.seq fun k3 hk3 => ?_
 refine Run.region ?_
 show Sq _ _ _ [0, 1, 2, 3, 4, 5, 6, 7, 8] _ _ _ _
 refine Sq.quiet (i := 0) rfl (Want.none rfl) rfl (ltN rfl) (QP.fieldAddr rfl rfl f71_0).read ?_
 refine Sq.quiet (i := 1) rfl (Want.none rfl) rfl (ltN rfl) (QR.load rfl rfl g32 (Config.sub_id_ _)) ?_
 refine Sq.quiet (i := 2) rfl (Want.none rfl) rfl (ltN rfl) (QP.const (.agg (Bs.enc (⟨[0, 0, 0, 0, 0, 0, 0, 0], rfl⟩ : Bs 8)).toArray) (fun _ _ => by kernel_rfl)).read ?_
 refine Sq.quiet (i := 3) rfl (Want.none rfl) rfl (ltN rfl) (QP.eql_agg eq32 rfl rfl rfl).read ?_
 refine J.decF (by show ¬ id1 = _; decide) ?_
 refine Sq.quiet (i := 4) rfl (Want.none rfl) rfl (ltN rfl) (QP.move rfl rfl).read ?_
 refine Sq.quiet (i := 5) rfl (Want.yes rfl rfl rfl rfl) rfl (ltN rfl) (QP.fieldAddr rfl rfl f71_0).read ?_
 refine Sq.quiet (i := 6) rfl (Want.yes rfl rfl rfl rfl) rfl (ltN rfl) (QR.load rfl rfl g32 (Config.sub_id_ _)) ?_
 refine Sq.eff (i := 7) rfl (Want.yes rfl rfl rfl rfl) rfl (ltN rfl) (EF.call rfl ce42 rfl Takes.nil (fun F' hle hr => rfull_spec F' (((conf1 b off c)).id_))) ?_
 rintro _ _ ⟨_, ⟨r16, rfl, hfu16, rfl⟩, rfl⟩
 refine J.app ?_
 refine J.caseB (fun c16 => ?_) (fun c16 => ?_)
 ·skip
  refine Sq.quiet (i := 8) rfl (Want.none rfl) rfl (ltN rfl) (QP.pick_f rfl rfl rfl).read ?_
  refine Sq.nil ?_
  refine hk3 _ _ ?_
  refine Run.cond_t rfl ?_
  refine Run.seq fun k4 hk4 => ?_
  refine Run.region ?_
  show Sq _ _ _ [0] _ _ _ _
  refine Sq.quiet (i := 0) rfl (Want.none rfl) rfl (ltN rfl) (QP.assign rfl rfl).read ?_
  refine Sq.nil ?_
  refine hk4 _ _ ?_
  refine Run.ret ?_
  exact J.ends (res_tmp rfl rfl) Takes.nil ⟨91, rfl, fun h => absurd h (by decide), rfl⟩
 ·skip
  refine Sq.quiet (i := 8) rfl (Want.none rfl) rfl (ltN rfl) (QP.pick_f rfl rfl rfl).read ?_
  refine Sq.nil ?_
  refine hk3 _ _ ?_
  refine Run.cond_f rfl ?_
  refine Run.skip ?_
  refine hk2 _ _ ?_
  refine Run.seq fun k5 hk5 => ?_
  refine Run.seq fun k6 hk6 => ?_
  refine Run.region ?_
  show Sq _ _ _ [0, 1, 2, 3] _ _ _ _
  refine Sq.quiet (i := 0) rfl (Want.none rfl) rfl (ltN rfl) (QP.fieldAddr rfl rfl f71_1).read ?_
  refine Sq.quiet (i := 1) rfl (Want.none rfl) rfl (ltN rfl) (QR.load1 rfl rfl g22 (Config.sub_ifs _)) ?_
  refine Sq.quiet (i := 2) rfl (Want.none rfl) rfl (ltN rfl) (QP.len rfl rfl rfl Try.underlying22).read ?_
  refine Sq.quiet (i := 3) rfl (Want.none rfl) rfl (ltN rfl) (QP.eql rfl rfl rfl).read ?_
  refine J.decF (by show ¬ ((1 : Nat) : Int) = 0; decide) ?_
  refine Sq.nil ?_
  refine hk6 _ _ ?_
  refine Run.cond_f rfl ?_
  refine Run.skip ?_
  refine hk5 _ _ ?_
  refine Run.seq fun k7 hk7 => ?_
  refine Run.seq fun k8 hk8 => ?_
  refine Run.region ?_
  show Sq _ _ _ [0, 1, 2, 3, 4, 5, 6, 7, 8, 9, 10, 11, 12, 13, 14, 15] _ _ _ _
  refine Sq.quiet (i := 0) rfl (Want.none rfl) rfl (ltN rfl) (QP.fieldAddr rfl rfl f71_1).read ?_
  refine Sq.quiet (i := 1) rfl (Want.none rfl) rfl (ltN rfl) (QR.load1 rfl rfl g22 (Config.sub_ifs _)) ?_
  refine Sq.quiet (i := 2) rfl (Want.none rfl) rfl (ltN rfl) (QP.len rfl rfl rfl Try.underlying22).read ?_
  refine Sq.quiet (i := 3) rfl (Want.none rfl) rfl (ltN rfl) (QP.gtr rfl rfl rfl).read ?_
  refine J.decF (by show ¬ (16 : Int) < ((1 : Nat) : Int); decide) ?_
  refine Sq.quiet (i := 4) rfl (Want.none rfl) rfl (ltN rfl) (QP.move rfl rfl).read ?_
  refine Sq.quiet (i := 5) rfl (Want.yes rfl rfl rfl rfl) rfl (ltN rfl) (QP.fieldAddr rfl rfl f71_2).read ?_
  refine Sq.quiet (i := 6) rfl (Want.yes rfl rfl rfl rfl) rfl (ltN rfl) (QR.load1 rfl rfl g68 (Config.sub_rules _)) ?_
  refine Sq.quiet (i := 7) rfl (Want.yes rfl rfl rfl rfl) rfl (ltN rfl) (QP.len rfl rfl rfl Try.underlying68).read ?_
  refine Sq.quiet (i := 8) rfl (Want.yes rfl rfl rfl rfl) rfl (ltN rfl) (QP.gtr rfl rfl rfl).read ?_
  refine J.decF (by show ¬ (256 : Int) < ((0 : Nat) : Int); decide) ?_
  refine Sq.quiet (i := 9) rfl (Want.none rfl) rfl (ltN rfl) (QP.pick_f rfl rfl rfl).read ?_
  refine Sq.quiet (i := 10) rfl (Want.none rfl) rfl (ltN rfl) (QP.move rfl rfl).read ?_
  refine Sq.quiet (i := 11) rfl (Want.yes rfl rfl rfl rfl) rfl (ltN rfl) (QP.fieldAddr rfl rfl f71_3).read ?_
  refine Sq.quiet (i := 12) rfl (Want.yes rfl rfl rfl rfl) rfl (ltN rfl) (QR.load1 rfl rfl g69 (Config.sub_locals _)) ?_
  refine Sq.quiet (i := 13) rfl (Want.yes rfl rfl rfl rfl) rfl (ltN rfl) (QP.len rfl rfl rfl Try.underlying69).read ?_
  refine Sq.quiet (i := 14) rfl (Want.yes rfl rfl rfl rfl) rfl (ltN rfl) (QP.gtr rfl rfl rfl).read ?_
  refine J.decF (by show ¬ (256 : Int) < ((0 : Nat) : Int); decide) ?_
  refine Sq.quiet (i := 15) rfl (Want.none rfl) rfl (ltN rfl) (QP.pick_f rfl rfl rfl).read ?_
  refine Sq.nil ?_
  refine hk8 _ _ ?_
  refine Run.cond_f rfl ?_
  refine Run.skip ?_
  refine hk7 _ _ ?_
  refine Run.seq fun k9 hk9 => ?_
  refine Run.seq fun k10 hk10 => ?_
  refine Run.region ?_
  show Sq _ _ _ [0] _ _ _ _
  refine Sq.quiet (i := 0) rfl (Want.none rfl) rfl (ltN rfl) (QP.assign rfl rfl).read ?_
  refine Sq.nil ?_
  refine hk10 _ _ ?_
  refine Run.block ?_
  refine Run.loop1 (fun (i : Nat) => i ≤ 1 ∧ (0 < i → IfOk x)) (fun i => .cons 1 (.pointer (some ⟨b1, 0, none⟩)) (.cons 3 (.int .i64 i) (.nil))) (fun i => [blk b1 (Config.enc (conf1 b off c)) 71]) (fun i => 1 - i) (0) (⟨Nat.zero_le _, fun h => absurd h (by omega)⟩) ?_ ?_
  ·exact fun _ j => J.envJ (J.keep (.cons (by repeat constructor) Takes.nil) j) ⟨rfl, rfl, trivial⟩
  rintro i ⟨hile, hok⟩ kl11 hl11
  refine Run.seq fun k12 hk12 => ?_
  refine Run.seq fun k13 hk13 => ?_
  refine Run.region ?_
  show Sq _ _ _ [0, 1, 2, 3, 4] _ _ _ _
  refine Sq.quiet (i := 0) rfl (Want.none rfl) rfl (ltN rfl) (QP.move rfl rfl).read ?_
  refine Sq.quiet (i := 1) rfl (Want.none rfl) rfl (ltN rfl) (QP.fieldAddr rfl rfl f71_1).read ?_
  refine Sq.quiet (i := 2) rfl (Want.none rfl) rfl (ltN rfl) (QR.load1 rfl rfl g22 (Config.sub_ifs _)) ?_
  refine Sq.quiet (i := 3) rfl (Want.none rfl) rfl (ltN rfl) (QP.len rfl rfl rfl Try.underlying22).read ?_
  refine Sq.quiet (i := 4) rfl (Want.none rfl) rfl (ltN rfl) (QP.lss rfl rfl rfl).read ?_
  refine J.caseD (fun c42 => ?_) (fun c42 => ?_)
  ·skip
   refine Sq.nil ?_
   refine hk13 _ _ ?_
   refine Run.cond_t rfl ?_
   refine Run.skip ?_
   refine hk12 _ _ ?_
   refine Run.seq fun k14 hk14 => ?_
   refine Run.block ?_
   refine Run.seq fun k15 hk15 => ?_
   refine Run.seq fun k16 hk16 => ?_
   refine Run.region ?_
   show Sq _ _ _ [0, 1, 2, 3, 4, 5, 6] _ _ _ _
   obtain rfl : i = 0 := by have : (i : Int) < ((1 : Nat) : Int) := c42; omega
   have hi : [x][Int.toNat ((0 : Nat) : Int)]? = some x := rfl
   refine Sq.quiet (i := 0) rfl (Want.none rfl) rfl (ltN rfl) (QP.fieldAddr rfl rfl f71_1).read ?_
   refine Sq.quiet (i := 1) rfl (Want.none rfl) rfl (ltN rfl) (QR.load1 rfl rfl g22 (Config.sub_ifs _)) ?_
   refine Sq.quiet (i := 2) rfl (Want.none rfl) rfl (ltN rfl) (QP.move rfl rfl).read ?_
   refine Sq.quiet (i := 3) rfl (Want.none rfl) rfl (ltN rfl) (QP.indexAddr rfl rfl rfl Try.underlying22 z60 (by first | omega | (simp <;> omega)) (by first | omega | (simp <;> omega))).read ?_
   refine Sq.quiet (i := 4) rfl (Want.none rfl) rfl (ltN rfl) (QR.loadSl rfl rfl g60 IfConf.enc_len (hb1 _) hi) ?_
   refine Sq.eff (i := 5) rfl (Want.none rfl) rfl (ltN rfl) (EF.call rfl ce43 rfl Takes.nil (fun F' hle hr => riface_spec F' (x))) ?_
   rintro _ _ ⟨_, ⟨r50, rfl, hif50, rfl⟩, rfl⟩
   refine J.app ?_
   refine J.caseB (fun c50 => ?_) (fun c50 => ?_)
   ·skip
    refine Sq.quiet (i := 6) rfl (Want.none rfl) rfl (ltN rfl) (QP.not rfl rfl).read ?_
    refine Sq.nil ?_
    refine hk16 _ _ ?_
    refine Run.cond_f rfl ?_
    refine Run.skip ?_
    refine hk15 _ _ ?_
    refine Run.seq fun k17 hk17 => ?_
    refine Run.region ?_
    show Sq _ _ _ [0] _ _ _ _
    refine Sq.quiet (i := 0) rfl (Want.none rfl) rfl (ltN rfl) (QP.assign rfl rfl).read ?_
    refine Sq.nil ?_
    refine hk17 _ _ ?_
    refine Run.block ?_
    refine Run.loop1 (fun (u : Unit) => True) (fun u => .cons 1 (.pointer (some ⟨b1, 0, none⟩)) (.cons 3 (.int .i64 ((0 : Nat) : Int)) (.cons 4 (.int .i64 0) (.nil)))) (fun u => [blk b1 (Config.enc (conf1 b off c)) 71]) (fun u => 0) (()) (trivial) ?_ ?_
    ·exact fun _ j => J.envJ (J.keep (.cons (by repeat constructor) Takes.nil) j) ⟨rfl, rfl, rfl, trivial⟩
    rintro u _ kl18 hl18
    refine Run.seq fun k19 hk19 => ?_
    refine Run.seq fun k20 hk20 => ?_
    refine Run.region ?_
    show Sq _ _ _ [0, 1, 2] _ _ _ _
    refine Sq.quiet (i := 0) rfl (Want.none rfl) rfl (ltN rfl) (QP.move rfl rfl).read ?_
    refine Sq.quiet (i := 1) rfl (Want.none rfl) rfl (ltN rfl) (QP.move rfl rfl).read ?_
    refine Sq.quiet (i := 2) rfl (Want.none rfl) rfl (ltN rfl) (QP.lss rfl rfl rfl).read ?_
    refine J.caseD (fun c54 => ?_) (fun c54 => ?_)
    ·skip
     refine Sq.nil ?_
     refine hk20 _ _ ?_
     refine Run.cond_t rfl ?_
     refine Run.skip ?_
     refine hk19 _ _ ?_
     refine Run.seq fun k21 hk21 => ?_
     refine Run.block ?_
     refine Run.seq fun k22 hk22 => ?_
     refine Run.regionD (M := [0, 1, 0, 7, 15, 31, 0, 64, 0, 448, 960, 1984, 4095]) (q := 8191) (r := 2210) (by kernel_rfl) ?_
     exact absurd c54 (by omega)
    ·skip
     refine Sq.nil ?_
     refine hk20 _ _ ?_
     refine Run.cond_f rfl ?_
     refine Run.exit rfl ?_
     refine hk14 _ _ ?_
     refine Run.region ?_
     show Sq _ _ _ [0, 1, 2] _ _ _ _
     refine Sq.quiet (i := 0) rfl (Want.none rfl) rfl (ltN rfl) (QP.move rfl rfl).read ?_
     refine Sq.quiet (i := 1) rfl (Want.none rfl) rfl (ltN rfl) (QP.add64 rfl rfl rfl (by first | omega | (simp <;> omega)) (by first | omega | (simp <;> omega))).read ?_
     refine Sq.quiet (i := 2) rfl (Want.none rfl) rfl (ltN rfl) (QP.assign rfl rfl).read ?_
     refine Sq.nil ?_
     exact J.envJ (J.keep (.cons (by repeat constructor) Takes.nil) (hl11 (1) (⟨Nat.le_refl _, fun _ => hif50 (by simpa using c50)⟩) (by omega))) ⟨rfl, rfl, trivial⟩
   ·skip
    refine Sq.quiet (i := 6) rfl (Want.none rfl) rfl (ltN rfl) (QP.not rfl rfl).read ?_
    refine Sq.nil ?_
    refine hk16 _ _ ?_
    refine Run.cond_t rfl ?_
    refine Run.seq fun k23 hk23 => ?_
    refine Run.region ?_
    show Sq _ _ _ [0] _ _ _ _
    refine Sq.quiet (i := 0) rfl (Want.none rfl) rfl (ltN rfl) (QP.assign rfl rfl).read ?_
    refine Sq.nil ?_
    refine hk23 _ _ ?_
    refine Run.ret ?_
    exact J.ends (res_tmp rfl rfl) Takes.nil ⟨91, rfl, fun h => absurd h (by decide), rfl⟩
  ·skip
   refine Sq.nil ?_
   refine hk13 _ _ ?_
   refine Run.cond_f rfl ?_
   refine Run.exit rfl ?_
   refine hk9 _ _ ?_
   refine Run.seq fun k24 hk24 => ?_
   refine Run.seq fun k25 hk25 => ?_
   refine Run.region ?_
   show Sq _ _ _ [0] _ _ _ _
   have hok1 : IfOk x := hok (by have : ¬ (i : Int) < ((1 : Nat) : Int) := c42; omega)
   refine Sq.quiet (i := 0) rfl (Want.none rfl) rfl (ltN rfl) (QP.assign rfl rfl).read ?_
   refine Sq.nil ?_
   refine hk25 _ _ ?_
   refine Run.block ?_
   refine Run.loop1 (fun (u : Unit) => True) (fun u => .cons 1 (.pointer (some ⟨b1, 0, none⟩)) (.cons 5 (.int .i64 0) (.nil))) (fun u => [blk b1 (Config.enc (conf1 b off c)) 71]) (fun u => 0) (()) (trivial) ?_ ?_
   ·exact fun _ j => J.envJ (J.keep (.cons (by repeat constructor) Takes.nil) j) ⟨rfl, rfl, trivial⟩
   rintro u _ kl26 hl26
   refine Run.seq fun k27 hk27 => ?_
   refine Run.seq fun k28 hk28 => ?_
   refine Run.region ?_
   show Sq _ _ _ [0, 1, 2, 3, 4] _ _ _ _
   refine Sq.quiet (i := 0) rfl (Want.none rfl) rfl (ltN rfl) (QP.move rfl rfl).read ?_
   refine Sq.quiet (i := 1) rfl (Want.none rfl) rfl (ltN rfl) (QP.fieldAddr rfl rfl f71_2).read ?_
   refine Sq.quiet (i := 2) rfl (Want.none rfl) rfl (ltN rfl) (QR.load1 rfl rfl g68 (Config.sub_rules _)) ?_
   refine Sq.quiet (i := 3) rfl (Want.none rfl) rfl (ltN rfl) (QP.len rfl rfl rfl Try.underlying68).read ?_
   refine Sq.quiet (i := 4) rfl (Want.none rfl) rfl (ltN rfl) (QP.lss rfl rfl rfl).read ?_
   refine J.caseD (fun c74 => ?_) (fun c74 => ?_)
   ·skip
    refine Sq.nil ?_
    refine hk28 _ _ ?_
    refine Run.cond_t rfl ?_
    refine Run.skip ?_
    refine hk27 _ _ ?_
    refine Run.seq fun k29 hk29 => ?_
    refine Run.block ?_
    refine Run.seq fun k30 hk30 => ?_
    refine Run.region ?_
    show Sq _ _ _ [0, 1, 2, 3, 4, 5, 6] _ _ _ _
    exact absurd c74 (by show ¬ ((0 : Int) < ((0 : Nat) : Int)); decide)
   ·skip
    refine Sq.nil ?_
    refine hk28 _ _ ?_
    refine Run.cond_f rfl ?_
    refine Run.exit rfl ?_
    refine hk24 _ _ ?_
    refine Run.seq fun k31 hk31 => ?_
    refine Run.seq fun k32 hk32 => ?_
    refine Run.region ?_
    show Sq _ _ _ [0] _ _ _ _
    refine Sq.quiet (i := 0) rfl (Want.none rfl) rfl (ltN rfl) (QP.assign rfl rfl).read ?_
    refine Sq.nil ?_
    refine hk32 _ _ ?_
    refine Run.block ?_
    refine Run.loop1 (fun (u : Unit) => True) (fun u => .cons 1 (.pointer (some ⟨b1, 0, none⟩)) (.cons 7 (.int .i64 0) (.nil))) (fun u => [blk b1 (Config.enc (conf1 b off c)) 71]) (fun u => 0) (()) (trivial) ?_ ?_
    ·exact fun _ j => J.envJ (J.keep (.cons (by repeat constructor) Takes.nil) j) ⟨rfl, rfl, trivial⟩
    rintro u _ kl33 hl33
    refine Run.seq fun k34 hk34 => ?_
    refine Run.seq fun k35 hk35 => ?_
    refine Run.region ?_
    show Sq _ _ _ [0, 1, 2, 3, 4] _ _ _ _
    refine Sq.quiet (i := 0) rfl (Want.none rfl) rfl (ltN rfl) (QP.move rfl rfl).read ?_
    refine Sq.quiet (i := 1) rfl (Want.none rfl) rfl (ltN rfl) (QP.fieldAddr rfl rfl f71_3).read ?_
    refine Sq.quiet (i := 2) rfl (Want.none rfl) rfl (ltN rfl) (QR.load1 rfl rfl g69 (Config.sub_locals _)) ?_
    refine Sq.quiet (i := 3) rfl (Want.none rfl) rfl (ltN rfl) (QP.len rfl rfl rfl Try.underlying69).read ?_
    refine Sq.quiet (i := 4) rfl (Want.none rfl) rfl (ltN rfl) (QP.lss rfl rfl rfl).read ?_
    refine J.caseD (fun c90 => ?_) (fun c90 => ?_)
    ·skip
     refine Sq.nil ?_
     refine hk35 _ _ ?_
     refine Run.cond_t rfl ?_
     refine Run.skip ?_
     refine hk34 _ _ ?_
     refine Run.seq fun k36 hk36 => ?_
     refine Run.block ?_
     refine Run.seq fun k37 hk37 => ?_
     refine Run.seq fun k38 hk38 => ?_
     refine Run.region ?_
     show Sq _ _ _ [0, 1, 2, 3, 4, 5, 6, 7, 8, 9, 10, 11, 12, 13, 14, 15, 16, 17] _ _ _ _
     exact absurd c90 (by show ¬ ((0 : Int) < ((0 : Nat) : Int)); decide)
    ·skip
     refine Sq.nil ?_
     refine hk35 _ _ ?_
     refine Run.cond_f rfl ?_
     refine Run.exit rfl ?_
     refine hk31 _ _ ?_
     refine Run.seq fun k39 hk39 => ?_
     refine Run.seq fun k40 hk40 => ?_
     refine Run.region ?_
     show Sq _ _ _ [0, 1, 2, 3, 4, 5, 6, 7, 8, 9, 10, 11, 12, 13, 14, 15, 16, 17, 18, 19, 20, 21] _ _ _ _
     refine Sq.quiet (i := 0) rfl (Want.none rfl) rfl (ltN rfl) (QP.fieldAddr rfl rfl f71_4).read ?_
     refine Sq.quiet (i := 1) rfl (Want.none rfl) rfl (ltN rfl) (QR.load1 rfl rfl g3 (Config.sub_neighbours _)) ?_
     refine Sq.eff (i := 2) rfl (Want.none rfl) rfl (ltN rfl) (EF.call rfl ce46 rfl Takes.nil (fun F' hle hr => rin_spec F' (((conf1 b off c)).neighbours) (1) (4096))) ?_
     rintro _ _ ⟨_, ⟨rfl, rfl⟩, rfl⟩
     refine J.app ?_
     refine J.caseB (fun c131 => ?_) (fun c131 => ?_)
     ·skip
      refine Sq.quiet (i := 3) rfl (Want.none rfl) rfl (ltN rfl) (QP.not rfl rfl).read ?_
      refine Sq.quiet (i := 4) rfl (Want.none rfl) rfl (ltN rfl) (QP.move rfl rfl).read ?_
      refine Sq.quiet (i := 5) rfl (Want.yes rfl rfl rfl rfl) rfl (ltN rfl) (QP.fieldAddr rfl rfl f71_5).read ?_
      refine Sq.quiet (i := 6) rfl (Want.yes rfl rfl rfl rfl) rfl (ltN rfl) (QR.load1 rfl rfl g3 (Config.sub_sources _)) ?_
      refine Sq.eff (i := 7) rfl (Want.yes rfl rfl rfl rfl) rfl (ltN rfl) (EF.call rfl ce46 rfl Takes.nil (fun F' hle hr => rin_spec F' (((conf1 b off c)).sources) (1) (4096))) ?_
      rintro _ _ ⟨_, ⟨rfl, rfl⟩, rfl⟩
      refine J.app ?_
      refine J.caseB (fun c136 => ?_) (fun c136 => ?_)
      ·skip
       refine Sq.quiet (i := 8) rfl (Want.yes rfl rfl rfl rfl) rfl (ltN rfl) (QP.not rfl rfl).read ?_
       refine Sq.quiet (i := 9) rfl (Want.none rfl) rfl (ltN rfl) (QP.pick_f rfl rfl rfl).read ?_
       refine Sq.quiet (i := 10) rfl (Want.none rfl) rfl (ltN rfl) (QP.move rfl rfl).read ?_
       refine Sq.quiet (i := 11) rfl (Want.yes rfl rfl rfl rfl) rfl (ltN rfl) (QP.fieldAddr rfl rfl f71_6).read ?_
       refine Sq.quiet (i := 12) rfl (Want.yes rfl rfl rfl rfl) rfl (ltN rfl) (QR.load1 rfl rfl g3 (Config.sub_routes _)) ?_
       refine Sq.eff (i := 13) rfl (Want.yes rfl rfl rfl rfl) rfl (ltN rfl) (EF.call rfl ce46 rfl Takes.nil (fun F' hle hr => rin_spec F' (((conf1 b off c)).routes) (1) (4096))) ?_
       rintro _ _ ⟨_, ⟨rfl, rfl⟩, rfl⟩
       refine J.app ?_
       refine J.caseB (fun c142 => ?_) (fun c142 => ?_)
       ·skip
        refine Sq.quiet (i := 14) rfl (Want.yes rfl rfl rfl rfl) rfl (ltN rfl) (QP.not rfl rfl).read ?_
        refine Sq.quiet (i := 15) rfl (Want.none rfl) rfl (ltN rfl) (QP.pick_f rfl rfl rfl).read ?_
        refine Sq.quiet (i := 16) rfl (Want.none rfl) rfl (ltN rfl) (QP.move rfl rfl).read ?_
        refine Sq.quiet (i := 17) rfl (Want.yes rfl rfl rfl rfl) rfl (ltN rfl) (QP.fieldAddr rfl rfl f71_7).read ?_
        refine Sq.quiet (i := 18) rfl (Want.yes rfl rfl rfl rfl) rfl (ltN rfl) (QR.load1 rfl rfl g3 (Config.sub_requests _)) ?_
        refine Sq.eff (i := 19) rfl (Want.yes rfl rfl rfl rfl) rfl (ltN rfl) (EF.call rfl ce46 rfl Takes.nil (fun F' hle hr => rin_spec F' (((conf1 b off c)).requests) (1) (4096))) ?_
        rintro _ _ ⟨_, ⟨rfl, rfl⟩, rfl⟩
        refine J.app ?_
        refine J.caseB (fun c148 => ?_) (fun c148 => ?_)
        ·skip
         refine Sq.quiet (i := 20) rfl (Want.yes rfl rfl rfl rfl) rfl (ltN rfl) (QP.not rfl rfl).read ?_
         refine Sq.quiet (i := 21) rfl (Want.none rfl) rfl (ltN rfl) (QP.pick_f rfl rfl rfl).read ?_
         refine Sq.nil ?_
         refine hk40 _ _ ?_
         refine Run.cond_f rfl ?_
         refine Run.skip ?_
         refine hk39 _ _ ?_
         refine Run.seq fun k41 hk41 => ?_
         refine Run.region ?_
         show Sq _ _ _ [0] _ _ _ _
         refine Sq.quiet (i := 0) rfl (Want.none rfl) rfl (ltN rfl) (QP.assign rfl rfl).read ?_
         refine Sq.nil ?_
         refine hk41 _ _ ?_
         refine Run.ret ?_
         exact J.ends (res_tmp rfl rfl) Takes.nil ⟨0, rfl, fun _ => hok1, rfl⟩
        ·skip
         refine Sq.quiet (i := 20) rfl (Want.yes rfl rfl rfl rfl) rfl (ltN rfl) (QP.not rfl rfl).read ?_
         refine Sq.quiet (i := 21) rfl (Want.none rfl) rfl (ltN rfl) (QP.pick_f rfl rfl rfl).read ?_
         refine Sq.nil ?_
         refine hk40 _ _ ?_
         refine Run.cond_t rfl ?_
         refine Run.seq fun k42 hk42 => ?_
         refine Run.region ?_
         show Sq _ _ _ [0] _ _ _ _
         refine Sq.quiet (i := 0) rfl (Want.none rfl) rfl (ltN rfl) (QP.assign rfl rfl).read ?_
         refine Sq.nil ?_
         refine hk42 _ _ ?_
         refine Run.ret ?_
         exact J.ends (res_tmp rfl rfl) Takes.nil ⟨91, rfl, fun h => absurd h (by decide), rfl⟩
       ·skip
        refine Sq.quiet (i := 14) rfl (Want.yes rfl rfl rfl rfl) rfl (ltN rfl) (QP.not rfl rfl).read ?_
        refine Sq.quiet (i := 15) rfl (Want.none rfl) rfl (ltN rfl) (QP.pick_f rfl rfl rfl).read ?_
        refine Sq.quiet (i := 16) rfl (Want.none rfl) rfl (ltN rfl) (QP.move rfl rfl).read ?_
        refine Sq.skip (i := 17) rfl (Want.no rfl rfl rfl rfl) rfl (ltN rfl) ?_
        refine Sq.skip (i := 18) rfl (Want.no rfl rfl rfl rfl) rfl (ltN rfl) ?_
        refine Sq.skip (i := 19) rfl (Want.no rfl rfl rfl rfl) rfl (ltN rfl) ?_
        refine Sq.skip (i := 20) rfl (Want.no rfl rfl rfl rfl) rfl (ltN rfl) ?_
        refine Sq.quiet (i := 21) rfl (Want.none rfl) rfl (ltN rfl) (QP.pick_t rfl rfl rfl).read ?_
        refine Sq.nil ?_
        refine hk40 _ _ ?_
        refine Run.cond_t rfl ?_
        refine Run.seq fun k43 hk43 => ?_
        refine Run.region ?_
        show Sq _ _ _ [0] _ _ _ _
        refine Sq.quiet (i := 0) rfl (Want.none rfl) rfl (ltN rfl) (QP.assign rfl rfl).read ?_
        refine Sq.nil ?_
        refine hk43 _ _ ?_
        refine Run.ret ?_
        exact J.ends (res_tmp rfl rfl) Takes.nil ⟨91, rfl, fun h => absurd h (by decide), rfl⟩
      ·skip
       refine Sq.quiet (i := 8) rfl (Want.yes rfl rfl rfl rfl) rfl (ltN rfl) (QP.not rfl rfl).read ?_
       refine Sq.quiet (i := 9) rfl (Want.none rfl) rfl (ltN rfl) (QP.pick_f rfl rfl rfl).read ?_
       refine Sq.quiet (i := 10) rfl (Want.none rfl) rfl (ltN rfl) (QP.move rfl rfl).read ?_
       refine Sq.skip (i := 11) rfl (Want.no rfl rfl rfl rfl) rfl (ltN rfl) ?_
       refine Sq.skip (i := 12) rfl (Want.no rfl rfl rfl rfl) rfl (ltN rfl) ?_
       refine Sq.skip (i := 13) rfl (Want.no rfl rfl rfl rfl) rfl (ltN rfl) ?_
       refine Sq.skip (i := 14) rfl (Want.no rfl rfl rfl rfl) rfl (ltN rfl) ?_
       refine Sq.quiet (i := 15) rfl (Want.none rfl) rfl (ltN rfl) (QP.pick_t rfl rfl rfl).read ?_
       refine Sq.quiet (i := 16) rfl (Want.none rfl) rfl (ltN rfl) (QP.move rfl rfl).read ?_
       refine Sq.skip (i := 17) rfl (Want.no rfl rfl rfl rfl) rfl (ltN rfl) ?_
       refine Sq.skip (i := 18) rfl (Want.no rfl rfl rfl rfl) rfl (ltN rfl) ?_
       refine Sq.skip (i := 19) rfl (Want.no rfl rfl rfl rfl) rfl (ltN rfl) ?_
       refine Sq.skip (i := 20) rfl (Want.no rfl rfl rfl rfl) rfl (ltN rfl) ?_
       refine Sq.quiet (i := 21) rfl (Want.none rfl) rfl (ltN rfl) (QP.pick_t rfl rfl rfl).read ?_
       refine Sq.nil ?_
       refine hk40 _ _ ?_
       refine Run.cond_t rfl ?_
       refine Run.seq fun k44 hk44 => ?_
       refine Run.region ?_
       show Sq _ _ _ [0] _ _ _ _
       refine Sq.quiet (i := 0) rfl (Want.none rfl) rfl (ltN rfl) (QP.assign rfl rfl).read ?_
       refine Sq.nil ?_
       refine hk44 _ _ ?_
       refine Run.ret ?_
       exact J.ends (res_tmp rfl rfl) Takes.nil ⟨91, rfl, fun h => absurd h (by decide), rfl⟩
     ·skip
      refine Sq.quiet (i := 3) rfl (Want.none rfl) rfl (ltN rfl) (QP.not rfl rfl).read ?_
      refine Sq.quiet (i := 4) rfl (Want.none rfl) rfl (ltN rfl) (QP.move rfl rfl).read ?_
      refine Sq.skip (i := 5) rfl (Want.no rfl rfl rfl rfl) rfl (ltN rfl) ?_
      refine Sq.skip (i := 6) rfl (Want.no rfl rfl rfl rfl) rfl (ltN rfl) ?_
      refine Sq.skip (i := 7) rfl (Want.no rfl rfl rfl rfl) rfl (ltN rfl) ?_
      refine Sq.skip (i := 8) rfl (Want.no rfl rfl rfl rfl) rfl (ltN rfl) ?_
      refine Sq.quiet (i := 9) rfl (Want.none rfl) rfl (ltN rfl) (QP.pick_t rfl rfl rfl).read ?_
      refine Sq.quiet (i := 10) rfl (Want.none rfl) rfl (ltN rfl) (QP.move rfl rfl).read ?_
      refine Sq.skip (i := 11) rfl (Want.no rfl rfl rfl rfl) rfl (ltN rfl) ?_
      refine Sq.skip (i := 12) rfl (Want.no rfl rfl rfl rfl) rfl (ltN rfl) ?_
      refine Sq.skip (i := 13) rfl (Want.no rfl rfl rfl rfl) rfl (ltN rfl) ?_
      refine Sq.skip (i := 14) rfl (Want.no rfl rfl rfl rfl) rfl (ltN rfl) ?_
      refine Sq.quiet (i := 15) rfl (Want.none rfl) rfl (ltN rfl) (QP.pick_t rfl rfl rfl).read ?_
      refine Sq.quiet (i := 16) rfl (Want.none rfl) rfl (ltN rfl) (QP.move rfl rfl).read ?_
      refine Sq.skip (i := 17) rfl (Want.no rfl rfl rfl rfl) rfl (ltN rfl) ?_
      refine Sq.skip (i := 18) rfl (Want.no rfl rfl rfl rfl) rfl (ltN rfl) ?_
      refine Sq.skip (i := 19) rfl (Want.no rfl rfl rfl rfl) rfl (ltN rfl) ?_
      refine Sq.skip (i := 20) rfl (Want.no rfl rfl rfl rfl) rfl (ltN rfl) ?_
      refine Sq.quiet (i := 21) rfl (Want.none rfl) rfl (ltN rfl) (QP.pick_t rfl rfl rfl).read ?_
      refine Sq.nil ?_
      refine hk40 _ _ ?_
      refine Run.cond_t rfl ?_
      refine Run.seq fun k45 hk45 => ?_
      refine Run.region ?_
      show Sq _ _ _ [0] _ _ _ _
      refine Sq.quiet (i := 0) rfl (Want.none rfl) rfl (ltN rfl) (QP.assign rfl rfl).read ?_
      refine Sq.nil ?_
      refine hk45 _ _ ?_
      refine Run.ret ?_
      exact J.ends (res_tmp rfl rfl) Takes.nil ⟨91, rfl, fun h => absurd h (by decide), rfl⟩
end Slb
