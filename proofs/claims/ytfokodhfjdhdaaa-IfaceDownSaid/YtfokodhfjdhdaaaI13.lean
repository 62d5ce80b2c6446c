/- I13: a part of the proof that a law of this package holds for every input; no condition. -/
import Derived.Test.YtfokodhfjdhdaaaM2
import Derived.Test.YtfokodhfjdhdaaaI12
namespace Slb
open Go Go.Proofs
set_option maxRecDepth 20000
theorem bs_at {n i : Nat} (x : Bs n) {u : UInt8} (h : x.l[i]? = some u) : SubL x.enc (0 + (Int.toNat i) * 1) 1 [byteV u] := by
  have hi : i < x.l.length := (List.getElem?_eq_some_iff.1 h).1
  have e : x.l = x.l.take i ++ u :: x.l.drop (i + 1) := by
    have : x.l[i] = u := (List.getElem?_eq_some_iff.1 h).2
    rw [← this, ← List.drop_eq_getElem_cons hi, List.take_append_drop]
  refine ⟨bytesV (x.l.take i), bytesV (x.l.drop (i + 1)), ?_, ?_, rfl⟩
  · unfold Bs.enc
    conv => lhs; rw [e]
    simp [bytesV]
  · rw [bytesV_length, List.length_take]
    simp; omega
theorem byte_eq {u t : UInt8} (h : (u.toNat : Int) = t.toNat) : u = t := UInt8.toNat_inj.1 (by omega)
def tmplL : List UInt8 := [0, 0, 0, 0, 0, 0, 0, 0, 0, 0, 255, 255]
theorem familyB_not {x : Bs 16} {i : Nat} {u : UInt8} (hi : i < 12) (hx : x.l[i]? = some u) (h : tmplL[i]? ≠ some u) : familyB x = 6 := by
  unfold familyB
  rw [if_neg fun hc => ?_]
  have h1 : (x.l.take 12)[i]? = some u := by rw [List.getElem?_take_of_lt hi]; exact hx
  rw [hc] at h1
  exact h h1
theorem familyB_yes {x : Bs 16} (h : x.l.take 12 = tmplL.take 12) : familyB x = 4 := by
  unfold familyB
  exact if_pos h
theorem tmpl_lo {i : Nat} (h : i < 10) : tmplL[i]? = some 0 := by
  have : ∀ j : Fin 10, tmplL[j.val]? = some 0 := by decide
  exact this ⟨i, h⟩
theorem tmpl_hi {i : Nat} (h : 10 ≤ i) (h2 : i < 12) : tmplL[i]? = some 255 := by
  have : ∀ j : Fin 12, 10 ≤ j.val → tmplL[j.val]? = some 255 := by decide
  exact this ⟨i, h2⟩ h
theorem u8_0 {u : UInt8} (h : (u.toNat : Int) = 0) : u = 0 := byte_eq h
theorem u8_255 {u : UInt8} (h : (u.toNat : Int) = 255) : u = 255 := byte_eq h

theorem rfamily_spec (F : Fr) (x : Bs 16) : Spec Try.prog 50 #[.agg (Bs.enc x).toArray] [] F (fun v S => v = .int .i64 (familyB x) ∧ S = []) := by
 refine Spec.intro (N := 26) (args := [.agg (Bs.enc x).toArray]) Try.func50 rfl rfl (by simp) ?_
 refine Run.seq fun k1 hk1 => Run.region ?_
 show Sq _ _ _ [0, 1] _ _ _ _
 refine Ef 0 rfl rfl (EF.boxA rfl rfl) ?_
 rintro _ _ ⟨b1, rfl, rfl⟩
 refine Sg 1 rfl rfl rfl <| Sq.nil <| hk1 _ _ <| Run.seq fun k2 hk2 => Run.seq fun k3 hk3 => Run.region ?_
 show Sq _ _ _ [0] _ _ _ _
 refine Sg 0 rfl rfl rfl <| Sq.nil <| hk3 _ _ <| Run.block <| Run.loop1 (fun (i : Nat) => i ≤ 12 ∧ x.l.take i = tmplL.take i) (fun i => .cons 1 (.pointer (some ⟨b1, 0, none⟩)) (.cons 3 (.int .i64 i) (.nil))) (fun i => [blk b1 (Bs.enc x) 23]) (fun i => 12 - i) (0) (⟨Nat.zero_le _, rfl⟩) ?_ ?_
 ·exact fun _ j => J.envJ (J.keep Tk1 j) ⟨rfl, rfl, trivial⟩
 rintro i ⟨hile, hto⟩ kl4 hl4
 refine Run.seq fun k5 hk5 => Run.seq fun k6 hk6 => Run.region ?_
 show Sq _ _ _ [0, 1] _ _ _ _
 refine Mv 0 rfl rfl rfl <| Qp 1 rfl rfl (QP.lss rfl rfl rfl) <| J.caseD (fun c5 => ?_) (fun c5 => ?_)
 ·refine Sq.nil <| hk6 _ _ <| Run.cond_t rfl <| Run.skip <| hk5 _ _ <| Run.seq fun k7 hk7 => Run.block <| Run.seq fun k8 hk8 => Run.region ?_
  show Sq _ _ _ [0, 1, 2, 3, 4, 5, 6, 7, 8, 9, 10, 11, 12, 13, 14, 15, 16, 17] _ _ _ _
  obtain ⟨u, hx⟩ : ∃ u, x.l[i]? = some u := ⟨_, List.getElem?_eq_getElem (by rw [x.h]; omega)⟩
  refine Mv 0 rfl rfl rfl <| Qp 1 rfl rfl (QP.lss rfl rfl rfl) <| J.caseD (fun c9 => ?_) (fun c9 => ?_)
  ·refine Mv 2 rfl rfl rfl <| Ym 3 rfl rfl rfl rfl <| Yp 4 rfl rfl rfl (QP.indexArr rfl rfl rfl Try.underlying23 z5 (by omega) (by omega)) <| Yq 5 rfl rfl rfl (QR.load1 rfl rfl g5 (bs_at x hx)) ?_
   refine Yp 6 rfl rfl rfl (QP.neq rfl rfl rfl) <| J.caseD (fun c14 => ?_) (fun c14 => ?_)
   ·refine Pt 7 rfl rfl rfl rfl <| Mv 8 rfl rfl rfl <| Sk 9 rfl rfl rfl <| Sk 10 rfl rfl rfl <| Sk 11 rfl rfl rfl <| Sq.skip (i := 12) rfl (Want.undef rfl rfl rfl) rfl (ltN rfl) ?_
    refine Sq.skip (i := 13) rfl (Want.undef rfl rfl rfl) rfl (ltN rfl) ?_
    refine Sq.skip (i := 14) rfl (Want.undef rfl rfl rfl) rfl (ltN rfl) ?_
    refine Sq.skip (i := 15) rfl (Want.undef rfl rfl rfl) rfl (ltN rfl) ?_
    refine Sk 16 rfl rfl rfl <| Pt 17 rfl rfl rfl rfl <| Sq.nil <| hk8 _ _ <| Run.cond_t rfl <| Run.seq fun k9 hk9 => Run.region ?_
    show Sq _ _ _ [0] _ _ _ _
    refine Sg 0 rfl rfl rfl <| Sq.nil <| hk9 _ _ <| Run.ret ?_
    exact J.ends (res_tmp rfl rfl) Takes.nil ⟨congrArg (Value.int .i64) (familyB_not (by omega) hx (by rw [tmpl_lo (by omega)]; intro h; cases h; exact c14 rfl)).symm, rfl⟩
   ·refine Pt 7 rfl rfl rfl rfl <| Mv 8 rfl rfl rfl <| Ym 9 rfl rfl rfl rfl <| Yp 10 rfl rfl rfl (QP.geq rfl rfl rfl) <| J.decF (by omega) ?_
    refine Ym 11 rfl rfl rfl rfl <| Sk 12 rfl rfl rfl <| Sk 13 rfl rfl rfl <| Sk 14 rfl rfl rfl <| Sk 15 rfl rfl rfl <| Yp 16 rfl rfl rfl (QP.pick_f rfl rfl rfl) <| Pf 17 rfl rfl rfl rfl <| Sq.nil <| hk8 _ _ <| Run.cond_f rfl <| Run.skip <| hk7 _ _ <| Run.region ?_
    show Sq _ _ _ [0, 1, 2] _ _ _ _
    have htu : tmplL[i]? = some u := by rw [tmpl_lo (by omega), u8_0 (Classical.not_not.1 c14)]
    refine Mv 0 rfl rfl rfl <| Qp 1 rfl rfl (QP.add64 rfl rfl rfl Og Og) <| Sg 2 rfl rfl rfl <| Sq.nil ?_
    exact J.envJ (J.keep Tk1 (hl4 (i + 1) (⟨by omega, by rw [List.take_add_one, List.take_add_one, hto, hx, htu]⟩) (by omega))) ⟨rfl, rfl, trivial⟩
  ·refine Mv 2 rfl rfl rfl <| Sk 3 rfl rfl rfl <| Sk 4 rfl rfl rfl <| Sk 5 rfl rfl rfl <| Sk 6 rfl rfl rfl <| Pf 7 rfl rfl rfl rfl <| Mv 8 rfl rfl rfl <| Ym 9 rfl rfl rfl rfl <| Yp 10 rfl rfl rfl (QP.geq rfl rfl rfl) <| J.decT (by omega) ?_
   refine Ym 11 rfl rfl rfl rfl <| Ym 12 rfl rfl rfl rfl <| Yp 13 rfl rfl rfl (QP.indexArr rfl rfl rfl Try.underlying23 z5 (by omega) (by omega)) <| Yq 14 rfl rfl rfl (QR.load1 rfl rfl g5 (bs_at x hx)) ?_
   refine Yp 15 rfl rfl rfl (QP.neq rfl rfl rfl) <| J.caseD (fun c23 => ?_) (fun c23 => ?_)
   ·refine Yp 16 rfl rfl rfl (QP.pick_t rfl rfl rfl) <| Pf 17 rfl rfl rfl rfl <| Sq.nil <| hk8 _ _ <| Run.cond_t rfl <| Run.seq fun k10 hk10 => Run.region ?_
    show Sq _ _ _ [0] _ _ _ _
    refine Sg 0 rfl rfl rfl <| Sq.nil <| hk10 _ _ <| Run.ret ?_
    exact J.ends (res_tmp rfl rfl) Takes.nil ⟨congrArg (Value.int .i64) (familyB_not (by omega) hx (by rw [tmpl_hi (by omega) (by omega)]; intro h; cases h; exact c23 rfl)).symm, rfl⟩
   ·refine Yp 16 rfl rfl rfl (QP.pick_t rfl rfl rfl) <| Pf 17 rfl rfl rfl rfl <| Sq.nil <| hk8 _ _ <| Run.cond_f rfl <| Run.skip <| hk7 _ _ <| Run.region ?_
    show Sq _ _ _ [0, 1, 2] _ _ _ _
    have htu : tmplL[i]? = some u := by rw [tmpl_hi (by omega) (by omega), u8_255 (Classical.not_not.1 c23)]
    refine Mv 0 rfl rfl rfl <| Qp 1 rfl rfl (QP.add64 rfl rfl rfl Og Og) <| Sg 2 rfl rfl rfl <| Sq.nil ?_
    exact J.envJ (J.keep Tk1 (hl4 (i + 1) (⟨by omega, by rw [List.take_add_one, List.take_add_one, hto, hx, htu]⟩) (by omega))) ⟨rfl, rfl, trivial⟩
 ·refine Sq.nil <| hk6 _ _ <| Run.cond_f rfl <| Run.exit rfl ?_
  refine hk2 _ _ <| Run.seq fun k11 hk11 => Run.region ?_
  show Sq _ _ _ [0] _ _ _ _
  refine Sg 0 rfl rfl rfl <| Sq.nil <| hk11 _ _ <| Run.ret ?_
  exact J.ends (res_tmp rfl rfl) Takes.nil ⟨congrArg (Value.int .i64) (familyB_yes (by rw [show i = 12 by omega] at hto; exact hto)).symm, rfl⟩

/-! Bits cleared, one by one. -/
def topM (p : Nat) : UInt8 := UInt8.ofNat (65280 / 2 ^ p)
def holeM (p q : Nat) : UInt8 := topM p ||| UInt8.ofNat (255 / 2 ^ q)
def oneM (q : Nat) : UInt8 := UInt8.ofNat (128 / 2 ^ q)
def maskU (x : Bs 16) (n : Int) (i : Nat) : Bs 16 := ⟨x.l.mapIdx fun k c => c &&& holeM (keepN n k) (keepN i k), by rw [List.length_mapIdx, x.h]⟩
/-- All of the first ones are c. -/
def allC (x : Bs 8) (c : UInt8) (i : Nat) : Bool := (x.l.take i).all fun d => d == c
end Slb
