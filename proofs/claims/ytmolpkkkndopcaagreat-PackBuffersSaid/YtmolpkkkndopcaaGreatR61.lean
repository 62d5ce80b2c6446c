/- R61: a part of the proof that a law of this package holds for every input; no condition. -/
import Derived.Test.YtmolpkkkndopcaaGreatM2
import Derived.Test.YtmolpkkkndopcaaGreatR60
namespace Slb
open Go Go.Proofs
set_option maxRecDepth 20000
theorem rany_spec (F : Fr) (f : Int) : Spec Tryz.prog 101 #[.int .i64 f] [] F (fun v S => v = .agg (Prefix.enc (anyB f)).toArray ∧ S = []) := by
 refine Spec.intro (N := 8) (args := [.int .i64 f]) Tryz.func101 rfl rfl (by simp) ?_
 refine Zs fun _ hk1 => Ef 0 E2 (EF.allocA (l := Prefix.enc Prefix.zero) rfl zero40) ?_
 rintro _ _ ⟨b2, rfl, rfl⟩
 refine Zl hk1 <| Run.seq fun _ hk2 => Zs fun _ hk3 => Mv 0 E3 <| Qp 1 E2 (Ze E3) <| J.caseD (fun c4 => ?_) (fun c4 => ?_)
 ·refine Zl hk3 <| Zt <| Zs fun _ hk4 => Qp 0 E2 (QP.const (.agg (Bs.enc any4.a).toArray) (fun _ _ => by kernel_rfl)) <| Qp 1 E2 (QP.build (l := Prefix.enc any4) rfl st40 rfl (by exact ⟨(congrArg some (Bs.len _).symm), ⟨rfl, trivial⟩⟩) rfl) <| Ac 2 rfl (EF.storeA rfl rfl rfl z40 (SetL.all (Prefix.enc_len _) (Prefix.enc_len _)) (Prefix.enc_cell _)) ?_
  rintro _ _ rfl
  exact Zl hk4 <| Run.ret <| J.ends (res_cell rfl rfl g40 (Prefix.enc_sub _)) Takes.nil ⟨by unfold anyB; rw [if_pos c4], rfl⟩
 ·refine Zl hk3 <| Zf <| Run.skip <| hk2 _ _ <| Zs fun _ hk5 => Qp 0 E2 (QP.const (.agg (Prefix.enc Prefix.zero).toArray) (fun _ _ => by kernel_rfl)) <| Ac 1 rfl (EF.storeA rfl rfl rfl z40 (SetL.all (Prefix.enc_len _) (Prefix.enc_len _)) (Prefix.enc_cell _)) ?_
  rintro _ _ rfl
  exact Zl hk5 <| Run.ret <| J.ends (res_cell rfl rfl g40 (Prefix.enc_sub _)) Takes.nil ⟨by unfold anyB; rw [if_neg c4], rfl⟩

theorem rspecific_spec (F : Fr) (p : Pair) : Spec Tryz.prog 85 #[.agg (Pair.enc p).toArray] [] F (fun v S => v = .bool (specB p) ∧ S = []) := by
 refine Spec.intro (N := 10) (args := [.agg (Pair.enc p).toArray]) Tryz.func85 rfl rfl (by simp) ?_
 refine Zs fun _ hk1 => Ef 0 E2 (EF.boxA rfl rfl) ?_
 rintro _ _ ⟨b1, rfl, rfl⟩
 refine Sg 1 E3 <| Zl hk1 <| Run.seq fun _ hk2 => Run.regionD (M := [0, 1, 0, 4, 12, 28, 63, 127]) (q := 79) (r := 10) Kr ?_
 refine Dp 0 E2 (Za E2 f42_1) <| Dr 1 E2 (Z0 E2 g40 (Pair.sub_src _)) ?_
 refine Dp 2 E2 (Za E2 f42_1) <| Dr 3 E2 (Z0 E2 g40 (Pair.sub_src _)) ?_
 refine De 4 <| Om [1] rfl rfl (EF.call rfl ce45 rfl Takes.nil (fun F' hle hr => rpfamily_spec F' p.src)) ?_
 rintro _ _ ⟨_, ⟨rfl, rfl⟩, rfl⟩
 refine ⟨?_, ?_⟩
 ·rw [List.forall_mem_cons]
  refine ⟨?_, fun _ h => (by cases h)⟩
  ·refine Look.app ?_
   exact Look.mk rfl rfl rfl (Z0 E2 g40 (Pair.sub_src _))
 refine ?_
 refine J.app <| De 5 <| Om [1] rfl rfl (EF.call rfl ce101 rfl Takes.nil (fun F' hle hr => rany_spec F' (pfamilyB p.src))) ?_
 rintro _ _ ⟨_, ⟨rfl, rfl⟩, rfl⟩
 refine ⟨?_, ?_⟩
 ·rw [List.forall_mem_cons]
  refine ⟨?_, fun _ h => (by cases h)⟩
  ·refine Look.app ?_
   exact Look.mk rfl rfl rfl (Z0 E2 g40 (Pair.sub_src _))
 refine ?_
 refine J.app <| Dp 6 E2 (QP.neq_agg eq40 rfl rfl rfl) <| De 7 <| Om [] rfl rfl ((Zg E2).eff) ?_
 rintro _ _ ⟨rfl, rfl⟩
 refine ⟨fun _ h => (by cases h), ?_⟩
 exact Dn <| hk2 _ _ <| Run.ret <| J.ends (res_tmp rfl rfl) Takes.nil ⟨rfl, rfl⟩

/-- A local address, byte for byte. -/
theorem loc_iff (a : Bs 16) : a = locB a ↔ a.l.take 8 = [254, 128, 0, 0, 0, 0, 0, 0] := by
  have ha := a.h
  have hl : (locB a).l = [254, 128, 0, 0, 0, 0, 0, 0] ++ a.l.drop 8 := by
    show llB.l.take 8 ++ ((a.l.drop 8).take 8).take (min ((a.l.drop 8).take 8).length (16 - 8)) ++ llB.l.drop (min 8 16 + min ((a.l.drop 8).take 8).length (16 - 8)) = _
    have h8 : ((a.l.drop 8).take 8).length = 8 := by rw [List.length_take, List.length_drop, ha]; rfl
    rw [h8, show (a.l.drop 8).take 8 = a.l.drop 8 from List.take_of_length_le (by rw [List.length_drop]; omega)]
    rw [show (a.l.drop 8).take (min 8 (16 - 8)) = a.l.drop 8 from List.take_of_length_le (by rw [List.length_drop, ha]; decide)]
    rw [show llB.l.drop (min 8 16 + min 8 (16 - 8)) = [] from rfl, List.append_nil]
    rfl
  constructor
  · intro h
    rw [h, hl]
    rfl
  · intro h
    apply Bs.ext
    rw [hl, ← h, List.take_append_drop]

def patB : List UInt8 := [254, 128, 0, 0, 0, 0, 0, 0]
theorem pat_at {i : Nat} {c : UInt8} (hi : i < 8) (h0 : i = 0 → (c.toNat : Int) = 254) (h1 : i = 1 → (c.toNat : Int) = 128) (h2 : 1 < i → (c.toNat : Int) = 0) : patB[i]? = some c := by
  have e : ∀ k : Nat, k < 256 → (c.toNat : Int) = k → c = UInt8.ofNat k := fun k hk h => UInt8.toNat_inj.1 (by rw [UInt8.toNat_ofNat']; omega)
  match i, hi with
  | 0, _ => rw [e 254 (by decide) (h0 rfl)]; rfl
  | 1, _ => rw [e 128 (by decide) (h1 rfl)]; rfl
  | 2, _ | 3, _ | 4, _ | 5, _ | 6, _ | 7, _ => rw [e 0 (by decide) (h2 (by decide))]; rfl
theorem loc_step {a : Bs 16} {i : Nat} {c : UInt8} (h : a.l.take i = patB.take i) (hc : a.l[i]? = some c) (hp : patB[i]? = some c) : a.l.take (i + 1) = patB.take (i + 1) := by
  rw [take_succ_get hc, take_succ_get hp, h]
theorem loc_not {a : Bs 16} {i : Nat} {c : UInt8} (hi : i < 8) (hc : a.l[i]? = some c) (h : (i = 0 ∧ (c.toNat : Int) ≠ 254) ∨ (i = 1 ∧ (c.toNat : Int) ≠ 128) ∨ (1 < i ∧ (c.toNat : Int) ≠ 0)) : ¬ a = locB a := by
  intro h9
  have h8 := (loc_iff a).1 h9
  have h7 : patB[i]? = some c := by
    show [254, 128, 0, 0, 0, 0, 0, 0][i]? = _
    rw [← h8, List.getElem?_take, if_pos hi, hc]
  have h6 : ∀ k d, patB[k]? = some d → k = i → d = c := fun k d hk e => by subst e; rw [hk] at h7; exact Option.some.inj h7
  match i, hi with
  | 0, _ => have := h6 0 254 rfl rfl; subst this; rcases h with ⟨_, h⟩ | ⟨h, _⟩ | ⟨h, _⟩; exact h rfl; cases h; cases h
  | 1, _ => have := h6 1 128 rfl rfl; subst this; rcases h with ⟨h, _⟩ | ⟨_, h⟩ | ⟨h, _⟩; cases h; exact h rfl; omega
  | k + 2, hk =>
    have : c = 0 := by
      match k, hk with
      | 0, _ => exact (h6 2 0 rfl rfl).symm
      | 1, _ => exact (h6 3 0 rfl rfl).symm
      | 2, _ => exact (h6 4 0 rfl rfl).symm
      | 3, _ => exact (h6 5 0 rfl rfl).symm
      | 4, _ => exact (h6 6 0 rfl rfl).symm
      | 5, _ => exact (h6 7 0 rfl rfl).symm
    subst this
    rcases h with ⟨h, _⟩ | ⟨h, _⟩ | ⟨_, h⟩
    · omega
    · omega
    · exact h rfl

theorem rlocal_spec (F : Fr) (a : Bs 16) : Spec Tryz.prog 50 #[.agg (Bs.enc a).toArray] [] F (fun v S => v = .bool (decide (a = locB a)) ∧ S = []) := by
 refine Spec.intro (N := 36) (args := [.agg (Bs.enc a).toArray]) Tryz.func50 rfl rfl (by simp) ?_
 refine Zs fun _ hk1 => Ef 0 E2 (EF.boxA rfl rfl) ?_
 rintro _ _ ⟨b1, rfl, rfl⟩
 refine Sg 1 E3 <| Zl hk1 <| Run.seq fun _ hk2 => Zs fun _ hk3 => Sg 0 E3 <| Zl hk3 <| Run.block <| Run.loop1 (fun (i : Nat) => i ≤ 8 ∧ a.l.take i = patB.take i) (fun i => .cons 1 (fp b1) (.cons 2 (.bool false) (.cons 3 (.int .i64 i) (.nil)))) (fun i => [blk b1 (Bs.enc a) 23]) (fun i => 8 - i) (0) (⟨by decide, rfl⟩) ?_ ?_
 ·exact fun _ j => J.envJ (J.keep Tk1 j) ⟨rfl, rfl, rfl, trivial⟩
 rintro i ⟨hi8, htk⟩ kl4 hl4
 refine Run.seq fun _ hk5 => Zs fun _ hk6 => Mv 0 E3 <| Qp 1 E2 (Zb E3) <| J.caseD (fun c5 => ?_) (fun c5 => ?_)
 ·refine Zl hk6 <| Zt <| Run.skip <| hk5 _ _ <| Run.seq fun _ hk7 => Run.block <| Run.seq fun _ hk8 => Run.region ?_
  obtain ⟨cb, hcb⟩ : ∃ c, a.l[i]? = some c := ⟨_, List.getElem?_eq_getElem (by rw [a.h]; omega)⟩
  have hal := a.h
  refine Mv 0 E3 <| Qp 1 E2 (Ze E3) <| J.caseD (fun c9 => ?_) (fun c9 => ?_)
  ·refine Mv 2 E3 <| Ym 3 E4 <| Yp 4 E3 (QP.indexArr rfl rfl rfl Tryz.underlying23 z5 Og Og) <| Yq 5 E3 (Z1 E2 g5 (Bs.subAt _ hcb (by simp))) ?_
   refine Yp 6 E3 (Zq E3) <| J.caseD (fun c14 => ?_) (fun c14 => ?_)
   ·refine Pt 7 E4 <| Mv 8 E3 <| Sk 9 E3 <| Sk 10 E3 <| Sk 11 E3 <| Sq.skip (i := 12) rfl (Want.undef rfl rfl rfl) rfl (ltN rfl) ?_
    refine Sq.skip (i := 13) rfl (Want.undef rfl rfl rfl) rfl (ltN rfl) ?_
    refine Sq.skip (i := 14) rfl (Want.undef rfl rfl rfl) rfl (ltN rfl) ?_
    refine Sq.skip (i := 15) rfl (Want.undef rfl rfl rfl) rfl (ltN rfl) ?_
    refine Sk 16 E3 <| Pt 17 E4 <| Mv 18 E3 <| Sk 19 E3 <| Sk 20 E3 <| Sk 21 E3 <| Sq.skip (i := 22) rfl (Want.undef rfl rfl rfl) rfl (ltN rfl) ?_
    refine Sq.skip (i := 23) rfl (Want.undef rfl rfl rfl) rfl (ltN rfl) ?_
    refine Sq.skip (i := 24) rfl (Want.undef rfl rfl rfl) rfl (ltN rfl) ?_
    refine Sq.skip (i := 25) rfl (Want.undef rfl rfl rfl) rfl (ltN rfl) ?_
    exact Sk 26 E3 <| Pt 27 E4 <| Zl hk8 <| Zt <| Zs fun _ hk9 => Sg 0 E3 <| Zl hk9 <| Run.ret <| J.ends (res_tmp rfl rfl) Takes.nil ⟨congrArg Value.bool (decide_eq_false (loc_not (by omega) hcb (by omega))).symm, rfl⟩
   ·refine Pt 7 E4 <| Mv 8 E3 <| Ym 9 E4 <| Yp 10 E3 (Ze E3) <| J.caseD (fun c18 => ?_) (fun c18 => ?_)
    ·refine Ym 11 E4 <| Ym 12 E4 <| Yp 13 E3 (QP.indexArr rfl rfl rfl Tryz.underlying23 z5 Og Og) <| Yq 14 E3 (Z1 E2 g5 (Bs.subAt _ hcb (by simp))) ?_
     refine Yp 15 E3 (Zq E3) <| J.caseD (fun c23 => ?_) (fun c23 => ?_)
     ·refine Yp 16 E3 (QP.pick_t rfl rfl rfl) <| Pf 17 E4 <| Mv 18 E3 <| Sk 19 E3 <| Sk 20 E3 <| Sk 21 E3 <| Sq.skip (i := 22) rfl (Want.undef rfl rfl rfl) rfl (ltN rfl) ?_
      refine Sq.skip (i := 23) rfl (Want.undef rfl rfl rfl) rfl (ltN rfl) ?_
      refine Sq.skip (i := 24) rfl (Want.undef rfl rfl rfl) rfl (ltN rfl) ?_
      refine Sq.skip (i := 25) rfl (Want.undef rfl rfl rfl) rfl (ltN rfl) ?_
      exact Sk 26 E3 <| Pt 27 E4 <| Zl hk8 <| Zt <| Zs fun _ hk10 => Sg 0 E3 <| Zl hk10 <| Run.ret <| J.ends (res_tmp rfl rfl) Takes.nil ⟨congrArg Value.bool (decide_eq_false (loc_not (by omega) hcb (by omega))).symm, rfl⟩
     ·refine Yp 16 E3 (QP.pick_t rfl rfl rfl) <| Pf 17 E4 <| Mv 18 E3 <| Ym 19 E4 <| Yp 20 E3 (QP.gtr rfl rfl rfl) <| J.caseD (fun c28 => ?_) (fun c28 => ?_)
      ·refine Ym 21 E4 <| Ym 22 E4 <| Yp 23 E3 (QP.indexArr rfl rfl rfl Tryz.underlying23 z5 Og Og) <| Yq 24 E3 (Z1 E2 g5 (Bs.subAt _ hcb (by simp))) ?_
       refine Yp 25 E3 (Zq E3) <| J.caseD (fun c33 => ?_) (fun c33 => ?_)
       ·exact Yp 26 E3 (QP.pick_t rfl rfl rfl) <| Pf 27 E4 <| Zl hk8 <| Zt <| Zs fun _ hk11 => Sg 0 E3 <| Zl hk11 <| Run.ret <| J.ends (res_tmp rfl rfl) Takes.nil ⟨congrArg Value.bool (decide_eq_false (loc_not (by omega) hcb (by omega))).symm, rfl⟩
       ·exact Yp 26 E3 (QP.pick_t rfl rfl rfl) <| Pf 27 E4 <| Zl hk8 <| Zf <| Run.skip <| hk7 _ _ <| Run.region <| Mv 0 E3 <| Qp 1 E2 (QP.add64 rfl rfl rfl Og Og) <| Sg 2 E3 <| Sq.nil <| J.envJ (J.keep Tk1 (hl4 (i + 1) (⟨by omega, loc_step htk hcb (pat_at (by omega) (by intro _; omega) (by intro _; omega) (by intro _; omega))⟩) (by omega))) ⟨rfl, rfl, rfl, trivial⟩
      ·exact Ym 21 E4 <| Sk 22 E3 <| Sk 23 E3 <| Sk 24 E3 <| Sk 25 E3 <| Yp 26 E3 (QP.pick_f rfl rfl rfl) <| Pf 27 E4 <| Zl hk8 <| Zf <| Run.skip <| hk7 _ _ <| Run.region <| Mv 0 E3 <| Qp 1 E2 (QP.add64 rfl rfl rfl Og Og) <| Sg 2 E3 <| Sq.nil <| J.envJ (J.keep Tk1 (hl4 (i + 1) (⟨by omega, loc_step htk hcb (pat_at (by omega) (by intro _; omega) (by intro _; omega) (by intro _; omega))⟩) (by omega))) ⟨rfl, rfl, rfl, trivial⟩
    ·refine Ym 11 E4 <| Sk 12 E3 <| Sk 13 E3 <| Sk 14 E3 <| Sk 15 E3 <| Yp 16 E3 (QP.pick_f rfl rfl rfl) <| Pf 17 E4 <| Mv 18 E3 <| Ym 19 E4 <| Yp 20 E3 (QP.gtr rfl rfl rfl) <| J.caseD (fun c28 => ?_) (fun c28 => ?_)
     ·refine Ym 21 E4 <| Ym 22 E4 <| Yp 23 E3 (QP.indexArr rfl rfl rfl Tryz.underlying23 z5 Og Og) <| Yq 24 E3 (Z1 E2 g5 (Bs.subAt _ hcb (by simp))) ?_
      refine Yp 25 E3 (Zq E3) <| J.caseD (fun c33 => ?_) (fun c33 => ?_)
      ·exact Yp 26 E3 (QP.pick_t rfl rfl rfl) <| Pf 27 E4 <| Zl hk8 <| Zt <| Zs fun _ hk12 => Sg 0 E3 <| Zl hk12 <| Run.ret <| J.ends (res_tmp rfl rfl) Takes.nil ⟨congrArg Value.bool (decide_eq_false (loc_not (by omega) hcb (by omega))).symm, rfl⟩
      ·exact Yp 26 E3 (QP.pick_t rfl rfl rfl) <| Pf 27 E4 <| Zl hk8 <| Zf <| Run.skip <| hk7 _ _ <| Run.region <| Mv 0 E3 <| Qp 1 E2 (QP.add64 rfl rfl rfl Og Og) <| Sg 2 E3 <| Sq.nil <| J.envJ (J.keep Tk1 (hl4 (i + 1) (⟨by omega, loc_step htk hcb (pat_at (by omega) (by intro _; omega) (by intro _; omega) (by intro _; omega))⟩) (by omega))) ⟨rfl, rfl, rfl, trivial⟩
     ·exact Ym 21 E4 <| Sk 22 E3 <| Sk 23 E3 <| Sk 24 E3 <| Sk 25 E3 <| Yp 26 E3 (QP.pick_f rfl rfl rfl) <| Pf 27 E4 <| Zl hk8 <| Zf <| Run.skip <| hk7 _ _ <| Run.region <| Mv 0 E3 <| Qp 1 E2 (QP.add64 rfl rfl rfl Og Og) <| Sg 2 E3 <| Sq.nil <| J.envJ (J.keep Tk1 (hl4 (i + 1) (⟨by omega, loc_step htk hcb (pat_at (by omega) (by intro _; omega) (by intro _; omega) (by intro _; omega))⟩) (by omega))) ⟨rfl, rfl, rfl, trivial⟩
  ·refine Mv 2 E3 <| Sk 3 E3 <| Sk 4 E3 <| Sk 5 E3 <| Sk 6 E3 <| Pf 7 E4 <| Mv 8 E3 <| Ym 9 E4 <| Yp 10 E3 (Ze E3) <| J.caseD (fun c18 => ?_) (fun c18 => ?_)
   ·refine Ym 11 E4 <| Ym 12 E4 <| Yp 13 E3 (QP.indexArr rfl rfl rfl Tryz.underlying23 z5 Og Og) <| Yq 14 E3 (Z1 E2 g5 (Bs.subAt _ hcb (by simp))) ?_
    refine Yp 15 E3 (Zq E3) <| J.caseD (fun c23 => ?_) (fun c23 => ?_)
    ·refine Yp 16 E3 (QP.pick_t rfl rfl rfl) <| Pf 17 E4 <| Mv 18 E3 <| Sk 19 E3 <| Sk 20 E3 <| Sk 21 E3 <| Sq.skip (i := 22) rfl (Want.undef rfl rfl rfl) rfl (ltN rfl) ?_
     refine Sq.skip (i := 23) rfl (Want.undef rfl rfl rfl) rfl (ltN rfl) ?_
     refine Sq.skip (i := 24) rfl (Want.undef rfl rfl rfl) rfl (ltN rfl) ?_
     refine Sq.skip (i := 25) rfl (Want.undef rfl rfl rfl) rfl (ltN rfl) ?_
     exact Sk 26 E3 <| Pt 27 E4 <| Zl hk8 <| Zt <| Zs fun _ hk13 => Sg 0 E3 <| Zl hk13 <| Run.ret <| J.ends (res_tmp rfl rfl) Takes.nil ⟨congrArg Value.bool (decide_eq_false (loc_not (by omega) hcb (by omega))).symm, rfl⟩
    ·refine Yp 16 E3 (QP.pick_t rfl rfl rfl) <| Pf 17 E4 <| Mv 18 E3 <| Ym 19 E4 <| Yp 20 E3 (QP.gtr rfl rfl rfl) <| J.caseD (fun c28 => ?_) (fun c28 => ?_)
     ·refine Ym 21 E4 <| Ym 22 E4 <| Yp 23 E3 (QP.indexArr rfl rfl rfl Tryz.underlying23 z5 Og Og) <| Yq 24 E3 (Z1 E2 g5 (Bs.subAt _ hcb (by simp))) ?_
      refine Yp 25 E3 (Zq E3) <| J.caseD (fun c33 => ?_) (fun c33 => ?_)
      ·exact Yp 26 E3 (QP.pick_t rfl rfl rfl) <| Pf 27 E4 <| Zl hk8 <| Zt <| Zs fun _ hk14 => Sg 0 E3 <| Zl hk14 <| Run.ret <| J.ends (res_tmp rfl rfl) Takes.nil ⟨congrArg Value.bool (decide_eq_false (loc_not (by omega) hcb (by omega))).symm, rfl⟩
      ·exact Yp 26 E3 (QP.pick_t rfl rfl rfl) <| Pf 27 E4 <| Zl hk8 <| Zf <| Run.skip <| hk7 _ _ <| Run.region <| Mv 0 E3 <| Qp 1 E2 (QP.add64 rfl rfl rfl Og Og) <| Sg 2 E3 <| Sq.nil <| J.envJ (J.keep Tk1 (hl4 (i + 1) (⟨by omega, loc_step htk hcb (pat_at (by omega) (by intro _; omega) (by intro _; omega) (by intro _; omega))⟩) (by omega))) ⟨rfl, rfl, rfl, trivial⟩
     ·exact Ym 21 E4 <| Sk 22 E3 <| Sk 23 E3 <| Sk 24 E3 <| Sk 25 E3 <| Yp 26 E3 (QP.pick_f rfl rfl rfl) <| Pf 27 E4 <| Zl hk8 <| Zf <| Run.skip <| hk7 _ _ <| Run.region <| Mv 0 E3 <| Qp 1 E2 (QP.add64 rfl rfl rfl Og Og) <| Sg 2 E3 <| Sq.nil <| J.envJ (J.keep Tk1 (hl4 (i + 1) (⟨by omega, loc_step htk hcb (pat_at (by omega) (by intro _; omega) (by intro _; omega) (by intro _; omega))⟩) (by omega))) ⟨rfl, rfl, rfl, trivial⟩
   ·refine Ym 11 E4 <| Sk 12 E3 <| Sk 13 E3 <| Sk 14 E3 <| Sk 15 E3 <| Yp 16 E3 (QP.pick_f rfl rfl rfl) <| Pf 17 E4 <| Mv 18 E3 <| Ym 19 E4 <| Yp 20 E3 (QP.gtr rfl rfl rfl) <| J.caseD (fun c28 => ?_) (fun c28 => ?_)
    ·refine Ym 21 E4 <| Ym 22 E4 <| Yp 23 E3 (QP.indexArr rfl rfl rfl Tryz.underlying23 z5 Og Og) <| Yq 24 E3 (Z1 E2 g5 (Bs.subAt _ hcb (by simp))) ?_
     refine Yp 25 E3 (Zq E3) <| J.caseD (fun c33 => ?_) (fun c33 => ?_)
     ·exact Yp 26 E3 (QP.pick_t rfl rfl rfl) <| Pf 27 E4 <| Zl hk8 <| Zt <| Zs fun _ hk15 => Sg 0 E3 <| Zl hk15 <| Run.ret <| J.ends (res_tmp rfl rfl) Takes.nil ⟨congrArg Value.bool (decide_eq_false (loc_not (by omega) hcb (by omega))).symm, rfl⟩
     ·exact Yp 26 E3 (QP.pick_t rfl rfl rfl) <| Pf 27 E4 <| Zl hk8 <| Zf <| Run.skip <| hk7 _ _ <| Run.region <| Mv 0 E3 <| Qp 1 E2 (QP.add64 rfl rfl rfl Og Og) <| Sg 2 E3 <| Sq.nil <| J.envJ (J.keep Tk1 (hl4 (i + 1) (⟨by omega, loc_step htk hcb (pat_at (by omega) (by intro _; omega) (by intro _; omega) (by intro _; omega))⟩) (by omega))) ⟨rfl, rfl, rfl, trivial⟩
    ·exact Ym 21 E4 <| Sk 22 E3 <| Sk 23 E3 <| Sk 24 E3 <| Sk 25 E3 <| Yp 26 E3 (QP.pick_f rfl rfl rfl) <| Pf 27 E4 <| Zl hk8 <| Zf <| Run.skip <| hk7 _ _ <| Run.region <| Mv 0 E3 <| Qp 1 E2 (QP.add64 rfl rfl rfl Og Og) <| Sg 2 E3 <| Sq.nil <| J.envJ (J.keep Tk1 (hl4 (i + 1) (⟨by omega, loc_step htk hcb (pat_at (by omega) (by intro _; omega) (by intro _; omega) (by intro _; omega))⟩) (by omega))) ⟨rfl, rfl, rfl, trivial⟩
 ·refine Zl hk6 <| Zf <| Run.exit rfl <| hk2 _ _ <| Zs fun _ hk16 => Sg 0 E3 <| Zl hk16 <| Run.ret ?_
  obtain rfl : i = 8 := by omega
  exact J.ends (res_tmp rfl rfl) Takes.nil ⟨congrArg Value.bool (decide_eq_true ((loc_iff a).2 htk)).symm, rfl⟩
end Slb
