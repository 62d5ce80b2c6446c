/- I78: a part of the proof that a law of this package holds for every input; no condition. -/
import Derived.Test.YtfokodhfjdhdaaaM2
import Derived.Test.YtfokodhfjdhdaaaI77
import Derived.Test.YtfokodhfjdhdaaaI16
namespace Slb
open Go Go.Proofs
set_option maxRecDepth 20000
theorem take_not {α : Type} {L : List α} {i : Nat} {x : α} {q : α → Prop} (h : ∀ y ∈ L.take i, q y) (hi : L[i]? = some x) (hx : q x) : ∀ y ∈ L.take (i + 1), q y := fun y hy => by
  rw [take_succ_get hi] at hy
  rcases List.mem_append.1 hy with hy | hy
  · exact h y hy
  · simp at hy; subst hy; exact hx
def inB (a lo hi : Int) : Bool := decide (lo ≤ a) && decide (a ≤ hi)
theorem inB_iff {a lo hi : Int} : inB a lo hi = true ↔ lo ≤ a ∧ a ≤ hi := by unfold inB; simp

theorem rin_spec (F : Fr) (a lo hi : Int) : Spec Try.prog 38 #[.int .i64 a, .int .i64 lo, .int .i64 hi] [] F (fun v S => v = .bool (inB a lo hi) ∧ S = []) := by
 refine Spec.intro (N := 15) (args := [.int .i64 a, .int .i64 lo, .int .i64 hi]) Try.func38 rfl rfl (by simp) ?_
 refine Run.seq fun k1 hk1 => Run.region ?_
 show Sq _ _ _ [0] _ _ _ _
 refine Sg 0 rfl rfl rfl <| Sq.nil <| hk1 _ _ <| Run.seq fun k2 hk2 => Run.region ?_
 show Sq _ _ _ [0, 1, 2, 3, 4, 5, 6, 7, 8] _ _ _ _
 refine Mv 0 rfl rfl rfl <| Mv 1 rfl rfl rfl <| Qp 2 rfl rfl (QP.geq rfl rfl rfl) <| J.caseD (fun c9 => ?_) (fun c9 => ?_)
 ·refine Mv 3 rfl rfl rfl <| Ym 4 rfl rfl rfl rfl <| Ym 5 rfl rfl rfl rfl <| Yp 6 rfl rfl rfl (QP.leq rfl rfl rfl) <| Pt 7 rfl rfl rfl rfl <| Sg 8 rfl rfl rfl <| Sq.nil <| hk2 _ _ <| Run.ret ?_
  exact J.ends (res_tmp rfl rfl) Takes.nil ⟨by simp_all [inB] <;> (intro h; omega), rfl⟩
 ·refine Mv 3 rfl rfl rfl <| Sk 4 rfl rfl rfl <| Sk 5 rfl rfl rfl <| Sk 6 rfl rfl rfl <| Pf 7 rfl rfl rfl rfl <| Sg 8 rfl rfl rfl <| Sq.nil <| hk2 _ _ <| Run.ret ?_
  exact J.ends (res_tmp rfl rfl) Takes.nil ⟨by simp_all [inB] <;> (intro h; omega), rfl⟩

theorem rname_spec (F : Fr) (s : ByteArray) : Spec Try.prog 48 #[.string s] [] F (fun v S => ∃ r, v = .bool r ∧ S = []) := by
 refine Spec.intro (N := 56) (args := [.string s]) Try.func48 rfl rfl (by simp) ?_
 refine Run.seq fun k1 hk1 => Run.region ?_
 show Sq _ _ _ [0] _ _ _ _
 refine Sg 0 rfl rfl rfl <| Sq.nil <| hk1 _ _ <| Run.seq fun k2 hk2 => Run.seq fun k3 hk3 => Run.region ?_
 show Sq _ _ _ [0, 1, 2, 3, 4, 5, 6] _ _ _ _
 refine Mv 0 rfl rfl rfl <| Qp 1 rfl rfl (QP.eqS rfl rfl rfl) <| J.caseD (fun c6 => ?_) (fun c6 => ?_)
 ·refine Mv 2 rfl rfl rfl <| Sk 3 rfl rfl rfl <| Sk 4 rfl rfl rfl <| Sk 5 rfl rfl rfl <| Pt 6 rfl rfl rfl rfl <| Sq.nil <| hk3 _ _ <| Run.cond_t rfl <| Run.seq fun k4 hk4 => Run.region ?_
  show Sq _ _ _ [0] _ _ _ _
  refine Sg 0 rfl rfl rfl <| Sq.nil <| hk4 _ _ <| Run.ret ?_
  exact J.ends (res_tmp rfl rfl) Takes.nil ⟨_, rfl, rfl⟩
 ·refine Mv 2 rfl rfl rfl <| Ym 3 rfl rfl rfl rfl <| Yp 4 rfl rfl rfl (QP.lenS rfl rfl rfl Try.underlying9) <| Yp 5 rfl rfl rfl (QP.gtr rfl rfl rfl) <| J.caseD (fun c10 => ?_) (fun c10 => ?_)
  ·refine Pf 6 rfl rfl rfl rfl <| Sq.nil <| hk3 _ _ <| Run.cond_t rfl <| Run.seq fun k5 hk5 => Run.region ?_
   show Sq _ _ _ [0] _ _ _ _
   refine Sg 0 rfl rfl rfl <| Sq.nil <| hk5 _ _ <| Run.ret ?_
   exact J.ends (res_tmp rfl rfl) Takes.nil ⟨_, rfl, rfl⟩
  ·refine Pf 6 rfl rfl rfl rfl <| Sq.nil <| hk3 _ _ <| Run.cond_f rfl <| Run.skip <| hk2 _ _ <| Run.seq fun k6 hk6 => Run.seq fun k7 hk7 => Run.region ?_
   show Sq _ _ _ [0] _ _ _ _
   refine Sg 0 rfl rfl rfl <| Sq.nil <| hk7 _ _ <| Run.block <| Run.loop1 (fun (i : Nat) => i ≤ s.size ∧ s.size ≤ 15) (fun i => .cons 0 (.string s) (.cons 3 (.int .i64 i) (.nil))) (fun i => []) (fun i => s.size - i) (0) (⟨Nat.zero_le _, by omega⟩) ?_ ?_
   ·exact fun _ j => J.envJ (J.keep Takes.nil j) ⟨rfl, rfl, trivial⟩
   rintro i ⟨hile, hsz⟩ kl8 hl8
   refine Run.seq fun k9 hk9 => Run.seq fun k10 hk10 => Run.region ?_
   show Sq _ _ _ [0, 1, 2, 3] _ _ _ _
   refine Mv 0 rfl rfl rfl <| Mv 1 rfl rfl rfl <| Qp 2 rfl rfl (QP.lenS rfl rfl rfl Try.underlying9) <| Qp 3 rfl rfl (QP.lss rfl rfl rfl) <| J.caseD (fun c15 => ?_) (fun c15 => ?_)
   ·refine Sq.nil <| hk10 _ _ <| Run.cond_t rfl <| Run.skip <| hk9 _ _ <| Run.seq fun k11 hk11 => Run.block <| Run.seq fun k12 hk12 => Run.region ?_
    show Sq _ _ _ [0, 1, 2, 3] _ _ _ _
    obtain ⟨c, hc⟩ := str_get (s := s) (i := i) (by omega)
    refine Mv 0 rfl rfl rfl <| Mv 1 rfl rfl rfl <| Qp 2 rfl rfl (QP.indexS rfl rfl rfl Try.underlying9 (by omega) hc) <| Sg 3 rfl rfl rfl <| Sq.nil <| hk12 _ _ <| Run.seq fun k13 hk13 => Run.region ?_
    show Sq _ _ _ [0, 1, 2, 3, 4, 5, 6, 7, 8, 9, 10, 11, 12, 13, 14, 15, 16, 17, 18, 19, 20, 21, 22, 23, 24, 25, 26, 27, 28, 29, 30, 31, 32, 33, 34] _ _ _ _
    refine Mv 0 rfl rfl rfl <| Qp 1 rfl rfl (QP.geq rfl rfl rfl) <| J.caseD (fun c22 => ?_) (fun c22 => ?_)
    ·refine Mv 2 rfl rfl rfl <| Ym 3 rfl rfl rfl rfl <| Yp 4 rfl rfl rfl (QP.leq rfl rfl rfl) <| J.caseD (fun c25 => ?_) (fun c25 => ?_)
     ·refine Pt 5 rfl rfl rfl rfl <| Mv 6 rfl rfl rfl <| Sk 7 rfl rfl rfl <| Sk 8 rfl rfl rfl <| Sk 9 rfl rfl rfl <| Sq.skip (i := 10) rfl (Want.undef rfl rfl rfl) rfl (ltN rfl) ?_
      refine Sq.skip (i := 11) rfl (Want.undef rfl rfl rfl) rfl (ltN rfl) ?_
      refine Sk 12 rfl rfl rfl <| Pt 13 rfl rfl rfl rfl <| Mv 14 rfl rfl rfl <| Sk 15 rfl rfl rfl <| Sk 16 rfl rfl rfl <| Sk 17 rfl rfl rfl <| Sq.skip (i := 18) rfl (Want.undef rfl rfl rfl) rfl (ltN rfl) ?_
      refine Sq.skip (i := 19) rfl (Want.undef rfl rfl rfl) rfl (ltN rfl) ?_
      refine Sk 20 rfl rfl rfl <| Pt 21 rfl rfl rfl rfl <| Mv 22 rfl rfl rfl <| Sk 23 rfl rfl rfl <| Sk 24 rfl rfl rfl <| Pt 25 rfl rfl rfl rfl <| Mv 26 rfl rfl rfl <| Sk 27 rfl rfl rfl <| Sk 28 rfl rfl rfl <| Pt 29 rfl rfl rfl rfl <| Mv 30 rfl rfl rfl <| Sk 31 rfl rfl rfl <| Sk 32 rfl rfl rfl <| Pt 33 rfl rfl rfl rfl <| Qp 34 rfl rfl (QP.not rfl rfl) <| Sq.nil <| hk13 _ _ <| Run.cond_f rfl <| Run.skip <| hk11 _ _ <| Run.region ?_
      show Sq _ _ _ [0, 1, 2] _ _ _ _
      refine Mv 0 rfl rfl rfl <| Qp 1 rfl rfl (QP.add64 rfl rfl rfl Og Og) <| Sg 2 rfl rfl rfl <| Sq.nil ?_
      exact J.envJ (J.keep Takes.nil (hl8 (i + 1) (⟨by omega, hsz⟩) (by omega))) ⟨rfl, rfl, trivial⟩
     ·refine Pt 5 rfl rfl rfl rfl <| Mv 6 rfl rfl rfl <| Ym 7 rfl rfl rfl rfl <| Yp 8 rfl rfl rfl (QP.geq rfl rfl rfl) <| J.caseD (fun c29 => ?_) (fun c29 => ?_)
      ·refine Ym 9 rfl rfl rfl rfl <| Ym 10 rfl rfl rfl rfl <| Yp 11 rfl rfl rfl (QP.leq rfl rfl rfl) <| J.caseD (fun c32 => ?_) (fun c32 => ?_)
       ·refine Yp 12 rfl rfl rfl (QP.pick_t rfl rfl rfl) <| Pf 13 rfl rfl rfl rfl <| Mv 14 rfl rfl rfl <| Sk 15 rfl rfl rfl <| Sk 16 rfl rfl rfl <| Sk 17 rfl rfl rfl <| Sq.skip (i := 18) rfl (Want.undef rfl rfl rfl) rfl (ltN rfl) ?_
        refine Sq.skip (i := 19) rfl (Want.undef rfl rfl rfl) rfl (ltN rfl) ?_
        refine Sk 20 rfl rfl rfl <| Pt 21 rfl rfl rfl rfl <| Mv 22 rfl rfl rfl <| Sk 23 rfl rfl rfl <| Sk 24 rfl rfl rfl <| Pt 25 rfl rfl rfl rfl <| Mv 26 rfl rfl rfl <| Sk 27 rfl rfl rfl <| Sk 28 rfl rfl rfl <| Pt 29 rfl rfl rfl rfl <| Mv 30 rfl rfl rfl <| Sk 31 rfl rfl rfl <| Sk 32 rfl rfl rfl <| Pt 33 rfl rfl rfl rfl <| Qp 34 rfl rfl (QP.not rfl rfl) <| Sq.nil <| hk13 _ _ <| Run.cond_f rfl <| Run.skip <| hk11 _ _ <| Run.region ?_
        show Sq _ _ _ [0, 1, 2] _ _ _ _
        refine Mv 0 rfl rfl rfl <| Qp 1 rfl rfl (QP.add64 rfl rfl rfl Og Og) <| Sg 2 rfl rfl rfl <| Sq.nil ?_
        exact J.envJ (J.keep Takes.nil (hl8 (i + 1) (⟨by omega, hsz⟩) (by omega))) ⟨rfl, rfl, trivial⟩
       ·refine Yp 12 rfl rfl rfl (QP.pick_t rfl rfl rfl) <| Pf 13 rfl rfl rfl rfl <| Mv 14 rfl rfl rfl <| Ym 15 rfl rfl rfl rfl <| Yp 16 rfl rfl rfl (QP.geq rfl rfl rfl) <| J.caseD (fun c37 => ?_) (fun c37 => ?_)
        ·refine Ym 17 rfl rfl rfl rfl <| Ym 18 rfl rfl rfl rfl <| Yp 19 rfl rfl rfl (QP.leq rfl rfl rfl) <| J.caseD (fun c40 => ?_) (fun c40 => ?_)
         ·refine Yp 20 rfl rfl rfl (QP.pick_t rfl rfl rfl) <| Pf 21 rfl rfl rfl rfl <| Mv 22 rfl rfl rfl <| Sk 23 rfl rfl rfl <| Sk 24 rfl rfl rfl <| Pt 25 rfl rfl rfl rfl <| Mv 26 rfl rfl rfl <| Sk 27 rfl rfl rfl <| Sk 28 rfl rfl rfl <| Pt 29 rfl rfl rfl rfl <| Mv 30 rfl rfl rfl <| Sk 31 rfl rfl rfl <| Sk 32 rfl rfl rfl <| Pt 33 rfl rfl rfl rfl <| Qp 34 rfl rfl (QP.not rfl rfl) <| Sq.nil <| hk13 _ _ <| Run.cond_f rfl <| Run.skip <| hk11 _ _ <| Run.region ?_
          show Sq _ _ _ [0, 1, 2] _ _ _ _
          refine Mv 0 rfl rfl rfl <| Qp 1 rfl rfl (QP.add64 rfl rfl rfl Og Og) <| Sg 2 rfl rfl rfl <| Sq.nil ?_
          exact J.envJ (J.keep Takes.nil (hl8 (i + 1) (⟨by omega, hsz⟩) (by omega))) ⟨rfl, rfl, trivial⟩
         ·refine Yp 20 rfl rfl rfl (QP.pick_t rfl rfl rfl) <| Pf 21 rfl rfl rfl rfl <| Mv 22 rfl rfl rfl <| Ym 23 rfl rfl rfl rfl <| Yp 24 rfl rfl rfl (QP.eql rfl rfl rfl) <| J.caseD (fun c45 => ?_) (fun c45 => ?_)
          ·refine Pf 25 rfl rfl rfl rfl <| Mv 26 rfl rfl rfl <| Sk 27 rfl rfl rfl <| Sk 28 rfl rfl rfl <| Pt 29 rfl rfl rfl rfl <| Mv 30 rfl rfl rfl <| Sk 31 rfl rfl rfl <| Sk 32 rfl rfl rfl <| Pt 33 rfl rfl rfl rfl <| Qp 34 rfl rfl (QP.not rfl rfl) <| Sq.nil <| hk13 _ _ <| Run.cond_f rfl <| Run.skip <| hk11 _ _ <| Run.region ?_
           show Sq _ _ _ [0, 1, 2] _ _ _ _
           refine Mv 0 rfl rfl rfl <| Qp 1 rfl rfl (QP.add64 rfl rfl rfl Og Og) <| Sg 2 rfl rfl rfl <| Sq.nil ?_
           exact J.envJ (J.keep Takes.nil (hl8 (i + 1) (⟨by omega, hsz⟩) (by omega))) ⟨rfl, rfl, trivial⟩
          ·refine Pf 25 rfl rfl rfl rfl <| Mv 26 rfl rfl rfl <| Ym 27 rfl rfl rfl rfl <| Yp 28 rfl rfl rfl (QP.eql rfl rfl rfl) <| J.caseD (fun c49 => ?_) (fun c49 => ?_)
           ·refine Pf 29 rfl rfl rfl rfl <| Mv 30 rfl rfl rfl <| Sk 31 rfl rfl rfl <| Sk 32 rfl rfl rfl <| Pt 33 rfl rfl rfl rfl <| Qp 34 rfl rfl (QP.not rfl rfl) <| Sq.nil <| hk13 _ _ <| Run.cond_f rfl <| Run.skip <| hk11 _ _ <| Run.region ?_
            show Sq _ _ _ [0, 1, 2] _ _ _ _
            refine Mv 0 rfl rfl rfl <| Qp 1 rfl rfl (QP.add64 rfl rfl rfl Og Og) <| Sg 2 rfl rfl rfl <| Sq.nil ?_
            exact J.envJ (J.keep Takes.nil (hl8 (i + 1) (⟨by omega, hsz⟩) (by omega))) ⟨rfl, rfl, trivial⟩
           ·refine Pf 29 rfl rfl rfl rfl <| Mv 30 rfl rfl rfl <| Ym 31 rfl rfl rfl rfl <| Yp 32 rfl rfl rfl (QP.eql rfl rfl rfl) <| J.caseD (fun c53 => ?_) (fun c53 => ?_)
            ·refine Pf 33 rfl rfl rfl rfl <| Qp 34 rfl rfl (QP.not rfl rfl) <| Sq.nil <| hk13 _ _ <| Run.cond_f rfl <| Run.skip <| hk11 _ _ <| Run.region ?_
             show Sq _ _ _ [0, 1, 2] _ _ _ _
             refine Mv 0 rfl rfl rfl <| Qp 1 rfl rfl (QP.add64 rfl rfl rfl Og Og) <| Sg 2 rfl rfl rfl <| Sq.nil ?_
             exact J.envJ (J.keep Takes.nil (hl8 (i + 1) (⟨by omega, hsz⟩) (by omega))) ⟨rfl, rfl, trivial⟩
            ·refine Pf 33 rfl rfl rfl rfl <| Qp 34 rfl rfl (QP.not rfl rfl) <| Sq.nil <| hk13 _ _ <| Run.cond_t rfl <| Run.seq fun k14 hk14 => Run.region ?_
             show Sq _ _ _ [0] _ _ _ _
             refine Sg 0 rfl rfl rfl <| Sq.nil <| hk14 _ _ <| Run.ret ?_
             exact J.ends (res_tmp rfl rfl) Takes.nil ⟨_, rfl, rfl⟩
        ·refine Ym 17 rfl rfl rfl rfl <| Sk 18 rfl rfl rfl <| Sk 19 rfl rfl rfl <| Yp 20 rfl rfl rfl (QP.pick_f rfl rfl rfl) <| Pf 21 rfl rfl rfl rfl <| Mv 22 rfl rfl rfl <| Ym 23 rfl rfl rfl rfl <| Yp 24 rfl rfl rfl (QP.eql rfl rfl rfl) <| J.caseD (fun c45 => ?_) (fun c45 => ?_)
         ·refine Pf 25 rfl rfl rfl rfl <| Mv 26 rfl rfl rfl <| Sk 27 rfl rfl rfl <| Sk 28 rfl rfl rfl <| Pt 29 rfl rfl rfl rfl <| Mv 30 rfl rfl rfl <| Sk 31 rfl rfl rfl <| Sk 32 rfl rfl rfl <| Pt 33 rfl rfl rfl rfl <| Qp 34 rfl rfl (QP.not rfl rfl) <| Sq.nil <| hk13 _ _ <| Run.cond_f rfl <| Run.skip <| hk11 _ _ <| Run.region ?_
          show Sq _ _ _ [0, 1, 2] _ _ _ _
          refine Mv 0 rfl rfl rfl <| Qp 1 rfl rfl (QP.add64 rfl rfl rfl Og Og) <| Sg 2 rfl rfl rfl <| Sq.nil ?_
          exact J.envJ (J.keep Takes.nil (hl8 (i + 1) (⟨by omega, hsz⟩) (by omega))) ⟨rfl, rfl, trivial⟩
         ·refine Pf 25 rfl rfl rfl rfl <| Mv 26 rfl rfl rfl <| Ym 27 rfl rfl rfl rfl <| Yp 28 rfl rfl rfl (QP.eql rfl rfl rfl) <| J.caseD (fun c49 => ?_) (fun c49 => ?_)
          ·refine Pf 29 rfl rfl rfl rfl <| Mv 30 rfl rfl rfl <| Sk 31 rfl rfl rfl <| Sk 32 rfl rfl rfl <| Pt 33 rfl rfl rfl rfl <| Qp 34 rfl rfl (QP.not rfl rfl) <| Sq.nil <| hk13 _ _ <| Run.cond_f rfl <| Run.skip <| hk11 _ _ <| Run.region ?_
           show Sq _ _ _ [0, 1, 2] _ _ _ _
           refine Mv 0 rfl rfl rfl <| Qp 1 rfl rfl (QP.add64 rfl rfl rfl Og Og) <| Sg 2 rfl rfl rfl <| Sq.nil ?_
           exact J.envJ (J.keep Takes.nil (hl8 (i + 1) (⟨by omega, hsz⟩) (by omega))) ⟨rfl, rfl, trivial⟩
          ·refine Pf 29 rfl rfl rfl rfl <| Mv 30 rfl rfl rfl <| Ym 31 rfl rfl rfl rfl <| Yp 32 rfl rfl rfl (QP.eql rfl rfl rfl) <| J.caseD (fun c53 => ?_) (fun c53 => ?_)
           ·refine Pf 33 rfl rfl rfl rfl <| Qp 34 rfl rfl (QP.not rfl rfl) <| Sq.nil <| hk13 _ _ <| Run.cond_f rfl <| Run.skip <| hk11 _ _ <| Run.region ?_
            show Sq _ _ _ [0, 1, 2] _ _ _ _
            refine Mv 0 rfl rfl rfl <| Qp 1 rfl rfl (QP.add64 rfl rfl rfl Og Og) <| Sg 2 rfl rfl rfl <| Sq.nil ?_
            exact J.envJ (J.keep Takes.nil (hl8 (i + 1) (⟨by omega, hsz⟩) (by omega))) ⟨rfl, rfl, trivial⟩
           ·refine Pf 33 rfl rfl rfl rfl <| Qp 34 rfl rfl (QP.not rfl rfl) <| Sq.nil <| hk13 _ _ <| Run.cond_t rfl <| Run.seq fun k15 hk15 => Run.region ?_
            show Sq _ _ _ [0] _ _ _ _
            refine Sg 0 rfl rfl rfl <| Sq.nil <| hk15 _ _ <| Run.ret ?_
            exact J.ends (res_tmp rfl rfl) Takes.nil ⟨_, rfl, rfl⟩
      ·refine Ym 9 rfl rfl rfl rfl <| Sk 10 rfl rfl rfl <| Sk 11 rfl rfl rfl <| Yp 12 rfl rfl rfl (QP.pick_f rfl rfl rfl) <| Pf 13 rfl rfl rfl rfl <| Mv 14 rfl rfl rfl <| Ym 15 rfl rfl rfl rfl <| Yp 16 rfl rfl rfl (QP.geq rfl rfl rfl) <| J.caseD (fun c37 => ?_) (fun c37 => ?_)
       ·refine Ym 17 rfl rfl rfl rfl <| Ym 18 rfl rfl rfl rfl <| Yp 19 rfl rfl rfl (QP.leq rfl rfl rfl) <| J.caseD (fun c40 => ?_) (fun c40 => ?_)
        ·refine Yp 20 rfl rfl rfl (QP.pick_t rfl rfl rfl) <| Pf 21 rfl rfl rfl rfl <| Mv 22 rfl rfl rfl <| Sk 23 rfl rfl rfl <| Sk 24 rfl rfl rfl <| Pt 25 rfl rfl rfl rfl <| Mv 26 rfl rfl rfl <| Sk 27 rfl rfl rfl <| Sk 28 rfl rfl rfl <| Pt 29 rfl rfl rfl rfl <| Mv 30 rfl rfl rfl <| Sk 31 rfl rfl rfl <| Sk 32 rfl rfl rfl <| Pt 33 rfl rfl rfl rfl <| Qp 34 rfl rfl (QP.not rfl rfl) <| Sq.nil <| hk13 _ _ <| Run.cond_f rfl <| Run.skip <| hk11 _ _ <| Run.region ?_
         show Sq _ _ _ [0, 1, 2] _ _ _ _
         refine Mv 0 rfl rfl rfl <| Qp 1 rfl rfl (QP.add64 rfl rfl rfl Og Og) <| Sg 2 rfl rfl rfl <| Sq.nil ?_
         exact J.envJ (J.keep Takes.nil (hl8 (i + 1) (⟨by omega, hsz⟩) (by omega))) ⟨rfl, rfl, trivial⟩
        ·refine Yp 20 rfl rfl rfl (QP.pick_t rfl rfl rfl) <| Pf 21 rfl rfl rfl rfl <| Mv 22 rfl rfl rfl <| Ym 23 rfl rfl rfl rfl <| Yp 24 rfl rfl rfl (QP.eql rfl rfl rfl) <| J.caseD (fun c45 => ?_) (fun c45 => ?_)
         ·refine Pf 25 rfl rfl rfl rfl <| Mv 26 rfl rfl rfl <| Sk 27 rfl rfl rfl <| Sk 28 rfl rfl rfl <| Pt 29 rfl rfl rfl rfl <| Mv 30 rfl rfl rfl <| Sk 31 rfl rfl rfl <| Sk 32 rfl rfl rfl <| Pt 33 rfl rfl rfl rfl <| Qp 34 rfl rfl (QP.not rfl rfl) <| Sq.nil <| hk13 _ _ <| Run.cond_f rfl <| Run.skip <| hk11 _ _ <| Run.region ?_
          show Sq _ _ _ [0, 1, 2] _ _ _ _
          refine Mv 0 rfl rfl rfl <| Qp 1 rfl rfl (QP.add64 rfl rfl rfl Og Og) <| Sg 2 rfl rfl rfl <| Sq.nil ?_
          exact J.envJ (J.keep Takes.nil (hl8 (i + 1) (⟨by omega, hsz⟩) (by omega))) ⟨rfl, rfl, trivial⟩
         ·refine Pf 25 rfl rfl rfl rfl <| Mv 26 rfl rfl rfl <| Ym 27 rfl rfl rfl rfl <| Yp 28 rfl rfl rfl (QP.eql rfl rfl rfl) <| J.caseD (fun c49 => ?_) (fun c49 => ?_)
          ·refine Pf 29 rfl rfl rfl rfl <| Mv 30 rfl rfl rfl <| Sk 31 rfl rfl rfl <| Sk 32 rfl rfl rfl <| Pt 33 rfl rfl rfl rfl <| Qp 34 rfl rfl (QP.not rfl rfl) <| Sq.nil <| hk13 _ _ <| Run.cond_f rfl <| Run.skip <| hk11 _ _ <| Run.region ?_
           show Sq _ _ _ [0, 1, 2] _ _ _ _
           refine Mv 0 rfl rfl rfl <| Qp 1 rfl rfl (QP.add64 rfl rfl rfl Og Og) <| Sg 2 rfl rfl rfl <| Sq.nil ?_
           exact J.envJ (J.keep Takes.nil (hl8 (i + 1) (⟨by omega, hsz⟩) (by omega))) ⟨rfl, rfl, trivial⟩
          ·refine Pf 29 rfl rfl rfl rfl <| Mv 30 rfl rfl rfl <| Ym 31 rfl rfl rfl rfl <| Yp 32 rfl rfl rfl (QP.eql rfl rfl rfl) <| J.caseD (fun c53 => ?_) (fun c53 => ?_)
           ·refine Pf 33 rfl rfl rfl rfl <| Qp 34 rfl rfl (QP.not rfl rfl) <| Sq.nil <| hk13 _ _ <| Run.cond_f rfl <| Run.skip <| hk11 _ _ <| Run.region ?_
            show Sq _ _ _ [0, 1, 2] _ _ _ _
            refine Mv 0 rfl rfl rfl <| Qp 1 rfl rfl (QP.add64 rfl rfl rfl Og Og) <| Sg 2 rfl rfl rfl <| Sq.nil ?_
            exact J.envJ (J.keep Takes.nil (hl8 (i + 1) (⟨by omega, hsz⟩) (by omega))) ⟨rfl, rfl, trivial⟩
           ·refine Pf 33 rfl rfl rfl rfl <| Qp 34 rfl rfl (QP.not rfl rfl) <| Sq.nil <| hk13 _ _ <| Run.cond_t rfl <| Run.seq fun k16 hk16 => Run.region ?_
            show Sq _ _ _ [0] _ _ _ _
            refine Sg 0 rfl rfl rfl <| Sq.nil <| hk16 _ _ <| Run.ret ?_
            exact J.ends (res_tmp rfl rfl) Takes.nil ⟨_, rfl, rfl⟩
       ·refine Ym 17 rfl rfl rfl rfl <| Sk 18 rfl rfl rfl <| Sk 19 rfl rfl rfl <| Yp 20 rfl rfl rfl (QP.pick_f rfl rfl rfl) <| Pf 21 rfl rfl rfl rfl <| Mv 22 rfl rfl rfl <| Ym 23 rfl rfl rfl rfl <| Yp 24 rfl rfl rfl (QP.eql rfl rfl rfl) <| J.caseD (fun c45 => ?_) (fun c45 => ?_)
        ·refine Pf 25 rfl rfl rfl rfl <| Mv 26 rfl rfl rfl <| Sk 27 rfl rfl rfl <| Sk 28 rfl rfl rfl <| Pt 29 rfl rfl rfl rfl <| Mv 30 rfl rfl rfl <| Sk 31 rfl rfl rfl <| Sk 32 rfl rfl rfl <| Pt 33 rfl rfl rfl rfl <| Qp 34 rfl rfl (QP.not rfl rfl) <| Sq.nil <| hk13 _ _ <| Run.cond_f rfl <| Run.skip <| hk11 _ _ <| Run.region ?_
         show Sq _ _ _ [0, 1, 2] _ _ _ _
         refine Mv 0 rfl rfl rfl <| Qp 1 rfl rfl (QP.add64 rfl rfl rfl Og Og) <| Sg 2 rfl rfl rfl <| Sq.nil ?_
         exact J.envJ (J.keep Takes.nil (hl8 (i + 1) (⟨by omega, hsz⟩) (by omega))) ⟨rfl, rfl, trivial⟩
        ·refine Pf 25 rfl rfl rfl rfl <| Mv 26 rfl rfl rfl <| Ym 27 rfl rfl rfl rfl <| Yp 28 rfl rfl rfl (QP.eql rfl rfl rfl) <| J.caseD (fun c49 => ?_) (fun c49 => ?_)
         ·refine Pf 29 rfl rfl rfl rfl <| Mv 30 rfl rfl rfl <| Sk 31 rfl rfl rfl <| Sk 32 rfl rfl rfl <| Pt 33 rfl rfl rfl rfl <| Qp 34 rfl rfl (QP.not rfl rfl) <| Sq.nil <| hk13 _ _ <| Run.cond_f rfl <| Run.skip <| hk11 _ _ <| Run.region ?_
          show Sq _ _ _ [0, 1, 2] _ _ _ _
          refine Mv 0 rfl rfl rfl <| Qp 1 rfl rfl (QP.add64 rfl rfl rfl Og Og) <| Sg 2 rfl rfl rfl <| Sq.nil ?_
          exact J.envJ (J.keep Takes.nil (hl8 (i + 1) (⟨by omega, hsz⟩) (by omega))) ⟨rfl, rfl, trivial⟩
         ·refine Pf 29 rfl rfl rfl rfl <| Mv 30 rfl rfl rfl <| Ym 31 rfl rfl rfl rfl <| Yp 32 rfl rfl rfl (QP.eql rfl rfl rfl) <| J.caseD (fun c53 => ?_) (fun c53 => ?_)
          ·refine Pf 33 rfl rfl rfl rfl <| Qp 34 rfl rfl (QP.not rfl rfl) <| Sq.nil <| hk13 _ _ <| Run.cond_f rfl <| Run.skip <| hk11 _ _ <| Run.region ?_
           show Sq _ _ _ [0, 1, 2] _ _ _ _
           refine Mv 0 rfl rfl rfl <| Qp 1 rfl rfl (QP.add64 rfl rfl rfl Og Og) <| Sg 2 rfl rfl rfl <| Sq.nil ?_
           exact J.envJ (J.keep Takes.nil (hl8 (i + 1) (⟨by omega, hsz⟩) (by omega))) ⟨rfl, rfl, trivial⟩
          ·refine Pf 33 rfl rfl rfl rfl <| Qp 34 rfl rfl (QP.not rfl rfl) <| Sq.nil <| hk13 _ _ <| Run.cond_t rfl <| Run.seq fun k17 hk17 => Run.region ?_
           show Sq _ _ _ [0] _ _ _ _
           refine Sg 0 rfl rfl rfl <| Sq.nil <| hk17 _ _ <| Run.ret ?_
           exact J.ends (res_tmp rfl rfl) Takes.nil ⟨_, rfl, rfl⟩
    ·refine Mv 2 rfl rfl rfl <| Sk 3 rfl rfl rfl <| Sk 4 rfl rfl rfl <| Pf 5 rfl rfl rfl rfl <| Mv 6 rfl rfl rfl <| Ym 7 rfl rfl rfl rfl <| Yp 8 rfl rfl rfl (QP.geq rfl rfl rfl) <| J.caseD (fun c29 => ?_) (fun c29 => ?_)
     ·refine Ym 9 rfl rfl rfl rfl <| Ym 10 rfl rfl rfl rfl <| Yp 11 rfl rfl rfl (QP.leq rfl rfl rfl) <| J.caseD (fun c32 => ?_) (fun c32 => ?_)
      ·refine Yp 12 rfl rfl rfl (QP.pick_t rfl rfl rfl) <| Pf 13 rfl rfl rfl rfl <| Mv 14 rfl rfl rfl <| Sk 15 rfl rfl rfl <| Sk 16 rfl rfl rfl <| Sk 17 rfl rfl rfl <| Sq.skip (i := 18) rfl (Want.undef rfl rfl rfl) rfl (ltN rfl) ?_
       refine Sq.skip (i := 19) rfl (Want.undef rfl rfl rfl) rfl (ltN rfl) ?_
       refine Sk 20 rfl rfl rfl <| Pt 21 rfl rfl rfl rfl <| Mv 22 rfl rfl rfl <| Sk 23 rfl rfl rfl <| Sk 24 rfl rfl rfl <| Pt 25 rfl rfl rfl rfl <| Mv 26 rfl rfl rfl <| Sk 27 rfl rfl rfl <| Sk 28 rfl rfl rfl <| Pt 29 rfl rfl rfl rfl <| Mv 30 rfl rfl rfl <| Sk 31 rfl rfl rfl <| Sk 32 rfl rfl rfl <| Pt 33 rfl rfl rfl rfl <| Qp 34 rfl rfl (QP.not rfl rfl) <| Sq.nil <| hk13 _ _ <| Run.cond_f rfl <| Run.skip <| hk11 _ _ <| Run.region ?_
       show Sq _ _ _ [0, 1, 2] _ _ _ _
       refine Mv 0 rfl rfl rfl <| Qp 1 rfl rfl (QP.add64 rfl rfl rfl Og Og) <| Sg 2 rfl rfl rfl <| Sq.nil ?_
       exact J.envJ (J.keep Takes.nil (hl8 (i + 1) (⟨by omega, hsz⟩) (by omega))) ⟨rfl, rfl, trivial⟩
      ·refine Yp 12 rfl rfl rfl (QP.pick_t rfl rfl rfl) <| Pf 13 rfl rfl rfl rfl <| Mv 14 rfl rfl rfl <| Ym 15 rfl rfl rfl rfl <| Yp 16 rfl rfl rfl (QP.geq rfl rfl rfl) <| J.caseD (fun c37 => ?_) (fun c37 => ?_)
       ·refine Ym 17 rfl rfl rfl rfl <| Ym 18 rfl rfl rfl rfl <| Yp 19 rfl rfl rfl (QP.leq rfl rfl rfl) <| J.caseD (fun c40 => ?_) (fun c40 => ?_)
        ·refine Yp 20 rfl rfl rfl (QP.pick_t rfl rfl rfl) <| Pf 21 rfl rfl rfl rfl <| Mv 22 rfl rfl rfl <| Sk 23 rfl rfl rfl <| Sk 24 rfl rfl rfl <| Pt 25 rfl rfl rfl rfl <| Mv 26 rfl rfl rfl <| Sk 27 rfl rfl rfl <| Sk 28 rfl rfl rfl <| Pt 29 rfl rfl rfl rfl <| Mv 30 rfl rfl rfl <| Sk 31 rfl rfl rfl <| Sk 32 rfl rfl rfl <| Pt 33 rfl rfl rfl rfl <| Qp 34 rfl rfl (QP.not rfl rfl) <| Sq.nil <| hk13 _ _ <| Run.cond_f rfl <| Run.skip <| hk11 _ _ <| Run.region ?_
         show Sq _ _ _ [0, 1, 2] _ _ _ _
         refine Mv 0 rfl rfl rfl <| Qp 1 rfl rfl (QP.add64 rfl rfl rfl Og Og) <| Sg 2 rfl rfl rfl <| Sq.nil ?_
         exact J.envJ (J.keep Takes.nil (hl8 (i + 1) (⟨by omega, hsz⟩) (by omega))) ⟨rfl, rfl, trivial⟩
        ·refine Yp 20 rfl rfl rfl (QP.pick_t rfl rfl rfl) <| Pf 21 rfl rfl rfl rfl <| Mv 22 rfl rfl rfl <| Ym 23 rfl rfl rfl rfl <| Yp 24 rfl rfl rfl (QP.eql rfl rfl rfl) <| J.caseD (fun c45 => ?_) (fun c45 => ?_)
         ·refine Pf 25 rfl rfl rfl rfl <| Mv 26 rfl rfl rfl <| Sk 27 rfl rfl rfl <| Sk 28 rfl rfl rfl <| Pt 29 rfl rfl rfl rfl <| Mv 30 rfl rfl rfl <| Sk 31 rfl rfl rfl <| Sk 32 rfl rfl rfl <| Pt 33 rfl rfl rfl rfl <| Qp 34 rfl rfl (QP.not rfl rfl) <| Sq.nil <| hk13 _ _ <| Run.cond_f rfl <| Run.skip <| hk11 _ _ <| Run.region ?_
          show Sq _ _ _ [0, 1, 2] _ _ _ _
          refine Mv 0 rfl rfl rfl <| Qp 1 rfl rfl (QP.add64 rfl rfl rfl Og Og) <| Sg 2 rfl rfl rfl <| Sq.nil ?_
          exact J.envJ (J.keep Takes.nil (hl8 (i + 1) (⟨by omega, hsz⟩) (by omega))) ⟨rfl, rfl, trivial⟩
         ·refine Pf 25 rfl rfl rfl rfl <| Mv 26 rfl rfl rfl <| Ym 27 rfl rfl rfl rfl <| Yp 28 rfl rfl rfl (QP.eql rfl rfl rfl) <| J.caseD (fun c49 => ?_) (fun c49 => ?_)
          ·refine Pf 29 rfl rfl rfl rfl <| Mv 30 rfl rfl rfl <| Sk 31 rfl rfl rfl <| Sk 32 rfl rfl rfl <| Pt 33 rfl rfl rfl rfl <| Qp 34 rfl rfl (QP.not rfl rfl) <| Sq.nil <| hk13 _ _ <| Run.cond_f rfl <| Run.skip <| hk11 _ _ <| Run.region ?_
           show Sq _ _ _ [0, 1, 2] _ _ _ _
           refine Mv 0 rfl rfl rfl <| Qp 1 rfl rfl (QP.add64 rfl rfl rfl Og Og) <| Sg 2 rfl rfl rfl <| Sq.nil ?_
           exact J.envJ (J.keep Takes.nil (hl8 (i + 1) (⟨by omega, hsz⟩) (by omega))) ⟨rfl, rfl, trivial⟩
          ·refine Pf 29 rfl rfl rfl rfl <| Mv 30 rfl rfl rfl <| Ym 31 rfl rfl rfl rfl <| Yp 32 rfl rfl rfl (QP.eql rfl rfl rfl) <| J.caseD (fun c53 => ?_) (fun c53 => ?_)
           ·refine Pf 33 rfl rfl rfl rfl <| Qp 34 rfl rfl (QP.not rfl rfl) <| Sq.nil <| hk13 _ _ <| Run.cond_f rfl <| Run.skip <| hk11 _ _ <| Run.region ?_
            show Sq _ _ _ [0, 1, 2] _ _ _ _
            refine Mv 0 rfl rfl rfl <| Qp 1 rfl rfl (QP.add64 rfl rfl rfl Og Og) <| Sg 2 rfl rfl rfl <| Sq.nil ?_
            exact J.envJ (J.keep Takes.nil (hl8 (i + 1) (⟨by omega, hsz⟩) (by omega))) ⟨rfl, rfl, trivial⟩
           ·refine Pf 33 rfl rfl rfl rfl <| Qp 34 rfl rfl (QP.not rfl rfl) <| Sq.nil <| hk13 _ _ <| Run.cond_t rfl <| Run.seq fun k18 hk18 => Run.region ?_
            show Sq _ _ _ [0] _ _ _ _
            refine Sg 0 rfl rfl rfl <| Sq.nil <| hk18 _ _ <| Run.ret ?_
            exact J.ends (res_tmp rfl rfl) Takes.nil ⟨_, rfl, rfl⟩
       ·refine Ym 17 rfl rfl rfl rfl <| Sk 18 rfl rfl rfl <| Sk 19 rfl rfl rfl <| Yp 20 rfl rfl rfl (QP.pick_f rfl rfl rfl) <| Pf 21 rfl rfl rfl rfl <| Mv 22 rfl rfl rfl <| Ym 23 rfl rfl rfl rfl <| Yp 24 rfl rfl rfl (QP.eql rfl rfl rfl) <| J.caseD (fun c45 => ?_) (fun c45 => ?_)
        ·refine Pf 25 rfl rfl rfl rfl <| Mv 26 rfl rfl rfl <| Sk 27 rfl rfl rfl <| Sk 28 rfl rfl rfl <| Pt 29 rfl rfl rfl rfl <| Mv 30 rfl rfl rfl <| Sk 31 rfl rfl rfl <| Sk 32 rfl rfl rfl <| Pt 33 rfl rfl rfl rfl <| Qp 34 rfl rfl (QP.not rfl rfl) <| Sq.nil <| hk13 _ _ <| Run.cond_f rfl <| Run.skip <| hk11 _ _ <| Run.region ?_
         show Sq _ _ _ [0, 1, 2] _ _ _ _
         refine Mv 0 rfl rfl rfl <| Qp 1 rfl rfl (QP.add64 rfl rfl rfl Og Og) <| Sg 2 rfl rfl rfl <| Sq.nil ?_
         exact J.envJ (J.keep Takes.nil (hl8 (i + 1) (⟨by omega, hsz⟩) (by omega))) ⟨rfl, rfl, trivial⟩
        ·refine Pf 25 rfl rfl rfl rfl <| Mv 26 rfl rfl rfl <| Ym 27 rfl rfl rfl rfl <| Yp 28 rfl rfl rfl (QP.eql rfl rfl rfl) <| J.caseD (fun c49 => ?_) (fun c49 => ?_)
         ·refine Pf 29 rfl rfl rfl rfl <| Mv 30 rfl rfl rfl <| Sk 31 rfl rfl rfl <| Sk 32 rfl rfl rfl <| Pt 33 rfl rfl rfl rfl <| Qp 34 rfl rfl (QP.not rfl rfl) <| Sq.nil <| hk13 _ _ <| Run.cond_f rfl <| Run.skip <| hk11 _ _ <| Run.region ?_
          show Sq _ _ _ [0, 1, 2] _ _ _ _
          refine Mv 0 rfl rfl rfl <| Qp 1 rfl rfl (QP.add64 rfl rfl rfl Og Og) <| Sg 2 rfl rfl rfl <| Sq.nil ?_
          exact J.envJ (J.keep Takes.nil (hl8 (i + 1) (⟨by omega, hsz⟩) (by omega))) ⟨rfl, rfl, trivial⟩
         ·refine Pf 29 rfl rfl rfl rfl <| Mv 30 rfl rfl rfl <| Ym 31 rfl rfl rfl rfl <| Yp 32 rfl rfl rfl (QP.eql rfl rfl rfl) <| J.caseD (fun c53 => ?_) (fun c53 => ?_)
          ·refine Pf 33 rfl rfl rfl rfl <| Qp 34 rfl rfl (QP.not rfl rfl) <| Sq.nil <| hk13 _ _ <| Run.cond_f rfl <| Run.skip <| hk11 _ _ <| Run.region ?_
           show Sq _ _ _ [0, 1, 2] _ _ _ _
           refine Mv 0 rfl rfl rfl <| Qp 1 rfl rfl (QP.add64 rfl rfl rfl Og Og) <| Sg 2 rfl rfl rfl <| Sq.nil ?_
           exact J.envJ (J.keep Takes.nil (hl8 (i + 1) (⟨by omega, hsz⟩) (by omega))) ⟨rfl, rfl, trivial⟩
          ·refine Pf 33 rfl rfl rfl rfl <| Qp 34 rfl rfl (QP.not rfl rfl) <| Sq.nil <| hk13 _ _ <| Run.cond_t rfl <| Run.seq fun k19 hk19 => Run.region ?_
           show Sq _ _ _ [0] _ _ _ _
           refine Sg 0 rfl rfl rfl <| Sq.nil <| hk19 _ _ <| Run.ret ?_
           exact J.ends (res_tmp rfl rfl) Takes.nil ⟨_, rfl, rfl⟩
     ·refine Ym 9 rfl rfl rfl rfl <| Sk 10 rfl rfl rfl <| Sk 11 rfl rfl rfl <| Yp 12 rfl rfl rfl (QP.pick_f rfl rfl rfl) <| Pf 13 rfl rfl rfl rfl <| Mv 14 rfl rfl rfl <| Ym 15 rfl rfl rfl rfl <| Yp 16 rfl rfl rfl (QP.geq rfl rfl rfl) <| J.caseD (fun c37 => ?_) (fun c37 => ?_)
      ·refine Ym 17 rfl rfl rfl rfl <| Ym 18 rfl rfl rfl rfl <| Yp 19 rfl rfl rfl (QP.leq rfl rfl rfl) <| J.caseD (fun c40 => ?_) (fun c40 => ?_)
       ·refine Yp 20 rfl rfl rfl (QP.pick_t rfl rfl rfl) <| Pf 21 rfl rfl rfl rfl <| Mv 22 rfl rfl rfl <| Sk 23 rfl rfl rfl <| Sk 24 rfl rfl rfl <| Pt 25 rfl rfl rfl rfl <| Mv 26 rfl rfl rfl <| Sk 27 rfl rfl rfl <| Sk 28 rfl rfl rfl <| Pt 29 rfl rfl rfl rfl <| Mv 30 rfl rfl rfl <| Sk 31 rfl rfl rfl <| Sk 32 rfl rfl rfl <| Pt 33 rfl rfl rfl rfl <| Qp 34 rfl rfl (QP.not rfl rfl) <| Sq.nil <| hk13 _ _ <| Run.cond_f rfl <| Run.skip <| hk11 _ _ <| Run.region ?_
        show Sq _ _ _ [0, 1, 2] _ _ _ _
        refine Mv 0 rfl rfl rfl <| Qp 1 rfl rfl (QP.add64 rfl rfl rfl Og Og) <| Sg 2 rfl rfl rfl <| Sq.nil ?_
        exact J.envJ (J.keep Takes.nil (hl8 (i + 1) (⟨by omega, hsz⟩) (by omega))) ⟨rfl, rfl, trivial⟩
       ·refine Yp 20 rfl rfl rfl (QP.pick_t rfl rfl rfl) <| Pf 21 rfl rfl rfl rfl <| Mv 22 rfl rfl rfl <| Ym 23 rfl rfl rfl rfl <| Yp 24 rfl rfl rfl (QP.eql rfl rfl rfl) <| J.caseD (fun c45 => ?_) (fun c45 => ?_)
        ·refine Pf 25 rfl rfl rfl rfl <| Mv 26 rfl rfl rfl <| Sk 27 rfl rfl rfl <| Sk 28 rfl rfl rfl <| Pt 29 rfl rfl rfl rfl <| Mv 30 rfl rfl rfl <| Sk 31 rfl rfl rfl <| Sk 32 rfl rfl rfl <| Pt 33 rfl rfl rfl rfl <| Qp 34 rfl rfl (QP.not rfl rfl) <| Sq.nil <| hk13 _ _ <| Run.cond_f rfl <| Run.skip <| hk11 _ _ <| Run.region ?_
         show Sq _ _ _ [0, 1, 2] _ _ _ _
         refine Mv 0 rfl rfl rfl <| Qp 1 rfl rfl (QP.add64 rfl rfl rfl Og Og) <| Sg 2 rfl rfl rfl <| Sq.nil ?_
         exact J.envJ (J.keep Takes.nil (hl8 (i + 1) (⟨by omega, hsz⟩) (by omega))) ⟨rfl, rfl, trivial⟩
        ·refine Pf 25 rfl rfl rfl rfl <| Mv 26 rfl rfl rfl <| Ym 27 rfl rfl rfl rfl <| Yp 28 rfl rfl rfl (QP.eql rfl rfl rfl) <| J.caseD (fun c49 => ?_) (fun c49 => ?_)
         ·refine Pf 29 rfl rfl rfl rfl <| Mv 30 rfl rfl rfl <| Sk 31 rfl rfl rfl <| Sk 32 rfl rfl rfl <| Pt 33 rfl rfl rfl rfl <| Qp 34 rfl rfl (QP.not rfl rfl) <| Sq.nil <| hk13 _ _ <| Run.cond_f rfl <| Run.skip <| hk11 _ _ <| Run.region ?_
          show Sq _ _ _ [0, 1, 2] _ _ _ _
          refine Mv 0 rfl rfl rfl <| Qp 1 rfl rfl (QP.add64 rfl rfl rfl Og Og) <| Sg 2 rfl rfl rfl <| Sq.nil ?_
          exact J.envJ (J.keep Takes.nil (hl8 (i + 1) (⟨by omega, hsz⟩) (by omega))) ⟨rfl, rfl, trivial⟩
         ·refine Pf 29 rfl rfl rfl rfl <| Mv 30 rfl rfl rfl <| Ym 31 rfl rfl rfl rfl <| Yp 32 rfl rfl rfl (QP.eql rfl rfl rfl) <| J.caseD (fun c53 => ?_) (fun c53 => ?_)
          ·refine Pf 33 rfl rfl rfl rfl <| Qp 34 rfl rfl (QP.not rfl rfl) <| Sq.nil <| hk13 _ _ <| Run.cond_f rfl <| Run.skip <| hk11 _ _ <| Run.region ?_
           show Sq _ _ _ [0, 1, 2] _ _ _ _
           refine Mv 0 rfl rfl rfl <| Qp 1 rfl rfl (QP.add64 rfl rfl rfl Og Og) <| Sg 2 rfl rfl rfl <| Sq.nil ?_
           exact J.envJ (J.keep Takes.nil (hl8 (i + 1) (⟨by omega, hsz⟩) (by omega))) ⟨rfl, rfl, trivial⟩
          ·refine Pf 33 rfl rfl rfl rfl <| Qp 34 rfl rfl (QP.not rfl rfl) <| Sq.nil <| hk13 _ _ <| Run.cond_t rfl <| Run.seq fun k20 hk20 => Run.region ?_
           show Sq _ _ _ [0] _ _ _ _
           refine Sg 0 rfl rfl rfl <| Sq.nil <| hk20 _ _ <| Run.ret ?_
           exact J.ends (res_tmp rfl rfl) Takes.nil ⟨_, rfl, rfl⟩
      ·refine Ym 17 rfl rfl rfl rfl <| Sk 18 rfl rfl rfl <| Sk 19 rfl rfl rfl <| Yp 20 rfl rfl rfl (QP.pick_f rfl rfl rfl) <| Pf 21 rfl rfl rfl rfl <| Mv 22 rfl rfl rfl <| Ym 23 rfl rfl rfl rfl <| Yp 24 rfl rfl rfl (QP.eql rfl rfl rfl) <| J.caseD (fun c45 => ?_) (fun c45 => ?_)
       ·refine Pf 25 rfl rfl rfl rfl <| Mv 26 rfl rfl rfl <| Sk 27 rfl rfl rfl <| Sk 28 rfl rfl rfl <| Pt 29 rfl rfl rfl rfl <| Mv 30 rfl rfl rfl <| Sk 31 rfl rfl rfl <| Sk 32 rfl rfl rfl <| Pt 33 rfl rfl rfl rfl <| Qp 34 rfl rfl (QP.not rfl rfl) <| Sq.nil <| hk13 _ _ <| Run.cond_f rfl <| Run.skip <| hk11 _ _ <| Run.region ?_
        show Sq _ _ _ [0, 1, 2] _ _ _ _
        refine Mv 0 rfl rfl rfl <| Qp 1 rfl rfl (QP.add64 rfl rfl rfl Og Og) <| Sg 2 rfl rfl rfl <| Sq.nil ?_
        exact J.envJ (J.keep Takes.nil (hl8 (i + 1) (⟨by omega, hsz⟩) (by omega))) ⟨rfl, rfl, trivial⟩
       ·refine Pf 25 rfl rfl rfl rfl <| Mv 26 rfl rfl rfl <| Ym 27 rfl rfl rfl rfl <| Yp 28 rfl rfl rfl (QP.eql rfl rfl rfl) <| J.caseD (fun c49 => ?_) (fun c49 => ?_)
        ·refine Pf 29 rfl rfl rfl rfl <| Mv 30 rfl rfl rfl <| Sk 31 rfl rfl rfl <| Sk 32 rfl rfl rfl <| Pt 33 rfl rfl rfl rfl <| Qp 34 rfl rfl (QP.not rfl rfl) <| Sq.nil <| hk13 _ _ <| Run.cond_f rfl <| Run.skip <| hk11 _ _ <| Run.region ?_
         show Sq _ _ _ [0, 1, 2] _ _ _ _
         refine Mv 0 rfl rfl rfl <| Qp 1 rfl rfl (QP.add64 rfl rfl rfl Og Og) <| Sg 2 rfl rfl rfl <| Sq.nil ?_
         exact J.envJ (J.keep Takes.nil (hl8 (i + 1) (⟨by omega, hsz⟩) (by omega))) ⟨rfl, rfl, trivial⟩
        ·refine Pf 29 rfl rfl rfl rfl <| Mv 30 rfl rfl rfl <| Ym 31 rfl rfl rfl rfl <| Yp 32 rfl rfl rfl (QP.eql rfl rfl rfl) <| J.caseD (fun c53 => ?_) (fun c53 => ?_)
         ·refine Pf 33 rfl rfl rfl rfl <| Qp 34 rfl rfl (QP.not rfl rfl) <| Sq.nil <| hk13 _ _ <| Run.cond_f rfl <| Run.skip <| hk11 _ _ <| Run.region ?_
          show Sq _ _ _ [0, 1, 2] _ _ _ _
          refine Mv 0 rfl rfl rfl <| Qp 1 rfl rfl (QP.add64 rfl rfl rfl Og Og) <| Sg 2 rfl rfl rfl <| Sq.nil ?_
          exact J.envJ (J.keep Takes.nil (hl8 (i + 1) (⟨by omega, hsz⟩) (by omega))) ⟨rfl, rfl, trivial⟩
         ·refine Pf 33 rfl rfl rfl rfl <| Qp 34 rfl rfl (QP.not rfl rfl) <| Sq.nil <| hk13 _ _ <| Run.cond_t rfl <| Run.seq fun k21 hk21 => Run.region ?_
          show Sq _ _ _ [0] _ _ _ _
          refine Sg 0 rfl rfl rfl <| Sq.nil <| hk21 _ _ <| Run.ret ?_
          exact J.ends (res_tmp rfl rfl) Takes.nil ⟨_, rfl, rfl⟩
   ·refine Sq.nil <| hk10 _ _ <| Run.cond_f rfl <| Run.exit rfl ?_
    refine hk6 _ _ <| Run.seq fun k22 hk22 => Run.region ?_
    show Sq _ _ _ [0] _ _ _ _
    refine Sg 0 rfl rfl rfl <| Sq.nil <| hk22 _ _ <| Run.ret ?_
    exact J.ends (res_tmp rfl rfl) Takes.nil ⟨_, rfl, rfl⟩

theorem rlocal_spec (F : Fr) (x : Bs 16) : Spec Try.prog 49 #[.agg (Bs.enc x).toArray] [] F (fun v S => ∃ r, v = .bool r ∧ (r = true → x.l[0]? = some 254) ∧ S = []) := by
 refine Spec.intro (N := 36) (args := [.agg (Bs.enc x).toArray]) Try.func49 rfl rfl (by simp) ?_
 refine Run.seq fun k1 hk1 => Run.region ?_
 show Sq _ _ _ [0, 1] _ _ _ _
 refine Ef 0 rfl rfl (EF.boxA rfl rfl) ?_
 rintro _ _ ⟨b1, rfl, rfl⟩
 refine Sg 1 rfl rfl rfl <| Sq.nil <| hk1 _ _ <| Run.seq fun k2 hk2 => Run.seq fun k3 hk3 => Run.region ?_
 show Sq _ _ _ [0] _ _ _ _
 refine Sg 0 rfl rfl rfl <| Sq.nil <| hk3 _ _ <| Run.block <| Run.loop1 (fun (i : Nat) => i ≤ 8 ∧ (0 < i → x.l[0]? = some 254)) (fun i => .cons 1 (.pointer (some ⟨b1, 0, none⟩)) (.cons 3 (.int .i64 i) (.nil))) (fun i => [blk b1 (Bs.enc x) 23]) (fun i => 8 - i) (0) (⟨Nat.zero_le _, fun h => absurd h (by omega)⟩) ?_ ?_
 ·exact fun _ j => J.envJ (J.keep Tk1 j) ⟨rfl, rfl, trivial⟩
 rintro i ⟨hile, hall⟩ kl4 hl4
 refine Run.seq fun k5 hk5 => Run.seq fun k6 hk6 => Run.region ?_
 show Sq _ _ _ [0, 1] _ _ _ _
 refine Mv 0 rfl rfl rfl <| Qp 1 rfl rfl (QP.lss rfl rfl rfl) <| J.caseD (fun c5 => ?_) (fun c5 => ?_)
 ·refine Sq.nil <| hk6 _ _ <| Run.cond_t rfl <| Run.skip <| hk5 _ _ <| Run.seq fun k7 hk7 => Run.block <| Run.seq fun k8 hk8 => Run.region ?_
  show Sq _ _ _ [0, 1, 2, 3, 4, 5, 6, 7, 8, 9, 10, 11, 12, 13, 14, 15, 16, 17, 18, 19, 20, 21, 22, 23, 24, 25, 26, 27] _ _ _ _
  obtain ⟨u, hx⟩ : ∃ u, x.l[i]? = some u := ⟨_, List.getElem?_eq_getElem (by rw [x.h]; omega)⟩
  refine Mv 0 rfl rfl rfl <| Qp 1 rfl rfl (QP.eql rfl rfl rfl) <| J.caseD (fun c9 => ?_) (fun c9 => ?_)
  ·refine Mv 2 rfl rfl rfl <| Ym 3 rfl rfl rfl rfl <| Yp 4 rfl rfl rfl (QP.indexArr rfl rfl rfl Try.underlying23 z5 (by omega) (by omega)) <| Yq 5 rfl rfl rfl (QR.load1 rfl rfl g5 (bs_at x hx)) ?_
   refine Yp 6 rfl rfl rfl (QP.neq rfl rfl rfl) <| J.caseD (fun c14 => ?_) (fun c14 => ?_)
   ·refine Pt 7 rfl rfl rfl rfl <| Mv 8 rfl rfl rfl <| Sk 9 rfl rfl rfl <| Sk 10 rfl rfl rfl <| Sk 11 rfl rfl rfl <| Sq.skip (i := 12) rfl (Want.undef rfl rfl rfl) rfl (ltN rfl) ?_
    refine Sq.skip (i := 13) rfl (Want.undef rfl rfl rfl) rfl (ltN rfl) ?_
    refine Sq.skip (i := 14) rfl (Want.undef rfl rfl rfl) rfl (ltN rfl) ?_
    refine Sq.skip (i := 15) rfl (Want.undef rfl rfl rfl) rfl (ltN rfl) ?_
    refine Sk 16 rfl rfl rfl <| Pt 17 rfl rfl rfl rfl <| Mv 18 rfl rfl rfl <| Sk 19 rfl rfl rfl <| Sk 20 rfl rfl rfl <| Sk 21 rfl rfl rfl <| Sq.skip (i := 22) rfl (Want.undef rfl rfl rfl) rfl (ltN rfl) ?_
    refine Sq.skip (i := 23) rfl (Want.undef rfl rfl rfl) rfl (ltN rfl) ?_
    refine Sq.skip (i := 24) rfl (Want.undef rfl rfl rfl) rfl (ltN rfl) ?_
    refine Sq.skip (i := 25) rfl (Want.undef rfl rfl rfl) rfl (ltN rfl) ?_
    refine Sk 26 rfl rfl rfl <| Pt 27 rfl rfl rfl rfl <| Sq.nil <| hk8 _ _ <| Run.cond_t rfl <| Run.seq fun k9 hk9 => Run.region ?_
    show Sq _ _ _ [0] _ _ _ _
    refine Sg 0 rfl rfl rfl <| Sq.nil <| hk9 _ _ <| Run.ret ?_
    exact J.ends (res_tmp rfl rfl) Takes.nil ⟨false, rfl, fun h => (by cases h), rfl⟩
   ·refine Pt 7 rfl rfl rfl rfl <| Mv 8 rfl rfl rfl <| Ym 9 rfl rfl rfl rfl <| Yp 10 rfl rfl rfl (QP.eql rfl rfl rfl) <| J.caseD (fun c18 => ?_) (fun c18 => ?_)
    ·refine Ym 11 rfl rfl rfl rfl <| Ym 12 rfl rfl rfl rfl <| Yp 13 rfl rfl rfl (QP.indexArr rfl rfl rfl Try.underlying23 z5 (by omega) (by omega)) <| Yq 14 rfl rfl rfl (QR.load1 rfl rfl g5 (bs_at x hx)) ?_
     refine Yp 15 rfl rfl rfl (QP.neq rfl rfl rfl) <| J.caseD (fun c23 => ?_) (fun c23 => ?_)
     ·refine Yp 16 rfl rfl rfl (QP.pick_t rfl rfl rfl) <| Pf 17 rfl rfl rfl rfl <| Mv 18 rfl rfl rfl <| Sk 19 rfl rfl rfl <| Sk 20 rfl rfl rfl <| Sk 21 rfl rfl rfl <| Sq.skip (i := 22) rfl (Want.undef rfl rfl rfl) rfl (ltN rfl) ?_
      refine Sq.skip (i := 23) rfl (Want.undef rfl rfl rfl) rfl (ltN rfl) ?_
      refine Sq.skip (i := 24) rfl (Want.undef rfl rfl rfl) rfl (ltN rfl) ?_
      refine Sq.skip (i := 25) rfl (Want.undef rfl rfl rfl) rfl (ltN rfl) ?_
      refine Sk 26 rfl rfl rfl <| Pt 27 rfl rfl rfl rfl <| Sq.nil <| hk8 _ _ <| Run.cond_t rfl <| Run.seq fun k10 hk10 => Run.region ?_
      show Sq _ _ _ [0] _ _ _ _
      refine Sg 0 rfl rfl rfl <| Sq.nil <| hk10 _ _ <| Run.ret ?_
      exact J.ends (res_tmp rfl rfl) Takes.nil ⟨false, rfl, fun h => (by cases h), rfl⟩
     ·refine Yp 16 rfl rfl rfl (QP.pick_t rfl rfl rfl) <| Pf 17 rfl rfl rfl rfl <| Mv 18 rfl rfl rfl <| Ym 19 rfl rfl rfl rfl <| Yp 20 rfl rfl rfl (QP.gtr rfl rfl rfl) <| J.caseD (fun c28 => ?_) (fun c28 => ?_)
      ·refine Ym 21 rfl rfl rfl rfl <| Ym 22 rfl rfl rfl rfl <| Yp 23 rfl rfl rfl (QP.indexArr rfl rfl rfl Try.underlying23 z5 (by omega) (by omega)) <| Yq 24 rfl rfl rfl (QR.load1 rfl rfl g5 (bs_at x hx)) ?_
       refine Yp 25 rfl rfl rfl (QP.neq rfl rfl rfl) <| J.caseD (fun c33 => ?_) (fun c33 => ?_)
       ·refine Yp 26 rfl rfl rfl (QP.pick_t rfl rfl rfl) <| Pf 27 rfl rfl rfl rfl <| Sq.nil <| hk8 _ _ <| Run.cond_t rfl <| Run.seq fun k11 hk11 => Run.region ?_
        show Sq _ _ _ [0] _ _ _ _
        refine Sg 0 rfl rfl rfl <| Sq.nil <| hk11 _ _ <| Run.ret ?_
        exact J.ends (res_tmp rfl rfl) Takes.nil ⟨false, rfl, fun h => (by cases h), rfl⟩
       ·refine Yp 26 rfl rfl rfl (QP.pick_t rfl rfl rfl) <| Pf 27 rfl rfl rfl rfl <| Sq.nil <| hk8 _ _ <| Run.cond_f rfl <| Run.skip <| hk7 _ _ <| Run.region ?_
        show Sq _ _ _ [0, 1, 2] _ _ _ _
        refine Mv 0 rfl rfl rfl <| Qp 1 rfl rfl (QP.add64 rfl rfl rfl Og Og) <| Sg 2 rfl rfl rfl <| Sq.nil ?_
        exact J.envJ (J.keep Tk1 (hl4 (i + 1) (⟨by omega, fun _ => by have hi0 : i = 0 := (by omega); subst hi0; rw [hx, byte_eq (t := 254) (Classical.not_not.1 c14)]⟩) (by omega))) ⟨rfl, rfl, trivial⟩
      ·refine Ym 21 rfl rfl rfl rfl <| Sk 22 rfl rfl rfl <| Sk 23 rfl rfl rfl <| Sk 24 rfl rfl rfl <| Sk 25 rfl rfl rfl <| Yp 26 rfl rfl rfl (QP.pick_f rfl rfl rfl) <| Pf 27 rfl rfl rfl rfl <| Sq.nil <| hk8 _ _ <| Run.cond_f rfl <| Run.skip <| hk7 _ _ <| Run.region ?_
       show Sq _ _ _ [0, 1, 2] _ _ _ _
       refine Mv 0 rfl rfl rfl <| Qp 1 rfl rfl (QP.add64 rfl rfl rfl Og Og) <| Sg 2 rfl rfl rfl <| Sq.nil ?_
       exact J.envJ (J.keep Tk1 (hl4 (i + 1) (⟨by omega, fun _ => by have hi0 : i = 0 := (by omega); subst hi0; rw [hx, byte_eq (t := 254) (Classical.not_not.1 c14)]⟩) (by omega))) ⟨rfl, rfl, trivial⟩
    ·refine Ym 11 rfl rfl rfl rfl <| Sk 12 rfl rfl rfl <| Sk 13 rfl rfl rfl <| Sk 14 rfl rfl rfl <| Sk 15 rfl rfl rfl <| Yp 16 rfl rfl rfl (QP.pick_f rfl rfl rfl) <| Pf 17 rfl rfl rfl rfl <| Mv 18 rfl rfl rfl <| Ym 19 rfl rfl rfl rfl <| Yp 20 rfl rfl rfl (QP.gtr rfl rfl rfl) <| J.caseD (fun c28 => ?_) (fun c28 => ?_)
     ·refine Ym 21 rfl rfl rfl rfl <| Ym 22 rfl rfl rfl rfl <| Yp 23 rfl rfl rfl (QP.indexArr rfl rfl rfl Try.underlying23 z5 (by omega) (by omega)) <| Yq 24 rfl rfl rfl (QR.load1 rfl rfl g5 (bs_at x hx)) ?_
      refine Yp 25 rfl rfl rfl (QP.neq rfl rfl rfl) <| J.caseD (fun c33 => ?_) (fun c33 => ?_)
      ·refine Yp 26 rfl rfl rfl (QP.pick_t rfl rfl rfl) <| Pf 27 rfl rfl rfl rfl <| Sq.nil <| hk8 _ _ <| Run.cond_t rfl <| Run.seq fun k12 hk12 => Run.region ?_
       show Sq _ _ _ [0] _ _ _ _
       refine Sg 0 rfl rfl rfl <| Sq.nil <| hk12 _ _ <| Run.ret ?_
       exact J.ends (res_tmp rfl rfl) Takes.nil ⟨false, rfl, fun h => (by cases h), rfl⟩
      ·refine Yp 26 rfl rfl rfl (QP.pick_t rfl rfl rfl) <| Pf 27 rfl rfl rfl rfl <| Sq.nil <| hk8 _ _ <| Run.cond_f rfl <| Run.skip <| hk7 _ _ <| Run.region ?_
       show Sq _ _ _ [0, 1, 2] _ _ _ _
       refine Mv 0 rfl rfl rfl <| Qp 1 rfl rfl (QP.add64 rfl rfl rfl Og Og) <| Sg 2 rfl rfl rfl <| Sq.nil ?_
       exact J.envJ (J.keep Tk1 (hl4 (i + 1) (⟨by omega, fun _ => by have hi0 : i = 0 := (by omega); subst hi0; rw [hx, byte_eq (t := 254) (Classical.not_not.1 c14)]⟩) (by omega))) ⟨rfl, rfl, trivial⟩
     ·refine Ym 21 rfl rfl rfl rfl <| Sk 22 rfl rfl rfl <| Sk 23 rfl rfl rfl <| Sk 24 rfl rfl rfl <| Sk 25 rfl rfl rfl <| Yp 26 rfl rfl rfl (QP.pick_f rfl rfl rfl) <| Pf 27 rfl rfl rfl rfl <| Sq.nil <| hk8 _ _ <| Run.cond_f rfl <| Run.skip <| hk7 _ _ <| Run.region ?_
      show Sq _ _ _ [0, 1, 2] _ _ _ _
      refine Mv 0 rfl rfl rfl <| Qp 1 rfl rfl (QP.add64 rfl rfl rfl Og Og) <| Sg 2 rfl rfl rfl <| Sq.nil ?_
      exact J.envJ (J.keep Tk1 (hl4 (i + 1) (⟨by omega, fun _ => by have hi0 : i = 0 := (by omega); subst hi0; rw [hx, byte_eq (t := 254) (Classical.not_not.1 c14)]⟩) (by omega))) ⟨rfl, rfl, trivial⟩
  ·refine Mv 2 rfl rfl rfl <| Sk 3 rfl rfl rfl <| Sk 4 rfl rfl rfl <| Sk 5 rfl rfl rfl <| Sk 6 rfl rfl rfl <| Pf 7 rfl rfl rfl rfl <| Mv 8 rfl rfl rfl <| Ym 9 rfl rfl rfl rfl <| Yp 10 rfl rfl rfl (QP.eql rfl rfl rfl) <| J.caseD (fun c18 => ?_) (fun c18 => ?_)
   ·refine Ym 11 rfl rfl rfl rfl <| Ym 12 rfl rfl rfl rfl <| Yp 13 rfl rfl rfl (QP.indexArr rfl rfl rfl Try.underlying23 z5 (by omega) (by omega)) <| Yq 14 rfl rfl rfl (QR.load1 rfl rfl g5 (bs_at x hx)) ?_
    refine Yp 15 rfl rfl rfl (QP.neq rfl rfl rfl) <| J.caseD (fun c23 => ?_) (fun c23 => ?_)
    ·refine Yp 16 rfl rfl rfl (QP.pick_t rfl rfl rfl) <| Pf 17 rfl rfl rfl rfl <| Mv 18 rfl rfl rfl <| Sk 19 rfl rfl rfl <| Sk 20 rfl rfl rfl <| Sk 21 rfl rfl rfl <| Sq.skip (i := 22) rfl (Want.undef rfl rfl rfl) rfl (ltN rfl) ?_
     refine Sq.skip (i := 23) rfl (Want.undef rfl rfl rfl) rfl (ltN rfl) ?_
     refine Sq.skip (i := 24) rfl (Want.undef rfl rfl rfl) rfl (ltN rfl) ?_
     refine Sq.skip (i := 25) rfl (Want.undef rfl rfl rfl) rfl (ltN rfl) ?_
     refine Sk 26 rfl rfl rfl <| Pt 27 rfl rfl rfl rfl <| Sq.nil <| hk8 _ _ <| Run.cond_t rfl <| Run.seq fun k13 hk13 => Run.region ?_
     show Sq _ _ _ [0] _ _ _ _
     refine Sg 0 rfl rfl rfl <| Sq.nil <| hk13 _ _ <| Run.ret ?_
     exact J.ends (res_tmp rfl rfl) Takes.nil ⟨false, rfl, fun h => (by cases h), rfl⟩
    ·refine Yp 16 rfl rfl rfl (QP.pick_t rfl rfl rfl) <| Pf 17 rfl rfl rfl rfl <| Mv 18 rfl rfl rfl <| Ym 19 rfl rfl rfl rfl <| Yp 20 rfl rfl rfl (QP.gtr rfl rfl rfl) <| J.caseD (fun c28 => ?_) (fun c28 => ?_)
     ·refine Ym 21 rfl rfl rfl rfl <| Ym 22 rfl rfl rfl rfl <| Yp 23 rfl rfl rfl (QP.indexArr rfl rfl rfl Try.underlying23 z5 (by omega) (by omega)) <| Yq 24 rfl rfl rfl (QR.load1 rfl rfl g5 (bs_at x hx)) ?_
      refine Yp 25 rfl rfl rfl (QP.neq rfl rfl rfl) <| J.caseD (fun c33 => ?_) (fun c33 => ?_)
      ·refine Yp 26 rfl rfl rfl (QP.pick_t rfl rfl rfl) <| Pf 27 rfl rfl rfl rfl <| Sq.nil <| hk8 _ _ <| Run.cond_t rfl <| Run.seq fun k14 hk14 => Run.region ?_
       show Sq _ _ _ [0] _ _ _ _
       refine Sg 0 rfl rfl rfl <| Sq.nil <| hk14 _ _ <| Run.ret ?_
       exact J.ends (res_tmp rfl rfl) Takes.nil ⟨false, rfl, fun h => (by cases h), rfl⟩
      ·refine Yp 26 rfl rfl rfl (QP.pick_t rfl rfl rfl) <| Pf 27 rfl rfl rfl rfl <| Sq.nil <| hk8 _ _ <| Run.cond_f rfl <| Run.skip <| hk7 _ _ <| Run.region ?_
       show Sq _ _ _ [0, 1, 2] _ _ _ _
       refine Mv 0 rfl rfl rfl <| Qp 1 rfl rfl (QP.add64 rfl rfl rfl Og Og) <| Sg 2 rfl rfl rfl <| Sq.nil ?_
       exact J.envJ (J.keep Tk1 (hl4 (i + 1) (⟨by omega, fun _ => hall (by omega)⟩) (by omega))) ⟨rfl, rfl, trivial⟩
     ·refine Ym 21 rfl rfl rfl rfl <| Sk 22 rfl rfl rfl <| Sk 23 rfl rfl rfl <| Sk 24 rfl rfl rfl <| Sk 25 rfl rfl rfl <| Yp 26 rfl rfl rfl (QP.pick_f rfl rfl rfl) <| Pf 27 rfl rfl rfl rfl <| Sq.nil <| hk8 _ _ <| Run.cond_f rfl <| Run.skip <| hk7 _ _ <| Run.region ?_
      show Sq _ _ _ [0, 1, 2] _ _ _ _
      refine Mv 0 rfl rfl rfl <| Qp 1 rfl rfl (QP.add64 rfl rfl rfl Og Og) <| Sg 2 rfl rfl rfl <| Sq.nil ?_
      exact J.envJ (J.keep Tk1 (hl4 (i + 1) (⟨by omega, fun _ => hall (by omega)⟩) (by omega))) ⟨rfl, rfl, trivial⟩
   ·refine Ym 11 rfl rfl rfl rfl <| Sk 12 rfl rfl rfl <| Sk 13 rfl rfl rfl <| Sk 14 rfl rfl rfl <| Sk 15 rfl rfl rfl <| Yp 16 rfl rfl rfl (QP.pick_f rfl rfl rfl) <| Pf 17 rfl rfl rfl rfl <| Mv 18 rfl rfl rfl <| Ym 19 rfl rfl rfl rfl <| Yp 20 rfl rfl rfl (QP.gtr rfl rfl rfl) <| J.caseD (fun c28 => ?_) (fun c28 => ?_)
    ·refine Ym 21 rfl rfl rfl rfl <| Ym 22 rfl rfl rfl rfl <| Yp 23 rfl rfl rfl (QP.indexArr rfl rfl rfl Try.underlying23 z5 (by omega) (by omega)) <| Yq 24 rfl rfl rfl (QR.load1 rfl rfl g5 (bs_at x hx)) ?_
     refine Yp 25 rfl rfl rfl (QP.neq rfl rfl rfl) <| J.caseD (fun c33 => ?_) (fun c33 => ?_)
     ·refine Yp 26 rfl rfl rfl (QP.pick_t rfl rfl rfl) <| Pf 27 rfl rfl rfl rfl <| Sq.nil <| hk8 _ _ <| Run.cond_t rfl <| Run.seq fun k15 hk15 => Run.region ?_
      show Sq _ _ _ [0] _ _ _ _
      refine Sg 0 rfl rfl rfl <| Sq.nil <| hk15 _ _ <| Run.ret ?_
      exact J.ends (res_tmp rfl rfl) Takes.nil ⟨false, rfl, fun h => (by cases h), rfl⟩
     ·refine Yp 26 rfl rfl rfl (QP.pick_t rfl rfl rfl) <| Pf 27 rfl rfl rfl rfl <| Sq.nil <| hk8 _ _ <| Run.cond_f rfl <| Run.skip <| hk7 _ _ <| Run.region ?_
      show Sq _ _ _ [0, 1, 2] _ _ _ _
      refine Mv 0 rfl rfl rfl <| Qp 1 rfl rfl (QP.add64 rfl rfl rfl Og Og) <| Sg 2 rfl rfl rfl <| Sq.nil ?_
      exact J.envJ (J.keep Tk1 (hl4 (i + 1) (⟨by omega, fun _ => hall (by omega)⟩) (by omega))) ⟨rfl, rfl, trivial⟩
    ·refine Ym 21 rfl rfl rfl rfl <| Sk 22 rfl rfl rfl <| Sk 23 rfl rfl rfl <| Sk 24 rfl rfl rfl <| Sk 25 rfl rfl rfl <| Yp 26 rfl rfl rfl (QP.pick_f rfl rfl rfl) <| Pf 27 rfl rfl rfl rfl <| Sq.nil <| hk8 _ _ <| Run.cond_f rfl <| Run.skip <| hk7 _ _ <| Run.region ?_
     show Sq _ _ _ [0, 1, 2] _ _ _ _
     refine Mv 0 rfl rfl rfl <| Qp 1 rfl rfl (QP.add64 rfl rfl rfl Og Og) <| Sg 2 rfl rfl rfl <| Sq.nil ?_
     exact J.envJ (J.keep Tk1 (hl4 (i + 1) (⟨by omega, fun _ => hall (by omega)⟩) (by omega))) ⟨rfl, rfl, trivial⟩
 ·refine Sq.nil <| hk6 _ _ <| Run.cond_f rfl <| Run.exit rfl ?_
  refine hk2 _ _ <| Run.seq fun k16 hk16 => Run.region ?_
  show Sq _ _ _ [0] _ _ _ _
  refine Sg 0 rfl rfl rfl <| Sq.nil <| hk16 _ _ <| Run.ret ?_
  exact J.ends (res_tmp rfl rfl) Takes.nil ⟨true, rfl, fun _ => hall (by omega), rfl⟩

theorem rfull_spec (F : Fr) (x : Bs 8) : Spec Try.prog 34 #[.agg (Bs.enc x).toArray] [] F (fun v S => ∃ r, v = .bool r ∧ (r = true → ∀ i, i < 8 → x.l[i]? = some 255) ∧ S = []) := by
 refine Spec.intro (N := 12) (args := [.agg (Bs.enc x).toArray]) Try.func34 rfl rfl (by simp) ?_
 refine Run.seq fun k1 hk1 => Run.region ?_
 show Sq _ _ _ [0, 1] _ _ _ _
 refine Ef 0 rfl rfl (EF.boxA rfl rfl) ?_
 rintro _ _ ⟨b1, rfl, rfl⟩
 refine Sg 1 rfl rfl rfl <| Sq.nil <| hk1 _ _ <| Run.seq fun k2 hk2 => Run.seq fun k3 hk3 => Run.region ?_
 show Sq _ _ _ [0] _ _ _ _
 refine Sg 0 rfl rfl rfl <| Sq.nil <| hk3 _ _ <| Run.block <| Run.loop1 (fun (i : Nat) => i ≤ 8 ∧ ∀ j, j < i → x.l[j]? = some 255) (fun i => .cons 1 (.pointer (some ⟨b1, 0, none⟩)) (.cons 3 (.int .i64 i) (.nil))) (fun i => [blk b1 (Bs.enc x) 39]) (fun i => 8 - i) (0) (⟨Nat.zero_le _, fun _ h => absurd h (by omega)⟩) ?_ ?_
 ·exact fun _ j => J.envJ (J.keep Tk1 j) ⟨rfl, rfl, trivial⟩
 rintro i ⟨hile, hall⟩ kl4 hl4
 refine Run.seq fun k5 hk5 => Run.seq fun k6 hk6 => Run.region ?_
 show Sq _ _ _ [0, 1] _ _ _ _
 refine Mv 0 rfl rfl rfl <| Qp 1 rfl rfl (QP.lss rfl rfl rfl) <| J.caseD (fun c5 => ?_) (fun c5 => ?_)
 ·refine Sq.nil <| hk6 _ _ <| Run.cond_t rfl <| Run.skip <| hk5 _ _ <| Run.seq fun k7 hk7 => Run.block <| Run.seq fun k8 hk8 => Run.region ?_
  show Sq _ _ _ [0, 1, 2, 3] _ _ _ _
  obtain ⟨u, hx⟩ : ∃ u, x.l[i]? = some u := ⟨_, List.getElem?_eq_getElem (by rw [x.h]; omega)⟩
  refine Mv 0 rfl rfl rfl <| Qp 1 rfl rfl (QP.indexArr rfl rfl rfl Try.underlying39 z5 (by omega) (by omega)) <| Qq 2 rfl rfl (QR.load1 rfl rfl g5 (bs_at x hx)) ?_
  refine Qp 3 rfl rfl (QP.neq rfl rfl rfl) <| J.caseD (fun c11 => ?_) (fun c11 => ?_)
  ·refine Sq.nil <| hk8 _ _ <| Run.cond_t rfl <| Run.seq fun k9 hk9 => Run.region ?_
   show Sq _ _ _ [0] _ _ _ _
   refine Sg 0 rfl rfl rfl <| Sq.nil <| hk9 _ _ <| Run.ret ?_
   exact J.ends (res_tmp rfl rfl) Takes.nil ⟨false, rfl, fun h => (by cases h), rfl⟩
  ·refine Sq.nil <| hk8 _ _ <| Run.cond_f rfl <| Run.skip <| hk7 _ _ <| Run.region ?_
   show Sq _ _ _ [0, 1, 2] _ _ _ _
   refine Mv 0 rfl rfl rfl <| Qp 1 rfl rfl (QP.add64 rfl rfl rfl Og Og) <| Sg 2 rfl rfl rfl <| Sq.nil ?_
   exact J.envJ (J.keep Tk1 (hl4 (i + 1) (⟨by omega, fun j hj => by rcases Nat.lt_succ_iff_lt_or_eq.1 hj with h | h; exact hall j h; subst h; rw [hx, byte_eq (t := 255) (Classical.not_not.1 c11)]⟩) (by omega))) ⟨rfl, rfl, trivial⟩
 ·refine Sq.nil <| hk6 _ _ <| Run.cond_f rfl <| Run.exit rfl ?_
  refine hk2 _ _ <| Run.seq fun k10 hk10 => Run.region ?_
  show Sq _ _ _ [0] _ _ _ _
  refine Sg 0 rfl rfl rfl <| Sq.nil <| hk10 _ _ <| Run.ret ?_
  exact J.ends (res_tmp rfl rfl) Takes.nil ⟨true, rfl, fun _ j hj => hall j (by omega), rfl⟩

/-- What is known of an interface that may be. -/
structure IfOk (x : IfConf) : Prop where
  kind : x.kind = 0 ∨ x.kind = 1
  cost : 1 ≤ x.cost ∧ x.cost ≤ 65534
  mtu : 64 ≤ x.mtu ∧ x.mtu ≤ 65539
  hello : 10 ≤ x.hello ∧ x.hello ≤ 655350
  update : 10 ≤ x.update ∧ x.update ≤ 655350
  hello10 : x.hello.tmod 10 = 0
  update10 : x.update.tmod 10 = 0
  addr : x.addr.l[0]? = some 254
  addr4 : x.addr4 = Bs.zero 16 ∨ familyB x.addr4 = 4
  rtt : x.rtt = Rtt.zero ∨ (0 ≤ x.rtt.min ∧ x.rtt.min < x.rtt.max ∧ x.rtt.max ≤ 1000000 ∧ (1 ≤ x.rtt.cost ∧ x.rtt.cost ≤ 65534) ∧ (1 ≤ x.rtt.decay ∧ x.rtt.decay ≤ 256))

set_option maxHeartbeats 1600000 in
theorem riface_spec (F : Fr) (x : IfConf) : Spec Try.prog 35 #[.agg (IfConf.enc x).toArray] [] F (fun v S => ∃ r, v = .bool r ∧ (r = true → IfOk x) ∧ S = []) := by
 refine Spec.intro (N := 101) (args := [.agg (IfConf.enc x).toArray]) Try.func35 rfl rfl (by simp) ?_
 refine Run.seq fun k1 hk1 => Run.region ?_
 show Sq _ _ _ [0, 1] _ _ _ _
 refine Ef 0 rfl rfl (EF.boxA rfl rfl) ?_
 rintro _ _ ⟨b1, rfl, rfl⟩
 refine Sg 1 rfl rfl rfl <| Sq.nil <| hk1 _ _ <| Run.seq fun k2 hk2 => Run.region ?_
 show Sq _ _ _ [0, 1, 2, 3] _ _ _ _
 refine Fa 0 rfl rfl rfl f27_8 <| Qq 1 rfl rfl (QR.load rfl rfl g25 (IfConf.sub_rtt _)) ?_
 refine Ef 2 rfl rfl (EF.allocA (l := Rtt.enc Rtt.zero) rfl zero25) ?_
 rintro _ _ ⟨b3, rfl, rfl⟩
 refine Ac 3 rfl (EF.storeA rfl rfl rfl z25 (SetL.all (Rtt.enc_len _) (Rtt.enc_len _)) (Rtt.enc_cell _)) ?_
 rintro _ _ rfl
 refine Sq.nil <| hk2 _ _ <| Run.seq fun k3 hk3 => Run.seq fun k4 hk4 => Run.region ?_
 show Sq _ _ _ [0, 1, 2, 3, 4, 5, 6, 7, 8, 9, 10, 11, 12, 13, 14, 15, 16, 17, 18, 19, 20, 21, 22, 23, 24, 25] _ _ _ _
 refine Fa 0 rfl rfl rfl f27_0 <| Qq 1 rfl rfl (QR.load1 rfl rfl g9 (IfConf.sub_name _)) ?_
 refine Ef 2 rfl rfl (EF.call rfl ce48 rfl Takes.nil (fun F' hle hr => rname_spec F' _)) ?_
 rintro _ _ ⟨_, ⟨r8, rfl, rfl⟩, rfl⟩
 refine J.app ?_
 refine J.caseB (fun c8 => ?_) (fun c8 => ?_)
 ·refine Qp 3 rfl rfl (QP.not rfl rfl) <| Mv 4 rfl rfl rfl <| Yf 5 rfl rfl rfl rfl f27_1 <| Yq 6 rfl rfl rfl (QR.load1 rfl rfl g3 (IfConf.sub_kind _)) ?_
  refine Yp 7 rfl rfl rfl (QP.neq rfl rfl rfl) <| J.caseD (fun c13 => ?_) (fun c13 => ?_)
  ·refine Ym 8 rfl rfl rfl rfl <| Yf 9 rfl rfl rfl rfl f27_1 <| Yq 10 rfl rfl rfl (QR.load1 rfl rfl g3 (IfConf.sub_kind _)) ?_
   refine Yp 11 rfl rfl rfl (QP.neq rfl rfl rfl) <| J.caseD (fun c17 => ?_) (fun c17 => ?_)
   ·refine Yp 12 rfl rfl rfl (QP.pick_t rfl rfl rfl) <| Pf 13 rfl rfl rfl rfl <| Mv 14 rfl rfl rfl <| Sk 15 rfl rfl rfl <| Sk 16 rfl rfl rfl <| Sk 17 rfl rfl rfl <| Sk 18 rfl rfl rfl <| Pt 19 rfl rfl rfl rfl <| Mv 20 rfl rfl rfl <| Sk 21 rfl rfl rfl <| Sk 22 rfl rfl rfl <| Sk 23 rfl rfl rfl <| Sk 24 rfl rfl rfl <| Pt 25 rfl rfl rfl rfl <| Sq.nil <| hk4 _ _ <| Run.cond_t rfl <| Run.seq fun k5 hk5 => Run.region ?_
    show Sq _ _ _ [0] _ _ _ _
    refine Sg 0 rfl rfl rfl <| Sq.nil <| hk5 _ _ <| Run.ret ?_
    exact J.ends (res_tmp rfl rfl) Takes.nil ⟨false, rfl, fun h => (by cases h), rfl⟩
   ·refine Yp 12 rfl rfl rfl (QP.pick_t rfl rfl rfl) <| Pf 13 rfl rfl rfl rfl <| Mv 14 rfl rfl rfl <| Yf 15 rfl rfl rfl rfl f27_2 <| Yq 16 rfl rfl rfl (QR.load1 rfl rfl g3 (IfConf.sub_cost _)) ?_
    refine Ye 17 rfl rfl rfl (EF.call rfl ce38 rfl Takes.nil (fun F' hle hr => rin_spec F' ((x).cost) (1) (65534))) ?_
    rintro _ _ ⟨_, ⟨rfl, rfl⟩, rfl⟩
    refine J.app ?_
    refine J.caseB (fun c23 => ?_) (fun c23 => ?_)
    ·refine Yp 18 rfl rfl rfl (QP.not rfl rfl) <| Pf 19 rfl rfl rfl rfl <| Mv 20 rfl rfl rfl <| Yf 21 rfl rfl rfl rfl f27_5 <| Yq 22 rfl rfl rfl (QR.load1 rfl rfl g3 (IfConf.sub_mtu _)) ?_
     refine Ye 23 rfl rfl rfl (EF.call rfl ce38 rfl Takes.nil (fun F' hle hr => rin_spec F' ((x).mtu) (64) (65539))) ?_
     rintro _ _ ⟨_, ⟨rfl, rfl⟩, rfl⟩
     refine J.app ?_
     refine J.caseB (fun c29 => ?_) (fun c29 => ?_)
     ·refine Yp 24 rfl rfl rfl (QP.not rfl rfl) <| Pf 25 rfl rfl rfl rfl <| Sq.nil <| hk4 _ _ <| Run.cond_f rfl <| Run.skip <| hk3 _ _ <| Run.seq fun k6 hk6 => Run.seq fun k7 hk7 => Run.region ?_
      show Sq _ _ _ [0, 1, 2, 3, 4, 5, 6, 7, 8, 9, 10, 11, 12, 13, 14, 15, 16, 17, 18, 19, 20, 21] _ _ _ _
      refine Fa 0 rfl rfl rfl f27_3 <| Qq 1 rfl rfl (QR.load1 rfl rfl g3 (IfConf.sub_hello _)) ?_
      refine Ef 2 rfl rfl (EF.call rfl ce38 rfl Takes.nil (fun F' hle hr => rin_spec F' ((x).hello) (10) (655350))) ?_
      rintro _ _ ⟨_, ⟨rfl, rfl⟩, rfl⟩
      refine J.app ?_
      refine J.caseB (fun c34 => ?_) (fun c34 => ?_)
      ·refine Qp 3 rfl rfl (QP.not rfl rfl) <| Mv 4 rfl rfl rfl <| Yf 5 rfl rfl rfl rfl f27_4 <| Yq 6 rfl rfl rfl (QR.load1 rfl rfl g3 (IfConf.sub_update _)) ?_
       refine Ye 7 rfl rfl rfl (EF.call rfl ce38 rfl Takes.nil (fun F' hle hr => rin_spec F' ((x).update) (10) (655350))) ?_
       rintro _ _ ⟨_, ⟨rfl, rfl⟩, rfl⟩
       refine J.app ?_
       refine J.caseB (fun c39 => ?_) (fun c39 => ?_)
       ·refine Yp 8 rfl rfl rfl (QP.not rfl rfl) <| Pf 9 rfl rfl rfl rfl <| Mv 10 rfl rfl rfl <| Yf 11 rfl rfl rfl rfl f27_3 <| Yq 12 rfl rfl rfl (QR.load1 rfl rfl g3 (IfConf.sub_hello _)) ?_
        refine Yp 13 rfl rfl rfl (QP.rem rfl rfl rfl (by decide)) <| Yp 14 rfl rfl rfl (QP.neq rfl rfl rfl) <| J.caseD (fun c46 => ?_) (fun c46 => ?_)
        ·refine Pf 15 rfl rfl rfl rfl <| Mv 16 rfl rfl rfl <| Sk 17 rfl rfl rfl <| Sk 18 rfl rfl rfl <| Sk 19 rfl rfl rfl <| Sk 20 rfl rfl rfl <| Pt 21 rfl rfl rfl rfl <| Sq.nil <| hk7 _ _ <| Run.cond_t rfl <| Run.seq fun k8 hk8 => Run.region ?_
         show Sq _ _ _ [0] _ _ _ _
         refine Sg 0 rfl rfl rfl <| Sq.nil <| hk8 _ _ <| Run.ret ?_
         exact J.ends (res_tmp rfl rfl) Takes.nil ⟨false, rfl, fun h => (by cases h), rfl⟩
        ·refine Pf 15 rfl rfl rfl rfl <| Mv 16 rfl rfl rfl <| Yf 17 rfl rfl rfl rfl f27_4 <| Yq 18 rfl rfl rfl (QR.load1 rfl rfl g3 (IfConf.sub_update _)) ?_
         refine Yp 19 rfl rfl rfl (QP.rem rfl rfl rfl (by decide)) <| Yp 20 rfl rfl rfl (QP.neq rfl rfl rfl) <| J.caseD (fun c52 => ?_) (fun c52 => ?_)
         ·refine Pf 21 rfl rfl rfl rfl <| Sq.nil <| hk7 _ _ <| Run.cond_t rfl <| Run.seq fun k9 hk9 => Run.region ?_
          show Sq _ _ _ [0] _ _ _ _
          refine Sg 0 rfl rfl rfl <| Sq.nil <| hk9 _ _ <| Run.ret ?_
          exact J.ends (res_tmp rfl rfl) Takes.nil ⟨false, rfl, fun h => (by cases h), rfl⟩
         ·refine Pf 21 rfl rfl rfl rfl <| Sq.nil <| hk7 _ _ <| Run.cond_f rfl <| Run.skip <| hk6 _ _ <| Run.seq fun k10 hk10 => Run.seq fun k11 hk11 => Run.region ?_
          show Sq _ _ _ [0, 1, 2, 3, 4, 5, 6, 7, 8, 9, 10, 11, 12, 13, 14, 15] _ _ _ _
          refine Fa 0 rfl rfl rfl f27_6 <| Qq 1 rfl rfl (QR.load rfl rfl g23 (IfConf.sub_addr _)) ?_
          refine Ef 2 rfl rfl (EF.call rfl ce49 rfl Takes.nil (fun F' hle hr => rlocal_spec F' ((x).addr))) ?_
          rintro _ _ ⟨_, ⟨r56, rfl, hl56, rfl⟩, rfl⟩
          refine J.app ?_
          refine J.caseB (fun c56 => ?_) (fun c56 => ?_)
          ·refine Qp 3 rfl rfl (QP.not rfl rfl) <| Mv 4 rfl rfl rfl <| Yf 5 rfl rfl rfl rfl f27_7 <| Yq 6 rfl rfl rfl (QR.load rfl rfl g23 (IfConf.sub_addr4 _)) ?_
           refine Yp 7 rfl rfl rfl (QP.const (.agg (Bs.enc (⟨[0, 0, 0, 0, 0, 0, 0, 0, 0, 0, 0, 0, 0, 0, 0, 0], rfl⟩ : Bs 16)).toArray) (fun _ _ => by kernel_rfl)) <| Yp 8 rfl rfl rfl (QP.neq_agg eq23 rfl rfl rfl) <| J.caseD (fun c62 => ?_) (fun c62 => ?_)
           ·refine Ym 9 rfl rfl rfl rfl <| Yf 10 rfl rfl rfl rfl f27_7 <| Yq 11 rfl rfl rfl (QR.load rfl rfl g23 (IfConf.sub_addr4 _)) ?_
            refine Ye 12 rfl rfl rfl (EF.call rfl ce50 rfl Takes.nil (fun F' hle hr => rfamily_spec F' ((x).addr4))) ?_
            rintro _ _ ⟨_, ⟨rfl, rfl⟩, rfl⟩
            refine J.app ?_
            refine Yp 13 rfl rfl rfl (QP.neq rfl rfl rfl) <| J.caseD (fun c67 => ?_) (fun c67 => ?_)
            ·refine Yp 14 rfl rfl rfl (QP.pick_t rfl rfl rfl) <| Pf 15 rfl rfl rfl rfl <| Sq.nil <| hk11 _ _ <| Run.cond_t rfl <| Run.seq fun k12 hk12 => Run.region ?_
             show Sq _ _ _ [0] _ _ _ _
             refine Sg 0 rfl rfl rfl <| Sq.nil <| hk12 _ _ <| Run.ret ?_
             exact J.ends (res_tmp rfl rfl) Takes.nil ⟨false, rfl, fun h => (by cases h), rfl⟩
            ·refine Yp 14 rfl rfl rfl (QP.pick_t rfl rfl rfl) <| Pf 15 rfl rfl rfl rfl <| Sq.nil <| hk11 _ _ <| Run.cond_f rfl <| Run.skip <| hk10 _ _ <| Run.seq fun k13 hk13 => Run.seq fun k14 hk14 => Run.region ?_
             show Sq _ _ _ [0, 1, 2] _ _ _ _
             refine Fa 0 rfl rfl rfl f25_0 <| Qq 1 rfl rfl (QR.load1 rfl rfl g4 (Rtt.sub_on_ _)) ?_
             refine J.caseB (fun c71 => ?_) (fun c71 => ?_)
             ·refine Qp 2 rfl rfl (QP.not rfl rfl) <| Sq.nil <| hk14 _ _ <| Run.cond_f rfl <| Run.skip <| hk13 _ _ <| Run.seq fun k15 hk15 => Run.region ?_
              show Sq _ _ _ [0, 1, 2, 3, 4, 5, 6, 7, 8, 9, 10, 11, 12, 13, 14, 15, 16, 17, 18, 19, 20, 21, 22, 23, 24, 25] _ _ _ _
              refine Fa 0 rfl rfl rfl f25_1 <| Qq 1 rfl rfl (QR.load1 rfl rfl g3 (Rtt.sub_min _)) ?_
              refine Ef 2 rfl rfl (EF.call rfl ce38 rfl Takes.nil (fun F' hle hr => rin_spec F' (((x).rtt).min) (0) (1000000))) ?_
              rintro _ _ ⟨_, ⟨rfl, rfl⟩, rfl⟩
              refine J.app ?_
              refine J.caseB (fun c78 => ?_) (fun c78 => ?_)
              ·refine Mv 3 rfl rfl rfl <| Yf 4 rfl rfl rfl rfl f25_2 <| Yq 5 rfl rfl rfl (QR.load1 rfl rfl g3 (Rtt.sub_max _)) ?_
               refine Yf 6 rfl rfl rfl rfl f25_1 <| Yq 7 rfl rfl rfl (QR.load1 rfl rfl g3 (Rtt.sub_min _)) ?_
               refine Yp 8 rfl rfl rfl (QP.gtr rfl rfl rfl) <| J.caseD (fun c84 => ?_) (fun c84 => ?_)
               ·refine Pt 9 rfl rfl rfl rfl <| Mv 10 rfl rfl rfl <| Yf 11 rfl rfl rfl rfl f25_2 <| Yq 12 rfl rfl rfl (QR.load1 rfl rfl g3 (Rtt.sub_max _)) ?_
                refine Yp 13 rfl rfl rfl (QP.leq rfl rfl rfl) <| J.caseD (fun c89 => ?_) (fun c89 => ?_)
                ·refine Pt 14 rfl rfl rfl rfl <| Mv 15 rfl rfl rfl <| Yf 16 rfl rfl rfl rfl f25_3 <| Yq 17 rfl rfl rfl (QR.load1 rfl rfl g3 (Rtt.sub_cost _)) ?_
                 refine Ye 18 rfl rfl rfl (EF.call rfl ce38 rfl Takes.nil (fun F' hle hr => rin_spec F' (((x).rtt).cost) (1) (65534))) ?_
                 rintro _ _ ⟨_, ⟨rfl, rfl⟩, rfl⟩
                 refine J.app ?_
                 refine J.caseB (fun c94 => ?_) (fun c94 => ?_)
                 ·refine Pt 19 rfl rfl rfl rfl <| Mv 20 rfl rfl rfl <| Yf 21 rfl rfl rfl rfl f25_4 <| Yq 22 rfl rfl rfl (QR.load1 rfl rfl g3 (Rtt.sub_decay _)) ?_
                  refine Ye 23 rfl rfl rfl (EF.call rfl ce38 rfl Takes.nil (fun F' hle hr => rin_spec F' (((x).rtt).decay) (1) (256))) ?_
                  rintro _ _ ⟨_, ⟨rfl, rfl⟩, rfl⟩
                  refine J.app ?_
                  refine Pt 24 rfl rfl rfl rfl <| Sg 25 rfl rfl rfl <| Sq.nil <| hk15 _ _ <| Run.ret ?_
                  exact J.ends (res_tmp rfl rfl) Takes.nil ⟨_, rfl, fun h => { kind := by omega, cost := inB_iff.1 c23, mtu := inB_iff.1 c29, hello := inB_iff.1 c34, update := inB_iff.1 c39, hello10 := by omega, update10 := by omega, addr := hl56 (by simpa using c56), addr4 := .inr (by omega), rtt := .inr ⟨(inB_iff.1 c78).1, by omega, by omega, inB_iff.1 c94, inB_iff.1 h⟩ }, rfl⟩
                 ·refine Pt 19 rfl rfl rfl rfl <| Mv 20 rfl rfl rfl <| Sk 21 rfl rfl rfl <| Sk 22 rfl rfl rfl <| Sk 23 rfl rfl rfl <| Pf 24 rfl rfl rfl rfl <| Sg 25 rfl rfl rfl <| Sq.nil <| hk15 _ _ <| Run.ret ?_
                  exact J.ends (res_tmp rfl rfl) Takes.nil ⟨false, rfl, fun h => (by cases h), rfl⟩
                ·refine Pt 14 rfl rfl rfl rfl <| Mv 15 rfl rfl rfl <| Sk 16 rfl rfl rfl <| Sk 17 rfl rfl rfl <| Sk 18 rfl rfl rfl <| Pf 19 rfl rfl rfl rfl <| Mv 20 rfl rfl rfl <| Sk 21 rfl rfl rfl <| Sk 22 rfl rfl rfl <| Sk 23 rfl rfl rfl <| Pf 24 rfl rfl rfl rfl <| Sg 25 rfl rfl rfl <| Sq.nil <| hk15 _ _ <| Run.ret ?_
                 exact J.ends (res_tmp rfl rfl) Takes.nil ⟨false, rfl, fun h => (by cases h), rfl⟩
               ·refine Pt 9 rfl rfl rfl rfl <| Mv 10 rfl rfl rfl <| Sk 11 rfl rfl rfl <| Sk 12 rfl rfl rfl <| Sk 13 rfl rfl rfl <| Pf 14 rfl rfl rfl rfl <| Mv 15 rfl rfl rfl <| Sk 16 rfl rfl rfl <| Sk 17 rfl rfl rfl <| Sk 18 rfl rfl rfl <| Pf 19 rfl rfl rfl rfl <| Mv 20 rfl rfl rfl <| Sk 21 rfl rfl rfl <| Sk 22 rfl rfl rfl <| Sk 23 rfl rfl rfl <| Pf 24 rfl rfl rfl rfl <| Sg 25 rfl rfl rfl <| Sq.nil <| hk15 _ _ <| Run.ret ?_
                exact J.ends (res_tmp rfl rfl) Takes.nil ⟨false, rfl, fun h => (by cases h), rfl⟩
              ·refine Mv 3 rfl rfl rfl <| Sk 4 rfl rfl rfl <| Sk 5 rfl rfl rfl <| Sk 6 rfl rfl rfl <| Sk 7 rfl rfl rfl <| Sk 8 rfl rfl rfl <| Pf 9 rfl rfl rfl rfl <| Mv 10 rfl rfl rfl <| Sk 11 rfl rfl rfl <| Sk 12 rfl rfl rfl <| Sk 13 rfl rfl rfl <| Pf 14 rfl rfl rfl rfl <| Mv 15 rfl rfl rfl <| Sk 16 rfl rfl rfl <| Sk 17 rfl rfl rfl <| Sk 18 rfl rfl rfl <| Pf 19 rfl rfl rfl rfl <| Mv 20 rfl rfl rfl <| Sk 21 rfl rfl rfl <| Sk 22 rfl rfl rfl <| Sk 23 rfl rfl rfl <| Pf 24 rfl rfl rfl rfl <| Sg 25 rfl rfl rfl <| Sq.nil <| hk15 _ _ <| Run.ret ?_
               exact J.ends (res_tmp rfl rfl) Takes.nil ⟨false, rfl, fun h => (by cases h), rfl⟩
             ·refine Qp 2 rfl rfl (QP.not rfl rfl) <| Sq.nil <| hk14 _ _ <| Run.cond_t rfl <| Run.seq fun k16 hk16 => Run.region ?_
              show Sq _ _ _ [0, 1, 2, 3] _ _ _ _
              refine Qq 0 rfl rfl (QR.load rfl rfl g25 (Rtt.enc_sub _)) ?_
              refine Qp 1 rfl rfl (QP.build (l := Rtt.enc Rtt.zero) rfl st25 rfl (by exact trivial) rfl) <| Qp 2 rfl rfl (QP.eql_agg eq25 rfl rfl rfl) <| Sg 3 rfl rfl rfl <| Sq.nil <| hk16 _ _ <| Run.ret ?_
              exact J.ends (res_tmp rfl rfl) Takes.nil ⟨_, rfl, fun h => { kind := by omega, cost := inB_iff.1 c23, mtu := inB_iff.1 c29, hello := inB_iff.1 c34, update := inB_iff.1 c39, hello10 := by omega, update10 := by omega, addr := hl56 (by simpa using c56), addr4 := .inr (by omega), rtt := .inl (of_decide_eq_true h) }, rfl⟩
           ·refine Ym 9 rfl rfl rfl rfl <| Sk 10 rfl rfl rfl <| Sk 11 rfl rfl rfl <| Sk 12 rfl rfl rfl <| Sk 13 rfl rfl rfl <| Yp 14 rfl rfl rfl (QP.pick_f rfl rfl rfl) <| Pf 15 rfl rfl rfl rfl <| Sq.nil <| hk11 _ _ <| Run.cond_f rfl <| Run.skip <| hk10 _ _ <| Run.seq fun k17 hk17 => Run.seq fun k18 hk18 => Run.region ?_
            show Sq _ _ _ [0, 1, 2] _ _ _ _
            refine Fa 0 rfl rfl rfl f25_0 <| Qq 1 rfl rfl (QR.load1 rfl rfl g4 (Rtt.sub_on_ _)) ?_
            refine J.caseB (fun c71 => ?_) (fun c71 => ?_)
            ·refine Qp 2 rfl rfl (QP.not rfl rfl) <| Sq.nil <| hk18 _ _ <| Run.cond_f rfl <| Run.skip <| hk17 _ _ <| Run.seq fun k19 hk19 => Run.region ?_
             show Sq _ _ _ [0, 1, 2, 3, 4, 5, 6, 7, 8, 9, 10, 11, 12, 13, 14, 15, 16, 17, 18, 19, 20, 21, 22, 23, 24, 25] _ _ _ _
             refine Fa 0 rfl rfl rfl f25_1 <| Qq 1 rfl rfl (QR.load1 rfl rfl g3 (Rtt.sub_min _)) ?_
             refine Ef 2 rfl rfl (EF.call rfl ce38 rfl Takes.nil (fun F' hle hr => rin_spec F' (((x).rtt).min) (0) (1000000))) ?_
             rintro _ _ ⟨_, ⟨rfl, rfl⟩, rfl⟩
             refine J.app ?_
             refine J.caseB (fun c78 => ?_) (fun c78 => ?_)
             ·refine Mv 3 rfl rfl rfl <| Yf 4 rfl rfl rfl rfl f25_2 <| Yq 5 rfl rfl rfl (QR.load1 rfl rfl g3 (Rtt.sub_max _)) ?_
              refine Yf 6 rfl rfl rfl rfl f25_1 <| Yq 7 rfl rfl rfl (QR.load1 rfl rfl g3 (Rtt.sub_min _)) ?_
              refine Yp 8 rfl rfl rfl (QP.gtr rfl rfl rfl) <| J.caseD (fun c84 => ?_) (fun c84 => ?_)
              ·refine Pt 9 rfl rfl rfl rfl <| Mv 10 rfl rfl rfl <| Yf 11 rfl rfl rfl rfl f25_2 <| Yq 12 rfl rfl rfl (QR.load1 rfl rfl g3 (Rtt.sub_max _)) ?_
               refine Yp 13 rfl rfl rfl (QP.leq rfl rfl rfl) <| J.caseD (fun c89 => ?_) (fun c89 => ?_)
               ·refine Pt 14 rfl rfl rfl rfl <| Mv 15 rfl rfl rfl <| Yf 16 rfl rfl rfl rfl f25_3 <| Yq 17 rfl rfl rfl (QR.load1 rfl rfl g3 (Rtt.sub_cost _)) ?_
                refine Ye 18 rfl rfl rfl (EF.call rfl ce38 rfl Takes.nil (fun F' hle hr => rin_spec F' (((x).rtt).cost) (1) (65534))) ?_
                rintro _ _ ⟨_, ⟨rfl, rfl⟩, rfl⟩
                refine J.app ?_
                refine J.caseB (fun c94 => ?_) (fun c94 => ?_)
                ·refine Pt 19 rfl rfl rfl rfl <| Mv 20 rfl rfl rfl <| Yf 21 rfl rfl rfl rfl f25_4 <| Yq 22 rfl rfl rfl (QR.load1 rfl rfl g3 (Rtt.sub_decay _)) ?_
                 refine Ye 23 rfl rfl rfl (EF.call rfl ce38 rfl Takes.nil (fun F' hle hr => rin_spec F' (((x).rtt).decay) (1) (256))) ?_
                 rintro _ _ ⟨_, ⟨rfl, rfl⟩, rfl⟩
                 refine J.app ?_
                 refine Pt 24 rfl rfl rfl rfl <| Sg 25 rfl rfl rfl <| Sq.nil <| hk19 _ _ <| Run.ret ?_
                 exact J.ends (res_tmp rfl rfl) Takes.nil ⟨_, rfl, fun h => { kind := by omega, cost := inB_iff.1 c23, mtu := inB_iff.1 c29, hello := inB_iff.1 c34, update := inB_iff.1 c39, hello10 := by omega, update10 := by omega, addr := hl56 (by simpa using c56), addr4 := .inl (Classical.not_not.1 c62), rtt := .inr ⟨(inB_iff.1 c78).1, by omega, by omega, inB_iff.1 c94, inB_iff.1 h⟩ }, rfl⟩
                ·refine Pt 19 rfl rfl rfl rfl <| Mv 20 rfl rfl rfl <| Sk 21 rfl rfl rfl <| Sk 22 rfl rfl rfl <| Sk 23 rfl rfl rfl <| Pf 24 rfl rfl rfl rfl <| Sg 25 rfl rfl rfl <| Sq.nil <| hk19 _ _ <| Run.ret ?_
                 exact J.ends (res_tmp rfl rfl) Takes.nil ⟨false, rfl, fun h => (by cases h), rfl⟩
               ·refine Pt 14 rfl rfl rfl rfl <| Mv 15 rfl rfl rfl <| Sk 16 rfl rfl rfl <| Sk 17 rfl rfl rfl <| Sk 18 rfl rfl rfl <| Pf 19 rfl rfl rfl rfl <| Mv 20 rfl rfl rfl <| Sk 21 rfl rfl rfl <| Sk 22 rfl rfl rfl <| Sk 23 rfl rfl rfl <| Pf 24 rfl rfl rfl rfl <| Sg 25 rfl rfl rfl <| Sq.nil <| hk19 _ _ <| Run.ret ?_
                exact J.ends (res_tmp rfl rfl) Takes.nil ⟨false, rfl, fun h => (by cases h), rfl⟩
              ·refine Pt 9 rfl rfl rfl rfl <| Mv 10 rfl rfl rfl <| Sk 11 rfl rfl rfl <| Sk 12 rfl rfl rfl <| Sk 13 rfl rfl rfl <| Pf 14 rfl rfl rfl rfl <| Mv 15 rfl rfl rfl <| Sk 16 rfl rfl rfl <| Sk 17 rfl rfl rfl <| Sk 18 rfl rfl rfl <| Pf 19 rfl rfl rfl rfl <| Mv 20 rfl rfl rfl <| Sk 21 rfl rfl rfl <| Sk 22 rfl rfl rfl <| Sk 23 rfl rfl rfl <| Pf 24 rfl rfl rfl rfl <| Sg 25 rfl rfl rfl <| Sq.nil <| hk19 _ _ <| Run.ret ?_
               exact J.ends (res_tmp rfl rfl) Takes.nil ⟨false, rfl, fun h => (by cases h), rfl⟩
             ·refine Mv 3 rfl rfl rfl <| Sk 4 rfl rfl rfl <| Sk 5 rfl rfl rfl <| Sk 6 rfl rfl rfl <| Sk 7 rfl rfl rfl <| Sk 8 rfl rfl rfl <| Pf 9 rfl rfl rfl rfl <| Mv 10 rfl rfl rfl <| Sk 11 rfl rfl rfl <| Sk 12 rfl rfl rfl <| Sk 13 rfl rfl rfl <| Pf 14 rfl rfl rfl rfl <| Mv 15 rfl rfl rfl <| Sk 16 rfl rfl rfl <| Sk 17 rfl rfl rfl <| Sk 18 rfl rfl rfl <| Pf 19 rfl rfl rfl rfl <| Mv 20 rfl rfl rfl <| Sk 21 rfl rfl rfl <| Sk 22 rfl rfl rfl <| Sk 23 rfl rfl rfl <| Pf 24 rfl rfl rfl rfl <| Sg 25 rfl rfl rfl <| Sq.nil <| hk19 _ _ <| Run.ret ?_
              exact J.ends (res_tmp rfl rfl) Takes.nil ⟨false, rfl, fun h => (by cases h), rfl⟩
            ·refine Qp 2 rfl rfl (QP.not rfl rfl) <| Sq.nil <| hk18 _ _ <| Run.cond_t rfl <| Run.seq fun k20 hk20 => Run.region ?_
             show Sq _ _ _ [0, 1, 2, 3] _ _ _ _
             refine Qq 0 rfl rfl (QR.load rfl rfl g25 (Rtt.enc_sub _)) ?_
             refine Qp 1 rfl rfl (QP.build (l := Rtt.enc Rtt.zero) rfl st25 rfl (by exact trivial) rfl) <| Qp 2 rfl rfl (QP.eql_agg eq25 rfl rfl rfl) <| Sg 3 rfl rfl rfl <| Sq.nil <| hk20 _ _ <| Run.ret ?_
             exact J.ends (res_tmp rfl rfl) Takes.nil ⟨_, rfl, fun h => { kind := by omega, cost := inB_iff.1 c23, mtu := inB_iff.1 c29, hello := inB_iff.1 c34, update := inB_iff.1 c39, hello10 := by omega, update10 := by omega, addr := hl56 (by simpa using c56), addr4 := .inl (Classical.not_not.1 c62), rtt := .inl (of_decide_eq_true h) }, rfl⟩
          ·refine Qp 3 rfl rfl (QP.not rfl rfl) <| Mv 4 rfl rfl rfl <| Sk 5 rfl rfl rfl <| Sk 6 rfl rfl rfl <| Sk 7 rfl rfl rfl <| Sk 8 rfl rfl rfl <| Sk 9 rfl rfl rfl <| Sq.skip (i := 10) rfl (Want.undef rfl rfl rfl) rfl (ltN rfl) ?_
           refine Sq.skip (i := 11) rfl (Want.undef rfl rfl rfl) rfl (ltN rfl) ?_
           refine Sq.skip (i := 12) rfl (Want.undef rfl rfl rfl) rfl (ltN rfl) ?_
           refine Sq.skip (i := 13) rfl (Want.undef rfl rfl rfl) rfl (ltN rfl) ?_
           refine Sk 14 rfl rfl rfl <| Pt 15 rfl rfl rfl rfl <| Sq.nil <| hk11 _ _ <| Run.cond_t rfl <| Run.seq fun k21 hk21 => Run.region ?_
           show Sq _ _ _ [0] _ _ _ _
           refine Sg 0 rfl rfl rfl <| Sq.nil <| hk21 _ _ <| Run.ret ?_
           exact J.ends (res_tmp rfl rfl) Takes.nil ⟨false, rfl, fun h => (by cases h), rfl⟩
       ·refine Yp 8 rfl rfl rfl (QP.not rfl rfl) <| Pf 9 rfl rfl rfl rfl <| Mv 10 rfl rfl rfl <| Sk 11 rfl rfl rfl <| Sk 12 rfl rfl rfl <| Sk 13 rfl rfl rfl <| Sk 14 rfl rfl rfl <| Pt 15 rfl rfl rfl rfl <| Mv 16 rfl rfl rfl <| Sk 17 rfl rfl rfl <| Sk 18 rfl rfl rfl <| Sk 19 rfl rfl rfl <| Sk 20 rfl rfl rfl <| Pt 21 rfl rfl rfl rfl <| Sq.nil <| hk7 _ _ <| Run.cond_t rfl <| Run.seq fun k22 hk22 => Run.region ?_
        show Sq _ _ _ [0] _ _ _ _
        refine Sg 0 rfl rfl rfl <| Sq.nil <| hk22 _ _ <| Run.ret ?_
        exact J.ends (res_tmp rfl rfl) Takes.nil ⟨false, rfl, fun h => (by cases h), rfl⟩
      ·refine Qp 3 rfl rfl (QP.not rfl rfl) <| Mv 4 rfl rfl rfl <| Sk 5 rfl rfl rfl <| Sk 6 rfl rfl rfl <| Sk 7 rfl rfl rfl <| Sk 8 rfl rfl rfl <| Pt 9 rfl rfl rfl rfl <| Mv 10 rfl rfl rfl <| Sk 11 rfl rfl rfl <| Sk 12 rfl rfl rfl <| Sk 13 rfl rfl rfl <| Sk 14 rfl rfl rfl <| Pt 15 rfl rfl rfl rfl <| Mv 16 rfl rfl rfl <| Sk 17 rfl rfl rfl <| Sk 18 rfl rfl rfl <| Sk 19 rfl rfl rfl <| Sk 20 rfl rfl rfl <| Pt 21 rfl rfl rfl rfl <| Sq.nil <| hk7 _ _ <| Run.cond_t rfl <| Run.seq fun k23 hk23 => Run.region ?_
       show Sq _ _ _ [0] _ _ _ _
       refine Sg 0 rfl rfl rfl <| Sq.nil <| hk23 _ _ <| Run.ret ?_
       exact J.ends (res_tmp rfl rfl) Takes.nil ⟨false, rfl, fun h => (by cases h), rfl⟩
     ·refine Yp 24 rfl rfl rfl (QP.not rfl rfl) <| Pf 25 rfl rfl rfl rfl <| Sq.nil <| hk4 _ _ <| Run.cond_t rfl <| Run.seq fun k24 hk24 => Run.region ?_
      show Sq _ _ _ [0] _ _ _ _
      refine Sg 0 rfl rfl rfl <| Sq.nil <| hk24 _ _ <| Run.ret ?_
      exact J.ends (res_tmp rfl rfl) Takes.nil ⟨false, rfl, fun h => (by cases h), rfl⟩
    ·refine Yp 18 rfl rfl rfl (QP.not rfl rfl) <| Pf 19 rfl rfl rfl rfl <| Mv 20 rfl rfl rfl <| Sk 21 rfl rfl rfl <| Sk 22 rfl rfl rfl <| Sk 23 rfl rfl rfl <| Sk 24 rfl rfl rfl <| Pt 25 rfl rfl rfl rfl <| Sq.nil <| hk4 _ _ <| Run.cond_t rfl <| Run.seq fun k25 hk25 => Run.region ?_
     show Sq _ _ _ [0] _ _ _ _
     refine Sg 0 rfl rfl rfl <| Sq.nil <| hk25 _ _ <| Run.ret ?_
     exact J.ends (res_tmp rfl rfl) Takes.nil ⟨false, rfl, fun h => (by cases h), rfl⟩
  ·refine Ym 8 rfl rfl rfl rfl <| Sk 9 rfl rfl rfl <| Sk 10 rfl rfl rfl <| Sk 11 rfl rfl rfl <| Yp 12 rfl rfl rfl (QP.pick_f rfl rfl rfl) <| Pf 13 rfl rfl rfl rfl <| Mv 14 rfl rfl rfl <| Yf 15 rfl rfl rfl rfl f27_2 <| Yq 16 rfl rfl rfl (QR.load1 rfl rfl g3 (IfConf.sub_cost _)) ?_
   refine Ye 17 rfl rfl rfl (EF.call rfl ce38 rfl Takes.nil (fun F' hle hr => rin_spec F' ((x).cost) (1) (65534))) ?_
   rintro _ _ ⟨_, ⟨rfl, rfl⟩, rfl⟩
   refine J.app ?_
   refine J.caseB (fun c23 => ?_) (fun c23 => ?_)
   ·refine Yp 18 rfl rfl rfl (QP.not rfl rfl) <| Pf 19 rfl rfl rfl rfl <| Mv 20 rfl rfl rfl <| Yf 21 rfl rfl rfl rfl f27_5 <| Yq 22 rfl rfl rfl (QR.load1 rfl rfl g3 (IfConf.sub_mtu _)) ?_
    refine Ye 23 rfl rfl rfl (EF.call rfl ce38 rfl Takes.nil (fun F' hle hr => rin_spec F' ((x).mtu) (64) (65539))) ?_
    rintro _ _ ⟨_, ⟨rfl, rfl⟩, rfl⟩
    refine J.app ?_
    refine J.caseB (fun c29 => ?_) (fun c29 => ?_)
    ·refine Yp 24 rfl rfl rfl (QP.not rfl rfl) <| Pf 25 rfl rfl rfl rfl <| Sq.nil <| hk4 _ _ <| Run.cond_f rfl <| Run.skip <| hk3 _ _ <| Run.seq fun k26 hk26 => Run.seq fun k27 hk27 => Run.region ?_
     show Sq _ _ _ [0, 1, 2, 3, 4, 5, 6, 7, 8, 9, 10, 11, 12, 13, 14, 15, 16, 17, 18, 19, 20, 21] _ _ _ _
     refine Fa 0 rfl rfl rfl f27_3 <| Qq 1 rfl rfl (QR.load1 rfl rfl g3 (IfConf.sub_hello _)) ?_
     refine Ef 2 rfl rfl (EF.call rfl ce38 rfl Takes.nil (fun F' hle hr => rin_spec F' ((x).hello) (10) (655350))) ?_
     rintro _ _ ⟨_, ⟨rfl, rfl⟩, rfl⟩
     refine J.app ?_
     refine J.caseB (fun c34 => ?_) (fun c34 => ?_)
     ·refine Qp 3 rfl rfl (QP.not rfl rfl) <| Mv 4 rfl rfl rfl <| Yf 5 rfl rfl rfl rfl f27_4 <| Yq 6 rfl rfl rfl (QR.load1 rfl rfl g3 (IfConf.sub_update _)) ?_
      refine Ye 7 rfl rfl rfl (EF.call rfl ce38 rfl Takes.nil (fun F' hle hr => rin_spec F' ((x).update) (10) (655350))) ?_
      rintro _ _ ⟨_, ⟨rfl, rfl⟩, rfl⟩
      refine J.app ?_
      refine J.caseB (fun c39 => ?_) (fun c39 => ?_)
      ·refine Yp 8 rfl rfl rfl (QP.not rfl rfl) <| Pf 9 rfl rfl rfl rfl <| Mv 10 rfl rfl rfl <| Yf 11 rfl rfl rfl rfl f27_3 <| Yq 12 rfl rfl rfl (QR.load1 rfl rfl g3 (IfConf.sub_hello _)) ?_
       refine Yp 13 rfl rfl rfl (QP.rem rfl rfl rfl (by decide)) <| Yp 14 rfl rfl rfl (QP.neq rfl rfl rfl) <| J.caseD (fun c46 => ?_) (fun c46 => ?_)
       ·refine Pf 15 rfl rfl rfl rfl <| Mv 16 rfl rfl rfl <| Sk 17 rfl rfl rfl <| Sk 18 rfl rfl rfl <| Sk 19 rfl rfl rfl <| Sk 20 rfl rfl rfl <| Pt 21 rfl rfl rfl rfl <| Sq.nil <| hk27 _ _ <| Run.cond_t rfl <| Run.seq fun k28 hk28 => Run.region ?_
        show Sq _ _ _ [0] _ _ _ _
        refine Sg 0 rfl rfl rfl <| Sq.nil <| hk28 _ _ <| Run.ret ?_
        exact J.ends (res_tmp rfl rfl) Takes.nil ⟨false, rfl, fun h => (by cases h), rfl⟩
       ·refine Pf 15 rfl rfl rfl rfl <| Mv 16 rfl rfl rfl <| Yf 17 rfl rfl rfl rfl f27_4 <| Yq 18 rfl rfl rfl (QR.load1 rfl rfl g3 (IfConf.sub_update _)) ?_
        refine Yp 19 rfl rfl rfl (QP.rem rfl rfl rfl (by decide)) <| Yp 20 rfl rfl rfl (QP.neq rfl rfl rfl) <| J.caseD (fun c52 => ?_) (fun c52 => ?_)
        ·refine Pf 21 rfl rfl rfl rfl <| Sq.nil <| hk27 _ _ <| Run.cond_t rfl <| Run.seq fun k29 hk29 => Run.region ?_
         show Sq _ _ _ [0] _ _ _ _
         refine Sg 0 rfl rfl rfl <| Sq.nil <| hk29 _ _ <| Run.ret ?_
         exact J.ends (res_tmp rfl rfl) Takes.nil ⟨false, rfl, fun h => (by cases h), rfl⟩
        ·refine Pf 21 rfl rfl rfl rfl <| Sq.nil <| hk27 _ _ <| Run.cond_f rfl <| Run.skip <| hk26 _ _ <| Run.seq fun k30 hk30 => Run.seq fun k31 hk31 => Run.region ?_
         show Sq _ _ _ [0, 1, 2, 3, 4, 5, 6, 7, 8, 9, 10, 11, 12, 13, 14, 15] _ _ _ _
         refine Fa 0 rfl rfl rfl f27_6 <| Qq 1 rfl rfl (QR.load rfl rfl g23 (IfConf.sub_addr _)) ?_
         refine Ef 2 rfl rfl (EF.call rfl ce49 rfl Takes.nil (fun F' hle hr => rlocal_spec F' ((x).addr))) ?_
         rintro _ _ ⟨_, ⟨r56, rfl, hl56, rfl⟩, rfl⟩
         refine J.app ?_
         refine J.caseB (fun c56 => ?_) (fun c56 => ?_)
         ·refine Qp 3 rfl rfl (QP.not rfl rfl) <| Mv 4 rfl rfl rfl <| Yf 5 rfl rfl rfl rfl f27_7 <| Yq 6 rfl rfl rfl (QR.load rfl rfl g23 (IfConf.sub_addr4 _)) ?_
          refine Yp 7 rfl rfl rfl (QP.const (.agg (Bs.enc (⟨[0, 0, 0, 0, 0, 0, 0, 0, 0, 0, 0, 0, 0, 0, 0, 0], rfl⟩ : Bs 16)).toArray) (fun _ _ => by kernel_rfl)) <| Yp 8 rfl rfl rfl (QP.neq_agg eq23 rfl rfl rfl) <| J.caseD (fun c62 => ?_) (fun c62 => ?_)
          ·refine Ym 9 rfl rfl rfl rfl <| Yf 10 rfl rfl rfl rfl f27_7 <| Yq 11 rfl rfl rfl (QR.load rfl rfl g23 (IfConf.sub_addr4 _)) ?_
           refine Ye 12 rfl rfl rfl (EF.call rfl ce50 rfl Takes.nil (fun F' hle hr => rfamily_spec F' ((x).addr4))) ?_
           rintro _ _ ⟨_, ⟨rfl, rfl⟩, rfl⟩
           refine J.app ?_
           refine Yp 13 rfl rfl rfl (QP.neq rfl rfl rfl) <| J.caseD (fun c67 => ?_) (fun c67 => ?_)
           ·refine Yp 14 rfl rfl rfl (QP.pick_t rfl rfl rfl) <| Pf 15 rfl rfl rfl rfl <| Sq.nil <| hk31 _ _ <| Run.cond_t rfl <| Run.seq fun k32 hk32 => Run.region ?_
            show Sq _ _ _ [0] _ _ _ _
            refine Sg 0 rfl rfl rfl <| Sq.nil <| hk32 _ _ <| Run.ret ?_
            exact J.ends (res_tmp rfl rfl) Takes.nil ⟨false, rfl, fun h => (by cases h), rfl⟩
           ·refine Yp 14 rfl rfl rfl (QP.pick_t rfl rfl rfl) <| Pf 15 rfl rfl rfl rfl <| Sq.nil <| hk31 _ _ <| Run.cond_f rfl <| Run.skip <| hk30 _ _ <| Run.seq fun k33 hk33 => Run.seq fun k34 hk34 => Run.region ?_
            show Sq _ _ _ [0, 1, 2] _ _ _ _
            refine Fa 0 rfl rfl rfl f25_0 <| Qq 1 rfl rfl (QR.load1 rfl rfl g4 (Rtt.sub_on_ _)) ?_
            refine J.caseB (fun c71 => ?_) (fun c71 => ?_)
            ·refine Qp 2 rfl rfl (QP.not rfl rfl) <| Sq.nil <| hk34 _ _ <| Run.cond_f rfl <| Run.skip <| hk33 _ _ <| Run.seq fun k35 hk35 => Run.region ?_
             show Sq _ _ _ [0, 1, 2, 3, 4, 5, 6, 7, 8, 9, 10, 11, 12, 13, 14, 15, 16, 17, 18, 19, 20, 21, 22, 23, 24, 25] _ _ _ _
             refine Fa 0 rfl rfl rfl f25_1 <| Qq 1 rfl rfl (QR.load1 rfl rfl g3 (Rtt.sub_min _)) ?_
             refine Ef 2 rfl rfl (EF.call rfl ce38 rfl Takes.nil (fun F' hle hr => rin_spec F' (((x).rtt).min) (0) (1000000))) ?_
             rintro _ _ ⟨_, ⟨rfl, rfl⟩, rfl⟩
             refine J.app ?_
             refine J.caseB (fun c78 => ?_) (fun c78 => ?_)
             ·refine Mv 3 rfl rfl rfl <| Yf 4 rfl rfl rfl rfl f25_2 <| Yq 5 rfl rfl rfl (QR.load1 rfl rfl g3 (Rtt.sub_max _)) ?_
              refine Yf 6 rfl rfl rfl rfl f25_1 <| Yq 7 rfl rfl rfl (QR.load1 rfl rfl g3 (Rtt.sub_min _)) ?_
              refine Yp 8 rfl rfl rfl (QP.gtr rfl rfl rfl) <| J.caseD (fun c84 => ?_) (fun c84 => ?_)
              ·refine Pt 9 rfl rfl rfl rfl <| Mv 10 rfl rfl rfl <| Yf 11 rfl rfl rfl rfl f25_2 <| Yq 12 rfl rfl rfl (QR.load1 rfl rfl g3 (Rtt.sub_max _)) ?_
               refine Yp 13 rfl rfl rfl (QP.leq rfl rfl rfl) <| J.caseD (fun c89 => ?_) (fun c89 => ?_)
               ·refine Pt 14 rfl rfl rfl rfl <| Mv 15 rfl rfl rfl <| Yf 16 rfl rfl rfl rfl f25_3 <| Yq 17 rfl rfl rfl (QR.load1 rfl rfl g3 (Rtt.sub_cost _)) ?_
                refine Ye 18 rfl rfl rfl (EF.call rfl ce38 rfl Takes.nil (fun F' hle hr => rin_spec F' (((x).rtt).cost) (1) (65534))) ?_
                rintro _ _ ⟨_, ⟨rfl, rfl⟩, rfl⟩
                refine J.app ?_
                refine J.caseB (fun c94 => ?_) (fun c94 => ?_)
                ·refine Pt 19 rfl rfl rfl rfl <| Mv 20 rfl rfl rfl <| Yf 21 rfl rfl rfl rfl f25_4 <| Yq 22 rfl rfl rfl (QR.load1 rfl rfl g3 (Rtt.sub_decay _)) ?_
                 refine Ye 23 rfl rfl rfl (EF.call rfl ce38 rfl Takes.nil (fun F' hle hr => rin_spec F' (((x).rtt).decay) (1) (256))) ?_
                 rintro _ _ ⟨_, ⟨rfl, rfl⟩, rfl⟩
                 refine J.app ?_
                 refine Pt 24 rfl rfl rfl rfl <| Sg 25 rfl rfl rfl <| Sq.nil <| hk35 _ _ <| Run.ret ?_
                 exact J.ends (res_tmp rfl rfl) Takes.nil ⟨_, rfl, fun h => { kind := by omega, cost := inB_iff.1 c23, mtu := inB_iff.1 c29, hello := inB_iff.1 c34, update := inB_iff.1 c39, hello10 := by omega, update10 := by omega, addr := hl56 (by simpa using c56), addr4 := .inr (by omega), rtt := .inr ⟨(inB_iff.1 c78).1, by omega, by omega, inB_iff.1 c94, inB_iff.1 h⟩ }, rfl⟩
                ·refine Pt 19 rfl rfl rfl rfl <| Mv 20 rfl rfl rfl <| Sk 21 rfl rfl rfl <| Sk 22 rfl rfl rfl <| Sk 23 rfl rfl rfl <| Pf 24 rfl rfl rfl rfl <| Sg 25 rfl rfl rfl <| Sq.nil <| hk35 _ _ <| Run.ret ?_
                 exact J.ends (res_tmp rfl rfl) Takes.nil ⟨false, rfl, fun h => (by cases h), rfl⟩
               ·refine Pt 14 rfl rfl rfl rfl <| Mv 15 rfl rfl rfl <| Sk 16 rfl rfl rfl <| Sk 17 rfl rfl rfl <| Sk 18 rfl rfl rfl <| Pf 19 rfl rfl rfl rfl <| Mv 20 rfl rfl rfl <| Sk 21 rfl rfl rfl <| Sk 22 rfl rfl rfl <| Sk 23 rfl rfl rfl <| Pf 24 rfl rfl rfl rfl <| Sg 25 rfl rfl rfl <| Sq.nil <| hk35 _ _ <| Run.ret ?_
                exact J.ends (res_tmp rfl rfl) Takes.nil ⟨false, rfl, fun h => (by cases h), rfl⟩
              ·refine Pt 9 rfl rfl rfl rfl <| Mv 10 rfl rfl rfl <| Sk 11 rfl rfl rfl <| Sk 12 rfl rfl rfl <| Sk 13 rfl rfl rfl <| Pf 14 rfl rfl rfl rfl <| Mv 15 rfl rfl rfl <| Sk 16 rfl rfl rfl <| Sk 17 rfl rfl rfl <| Sk 18 rfl rfl rfl <| Pf 19 rfl rfl rfl rfl <| Mv 20 rfl rfl rfl <| Sk 21 rfl rfl rfl <| Sk 22 rfl rfl rfl <| Sk 23 rfl rfl rfl <| Pf 24 rfl rfl rfl rfl <| Sg 25 rfl rfl rfl <| Sq.nil <| hk35 _ _ <| Run.ret ?_
               exact J.ends (res_tmp rfl rfl) Takes.nil ⟨false, rfl, fun h => (by cases h), rfl⟩
             ·refine Mv 3 rfl rfl rfl <| Sk 4 rfl rfl rfl <| Sk 5 rfl rfl rfl <| Sk 6 rfl rfl rfl <| Sk 7 rfl rfl rfl <| Sk 8 rfl rfl rfl <| Pf 9 rfl rfl rfl rfl <| Mv 10 rfl rfl rfl <| Sk 11 rfl rfl rfl <| Sk 12 rfl rfl rfl <| Sk 13 rfl rfl rfl <| Pf 14 rfl rfl rfl rfl <| Mv 15 rfl rfl rfl <| Sk 16 rfl rfl rfl <| Sk 17 rfl rfl rfl <| Sk 18 rfl rfl rfl <| Pf 19 rfl rfl rfl rfl <| Mv 20 rfl rfl rfl <| Sk 21 rfl rfl rfl <| Sk 22 rfl rfl rfl <| Sk 23 rfl rfl rfl <| Pf 24 rfl rfl rfl rfl <| Sg 25 rfl rfl rfl <| Sq.nil <| hk35 _ _ <| Run.ret ?_
              exact J.ends (res_tmp rfl rfl) Takes.nil ⟨false, rfl, fun h => (by cases h), rfl⟩
            ·refine Qp 2 rfl rfl (QP.not rfl rfl) <| Sq.nil <| hk34 _ _ <| Run.cond_t rfl <| Run.seq fun k36 hk36 => Run.region ?_
             show Sq _ _ _ [0, 1, 2, 3] _ _ _ _
             refine Qq 0 rfl rfl (QR.load rfl rfl g25 (Rtt.enc_sub _)) ?_
             refine Qp 1 rfl rfl (QP.build (l := Rtt.enc Rtt.zero) rfl st25 rfl (by exact trivial) rfl) <| Qp 2 rfl rfl (QP.eql_agg eq25 rfl rfl rfl) <| Sg 3 rfl rfl rfl <| Sq.nil <| hk36 _ _ <| Run.ret ?_
             exact J.ends (res_tmp rfl rfl) Takes.nil ⟨_, rfl, fun h => { kind := by omega, cost := inB_iff.1 c23, mtu := inB_iff.1 c29, hello := inB_iff.1 c34, update := inB_iff.1 c39, hello10 := by omega, update10 := by omega, addr := hl56 (by simpa using c56), addr4 := .inr (by omega), rtt := .inl (of_decide_eq_true h) }, rfl⟩
          ·refine Ym 9 rfl rfl rfl rfl <| Sk 10 rfl rfl rfl <| Sk 11 rfl rfl rfl <| Sk 12 rfl rfl rfl <| Sk 13 rfl rfl rfl <| Yp 14 rfl rfl rfl (QP.pick_f rfl rfl rfl) <| Pf 15 rfl rfl rfl rfl <| Sq.nil <| hk31 _ _ <| Run.cond_f rfl <| Run.skip <| hk30 _ _ <| Run.seq fun k37 hk37 => Run.seq fun k38 hk38 => Run.region ?_
           show Sq _ _ _ [0, 1, 2] _ _ _ _
           refine Fa 0 rfl rfl rfl f25_0 <| Qq 1 rfl rfl (QR.load1 rfl rfl g4 (Rtt.sub_on_ _)) ?_
           refine J.caseB (fun c71 => ?_) (fun c71 => ?_)
           ·refine Qp 2 rfl rfl (QP.not rfl rfl) <| Sq.nil <| hk38 _ _ <| Run.cond_f rfl <| Run.skip <| hk37 _ _ <| Run.seq fun k39 hk39 => Run.region ?_
            show Sq _ _ _ [0, 1, 2, 3, 4, 5, 6, 7, 8, 9, 10, 11, 12, 13, 14, 15, 16, 17, 18, 19, 20, 21, 22, 23, 24, 25] _ _ _ _
            refine Fa 0 rfl rfl rfl f25_1 <| Qq 1 rfl rfl (QR.load1 rfl rfl g3 (Rtt.sub_min _)) ?_
            refine Ef 2 rfl rfl (EF.call rfl ce38 rfl Takes.nil (fun F' hle hr => rin_spec F' (((x).rtt).min) (0) (1000000))) ?_
            rintro _ _ ⟨_, ⟨rfl, rfl⟩, rfl⟩
            refine J.app ?_
            refine J.caseB (fun c78 => ?_) (fun c78 => ?_)
            ·refine Mv 3 rfl rfl rfl <| Yf 4 rfl rfl rfl rfl f25_2 <| Yq 5 rfl rfl rfl (QR.load1 rfl rfl g3 (Rtt.sub_max _)) ?_
             refine Yf 6 rfl rfl rfl rfl f25_1 <| Yq 7 rfl rfl rfl (QR.load1 rfl rfl g3 (Rtt.sub_min _)) ?_
             refine Yp 8 rfl rfl rfl (QP.gtr rfl rfl rfl) <| J.caseD (fun c84 => ?_) (fun c84 => ?_)
             ·refine Pt 9 rfl rfl rfl rfl <| Mv 10 rfl rfl rfl <| Yf 11 rfl rfl rfl rfl f25_2 <| Yq 12 rfl rfl rfl (QR.load1 rfl rfl g3 (Rtt.sub_max _)) ?_
              refine Yp 13 rfl rfl rfl (QP.leq rfl rfl rfl) <| J.caseD (fun c89 => ?_) (fun c89 => ?_)
              ·refine Pt 14 rfl rfl rfl rfl <| Mv 15 rfl rfl rfl <| Yf 16 rfl rfl rfl rfl f25_3 <| Yq 17 rfl rfl rfl (QR.load1 rfl rfl g3 (Rtt.sub_cost _)) ?_
               refine Ye 18 rfl rfl rfl (EF.call rfl ce38 rfl Takes.nil (fun F' hle hr => rin_spec F' (((x).rtt).cost) (1) (65534))) ?_
               rintro _ _ ⟨_, ⟨rfl, rfl⟩, rfl⟩
               refine J.app ?_
               refine J.caseB (fun c94 => ?_) (fun c94 => ?_)
               ·refine Pt 19 rfl rfl rfl rfl <| Mv 20 rfl rfl rfl <| Yf 21 rfl rfl rfl rfl f25_4 <| Yq 22 rfl rfl rfl (QR.load1 rfl rfl g3 (Rtt.sub_decay _)) ?_
                refine Ye 23 rfl rfl rfl (EF.call rfl ce38 rfl Takes.nil (fun F' hle hr => rin_spec F' (((x).rtt).decay) (1) (256))) ?_
                rintro _ _ ⟨_, ⟨rfl, rfl⟩, rfl⟩
                refine J.app ?_
                refine Pt 24 rfl rfl rfl rfl <| Sg 25 rfl rfl rfl <| Sq.nil <| hk39 _ _ <| Run.ret ?_
                exact J.ends (res_tmp rfl rfl) Takes.nil ⟨_, rfl, fun h => { kind := by omega, cost := inB_iff.1 c23, mtu := inB_iff.1 c29, hello := inB_iff.1 c34, update := inB_iff.1 c39, hello10 := by omega, update10 := by omega, addr := hl56 (by simpa using c56), addr4 := .inl (Classical.not_not.1 c62), rtt := .inr ⟨(inB_iff.1 c78).1, by omega, by omega, inB_iff.1 c94, inB_iff.1 h⟩ }, rfl⟩
               ·refine Pt 19 rfl rfl rfl rfl <| Mv 20 rfl rfl rfl <| Sk 21 rfl rfl rfl <| Sk 22 rfl rfl rfl <| Sk 23 rfl rfl rfl <| Pf 24 rfl rfl rfl rfl <| Sg 25 rfl rfl rfl <| Sq.nil <| hk39 _ _ <| Run.ret ?_
                exact J.ends (res_tmp rfl rfl) Takes.nil ⟨false, rfl, fun h => (by cases h), rfl⟩
              ·refine Pt 14 rfl rfl rfl rfl <| Mv 15 rfl rfl rfl <| Sk 16 rfl rfl rfl <| Sk 17 rfl rfl rfl <| Sk 18 rfl rfl rfl <| Pf 19 rfl rfl rfl rfl <| Mv 20 rfl rfl rfl <| Sk 21 rfl rfl rfl <| Sk 22 rfl rfl rfl <| Sk 23 rfl rfl rfl <| Pf 24 rfl rfl rfl rfl <| Sg 25 rfl rfl rfl <| Sq.nil <| hk39 _ _ <| Run.ret ?_
               exact J.ends (res_tmp rfl rfl) Takes.nil ⟨false, rfl, fun h => (by cases h), rfl⟩
             ·refine Pt 9 rfl rfl rfl rfl <| Mv 10 rfl rfl rfl <| Sk 11 rfl rfl rfl <| Sk 12 rfl rfl rfl <| Sk 13 rfl rfl rfl <| Pf 14 rfl rfl rfl rfl <| Mv 15 rfl rfl rfl <| Sk 16 rfl rfl rfl <| Sk 17 rfl rfl rfl <| Sk 18 rfl rfl rfl <| Pf 19 rfl rfl rfl rfl <| Mv 20 rfl rfl rfl <| Sk 21 rfl rfl rfl <| Sk 22 rfl rfl rfl <| Sk 23 rfl rfl rfl <| Pf 24 rfl rfl rfl rfl <| Sg 25 rfl rfl rfl <| Sq.nil <| hk39 _ _ <| Run.ret ?_
              exact J.ends (res_tmp rfl rfl) Takes.nil ⟨false, rfl, fun h => (by cases h), rfl⟩
            ·refine Mv 3 rfl rfl rfl <| Sk 4 rfl rfl rfl <| Sk 5 rfl rfl rfl <| Sk 6 rfl rfl rfl <| Sk 7 rfl rfl rfl <| Sk 8 rfl rfl rfl <| Pf 9 rfl rfl rfl rfl <| Mv 10 rfl rfl rfl <| Sk 11 rfl rfl rfl <| Sk 12 rfl rfl rfl <| Sk 13 rfl rfl rfl <| Pf 14 rfl rfl rfl rfl <| Mv 15 rfl rfl rfl <| Sk 16 rfl rfl rfl <| Sk 17 rfl rfl rfl <| Sk 18 rfl rfl rfl <| Pf 19 rfl rfl rfl rfl <| Mv 20 rfl rfl rfl <| Sk 21 rfl rfl rfl <| Sk 22 rfl rfl rfl <| Sk 23 rfl rfl rfl <| Pf 24 rfl rfl rfl rfl <| Sg 25 rfl rfl rfl <| Sq.nil <| hk39 _ _ <| Run.ret ?_
             exact J.ends (res_tmp rfl rfl) Takes.nil ⟨false, rfl, fun h => (by cases h), rfl⟩
           ·refine Qp 2 rfl rfl (QP.not rfl rfl) <| Sq.nil <| hk38 _ _ <| Run.cond_t rfl <| Run.seq fun k40 hk40 => Run.region ?_
            show Sq _ _ _ [0, 1, 2, 3] _ _ _ _
            refine Qq 0 rfl rfl (QR.load rfl rfl g25 (Rtt.enc_sub _)) ?_
            refine Qp 1 rfl rfl (QP.build (l := Rtt.enc Rtt.zero) rfl st25 rfl (by exact trivial) rfl) <| Qp 2 rfl rfl (QP.eql_agg eq25 rfl rfl rfl) <| Sg 3 rfl rfl rfl <| Sq.nil <| hk40 _ _ <| Run.ret ?_
            exact J.ends (res_tmp rfl rfl) Takes.nil ⟨_, rfl, fun h => { kind := by omega, cost := inB_iff.1 c23, mtu := inB_iff.1 c29, hello := inB_iff.1 c34, update := inB_iff.1 c39, hello10 := by omega, update10 := by omega, addr := hl56 (by simpa using c56), addr4 := .inl (Classical.not_not.1 c62), rtt := .inl (of_decide_eq_true h) }, rfl⟩
         ·refine Qp 3 rfl rfl (QP.not rfl rfl) <| Mv 4 rfl rfl rfl <| Sk 5 rfl rfl rfl <| Sk 6 rfl rfl rfl <| Sk 7 rfl rfl rfl <| Sk 8 rfl rfl rfl <| Sk 9 rfl rfl rfl <| Sq.skip (i := 10) rfl (Want.undef rfl rfl rfl) rfl (ltN rfl) ?_
          refine Sq.skip (i := 11) rfl (Want.undef rfl rfl rfl) rfl (ltN rfl) ?_
          refine Sq.skip (i := 12) rfl (Want.undef rfl rfl rfl) rfl (ltN rfl) ?_
          refine Sq.skip (i := 13) rfl (Want.undef rfl rfl rfl) rfl (ltN rfl) ?_
          refine Sk 14 rfl rfl rfl <| Pt 15 rfl rfl rfl rfl <| Sq.nil <| hk31 _ _ <| Run.cond_t rfl <| Run.seq fun k41 hk41 => Run.region ?_
          show Sq _ _ _ [0] _ _ _ _
          refine Sg 0 rfl rfl rfl <| Sq.nil <| hk41 _ _ <| Run.ret ?_
          exact J.ends (res_tmp rfl rfl) Takes.nil ⟨false, rfl, fun h => (by cases h), rfl⟩
      ·refine Yp 8 rfl rfl rfl (QP.not rfl rfl) <| Pf 9 rfl rfl rfl rfl <| Mv 10 rfl rfl rfl <| Sk 11 rfl rfl rfl <| Sk 12 rfl rfl rfl <| Sk 13 rfl rfl rfl <| Sk 14 rfl rfl rfl <| Pt 15 rfl rfl rfl rfl <| Mv 16 rfl rfl rfl <| Sk 17 rfl rfl rfl <| Sk 18 rfl rfl rfl <| Sk 19 rfl rfl rfl <| Sk 20 rfl rfl rfl <| Pt 21 rfl rfl rfl rfl <| Sq.nil <| hk27 _ _ <| Run.cond_t rfl <| Run.seq fun k42 hk42 => Run.region ?_
       show Sq _ _ _ [0] _ _ _ _
       refine Sg 0 rfl rfl rfl <| Sq.nil <| hk42 _ _ <| Run.ret ?_
       exact J.ends (res_tmp rfl rfl) Takes.nil ⟨false, rfl, fun h => (by cases h), rfl⟩
     ·refine Qp 3 rfl rfl (QP.not rfl rfl) <| Mv 4 rfl rfl rfl <| Sk 5 rfl rfl rfl <| Sk 6 rfl rfl rfl <| Sk 7 rfl rfl rfl <| Sk 8 rfl rfl rfl <| Pt 9 rfl rfl rfl rfl <| Mv 10 rfl rfl rfl <| Sk 11 rfl rfl rfl <| Sk 12 rfl rfl rfl <| Sk 13 rfl rfl rfl <| Sk 14 rfl rfl rfl <| Pt 15 rfl rfl rfl rfl <| Mv 16 rfl rfl rfl <| Sk 17 rfl rfl rfl <| Sk 18 rfl rfl rfl <| Sk 19 rfl rfl rfl <| Sk 20 rfl rfl rfl <| Pt 21 rfl rfl rfl rfl <| Sq.nil <| hk27 _ _ <| Run.cond_t rfl <| Run.seq fun k43 hk43 => Run.region ?_
      show Sq _ _ _ [0] _ _ _ _
      refine Sg 0 rfl rfl rfl <| Sq.nil <| hk43 _ _ <| Run.ret ?_
      exact J.ends (res_tmp rfl rfl) Takes.nil ⟨false, rfl, fun h => (by cases h), rfl⟩
    ·refine Yp 24 rfl rfl rfl (QP.not rfl rfl) <| Pf 25 rfl rfl rfl rfl <| Sq.nil <| hk4 _ _ <| Run.cond_t rfl <| Run.seq fun k44 hk44 => Run.region ?_
     show Sq _ _ _ [0] _ _ _ _
     refine Sg 0 rfl rfl rfl <| Sq.nil <| hk44 _ _ <| Run.ret ?_
     exact J.ends (res_tmp rfl rfl) Takes.nil ⟨false, rfl, fun h => (by cases h), rfl⟩
   ·refine Yp 18 rfl rfl rfl (QP.not rfl rfl) <| Pf 19 rfl rfl rfl rfl <| Mv 20 rfl rfl rfl <| Sk 21 rfl rfl rfl <| Sk 22 rfl rfl rfl <| Sk 23 rfl rfl rfl <| Sk 24 rfl rfl rfl <| Pt 25 rfl rfl rfl rfl <| Sq.nil <| hk4 _ _ <| Run.cond_t rfl <| Run.seq fun k45 hk45 => Run.region ?_
    show Sq _ _ _ [0] _ _ _ _
    refine Sg 0 rfl rfl rfl <| Sq.nil <| hk45 _ _ <| Run.ret ?_
    exact J.ends (res_tmp rfl rfl) Takes.nil ⟨false, rfl, fun h => (by cases h), rfl⟩
 ·refine Qp 3 rfl rfl (QP.not rfl rfl) <| Mv 4 rfl rfl rfl <| Sk 5 rfl rfl rfl <| Sk 6 rfl rfl rfl <| Sk 7 rfl rfl rfl <| Sk 8 rfl rfl rfl <| Sq.skip (i := 9) rfl (Want.undef rfl rfl rfl) rfl (ltN rfl) ?_
  refine Sq.skip (i := 10) rfl (Want.undef rfl rfl rfl) rfl (ltN rfl) ?_
  refine Sq.skip (i := 11) rfl (Want.undef rfl rfl rfl) rfl (ltN rfl) ?_
  refine Sk 12 rfl rfl rfl <| Pt 13 rfl rfl rfl rfl <| Mv 14 rfl rfl rfl <| Sk 15 rfl rfl rfl <| Sk 16 rfl rfl rfl <| Sk 17 rfl rfl rfl <| Sk 18 rfl rfl rfl <| Pt 19 rfl rfl rfl rfl <| Mv 20 rfl rfl rfl <| Sk 21 rfl rfl rfl <| Sk 22 rfl rfl rfl <| Sk 23 rfl rfl rfl <| Sk 24 rfl rfl rfl <| Pt 25 rfl rfl rfl rfl <| Sq.nil <| hk4 _ _ <| Run.cond_t rfl <| Run.seq fun k46 hk46 => Run.region ?_
  show Sq _ _ _ [0] _ _ _ _
  refine Sg 0 rfl rfl rfl <| Sq.nil <| hk46 _ _ <| Run.ret ?_
  exact J.ends (res_tmp rfl rfl) Takes.nil ⟨false, rfl, fun h => (by cases h), rfl⟩

def id1 : Bs 8 := ⟨[0, 0, 0, 0, 0, 0, 0, 1], rfl⟩
def conf1 (b off c : Nat) : Config := ⟨id1, ⟨some ⟨b, off, none⟩, 1, c⟩, Slc.zero, Slc.zero, 1, 1, 1, 1⟩

theorem rcheckC_spec (F : Fr) {b off c : Nat} {x : IfConf} (hb : ArgSl F (some ⟨b, off, none⟩) 43 IfConf.enc [x]) : Spec Try.prog 20 #[.agg (Config.enc (conf1 b off c)).toArray] [] F (fun v S => ∃ n, v = .int .i64 n ∧ (n = 0 → IfOk x) ∧ S = []) := by
 obtain ⟨b9, o9, e9, hb1⟩ := hb.get (by simp)
 cases e9
 refine Spec.intro (N := 151) (args := [.agg (Config.enc (conf1 b off c)).toArray]) Try.func20 rfl rfl (by simp) ?_
 refine Run.seq fun k1 hk1 => Run.region ?_
 show Sq _ _ _ [0, 1] _ _ _ _
 refine Ef 0 rfl rfl (EF.boxA rfl rfl) ?_
 rintro _ _ ⟨b1, rfl, rfl⟩
 refine Sg 1 rfl rfl rfl <| Sq.nil <| hk1 _ _ <| Run.seq fun k2 hk2 => Run.seq fun k3 hk3 => Run.region ?_
 show Sq _ _ _ [0, 1, 2, 3, 4, 5, 6, 7, 8] _ _ _ _
 refine Fa 0 rfl rfl rfl f68_0 <| Qq 1 rfl rfl (QR.load rfl rfl g39 (Config.sub_id_ _)) ?_
 refine Qp 2 rfl rfl (QP.const (.agg (Bs.enc (⟨[0, 0, 0, 0, 0, 0, 0, 0], rfl⟩ : Bs 8)).toArray) (fun _ _ => by kernel_rfl)) <| Qp 3 rfl rfl (QP.eql_agg eq39 rfl rfl rfl) <| J.decF (by show ¬ id1 = _; decide) ?_
 refine Mv 4 rfl rfl rfl <| Yf 5 rfl rfl rfl rfl f68_0 <| Yq 6 rfl rfl rfl (QR.load rfl rfl g39 (Config.sub_id_ _)) ?_
 refine Ye 7 rfl rfl rfl (EF.call rfl ce34 rfl Takes.nil (fun F' hle hr => rfull_spec F' (((conf1 b off c)).id_))) ?_
 rintro _ _ ⟨_, ⟨r16, rfl, hfu16, rfl⟩, rfl⟩
 refine J.app ?_
 refine J.caseB (fun c16 => ?_) (fun c16 => ?_)
 ·refine Pf 8 rfl rfl rfl rfl <| Sq.nil <| hk3 _ _ <| Run.cond_t rfl <| Run.seq fun k4 hk4 => Run.region ?_
  show Sq _ _ _ [0] _ _ _ _
  refine Sg 0 rfl rfl rfl <| Sq.nil <| hk4 _ _ <| Run.ret ?_
  exact J.ends (res_tmp rfl rfl) Takes.nil ⟨91, rfl, fun h => absurd h (by decide), rfl⟩
 ·refine Pf 8 rfl rfl rfl rfl <| Sq.nil <| hk3 _ _ <| Run.cond_f rfl <| Run.skip <| hk2 _ _ <| Run.seq fun k5 hk5 => Run.seq fun k6 hk6 => Run.region ?_
  show Sq _ _ _ [0, 1, 2, 3] _ _ _ _
  refine Fa 0 rfl rfl rfl f68_1 <| Qq 1 rfl rfl (QR.load1 rfl rfl g29 (Config.sub_ifs _)) ?_
  refine Qp 2 rfl rfl (QP.len rfl rfl rfl Try.underlying29) <| Qp 3 rfl rfl (QP.eql rfl rfl rfl) <| J.decF (by show ¬ ((1 : Nat) : Int) = 0; decide) ?_
  refine Sq.nil <| hk6 _ _ <| Run.cond_f rfl <| Run.skip <| hk5 _ _ <| Run.seq fun k7 hk7 => Run.seq fun k8 hk8 => Run.region ?_
  show Sq _ _ _ [0, 1, 2, 3, 4, 5, 6, 7, 8, 9, 10, 11, 12, 13, 14, 15] _ _ _ _
  refine Fa 0 rfl rfl rfl f68_1 <| Qq 1 rfl rfl (QR.load1 rfl rfl g29 (Config.sub_ifs _)) ?_
  refine Qp 2 rfl rfl (QP.len rfl rfl rfl Try.underlying29) <| Qp 3 rfl rfl (QP.gtr rfl rfl rfl) <| J.decF (by show ¬ (16 : Int) < ((1 : Nat) : Int); decide) ?_
  refine Mv 4 rfl rfl rfl <| Yf 5 rfl rfl rfl rfl f68_2 <| Yq 6 rfl rfl rfl (QR.load1 rfl rfl g65 (Config.sub_rules _)) ?_
  refine Yp 7 rfl rfl rfl (QP.len rfl rfl rfl Try.underlying65) <| Yp 8 rfl rfl rfl (QP.gtr rfl rfl rfl) <| J.decF (by show ¬ (256 : Int) < ((0 : Nat) : Int); decide) ?_
  refine Pf 9 rfl rfl rfl rfl <| Mv 10 rfl rfl rfl <| Yf 11 rfl rfl rfl rfl f68_3 <| Yq 12 rfl rfl rfl (QR.load1 rfl rfl g66 (Config.sub_locals _)) ?_
  refine Yp 13 rfl rfl rfl (QP.len rfl rfl rfl Try.underlying66) <| Yp 14 rfl rfl rfl (QP.gtr rfl rfl rfl) <| J.decF (by show ¬ (256 : Int) < ((0 : Nat) : Int); decide) ?_
  refine Pf 15 rfl rfl rfl rfl <| Sq.nil <| hk8 _ _ <| Run.cond_f rfl <| Run.skip <| hk7 _ _ <| Run.seq fun k9 hk9 => Run.seq fun k10 hk10 => Run.region ?_
  show Sq _ _ _ [0] _ _ _ _
  refine Sg 0 rfl rfl rfl <| Sq.nil <| hk10 _ _ <| Run.block <| Run.loop1 (fun (i : Nat) => i ≤ 1 ∧ (0 < i → IfOk x)) (fun i => .cons 1 (.pointer (some ⟨b1, 0, none⟩)) (.cons 3 (.int .i64 i) (.nil))) (fun i => [blk b1 (Config.enc (conf1 b off c)) 68]) (fun i => 1 - i) (0) (⟨Nat.zero_le _, fun h => absurd h (by omega)⟩) ?_ ?_
  ·exact fun _ j => J.envJ (J.keep Tk1 j) ⟨rfl, rfl, trivial⟩
  rintro i ⟨hile, hok⟩ kl11 hl11
  refine Run.seq fun k12 hk12 => Run.seq fun k13 hk13 => Run.region ?_
  show Sq _ _ _ [0, 1, 2, 3, 4] _ _ _ _
  refine Mv 0 rfl rfl rfl <| Fa 1 rfl rfl rfl f68_1 <| Qq 2 rfl rfl (QR.load1 rfl rfl g29 (Config.sub_ifs _)) ?_
  refine Qp 3 rfl rfl (QP.len rfl rfl rfl Try.underlying29) <| Qp 4 rfl rfl (QP.lss rfl rfl rfl) <| J.caseD (fun c42 => ?_) (fun c42 => ?_)
  ·refine Sq.nil <| hk13 _ _ <| Run.cond_t rfl <| Run.skip <| hk12 _ _ <| Run.seq fun k14 hk14 => Run.block <| Run.seq fun k15 hk15 => Run.seq fun k16 hk16 => Run.region ?_
   show Sq _ _ _ [0, 1, 2, 3, 4, 5, 6] _ _ _ _
   obtain rfl : i = 0 := by have : (i : Int) < ((1 : Nat) : Int) := c42; omega
   have hi : [x][Int.toNat ((0 : Nat) : Int)]? = some x := rfl
   refine Fa 0 rfl rfl rfl f68_1 <| Qq 1 rfl rfl (QR.load1 rfl rfl g29 (Config.sub_ifs _)) ?_
   refine Mv 2 rfl rfl rfl <| Qp 3 rfl rfl (QP.indexAddr rfl rfl rfl Try.underlying29 z27 Og Og) <| Qq 4 rfl rfl (QR.loadSl rfl rfl g27 IfConf.enc_len (hb1 _) hi) ?_
   refine Ef 5 rfl rfl (EF.call rfl ce35 rfl Takes.nil (fun F' hle hr => riface_spec F' (x))) ?_
   rintro _ _ ⟨_, ⟨r50, rfl, hif50, rfl⟩, rfl⟩
   refine J.app ?_
   refine J.caseB (fun c50 => ?_) (fun c50 => ?_)
   ·refine Qp 6 rfl rfl (QP.not rfl rfl) <| Sq.nil <| hk16 _ _ <| Run.cond_f rfl <| Run.skip <| hk15 _ _ <| Run.seq fun k17 hk17 => Run.region ?_
    show Sq _ _ _ [0] _ _ _ _
    refine Sg 0 rfl rfl rfl <| Sq.nil <| hk17 _ _ <| Run.block <| Run.loop1 (fun (u : Unit) => True) (fun u => .cons 1 (.pointer (some ⟨b1, 0, none⟩)) (.cons 3 (.int .i64 ((0 : Nat) : Int)) (.cons 4 (.int .i64 0) (.nil)))) (fun u => [blk b1 (Config.enc (conf1 b off c)) 68]) (fun u => 0) (()) (trivial) ?_ ?_
    ·exact fun _ j => J.envJ (J.keep Tk1 j) ⟨rfl, rfl, rfl, trivial⟩
    rintro u _ kl18 hl18
    refine Run.seq fun k19 hk19 => Run.seq fun k20 hk20 => Run.region ?_
    show Sq _ _ _ [0, 1, 2] _ _ _ _
    refine Mv 0 rfl rfl rfl <| Mv 1 rfl rfl rfl <| Qp 2 rfl rfl (QP.lss rfl rfl rfl) <| J.caseD (fun c54 => ?_) (fun c54 => ?_)
    ·refine Sq.nil <| hk20 _ _ <| Run.cond_t rfl <| Run.skip <| hk19 _ _ <| Run.seq fun k21 hk21 => Run.block <| Run.seq fun k22 hk22 => Run.regionD (M := [0, 1, 0, 7, 15, 31, 0, 64, 0, 448, 960, 1984, 4095]) (q := 8191) (r := 2210) Kr ?_
     exact absurd c54 (by omega)
    ·refine Sq.nil <| hk20 _ _ <| Run.cond_f rfl <| Run.exit rfl ?_
     refine hk14 _ _ <| Run.region ?_
     show Sq _ _ _ [0, 1, 2] _ _ _ _
     refine Mv 0 rfl rfl rfl <| Qp 1 rfl rfl (QP.add64 rfl rfl rfl Og Og) <| Sg 2 rfl rfl rfl <| Sq.nil ?_
     exact J.envJ (J.keep Tk1 (hl11 (1) (⟨Nat.le_refl _, fun _ => hif50 (by simpa using c50)⟩) (by omega))) ⟨rfl, rfl, trivial⟩
   ·refine Qp 6 rfl rfl (QP.not rfl rfl) <| Sq.nil <| hk16 _ _ <| Run.cond_t rfl <| Run.seq fun k23 hk23 => Run.region ?_
    show Sq _ _ _ [0] _ _ _ _
    refine Sg 0 rfl rfl rfl <| Sq.nil <| hk23 _ _ <| Run.ret ?_
    exact J.ends (res_tmp rfl rfl) Takes.nil ⟨91, rfl, fun h => absurd h (by decide), rfl⟩
  ·refine Sq.nil <| hk13 _ _ <| Run.cond_f rfl <| Run.exit rfl ?_
   refine hk9 _ _ <| Run.seq fun k24 hk24 => Run.seq fun k25 hk25 => Run.region ?_
   show Sq _ _ _ [0] _ _ _ _
   have hok1 : IfOk x := hok (by have : ¬ (i : Int) < ((1 : Nat) : Int) := c42; omega)
   refine Sg 0 rfl rfl rfl <| Sq.nil <| hk25 _ _ <| Run.block <| Run.loop1 (fun (u : Unit) => True) (fun u => .cons 1 (.pointer (some ⟨b1, 0, none⟩)) (.cons 5 (.int .i64 0) (.nil))) (fun u => [blk b1 (Config.enc (conf1 b off c)) 68]) (fun u => 0) (()) (trivial) ?_ ?_
   ·exact fun _ j => J.envJ (J.keep Tk1 j) ⟨rfl, rfl, trivial⟩
   rintro u _ kl26 hl26
   refine Run.seq fun k27 hk27 => Run.seq fun k28 hk28 => Run.region ?_
   show Sq _ _ _ [0, 1, 2, 3, 4] _ _ _ _
   refine Mv 0 rfl rfl rfl <| Fa 1 rfl rfl rfl f68_2 <| Qq 2 rfl rfl (QR.load1 rfl rfl g65 (Config.sub_rules _)) ?_
   refine Qp 3 rfl rfl (QP.len rfl rfl rfl Try.underlying65) <| Qp 4 rfl rfl (QP.lss rfl rfl rfl) <| J.caseD (fun c74 => ?_) (fun c74 => ?_)
   ·refine Sq.nil <| hk28 _ _ <| Run.cond_t rfl <| Run.skip <| hk27 _ _ <| Run.seq fun k29 hk29 => Run.block <| Run.seq fun k30 hk30 => Run.region ?_
    show Sq _ _ _ [0, 1, 2, 3, 4, 5, 6] _ _ _ _
    exact absurd c74 (by show ¬ ((0 : Int) < ((0 : Nat) : Int)); decide)
   ·refine Sq.nil <| hk28 _ _ <| Run.cond_f rfl <| Run.exit rfl ?_
    refine hk24 _ _ <| Run.seq fun k31 hk31 => Run.seq fun k32 hk32 => Run.region ?_
    show Sq _ _ _ [0] _ _ _ _
    refine Sg 0 rfl rfl rfl <| Sq.nil <| hk32 _ _ <| Run.block <| Run.loop1 (fun (u : Unit) => True) (fun u => .cons 1 (.pointer (some ⟨b1, 0, none⟩)) (.cons 7 (.int .i64 0) (.nil))) (fun u => [blk b1 (Config.enc (conf1 b off c)) 68]) (fun u => 0) (()) (trivial) ?_ ?_
    ·exact fun _ j => J.envJ (J.keep Tk1 j) ⟨rfl, rfl, trivial⟩
    rintro u _ kl33 hl33
    refine Run.seq fun k34 hk34 => Run.seq fun k35 hk35 => Run.region ?_
    show Sq _ _ _ [0, 1, 2, 3, 4] _ _ _ _
    refine Mv 0 rfl rfl rfl <| Fa 1 rfl rfl rfl f68_3 <| Qq 2 rfl rfl (QR.load1 rfl rfl g66 (Config.sub_locals _)) ?_
    refine Qp 3 rfl rfl (QP.len rfl rfl rfl Try.underlying66) <| Qp 4 rfl rfl (QP.lss rfl rfl rfl) <| J.caseD (fun c90 => ?_) (fun c90 => ?_)
    ·refine Sq.nil <| hk35 _ _ <| Run.cond_t rfl <| Run.skip <| hk34 _ _ <| Run.seq fun k36 hk36 => Run.block <| Run.seq fun k37 hk37 => Run.seq fun k38 hk38 => Run.region ?_
     show Sq _ _ _ [0, 1, 2, 3, 4, 5, 6, 7, 8, 9, 10, 11, 12, 13, 14, 15, 16, 17] _ _ _ _
     exact absurd c90 (by show ¬ ((0 : Int) < ((0 : Nat) : Int)); decide)
    ·refine Sq.nil <| hk35 _ _ <| Run.cond_f rfl <| Run.exit rfl ?_
     refine hk31 _ _ <| Run.seq fun k39 hk39 => Run.seq fun k40 hk40 => Run.region ?_
     show Sq _ _ _ [0, 1, 2, 3, 4, 5, 6, 7, 8, 9, 10, 11, 12, 13, 14, 15, 16, 17, 18, 19, 20, 21] _ _ _ _
     refine Fa 0 rfl rfl rfl f68_4 <| Qq 1 rfl rfl (QR.load1 rfl rfl g3 (Config.sub_neighbours _)) ?_
     refine Ef 2 rfl rfl (EF.call rfl ce38 rfl Takes.nil (fun F' hle hr => rin_spec F' (((conf1 b off c)).neighbours) (1) (4096))) ?_
     rintro _ _ ⟨_, ⟨rfl, rfl⟩, rfl⟩
     refine J.app ?_
     refine J.caseB (fun c131 => ?_) (fun c131 => ?_)
     ·refine Qp 3 rfl rfl (QP.not rfl rfl) <| Mv 4 rfl rfl rfl <| Yf 5 rfl rfl rfl rfl f68_5 <| Yq 6 rfl rfl rfl (QR.load1 rfl rfl g3 (Config.sub_sources _)) ?_
      refine Ye 7 rfl rfl rfl (EF.call rfl ce38 rfl Takes.nil (fun F' hle hr => rin_spec F' (((conf1 b off c)).sources) (1) (4096))) ?_
      rintro _ _ ⟨_, ⟨rfl, rfl⟩, rfl⟩
      refine J.app ?_
      refine J.caseB (fun c136 => ?_) (fun c136 => ?_)
      ·refine Yp 8 rfl rfl rfl (QP.not rfl rfl) <| Pf 9 rfl rfl rfl rfl <| Mv 10 rfl rfl rfl <| Yf 11 rfl rfl rfl rfl f68_6 <| Yq 12 rfl rfl rfl (QR.load1 rfl rfl g3 (Config.sub_routes _)) ?_
       refine Ye 13 rfl rfl rfl (EF.call rfl ce38 rfl Takes.nil (fun F' hle hr => rin_spec F' (((conf1 b off c)).routes) (1) (4096))) ?_
       rintro _ _ ⟨_, ⟨rfl, rfl⟩, rfl⟩
       refine J.app ?_
       refine J.caseB (fun c142 => ?_) (fun c142 => ?_)
       ·refine Yp 14 rfl rfl rfl (QP.not rfl rfl) <| Pf 15 rfl rfl rfl rfl <| Mv 16 rfl rfl rfl <| Yf 17 rfl rfl rfl rfl f68_7 <| Yq 18 rfl rfl rfl (QR.load1 rfl rfl g3 (Config.sub_requests _)) ?_
        refine Ye 19 rfl rfl rfl (EF.call rfl ce38 rfl Takes.nil (fun F' hle hr => rin_spec F' (((conf1 b off c)).requests) (1) (4096))) ?_
        rintro _ _ ⟨_, ⟨rfl, rfl⟩, rfl⟩
        refine J.app ?_
        refine J.caseB (fun c148 => ?_) (fun c148 => ?_)
        ·refine Yp 20 rfl rfl rfl (QP.not rfl rfl) <| Pf 21 rfl rfl rfl rfl <| Sq.nil <| hk40 _ _ <| Run.cond_f rfl <| Run.skip <| hk39 _ _ <| Run.seq fun k41 hk41 => Run.region ?_
         show Sq _ _ _ [0] _ _ _ _
         refine Sg 0 rfl rfl rfl <| Sq.nil <| hk41 _ _ <| Run.ret ?_
         exact J.ends (res_tmp rfl rfl) Takes.nil ⟨0, rfl, fun _ => hok1, rfl⟩
        ·refine Yp 20 rfl rfl rfl (QP.not rfl rfl) <| Pf 21 rfl rfl rfl rfl <| Sq.nil <| hk40 _ _ <| Run.cond_t rfl <| Run.seq fun k42 hk42 => Run.region ?_
         show Sq _ _ _ [0] _ _ _ _
         refine Sg 0 rfl rfl rfl <| Sq.nil <| hk42 _ _ <| Run.ret ?_
         exact J.ends (res_tmp rfl rfl) Takes.nil ⟨91, rfl, fun h => absurd h (by decide), rfl⟩
       ·refine Yp 14 rfl rfl rfl (QP.not rfl rfl) <| Pf 15 rfl rfl rfl rfl <| Mv 16 rfl rfl rfl <| Sk 17 rfl rfl rfl <| Sk 18 rfl rfl rfl <| Sk 19 rfl rfl rfl <| Sk 20 rfl rfl rfl <| Pt 21 rfl rfl rfl rfl <| Sq.nil <| hk40 _ _ <| Run.cond_t rfl <| Run.seq fun k43 hk43 => Run.region ?_
        show Sq _ _ _ [0] _ _ _ _
        refine Sg 0 rfl rfl rfl <| Sq.nil <| hk43 _ _ <| Run.ret ?_
        exact J.ends (res_tmp rfl rfl) Takes.nil ⟨91, rfl, fun h => absurd h (by decide), rfl⟩
      ·refine Yp 8 rfl rfl rfl (QP.not rfl rfl) <| Pf 9 rfl rfl rfl rfl <| Mv 10 rfl rfl rfl <| Sk 11 rfl rfl rfl <| Sk 12 rfl rfl rfl <| Sk 13 rfl rfl rfl <| Sk 14 rfl rfl rfl <| Pt 15 rfl rfl rfl rfl <| Mv 16 rfl rfl rfl <| Sk 17 rfl rfl rfl <| Sk 18 rfl rfl rfl <| Sk 19 rfl rfl rfl <| Sk 20 rfl rfl rfl <| Pt 21 rfl rfl rfl rfl <| Sq.nil <| hk40 _ _ <| Run.cond_t rfl <| Run.seq fun k44 hk44 => Run.region ?_
       show Sq _ _ _ [0] _ _ _ _
       refine Sg 0 rfl rfl rfl <| Sq.nil <| hk44 _ _ <| Run.ret ?_
       exact J.ends (res_tmp rfl rfl) Takes.nil ⟨91, rfl, fun h => absurd h (by decide), rfl⟩
     ·refine Qp 3 rfl rfl (QP.not rfl rfl) <| Mv 4 rfl rfl rfl <| Sk 5 rfl rfl rfl <| Sk 6 rfl rfl rfl <| Sk 7 rfl rfl rfl <| Sk 8 rfl rfl rfl <| Pt 9 rfl rfl rfl rfl <| Mv 10 rfl rfl rfl <| Sk 11 rfl rfl rfl <| Sk 12 rfl rfl rfl <| Sk 13 rfl rfl rfl <| Sk 14 rfl rfl rfl <| Pt 15 rfl rfl rfl rfl <| Mv 16 rfl rfl rfl <| Sk 17 rfl rfl rfl <| Sk 18 rfl rfl rfl <| Sk 19 rfl rfl rfl <| Sk 20 rfl rfl rfl <| Pt 21 rfl rfl rfl rfl <| Sq.nil <| hk40 _ _ <| Run.cond_t rfl <| Run.seq fun k45 hk45 => Run.region ?_
      show Sq _ _ _ [0] _ _ _ _
      refine Sg 0 rfl rfl rfl <| Sq.nil <| hk45 _ _ <| Run.ret ?_
      exact J.ends (res_tmp rfl rfl) Takes.nil ⟨91, rfl, fun h => absurd h (by decide), rfl⟩

theorem may_spec (F : Fr) {cs : List IfConf} {a : Option Addr} {c : Nat} (hi0 : cs.length ≤ 9223372036854775807) (ha : ArgSl F a 43 IfConf.enc cs) (hcap : cs.length ≤ c)  : Spec Try.prog 6 #[.slice a cs.length c] [] F (fun v S => ∃ r, v = .bool r ∧ (r = true → cs.length ≤ 8 ∧ ∀ x ∈ cs, IfOk x) ∧ S = []) := by
 refine Spec.intro (N := 28) (args := [.slice a cs.length c]) Try.func6 rfl rfl (by simp) ?_
 refine Run.seq fun k1 hk1 => Run.region ?_
 show Sq _ _ _ [0] _ _ _ _
 refine Sg 0 rfl rfl rfl <| Sq.nil <| hk1 _ _ <| Run.seq fun k2 hk2 => Run.seq fun k3 hk3 => Run.region ?_
 show Sq _ _ _ [0] _ _ _ _
 refine Sg 0 rfl rfl rfl <| Sq.nil <| hk3 _ _ <| Run.block <| Run.loop1 (fun (i : Nat) => i ≤ cs.length ∧ i ≤ 9 ∧ ∀ x ∈ cs.take i, IfOk x) (fun i => .cons 0 (.slice a cs.length c) (.cons 3 (.int .i64 i) (.nil))) (fun i => []) (fun i => cs.length - i) (0) (⟨Nat.zero_le _, Nat.zero_le _, by simp⟩) ?_ ?_
 ·exact fun _ j => J.envJ (J.keep Takes.nil j) ⟨rfl, rfl, trivial⟩
 rintro i ⟨hile, hi9, hok⟩ kl4 hl4
 refine Run.seq fun k5 hk5 => Run.seq fun k6 hk6 => Run.region ?_
 show Sq _ _ _ [0, 1, 2, 3, 4, 5, 6, 7] _ _ _ _
 refine Mv 0 rfl rfl rfl <| Mv 1 rfl rfl rfl <| Qp 2 rfl rfl (QP.len rfl rfl rfl Try.underlying29) <| Qp 3 rfl rfl (QP.lss rfl rfl rfl) <| J.caseD (fun c8 => ?_) (fun c8 => ?_)
 ·refine Mv 4 rfl rfl rfl <| Ym 5 rfl rfl rfl rfl <| Yp 6 rfl rfl rfl (QP.leq rfl rfl rfl) <| J.caseD (fun c11 => ?_) (fun c11 => ?_)
  ·refine Pt 7 rfl rfl rfl rfl <| Sq.nil <| hk6 _ _ <| Run.cond_t rfl <| Run.skip <| hk5 _ _ <| Run.seq fun k7 hk7 => Run.block <| Run.seq fun k8 hk8 => Run.region ?_
   show Sq _ _ _ [0, 1, 2, 3, 4, 5, 6, 7, 8] _ _ _ _
   obtain ⟨x, hi⟩ : ∃ x, cs[i]? = some x := ⟨_, List.getElem?_eq_getElem (by omega)⟩
   obtain ⟨b0, o0, rfl, hs0⟩ := ha.get (by omega)
   refine Qp 0 rfl rfl (QP.const (.agg (Bs.enc id1).toArray) (fun _ _ => by kernel_rfl)) <| Mv 1 rfl rfl rfl <| Mv 2 rfl rfl rfl <| Mv 3 rfl rfl rfl <| Qp 4 rfl rfl (QP.add64 rfl rfl rfl Og Og) <| Qp 5 rfl rfl (QP.sliceLoHi rfl rfl rfl rfl Try.underlying29 z27 (by omega) (by omega) (by omega)) ?_
   rw [slOff_at (i := Int.toNat ((i : Nat) : Int)) (by show i < c; omega), show (Int.toNat (((i : Nat) : Int) + 1) - Int.toNat ((i : Nat) : Int)) = 1 by omega, show Int.toNat ((i : Nat) : Int) = i by omega]
   refine Qp 6 rfl rfl (QP.build (l := Config.enc (conf1 b0 (o0 + i * 43) (c - i))) rfl st68 rfl (by exact ⟨congrArg some (Bs.len _).symm, ⟨rfl, ⟨rfl, ⟨rfl, ⟨rfl, ⟨rfl, trivial⟩⟩⟩⟩⟩⟩) rfl) <| Ef 7 rfl rfl (EF.allocA (l := Config.enc Config.zero) rfl zero68) ?_
   rintro _ _ ⟨b4, rfl, rfl⟩
   refine Ac 8 rfl (EF.storeA rfl rfl rfl z68 (SetL.all (Config.enc_len _) (Config.enc_len _)) (Config.enc_cell _)) ?_
   rintro _ _ rfl
   refine Sq.nil <| hk8 _ _ <| Run.seq fun k9 hk9 => Run.region ?_
   show Sq _ _ _ [0, 1, 2] _ _ _ _
   refine Qq 0 rfl rfl (QR.load rfl rfl g68 (Config.enc_sub _)) ?_
   refine Ef 1 rfl rfl (EF.call rfl ce20 rfl Takes.nil (fun F' hle hr => rcheckC_spec F' ((ArgSl.one IfConf.enc_len ha hi).mono hle))) ?_
   rintro _ _ ⟨_, ⟨n23, rfl, hn23, rfl⟩, rfl⟩
   refine J.app ?_
   refine Qp 2 rfl rfl (QP.neq rfl rfl rfl) <| J.caseD (fun c24 => ?_) (fun c24 => ?_)
   ·refine Sq.nil <| hk9 _ _ <| Run.cond_t rfl <| Run.seq fun k10 hk10 => Run.region ?_
    show Sq _ _ _ [0] _ _ _ _
    refine Sg 0 rfl rfl rfl <| Sq.nil <| hk10 _ _ <| Run.ret ?_
    exact J.ends (res_tmp rfl rfl) Takes.nil ⟨false, rfl, fun h => (by cases h), rfl⟩
   ·refine Sq.nil <| hk9 _ _ <| Run.cond_f rfl <| Run.skip <| hk7 _ _ <| Run.region ?_
    show Sq _ _ _ [0, 1, 2] _ _ _ _
    refine Mv 0 rfl rfl rfl <| Qp 1 rfl rfl (QP.add64 rfl rfl rfl Og Og) <| Sg 2 rfl rfl rfl <| Sq.nil ?_
    exact J.envJ (J.keep Takes.nil (hl4 (i + 1) (⟨by omega, by omega, take_not hok hi (hn23 (by omega))⟩) (by omega))) ⟨rfl, rfl, trivial⟩
  ·refine Pt 7 rfl rfl rfl rfl <| Sq.nil <| hk6 _ _ <| Run.cond_f rfl <| Run.exit rfl ?_
   refine hk2 _ _ <| Run.seq fun k11 hk11 => Run.region ?_
   show Sq _ _ _ [0, 1, 2, 3] _ _ _ _
   refine Mv 0 rfl rfl rfl <| Qp 1 rfl rfl (QP.len rfl rfl rfl Try.underlying29) <| Qp 2 rfl rfl (QP.leq rfl rfl rfl) <| Sg 3 rfl rfl rfl <| Sq.nil <| hk11 _ _ <| Run.ret ?_
   exact J.ends (res_tmp rfl rfl) Takes.nil ⟨_, rfl, fun h => ⟨by have h9 := of_decide_eq_true h; omega, by have h9 := of_decide_eq_true h; have h8 : cs.take i = cs := List.take_of_length_le (by omega); rw [h8] at hok; exact hok⟩, rfl⟩
 ·refine Mv 4 rfl rfl rfl <| Sk 5 rfl rfl rfl <| Sk 6 rfl rfl rfl <| Pf 7 rfl rfl rfl rfl <| Sq.nil <| hk6 _ _ <| Run.cond_f rfl <| Run.exit rfl ?_
  refine hk2 _ _ <| Run.seq fun k12 hk12 => Run.region ?_
  show Sq _ _ _ [0, 1, 2, 3] _ _ _ _
  refine Mv 0 rfl rfl rfl <| Qp 1 rfl rfl (QP.len rfl rfl rfl Try.underlying29) <| Qp 2 rfl rfl (QP.leq rfl rfl rfl) <| Sg 3 rfl rfl rfl <| Sq.nil <| hk12 _ _ <| Run.ret ?_
  exact J.ends (res_tmp rfl rfl) Takes.nil ⟨_, rfl, fun h => ⟨by have h9 := of_decide_eq_true h; omega, by have h9 := of_decide_eq_true h; have h8 : cs.take i = cs := List.take_of_length_le (by omega); rw [h8] at hok; exact hok⟩, rfl⟩

theorem num14_spec (F : Fr) (a : Int) : Spec Try.prog 9 #[.int .i64 a] [] F (fun v S => v = .int .i64 a ∧ S = []) := by
 refine Spec.intro (N := 4) (args := [.int .i64 a]) Try.func9 rfl rfl (by simp) ?_
 refine Run.seq fun k1 hk1 => Run.region ?_
 show Sq _ _ _ [0] _ _ _ _
 refine Sg 0 rfl rfl rfl <| Sq.nil <| hk1 _ _ <| Run.seq fun k2 hk2 => Run.region ?_
 show Sq _ _ _ [0, 1] _ _ _ _
 refine Mv 0 rfl rfl rfl <| Sg 1 rfl rfl rfl <| Sq.nil <| hk2 _ _ <| Run.ret ?_
 exact J.ends (res_tmp rfl rfl) Takes.nil ⟨rfl, rfl⟩
end Slb
