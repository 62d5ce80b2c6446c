/- J78: a part of the proof that a law of this package holds for every input; no condition. -/
import Derived.Test.YtfokodhfjdhdaaaGreatM2
import Derived.Test.YtfokodhfjdhdaaaGreatJ77
import Derived.Test.YtfokodhfjdhdaaaGreatJ16
namespace Slb
open Go Go.Proofs
set_option maxRecDepth 20000
theorem take_not {α : Type} {L : List α} {i : Nat} {x : α} {q : α → Prop} (h : ∀ y ∈ L.take i, q y) (hi : L[i]? = some x) (hx : q x) : ∀ y ∈ L.take (i + 1), q y := fun y hy => by
 rw [take_succ_get hi] at hy
 rcases List.mem_append.1 hy with hy | hy
 · exact h y hy
 · simp at hy; subst hy; exact hx
def inB (a lo hi : Int) : Bool := decide (lo ≤ a) && decide (a ≤ hi)
theorem inB_iff {a lo hi : Int} : inB a lo hi = true ↔ lo ≤ a ∧ a ≤ hi := by unfold inB; simp

theorem rin_spec (F : Fr) (a lo hi : Int) : Spec Tryz.prog 56 #[.int .i64 a, .int .i64 lo, .int .i64 hi] [] F (fun v S => v = .bool (inB a lo hi) ∧ S = []) := by
 refine Spec.intro (N := 15) (args := [.int .i64 a, .int .i64 lo, .int .i64 hi]) Tryz.func56 rfl rfl (by simp) ?_
 refine Zs fun _ hk1 => Sg 0 E3 <| Zl hk1 <| Zs fun _ hk2 => Mv 0 E3 <| Mv 1 E3 <| Qp 2 E2 (QP.geq rfl rfl rfl) <| J.caseD (fun c9 => ?_) (fun c9 => ?_)
 ·exact Mv 3 E3 <| Ym 4 E4 <| Ym 5 E4 <| Yp 6 E3 (QP.leq rfl rfl rfl) <| Pt 7 E4 <| Sg 8 E3 <| Zl hk2 <| Run.ret <| Je E2 ⟨by simp_all [inB] <;> (intro h; omega), rfl⟩
 ·exact Mv 3 E3 <| Sk 4 E3 <| Sk 5 E3 <| Sk 6 E3 <| Pf 7 E4 <| Sg 8 E3 <| Zl hk2 <| Run.ret <| Je E2 ⟨by simp_all [inB] <;> (intro h; omega), rfl⟩

theorem rname_spec (F : Fr) (s : ByteArray) : Spec Tryz.prog 84 #[.string s] [] F (fun v S => ∃ r, v = .bool r ∧ S = []) := by
 refine Spec.intro (N := 56) (args := [.string s]) Tryz.func84 rfl rfl (by simp) ?_
 refine Zs fun _ hk1 => Sg 0 E3 <| Zl hk1 <| Run.seq fun _ hk2 => Zs fun _ hk3 => Mv 0 E3 <| Qp 1 E2 (QP.eqS rfl rfl rfl) <| J.caseD (fun c6 => ?_) (fun c6 => ?_)
 ·exact Mv 2 E3 <| Sk 3 E3 <| Sk 4 E3 <| Sk 5 E3 <| Pt 6 E4 <| Zl hk3 <| Zt <| Zs fun _ hk4 => Sg 0 E3 <| Zl hk4 <| Run.ret <| Je E2 ⟨_, rfl, rfl⟩
 ·refine Mv 2 E3 <| Ym 3 E4 <| Yp 4 E3 (QP.lenS rfl rfl rfl Tryz.underlying9) <| Yp 5 E3 (QP.gtr rfl rfl rfl) <| J.caseD (fun c10 => ?_) (fun c10 => ?_)
  ·exact Pf 6 E4 <| Zl hk3 <| Zt <| Zs fun _ hk5 => Sg 0 E3 <| Zl hk5 <| Run.ret <| Je E2 ⟨_, rfl, rfl⟩
  ·refine Pf 6 E4 <| Zl hk3 <| Zf <| Run.skip <| hk2 _ _ <| Run.seq fun _ hk6 => Zs fun _ hk7 => Sg 0 E3 <| Zl hk7 <| Run.block <| Run.loop1 (fun (i : Nat) => i ≤ s.size ∧ s.size ≤ 15) (fun i => .cons 0 (.string s) (.cons 3 (.int .i64 i) (.nil))) (fun i => []) (fun i => s.size - i) (0) (⟨Nat.zero_le _, by omega⟩) ?_ ?_
   ·exact fun _ j => J.envJ (J.keep TN j) ⟨rfl, rfl, trivial⟩
   rintro i ⟨hile, hsz⟩ kl8 hl8
   refine Run.seq fun _ hk9 => Zs fun _ hk10 => Mv 0 E3 <| Mv 1 E3 <| Qp 2 E2 (QP.lenS rfl rfl rfl Tryz.underlying9) <| Qp 3 E2 (Zb E3) <| J.caseD (fun c15 => ?_) (fun c15 => ?_)
   ·refine Zl hk10 <| Zt <| Run.skip <| hk9 _ _ <| Run.seq fun _ hk11 => Run.block <| Run.seq fun _ hk12 => Run.region ?_
    obtain ⟨c, hc⟩ := str_get (s := s) (i := i) (by omega)
    refine Mv 0 E3 <| Mv 1 E3 <| Qp 2 E2 (QP.indexS rfl rfl rfl Tryz.underlying9 (by omega) hc) <| Sg 3 E3 <| Zl hk12 <| Zs fun _ hk13 => Mv 0 E3 <| Qp 1 E2 (QP.geq rfl rfl rfl) <| J.caseD (fun c22 => ?_) (fun c22 => ?_)
    ·refine Mv 2 E3 <| Ym 3 E4 <| Yp 4 E3 (QP.leq rfl rfl rfl) <| J.caseD (fun c25 => ?_) (fun c25 => ?_)
     ·refine Pt 5 E4 <| Mv 6 E3 <| Sk 7 E3 <| Sk 8 E3 <| Sk 9 E3 <| Sq.skip (i := 10) rfl (Want.undef rfl rfl rfl) rfl (ltN rfl) ?_
      refine Sq.skip (i := 11) rfl (Want.undef rfl rfl rfl) rfl (ltN rfl) ?_
      refine Sk 12 E3 <| Pt 13 E4 <| Mv 14 E3 <| Sk 15 E3 <| Sk 16 E3 <| Sk 17 E3 <| Sq.skip (i := 18) rfl (Want.undef rfl rfl rfl) rfl (ltN rfl) ?_
      refine Sq.skip (i := 19) rfl (Want.undef rfl rfl rfl) rfl (ltN rfl) ?_
      exact Sk 20 E3 <| Pt 21 E4 <| Mv 22 E3 <| Sk 23 E3 <| Sk 24 E3 <| Pt 25 E4 <| Mv 26 E3 <| Sk 27 E3 <| Sk 28 E3 <| Pt 29 E4 <| Mv 30 E3 <| Sk 31 E3 <| Sk 32 E3 <| Pt 33 E4 <| Qp 34 E2 (Zu E2) <| Zl hk13 <| Zf <| Run.skip <| hk11 _ _ <| Run.region <| Mv 0 E3 <| Qp 1 E2 (QP.add64 rfl rfl rfl Og Og) <| Sg 2 E3 <| Sq.nil <| J.envJ (J.keep TN (hl8 (i + 1) (⟨by omega, hsz⟩) (by omega))) ⟨rfl, rfl, trivial⟩
     ·refine Pt 5 E4 <| Mv 6 E3 <| Ym 7 E4 <| Yp 8 E3 (QP.geq rfl rfl rfl) <| J.caseD (fun c29 => ?_) (fun c29 => ?_)
      ·refine Ym 9 E4 <| Ym 10 E4 <| Yp 11 E3 (QP.leq rfl rfl rfl) <| J.caseD (fun c32 => ?_) (fun c32 => ?_)
       ·refine Yp 12 E3 (QP.pick_t rfl rfl rfl) <| Pf 13 E4 <| Mv 14 E3 <| Sk 15 E3 <| Sk 16 E3 <| Sk 17 E3 <| Sq.skip (i := 18) rfl (Want.undef rfl rfl rfl) rfl (ltN rfl) ?_
        refine Sq.skip (i := 19) rfl (Want.undef rfl rfl rfl) rfl (ltN rfl) ?_
        exact Sk 20 E3 <| Pt 21 E4 <| Mv 22 E3 <| Sk 23 E3 <| Sk 24 E3 <| Pt 25 E4 <| Mv 26 E3 <| Sk 27 E3 <| Sk 28 E3 <| Pt 29 E4 <| Mv 30 E3 <| Sk 31 E3 <| Sk 32 E3 <| Pt 33 E4 <| Qp 34 E2 (Zu E2) <| Zl hk13 <| Zf <| Run.skip <| hk11 _ _ <| Run.region <| Mv 0 E3 <| Qp 1 E2 (QP.add64 rfl rfl rfl Og Og) <| Sg 2 E3 <| Sq.nil <| J.envJ (J.keep TN (hl8 (i + 1) (⟨by omega, hsz⟩) (by omega))) ⟨rfl, rfl, trivial⟩
       ·refine Yp 12 E3 (QP.pick_t rfl rfl rfl) <| Pf 13 E4 <| Mv 14 E3 <| Ym 15 E4 <| Yp 16 E3 (QP.geq rfl rfl rfl) <| J.caseD (fun c37 => ?_) (fun c37 => ?_)
        ·refine Ym 17 E4 <| Ym 18 E4 <| Yp 19 E3 (QP.leq rfl rfl rfl) <| J.caseD (fun c40 => ?_) (fun c40 => ?_)
         ·exact Yp 20 E3 (QP.pick_t rfl rfl rfl) <| Pf 21 E4 <| Mv 22 E3 <| Sk 23 E3 <| Sk 24 E3 <| Pt 25 E4 <| Mv 26 E3 <| Sk 27 E3 <| Sk 28 E3 <| Pt 29 E4 <| Mv 30 E3 <| Sk 31 E3 <| Sk 32 E3 <| Pt 33 E4 <| Qp 34 E2 (Zu E2) <| Zl hk13 <| Zf <| Run.skip <| hk11 _ _ <| Run.region <| Mv 0 E3 <| Qp 1 E2 (QP.add64 rfl rfl rfl Og Og) <| Sg 2 E3 <| Sq.nil <| J.envJ (J.keep TN (hl8 (i + 1) (⟨by omega, hsz⟩) (by omega))) ⟨rfl, rfl, trivial⟩
         ·refine Yp 20 E3 (QP.pick_t rfl rfl rfl) <| Pf 21 E4 <| Mv 22 E3 <| Ym 23 E4 <| Yp 24 E3 (Ze E3) <| J.caseD (fun c45 => ?_) (fun c45 => ?_)
          ·exact Pf 25 E4 <| Mv 26 E3 <| Sk 27 E3 <| Sk 28 E3 <| Pt 29 E4 <| Mv 30 E3 <| Sk 31 E3 <| Sk 32 E3 <| Pt 33 E4 <| Qp 34 E2 (Zu E2) <| Zl hk13 <| Zf <| Run.skip <| hk11 _ _ <| Run.region <| Mv 0 E3 <| Qp 1 E2 (QP.add64 rfl rfl rfl Og Og) <| Sg 2 E3 <| Sq.nil <| J.envJ (J.keep TN (hl8 (i + 1) (⟨by omega, hsz⟩) (by omega))) ⟨rfl, rfl, trivial⟩
          ·refine Pf 25 E4 <| Mv 26 E3 <| Ym 27 E4 <| Yp 28 E3 (Ze E3) <| J.caseD (fun c49 => ?_) (fun c49 => ?_)
           ·exact Pf 29 E4 <| Mv 30 E3 <| Sk 31 E3 <| Sk 32 E3 <| Pt 33 E4 <| Qp 34 E2 (Zu E2) <| Zl hk13 <| Zf <| Run.skip <| hk11 _ _ <| Run.region <| Mv 0 E3 <| Qp 1 E2 (QP.add64 rfl rfl rfl Og Og) <| Sg 2 E3 <| Sq.nil <| J.envJ (J.keep TN (hl8 (i + 1) (⟨by omega, hsz⟩) (by omega))) ⟨rfl, rfl, trivial⟩
           ·refine Pf 29 E4 <| Mv 30 E3 <| Ym 31 E4 <| Yp 32 E3 (Ze E3) <| J.caseD (fun c53 => ?_) (fun c53 => ?_)
            ·exact Pf 33 E4 <| Qp 34 E2 (Zu E2) <| Zl hk13 <| Zf <| Run.skip <| hk11 _ _ <| Run.region <| Mv 0 E3 <| Qp 1 E2 (QP.add64 rfl rfl rfl Og Og) <| Sg 2 E3 <| Sq.nil <| J.envJ (J.keep TN (hl8 (i + 1) (⟨by omega, hsz⟩) (by omega))) ⟨rfl, rfl, trivial⟩
            ·exact Pf 33 E4 <| Qp 34 E2 (Zu E2) <| Zl hk13 <| Zt <| Zs fun _ hk14 => Sg 0 E3 <| Zl hk14 <| Run.ret <| Je E2 ⟨_, rfl, rfl⟩
        ·refine Ym 17 E4 <| Sk 18 E3 <| Sk 19 E3 <| Yp 20 E3 (QP.pick_f rfl rfl rfl) <| Pf 21 E4 <| Mv 22 E3 <| Ym 23 E4 <| Yp 24 E3 (Ze E3) <| J.caseD (fun c45 => ?_) (fun c45 => ?_)
         ·exact Pf 25 E4 <| Mv 26 E3 <| Sk 27 E3 <| Sk 28 E3 <| Pt 29 E4 <| Mv 30 E3 <| Sk 31 E3 <| Sk 32 E3 <| Pt 33 E4 <| Qp 34 E2 (Zu E2) <| Zl hk13 <| Zf <| Run.skip <| hk11 _ _ <| Run.region <| Mv 0 E3 <| Qp 1 E2 (QP.add64 rfl rfl rfl Og Og) <| Sg 2 E3 <| Sq.nil <| J.envJ (J.keep TN (hl8 (i + 1) (⟨by omega, hsz⟩) (by omega))) ⟨rfl, rfl, trivial⟩
         ·refine Pf 25 E4 <| Mv 26 E3 <| Ym 27 E4 <| Yp 28 E3 (Ze E3) <| J.caseD (fun c49 => ?_) (fun c49 => ?_)
          ·exact Pf 29 E4 <| Mv 30 E3 <| Sk 31 E3 <| Sk 32 E3 <| Pt 33 E4 <| Qp 34 E2 (Zu E2) <| Zl hk13 <| Zf <| Run.skip <| hk11 _ _ <| Run.region <| Mv 0 E3 <| Qp 1 E2 (QP.add64 rfl rfl rfl Og Og) <| Sg 2 E3 <| Sq.nil <| J.envJ (J.keep TN (hl8 (i + 1) (⟨by omega, hsz⟩) (by omega))) ⟨rfl, rfl, trivial⟩
          ·refine Pf 29 E4 <| Mv 30 E3 <| Ym 31 E4 <| Yp 32 E3 (Ze E3) <| J.caseD (fun c53 => ?_) (fun c53 => ?_)
           ·exact Pf 33 E4 <| Qp 34 E2 (Zu E2) <| Zl hk13 <| Zf <| Run.skip <| hk11 _ _ <| Run.region <| Mv 0 E3 <| Qp 1 E2 (QP.add64 rfl rfl rfl Og Og) <| Sg 2 E3 <| Sq.nil <| J.envJ (J.keep TN (hl8 (i + 1) (⟨by omega, hsz⟩) (by omega))) ⟨rfl, rfl, trivial⟩
           ·exact Pf 33 E4 <| Qp 34 E2 (Zu E2) <| Zl hk13 <| Zt <| Zs fun _ hk15 => Sg 0 E3 <| Zl hk15 <| Run.ret <| Je E2 ⟨_, rfl, rfl⟩
      ·refine Ym 9 E4 <| Sk 10 E3 <| Sk 11 E3 <| Yp 12 E3 (QP.pick_f rfl rfl rfl) <| Pf 13 E4 <| Mv 14 E3 <| Ym 15 E4 <| Yp 16 E3 (QP.geq rfl rfl rfl) <| J.caseD (fun c37 => ?_) (fun c37 => ?_)
       ·refine Ym 17 E4 <| Ym 18 E4 <| Yp 19 E3 (QP.leq rfl rfl rfl) <| J.caseD (fun c40 => ?_) (fun c40 => ?_)
        ·exact Yp 20 E3 (QP.pick_t rfl rfl rfl) <| Pf 21 E4 <| Mv 22 E3 <| Sk 23 E3 <| Sk 24 E3 <| Pt 25 E4 <| Mv 26 E3 <| Sk 27 E3 <| Sk 28 E3 <| Pt 29 E4 <| Mv 30 E3 <| Sk 31 E3 <| Sk 32 E3 <| Pt 33 E4 <| Qp 34 E2 (Zu E2) <| Zl hk13 <| Zf <| Run.skip <| hk11 _ _ <| Run.region <| Mv 0 E3 <| Qp 1 E2 (QP.add64 rfl rfl rfl Og Og) <| Sg 2 E3 <| Sq.nil <| J.envJ (J.keep TN (hl8 (i + 1) (⟨by omega, hsz⟩) (by omega))) ⟨rfl, rfl, trivial⟩
        ·refine Yp 20 E3 (QP.pick_t rfl rfl rfl) <| Pf 21 E4 <| Mv 22 E3 <| Ym 23 E4 <| Yp 24 E3 (Ze E3) <| J.caseD (fun c45 => ?_) (fun c45 => ?_)
         ·exact Pf 25 E4 <| Mv 26 E3 <| Sk 27 E3 <| Sk 28 E3 <| Pt 29 E4 <| Mv 30 E3 <| Sk 31 E3 <| Sk 32 E3 <| Pt 33 E4 <| Qp 34 E2 (Zu E2) <| Zl hk13 <| Zf <| Run.skip <| hk11 _ _ <| Run.region <| Mv 0 E3 <| Qp 1 E2 (QP.add64 rfl rfl rfl Og Og) <| Sg 2 E3 <| Sq.nil <| J.envJ (J.keep TN (hl8 (i + 1) (⟨by omega, hsz⟩) (by omega))) ⟨rfl, rfl, trivial⟩
         ·refine Pf 25 E4 <| Mv 26 E3 <| Ym 27 E4 <| Yp 28 E3 (Ze E3) <| J.caseD (fun c49 => ?_) (fun c49 => ?_)
          ·exact Pf 29 E4 <| Mv 30 E3 <| Sk 31 E3 <| Sk 32 E3 <| Pt 33 E4 <| Qp 34 E2 (Zu E2) <| Zl hk13 <| Zf <| Run.skip <| hk11 _ _ <| Run.region <| Mv 0 E3 <| Qp 1 E2 (QP.add64 rfl rfl rfl Og Og) <| Sg 2 E3 <| Sq.nil <| J.envJ (J.keep TN (hl8 (i + 1) (⟨by omega, hsz⟩) (by omega))) ⟨rfl, rfl, trivial⟩
          ·refine Pf 29 E4 <| Mv 30 E3 <| Ym 31 E4 <| Yp 32 E3 (Ze E3) <| J.caseD (fun c53 => ?_) (fun c53 => ?_)
           ·exact Pf 33 E4 <| Qp 34 E2 (Zu E2) <| Zl hk13 <| Zf <| Run.skip <| hk11 _ _ <| Run.region <| Mv 0 E3 <| Qp 1 E2 (QP.add64 rfl rfl rfl Og Og) <| Sg 2 E3 <| Sq.nil <| J.envJ (J.keep TN (hl8 (i + 1) (⟨by omega, hsz⟩) (by omega))) ⟨rfl, rfl, trivial⟩
           ·exact Pf 33 E4 <| Qp 34 E2 (Zu E2) <| Zl hk13 <| Zt <| Zs fun _ hk16 => Sg 0 E3 <| Zl hk16 <| Run.ret <| Je E2 ⟨_, rfl, rfl⟩
       ·refine Ym 17 E4 <| Sk 18 E3 <| Sk 19 E3 <| Yp 20 E3 (QP.pick_f rfl rfl rfl) <| Pf 21 E4 <| Mv 22 E3 <| Ym 23 E4 <| Yp 24 E3 (Ze E3) <| J.caseD (fun c45 => ?_) (fun c45 => ?_)
        ·exact Pf 25 E4 <| Mv 26 E3 <| Sk 27 E3 <| Sk 28 E3 <| Pt 29 E4 <| Mv 30 E3 <| Sk 31 E3 <| Sk 32 E3 <| Pt 33 E4 <| Qp 34 E2 (Zu E2) <| Zl hk13 <| Zf <| Run.skip <| hk11 _ _ <| Run.region <| Mv 0 E3 <| Qp 1 E2 (QP.add64 rfl rfl rfl Og Og) <| Sg 2 E3 <| Sq.nil <| J.envJ (J.keep TN (hl8 (i + 1) (⟨by omega, hsz⟩) (by omega))) ⟨rfl, rfl, trivial⟩
        ·refine Pf 25 E4 <| Mv 26 E3 <| Ym 27 E4 <| Yp 28 E3 (Ze E3) <| J.caseD (fun c49 => ?_) (fun c49 => ?_)
         ·exact Pf 29 E4 <| Mv 30 E3 <| Sk 31 E3 <| Sk 32 E3 <| Pt 33 E4 <| Qp 34 E2 (Zu E2) <| Zl hk13 <| Zf <| Run.skip <| hk11 _ _ <| Run.region <| Mv 0 E3 <| Qp 1 E2 (QP.add64 rfl rfl rfl Og Og) <| Sg 2 E3 <| Sq.nil <| J.envJ (J.keep TN (hl8 (i + 1) (⟨by omega, hsz⟩) (by omega))) ⟨rfl, rfl, trivial⟩
         ·refine Pf 29 E4 <| Mv 30 E3 <| Ym 31 E4 <| Yp 32 E3 (Ze E3) <| J.caseD (fun c53 => ?_) (fun c53 => ?_)
          ·exact Pf 33 E4 <| Qp 34 E2 (Zu E2) <| Zl hk13 <| Zf <| Run.skip <| hk11 _ _ <| Run.region <| Mv 0 E3 <| Qp 1 E2 (QP.add64 rfl rfl rfl Og Og) <| Sg 2 E3 <| Sq.nil <| J.envJ (J.keep TN (hl8 (i + 1) (⟨by omega, hsz⟩) (by omega))) ⟨rfl, rfl, trivial⟩
          ·exact Pf 33 E4 <| Qp 34 E2 (Zu E2) <| Zl hk13 <| Zt <| Zs fun _ hk17 => Sg 0 E3 <| Zl hk17 <| Run.ret <| Je E2 ⟨_, rfl, rfl⟩
    ·refine Mv 2 E3 <| Sk 3 E3 <| Sk 4 E3 <| Pf 5 E4 <| Mv 6 E3 <| Ym 7 E4 <| Yp 8 E3 (QP.geq rfl rfl rfl) <| J.caseD (fun c29 => ?_) (fun c29 => ?_)
     ·refine Ym 9 E4 <| Ym 10 E4 <| Yp 11 E3 (QP.leq rfl rfl rfl) <| J.caseD (fun c32 => ?_) (fun c32 => ?_)
      ·refine Yp 12 E3 (QP.pick_t rfl rfl rfl) <| Pf 13 E4 <| Mv 14 E3 <| Sk 15 E3 <| Sk 16 E3 <| Sk 17 E3 <| Sq.skip (i := 18) rfl (Want.undef rfl rfl rfl) rfl (ltN rfl) ?_
       refine Sq.skip (i := 19) rfl (Want.undef rfl rfl rfl) rfl (ltN rfl) ?_
       exact Sk 20 E3 <| Pt 21 E4 <| Mv 22 E3 <| Sk 23 E3 <| Sk 24 E3 <| Pt 25 E4 <| Mv 26 E3 <| Sk 27 E3 <| Sk 28 E3 <| Pt 29 E4 <| Mv 30 E3 <| Sk 31 E3 <| Sk 32 E3 <| Pt 33 E4 <| Qp 34 E2 (Zu E2) <| Zl hk13 <| Zf <| Run.skip <| hk11 _ _ <| Run.region <| Mv 0 E3 <| Qp 1 E2 (QP.add64 rfl rfl rfl Og Og) <| Sg 2 E3 <| Sq.nil <| J.envJ (J.keep TN (hl8 (i + 1) (⟨by omega, hsz⟩) (by omega))) ⟨rfl, rfl, trivial⟩
      ·refine Yp 12 E3 (QP.pick_t rfl rfl rfl) <| Pf 13 E4 <| Mv 14 E3 <| Ym 15 E4 <| Yp 16 E3 (QP.geq rfl rfl rfl) <| J.caseD (fun c37 => ?_) (fun c37 => ?_)
       ·refine Ym 17 E4 <| Ym 18 E4 <| Yp 19 E3 (QP.leq rfl rfl rfl) <| J.caseD (fun c40 => ?_) (fun c40 => ?_)
        ·exact Yp 20 E3 (QP.pick_t rfl rfl rfl) <| Pf 21 E4 <| Mv 22 E3 <| Sk 23 E3 <| Sk 24 E3 <| Pt 25 E4 <| Mv 26 E3 <| Sk 27 E3 <| Sk 28 E3 <| Pt 29 E4 <| Mv 30 E3 <| Sk 31 E3 <| Sk 32 E3 <| Pt 33 E4 <| Qp 34 E2 (Zu E2) <| Zl hk13 <| Zf <| Run.skip <| hk11 _ _ <| Run.region <| Mv 0 E3 <| Qp 1 E2 (QP.add64 rfl rfl rfl Og Og) <| Sg 2 E3 <| Sq.nil <| J.envJ (J.keep TN (hl8 (i + 1) (⟨by omega, hsz⟩) (by omega))) ⟨rfl, rfl, trivial⟩
        ·refine Yp 20 E3 (QP.pick_t rfl rfl rfl) <| Pf 21 E4 <| Mv 22 E3 <| Ym 23 E4 <| Yp 24 E3 (Ze E3) <| J.caseD (fun c45 => ?_) (fun c45 => ?_)
         ·exact Pf 25 E4 <| Mv 26 E3 <| Sk 27 E3 <| Sk 28 E3 <| Pt 29 E4 <| Mv 30 E3 <| Sk 31 E3 <| Sk 32 E3 <| Pt 33 E4 <| Qp 34 E2 (Zu E2) <| Zl hk13 <| Zf <| Run.skip <| hk11 _ _ <| Run.region <| Mv 0 E3 <| Qp 1 E2 (QP.add64 rfl rfl rfl Og Og) <| Sg 2 E3 <| Sq.nil <| J.envJ (J.keep TN (hl8 (i + 1) (⟨by omega, hsz⟩) (by omega))) ⟨rfl, rfl, trivial⟩
         ·refine Pf 25 E4 <| Mv 26 E3 <| Ym 27 E4 <| Yp 28 E3 (Ze E3) <| J.caseD (fun c49 => ?_) (fun c49 => ?_)
          ·exact Pf 29 E4 <| Mv 30 E3 <| Sk 31 E3 <| Sk 32 E3 <| Pt 33 E4 <| Qp 34 E2 (Zu E2) <| Zl hk13 <| Zf <| Run.skip <| hk11 _ _ <| Run.region <| Mv 0 E3 <| Qp 1 E2 (QP.add64 rfl rfl rfl Og Og) <| Sg 2 E3 <| Sq.nil <| J.envJ (J.keep TN (hl8 (i + 1) (⟨by omega, hsz⟩) (by omega))) ⟨rfl, rfl, trivial⟩
          ·refine Pf 29 E4 <| Mv 30 E3 <| Ym 31 E4 <| Yp 32 E3 (Ze E3) <| J.caseD (fun c53 => ?_) (fun c53 => ?_)
           ·exact Pf 33 E4 <| Qp 34 E2 (Zu E2) <| Zl hk13 <| Zf <| Run.skip <| hk11 _ _ <| Run.region <| Mv 0 E3 <| Qp 1 E2 (QP.add64 rfl rfl rfl Og Og) <| Sg 2 E3 <| Sq.nil <| J.envJ (J.keep TN (hl8 (i + 1) (⟨by omega, hsz⟩) (by omega))) ⟨rfl, rfl, trivial⟩
           ·exact Pf 33 E4 <| Qp 34 E2 (Zu E2) <| Zl hk13 <| Zt <| Zs fun _ hk18 => Sg 0 E3 <| Zl hk18 <| Run.ret <| Je E2 ⟨_, rfl, rfl⟩
       ·refine Ym 17 E4 <| Sk 18 E3 <| Sk 19 E3 <| Yp 20 E3 (QP.pick_f rfl rfl rfl) <| Pf 21 E4 <| Mv 22 E3 <| Ym 23 E4 <| Yp 24 E3 (Ze E3) <| J.caseD (fun c45 => ?_) (fun c45 => ?_)
        ·exact Pf 25 E4 <| Mv 26 E3 <| Sk 27 E3 <| Sk 28 E3 <| Pt 29 E4 <| Mv 30 E3 <| Sk 31 E3 <| Sk 32 E3 <| Pt 33 E4 <| Qp 34 E2 (Zu E2) <| Zl hk13 <| Zf <| Run.skip <| hk11 _ _ <| Run.region <| Mv 0 E3 <| Qp 1 E2 (QP.add64 rfl rfl rfl Og Og) <| Sg 2 E3 <| Sq.nil <| J.envJ (J.keep TN (hl8 (i + 1) (⟨by omega, hsz⟩) (by omega))) ⟨rfl, rfl, trivial⟩
        ·refine Pf 25 E4 <| Mv 26 E3 <| Ym 27 E4 <| Yp 28 E3 (Ze E3) <| J.caseD (fun c49 => ?_) (fun c49 => ?_)
         ·exact Pf 29 E4 <| Mv 30 E3 <| Sk 31 E3 <| Sk 32 E3 <| Pt 33 E4 <| Qp 34 E2 (Zu E2) <| Zl hk13 <| Zf <| Run.skip <| hk11 _ _ <| Run.region <| Mv 0 E3 <| Qp 1 E2 (QP.add64 rfl rfl rfl Og Og) <| Sg 2 E3 <| Sq.nil <| J.envJ (J.keep TN (hl8 (i + 1) (⟨by omega, hsz⟩) (by omega))) ⟨rfl, rfl, trivial⟩
         ·refine Pf 29 E4 <| Mv 30 E3 <| Ym 31 E4 <| Yp 32 E3 (Ze E3) <| J.caseD (fun c53 => ?_) (fun c53 => ?_)
          ·exact Pf 33 E4 <| Qp 34 E2 (Zu E2) <| Zl hk13 <| Zf <| Run.skip <| hk11 _ _ <| Run.region <| Mv 0 E3 <| Qp 1 E2 (QP.add64 rfl rfl rfl Og Og) <| Sg 2 E3 <| Sq.nil <| J.envJ (J.keep TN (hl8 (i + 1) (⟨by omega, hsz⟩) (by omega))) ⟨rfl, rfl, trivial⟩
          ·exact Pf 33 E4 <| Qp 34 E2 (Zu E2) <| Zl hk13 <| Zt <| Zs fun _ hk19 => Sg 0 E3 <| Zl hk19 <| Run.ret <| Je E2 ⟨_, rfl, rfl⟩
     ·refine Ym 9 E4 <| Sk 10 E3 <| Sk 11 E3 <| Yp 12 E3 (QP.pick_f rfl rfl rfl) <| Pf 13 E4 <| Mv 14 E3 <| Ym 15 E4 <| Yp 16 E3 (QP.geq rfl rfl rfl) <| J.caseD (fun c37 => ?_) (fun c37 => ?_)
      ·refine Ym 17 E4 <| Ym 18 E4 <| Yp 19 E3 (QP.leq rfl rfl rfl) <| J.caseD (fun c40 => ?_) (fun c40 => ?_)
       ·exact Yp 20 E3 (QP.pick_t rfl rfl rfl) <| Pf 21 E4 <| Mv 22 E3 <| Sk 23 E3 <| Sk 24 E3 <| Pt 25 E4 <| Mv 26 E3 <| Sk 27 E3 <| Sk 28 E3 <| Pt 29 E4 <| Mv 30 E3 <| Sk 31 E3 <| Sk 32 E3 <| Pt 33 E4 <| Qp 34 E2 (Zu E2) <| Zl hk13 <| Zf <| Run.skip <| hk11 _ _ <| Run.region <| Mv 0 E3 <| Qp 1 E2 (QP.add64 rfl rfl rfl Og Og) <| Sg 2 E3 <| Sq.nil <| J.envJ (J.keep TN (hl8 (i + 1) (⟨by omega, hsz⟩) (by omega))) ⟨rfl, rfl, trivial⟩
       ·refine Yp 20 E3 (QP.pick_t rfl rfl rfl) <| Pf 21 E4 <| Mv 22 E3 <| Ym 23 E4 <| Yp 24 E3 (Ze E3) <| J.caseD (fun c45 => ?_) (fun c45 => ?_)
        ·exact Pf 25 E4 <| Mv 26 E3 <| Sk 27 E3 <| Sk 28 E3 <| Pt 29 E4 <| Mv 30 E3 <| Sk 31 E3 <| Sk 32 E3 <| Pt 33 E4 <| Qp 34 E2 (Zu E2) <| Zl hk13 <| Zf <| Run.skip <| hk11 _ _ <| Run.region <| Mv 0 E3 <| Qp 1 E2 (QP.add64 rfl rfl rfl Og Og) <| Sg 2 E3 <| Sq.nil <| J.envJ (J.keep TN (hl8 (i + 1) (⟨by omega, hsz⟩) (by omega))) ⟨rfl, rfl, trivial⟩
        ·refine Pf 25 E4 <| Mv 26 E3 <| Ym 27 E4 <| Yp 28 E3 (Ze E3) <| J.caseD (fun c49 => ?_) (fun c49 => ?_)
         ·exact Pf 29 E4 <| Mv 30 E3 <| Sk 31 E3 <| Sk 32 E3 <| Pt 33 E4 <| Qp 34 E2 (Zu E2) <| Zl hk13 <| Zf <| Run.skip <| hk11 _ _ <| Run.region <| Mv 0 E3 <| Qp 1 E2 (QP.add64 rfl rfl rfl Og Og) <| Sg 2 E3 <| Sq.nil <| J.envJ (J.keep TN (hl8 (i + 1) (⟨by omega, hsz⟩) (by omega))) ⟨rfl, rfl, trivial⟩
         ·refine Pf 29 E4 <| Mv 30 E3 <| Ym 31 E4 <| Yp 32 E3 (Ze E3) <| J.caseD (fun c53 => ?_) (fun c53 => ?_)
          ·exact Pf 33 E4 <| Qp 34 E2 (Zu E2) <| Zl hk13 <| Zf <| Run.skip <| hk11 _ _ <| Run.region <| Mv 0 E3 <| Qp 1 E2 (QP.add64 rfl rfl rfl Og Og) <| Sg 2 E3 <| Sq.nil <| J.envJ (J.keep TN (hl8 (i + 1) (⟨by omega, hsz⟩) (by omega))) ⟨rfl, rfl, trivial⟩
          ·exact Pf 33 E4 <| Qp 34 E2 (Zu E2) <| Zl hk13 <| Zt <| Zs fun _ hk20 => Sg 0 E3 <| Zl hk20 <| Run.ret <| Je E2 ⟨_, rfl, rfl⟩
      ·refine Ym 17 E4 <| Sk 18 E3 <| Sk 19 E3 <| Yp 20 E3 (QP.pick_f rfl rfl rfl) <| Pf 21 E4 <| Mv 22 E3 <| Ym 23 E4 <| Yp 24 E3 (Ze E3) <| J.caseD (fun c45 => ?_) (fun c45 => ?_)
       ·exact Pf 25 E4 <| Mv 26 E3 <| Sk 27 E3 <| Sk 28 E3 <| Pt 29 E4 <| Mv 30 E3 <| Sk 31 E3 <| Sk 32 E3 <| Pt 33 E4 <| Qp 34 E2 (Zu E2) <| Zl hk13 <| Zf <| Run.skip <| hk11 _ _ <| Run.region <| Mv 0 E3 <| Qp 1 E2 (QP.add64 rfl rfl rfl Og Og) <| Sg 2 E3 <| Sq.nil <| J.envJ (J.keep TN (hl8 (i + 1) (⟨by omega, hsz⟩) (by omega))) ⟨rfl, rfl, trivial⟩
       ·refine Pf 25 E4 <| Mv 26 E3 <| Ym 27 E4 <| Yp 28 E3 (Ze E3) <| J.caseD (fun c49 => ?_) (fun c49 => ?_)
        ·exact Pf 29 E4 <| Mv 30 E3 <| Sk 31 E3 <| Sk 32 E3 <| Pt 33 E4 <| Qp 34 E2 (Zu E2) <| Zl hk13 <| Zf <| Run.skip <| hk11 _ _ <| Run.region <| Mv 0 E3 <| Qp 1 E2 (QP.add64 rfl rfl rfl Og Og) <| Sg 2 E3 <| Sq.nil <| J.envJ (J.keep TN (hl8 (i + 1) (⟨by omega, hsz⟩) (by omega))) ⟨rfl, rfl, trivial⟩
        ·refine Pf 29 E4 <| Mv 30 E3 <| Ym 31 E4 <| Yp 32 E3 (Ze E3) <| J.caseD (fun c53 => ?_) (fun c53 => ?_)
         ·exact Pf 33 E4 <| Qp 34 E2 (Zu E2) <| Zl hk13 <| Zf <| Run.skip <| hk11 _ _ <| Run.region <| Mv 0 E3 <| Qp 1 E2 (QP.add64 rfl rfl rfl Og Og) <| Sg 2 E3 <| Sq.nil <| J.envJ (J.keep TN (hl8 (i + 1) (⟨by omega, hsz⟩) (by omega))) ⟨rfl, rfl, trivial⟩
         ·exact Pf 33 E4 <| Qp 34 E2 (Zu E2) <| Zl hk13 <| Zt <| Zs fun _ hk21 => Sg 0 E3 <| Zl hk21 <| Run.ret <| Je E2 ⟨_, rfl, rfl⟩
   ·exact Zl hk10 <| Zf <| Run.exit rfl <| hk6 _ _ <| Zs fun _ hk22 => Sg 0 E3 <| Zl hk22 <| Run.ret <| Je E2 ⟨_, rfl, rfl⟩

theorem rlocal_spec (F : Fr) (x : Bs 16) : Spec Tryz.prog 85 #[.agg (Bs.enc x).toArray] [] F (fun v S => ∃ r, v = .bool r ∧ (r = true → x.l[0]? = some 254) ∧ S = []) := by
 refine Spec.intro (N := 36) (args := [.agg (Bs.enc x).toArray]) Tryz.func85 rfl rfl (by simp) ?_
 refine Zs fun _ hk1 => Ef 0 E2 (EF.boxA rfl rfl) ?_
 rintro _ _ ⟨b1, rfl, rfl⟩
 refine Sg 1 E3 <| Zl hk1 <| Run.seq fun _ hk2 => Zs fun _ hk3 => Sg 0 E3 <| Zl hk3 <| Run.block <| Run.loop1 (fun (i : Nat) => i ≤ 8 ∧ (0 < i → x.l[0]? = some 254)) (fun i => .cons 1 (.pointer (some ⟨b1, 0, none⟩)) (.cons 3 (.int .i64 i) (.nil))) (fun i => [blk b1 (Bs.enc x) 32]) (fun i => 8 - i) (0) (⟨Nat.zero_le _, fun h => absurd h (by omega)⟩) ?_ ?_
 ·exact fun _ j => J.envJ (J.keep Tk1 j) ⟨rfl, rfl, trivial⟩
 rintro i ⟨hile, hall⟩ kl4 hl4
 refine Run.seq fun _ hk5 => Zs fun _ hk6 => Mv 0 E3 <| Qp 1 E2 (Zb E3) <| J.caseD (fun c5 => ?_) (fun c5 => ?_)
 ·refine Zl hk6 <| Zt <| Run.skip <| hk5 _ _ <| Run.seq fun _ hk7 => Run.block <| Run.seq fun _ hk8 => Run.region ?_
  obtain ⟨u, hx⟩ : ∃ u, x.l[i]? = some u := ⟨_, GE (by rw [x.h]; omega)⟩
  refine Mv 0 E3 <| Qp 1 E2 (Ze E3) <| J.caseD (fun c9 => ?_) (fun c9 => ?_)
  ·refine Mv 2 E3 <| Ym 3 E4 <| Yp 4 E3 (QP.indexArr rfl rfl rfl Tryz.underlying32 z5 (by omega) (by omega)) <| Yq 5 E3 (Z1 E2 g5 (bs_at x hx)) ?_
   refine Yp 6 E3 (Zq E3) <| J.caseD (fun c14 => ?_) (fun c14 => ?_)
   ·refine Pt 7 E4 <| Mv 8 E3 <| Sk 9 E3 <| Sk 10 E3 <| Sk 11 E3 <| Sq.skip (i := 12) rfl (Want.undef rfl rfl rfl) rfl (ltN rfl) ?_
    refine Sq.skip (i := 13) rfl (Want.undef rfl rfl rfl) rfl (ltN rfl) ?_
    refine Sq.skip (i := 14) rfl (Want.undef rfl rfl rfl) rfl (ltN rfl) ?_
    refine Sq.skip (i := 15) rfl (Want.undef rfl rfl rfl) rfl (ltN rfl) ?_
    refine Sk 16 E3 <| Pt 17 E4 <| Mv 18 E3 <| Sk 19 E3 <| Sk 20 E3 <| Sk 21 E3 <| Sq.skip (i := 22) rfl (Want.undef rfl rfl rfl) rfl (ltN rfl) ?_
    refine Sq.skip (i := 23) rfl (Want.undef rfl rfl rfl) rfl (ltN rfl) ?_
    refine Sq.skip (i := 24) rfl (Want.undef rfl rfl rfl) rfl (ltN rfl) ?_
    refine Sq.skip (i := 25) rfl (Want.undef rfl rfl rfl) rfl (ltN rfl) ?_
    exact Sk 26 E3 <| Pt 27 E4 <| Zl hk8 <| Zt <| Zs fun _ hk9 => Sg 0 E3 <| Zl hk9 <| Run.ret <| Je E2 ⟨false, rfl, fun h => (by cases h), rfl⟩
   ·refine Pt 7 E4 <| Mv 8 E3 <| Ym 9 E4 <| Yp 10 E3 (Ze E3) <| J.caseD (fun c18 => ?_) (fun c18 => ?_)
    ·refine Ym 11 E4 <| Ym 12 E4 <| Yp 13 E3 (QP.indexArr rfl rfl rfl Tryz.underlying32 z5 (by omega) (by omega)) <| Yq 14 E3 (Z1 E2 g5 (bs_at x hx)) ?_
     refine Yp 15 E3 (Zq E3) <| J.caseD (fun c23 => ?_) (fun c23 => ?_)
     ·refine Yp 16 E3 (QP.pick_t rfl rfl rfl) <| Pf 17 E4 <| Mv 18 E3 <| Sk 19 E3 <| Sk 20 E3 <| Sk 21 E3 <| Sq.skip (i := 22) rfl (Want.undef rfl rfl rfl) rfl (ltN rfl) ?_
      refine Sq.skip (i := 23) rfl (Want.undef rfl rfl rfl) rfl (ltN rfl) ?_
      refine Sq.skip (i := 24) rfl (Want.undef rfl rfl rfl) rfl (ltN rfl) ?_
      refine Sq.skip (i := 25) rfl (Want.undef rfl rfl rfl) rfl (ltN rfl) ?_
      exact Sk 26 E3 <| Pt 27 E4 <| Zl hk8 <| Zt <| Zs fun _ hk10 => Sg 0 E3 <| Zl hk10 <| Run.ret <| Je E2 ⟨false, rfl, fun h => (by cases h), rfl⟩
     ·refine Yp 16 E3 (QP.pick_t rfl rfl rfl) <| Pf 17 E4 <| Mv 18 E3 <| Ym 19 E4 <| Yp 20 E3 (QP.gtr rfl rfl rfl) <| J.caseD (fun c28 => ?_) (fun c28 => ?_)
      ·refine Ym 21 E4 <| Ym 22 E4 <| Yp 23 E3 (QP.indexArr rfl rfl rfl Tryz.underlying32 z5 (by omega) (by omega)) <| Yq 24 E3 (Z1 E2 g5 (bs_at x hx)) ?_
       refine Yp 25 E3 (Zq E3) <| J.caseD (fun c33 => ?_) (fun c33 => ?_)
       ·exact Yp 26 E3 (QP.pick_t rfl rfl rfl) <| Pf 27 E4 <| Zl hk8 <| Zt <| Zs fun _ hk11 => Sg 0 E3 <| Zl hk11 <| Run.ret <| Je E2 ⟨false, rfl, fun h => (by cases h), rfl⟩
       ·exact Yp 26 E3 (QP.pick_t rfl rfl rfl) <| Pf 27 E4 <| Zl hk8 <| Zf <| Run.skip <| hk7 _ _ <| Run.region <| Mv 0 E3 <| Qp 1 E2 (QP.add64 rfl rfl rfl Og Og) <| Sg 2 E3 <| Sq.nil <| J.envJ (J.keep Tk1 (hl4 (i + 1) (⟨by omega, fun _ => by have hi0 : i = 0 := (by omega); subst hi0; rw [hx, byte_eq (t := 254) (Classical.not_not.1 c14)]⟩) (by omega))) ⟨rfl, rfl, trivial⟩
      ·exact Ym 21 E4 <| Sk 22 E3 <| Sk 23 E3 <| Sk 24 E3 <| Sk 25 E3 <| Yp 26 E3 (QP.pick_f rfl rfl rfl) <| Pf 27 E4 <| Zl hk8 <| Zf <| Run.skip <| hk7 _ _ <| Run.region <| Mv 0 E3 <| Qp 1 E2 (QP.add64 rfl rfl rfl Og Og) <| Sg 2 E3 <| Sq.nil <| J.envJ (J.keep Tk1 (hl4 (i + 1) (⟨by omega, fun _ => by have hi0 : i = 0 := (by omega); subst hi0; rw [hx, byte_eq (t := 254) (Classical.not_not.1 c14)]⟩) (by omega))) ⟨rfl, rfl, trivial⟩
    ·refine Ym 11 E4 <| Sk 12 E3 <| Sk 13 E3 <| Sk 14 E3 <| Sk 15 E3 <| Yp 16 E3 (QP.pick_f rfl rfl rfl) <| Pf 17 E4 <| Mv 18 E3 <| Ym 19 E4 <| Yp 20 E3 (QP.gtr rfl rfl rfl) <| J.caseD (fun c28 => ?_) (fun c28 => ?_)
     ·refine Ym 21 E4 <| Ym 22 E4 <| Yp 23 E3 (QP.indexArr rfl rfl rfl Tryz.underlying32 z5 (by omega) (by omega)) <| Yq 24 E3 (Z1 E2 g5 (bs_at x hx)) ?_
      refine Yp 25 E3 (Zq E3) <| J.caseD (fun c33 => ?_) (fun c33 => ?_)
      ·exact Yp 26 E3 (QP.pick_t rfl rfl rfl) <| Pf 27 E4 <| Zl hk8 <| Zt <| Zs fun _ hk12 => Sg 0 E3 <| Zl hk12 <| Run.ret <| Je E2 ⟨false, rfl, fun h => (by cases h), rfl⟩
      ·exact Yp 26 E3 (QP.pick_t rfl rfl rfl) <| Pf 27 E4 <| Zl hk8 <| Zf <| Run.skip <| hk7 _ _ <| Run.region <| Mv 0 E3 <| Qp 1 E2 (QP.add64 rfl rfl rfl Og Og) <| Sg 2 E3 <| Sq.nil <| J.envJ (J.keep Tk1 (hl4 (i + 1) (⟨by omega, fun _ => by have hi0 : i = 0 := (by omega); subst hi0; rw [hx, byte_eq (t := 254) (Classical.not_not.1 c14)]⟩) (by omega))) ⟨rfl, rfl, trivial⟩
     ·exact Ym 21 E4 <| Sk 22 E3 <| Sk 23 E3 <| Sk 24 E3 <| Sk 25 E3 <| Yp 26 E3 (QP.pick_f rfl rfl rfl) <| Pf 27 E4 <| Zl hk8 <| Zf <| Run.skip <| hk7 _ _ <| Run.region <| Mv 0 E3 <| Qp 1 E2 (QP.add64 rfl rfl rfl Og Og) <| Sg 2 E3 <| Sq.nil <| J.envJ (J.keep Tk1 (hl4 (i + 1) (⟨by omega, fun _ => by have hi0 : i = 0 := (by omega); subst hi0; rw [hx, byte_eq (t := 254) (Classical.not_not.1 c14)]⟩) (by omega))) ⟨rfl, rfl, trivial⟩
  ·refine Mv 2 E3 <| Sk 3 E3 <| Sk 4 E3 <| Sk 5 E3 <| Sk 6 E3 <| Pf 7 E4 <| Mv 8 E3 <| Ym 9 E4 <| Yp 10 E3 (Ze E3) <| J.caseD (fun c18 => ?_) (fun c18 => ?_)
   ·refine Ym 11 E4 <| Ym 12 E4 <| Yp 13 E3 (QP.indexArr rfl rfl rfl Tryz.underlying32 z5 (by omega) (by omega)) <| Yq 14 E3 (Z1 E2 g5 (bs_at x hx)) ?_
    refine Yp 15 E3 (Zq E3) <| J.caseD (fun c23 => ?_) (fun c23 => ?_)
    ·refine Yp 16 E3 (QP.pick_t rfl rfl rfl) <| Pf 17 E4 <| Mv 18 E3 <| Sk 19 E3 <| Sk 20 E3 <| Sk 21 E3 <| Sq.skip (i := 22) rfl (Want.undef rfl rfl rfl) rfl (ltN rfl) ?_
     refine Sq.skip (i := 23) rfl (Want.undef rfl rfl rfl) rfl (ltN rfl) ?_
     refine Sq.skip (i := 24) rfl (Want.undef rfl rfl rfl) rfl (ltN rfl) ?_
     refine Sq.skip (i := 25) rfl (Want.undef rfl rfl rfl) rfl (ltN rfl) ?_
     exact Sk 26 E3 <| Pt 27 E4 <| Zl hk8 <| Zt <| Zs fun _ hk13 => Sg 0 E3 <| Zl hk13 <| Run.ret <| Je E2 ⟨false, rfl, fun h => (by cases h), rfl⟩
    ·refine Yp 16 E3 (QP.pick_t rfl rfl rfl) <| Pf 17 E4 <| Mv 18 E3 <| Ym 19 E4 <| Yp 20 E3 (QP.gtr rfl rfl rfl) <| J.caseD (fun c28 => ?_) (fun c28 => ?_)
     ·refine Ym 21 E4 <| Ym 22 E4 <| Yp 23 E3 (QP.indexArr rfl rfl rfl Tryz.underlying32 z5 (by omega) (by omega)) <| Yq 24 E3 (Z1 E2 g5 (bs_at x hx)) ?_
      refine Yp 25 E3 (Zq E3) <| J.caseD (fun c33 => ?_) (fun c33 => ?_)
      ·exact Yp 26 E3 (QP.pick_t rfl rfl rfl) <| Pf 27 E4 <| Zl hk8 <| Zt <| Zs fun _ hk14 => Sg 0 E3 <| Zl hk14 <| Run.ret <| Je E2 ⟨false, rfl, fun h => (by cases h), rfl⟩
      ·exact Yp 26 E3 (QP.pick_t rfl rfl rfl) <| Pf 27 E4 <| Zl hk8 <| Zf <| Run.skip <| hk7 _ _ <| Run.region <| Mv 0 E3 <| Qp 1 E2 (QP.add64 rfl rfl rfl Og Og) <| Sg 2 E3 <| Sq.nil <| J.envJ (J.keep Tk1 (hl4 (i + 1) (⟨by omega, fun _ => hall (by omega)⟩) (by omega))) ⟨rfl, rfl, trivial⟩
     ·exact Ym 21 E4 <| Sk 22 E3 <| Sk 23 E3 <| Sk 24 E3 <| Sk 25 E3 <| Yp 26 E3 (QP.pick_f rfl rfl rfl) <| Pf 27 E4 <| Zl hk8 <| Zf <| Run.skip <| hk7 _ _ <| Run.region <| Mv 0 E3 <| Qp 1 E2 (QP.add64 rfl rfl rfl Og Og) <| Sg 2 E3 <| Sq.nil <| J.envJ (J.keep Tk1 (hl4 (i + 1) (⟨by omega, fun _ => hall (by omega)⟩) (by omega))) ⟨rfl, rfl, trivial⟩
   ·refine Ym 11 E4 <| Sk 12 E3 <| Sk 13 E3 <| Sk 14 E3 <| Sk 15 E3 <| Yp 16 E3 (QP.pick_f rfl rfl rfl) <| Pf 17 E4 <| Mv 18 E3 <| Ym 19 E4 <| Yp 20 E3 (QP.gtr rfl rfl rfl) <| J.caseD (fun c28 => ?_) (fun c28 => ?_)
    ·refine Ym 21 E4 <| Ym 22 E4 <| Yp 23 E3 (QP.indexArr rfl rfl rfl Tryz.underlying32 z5 (by omega) (by omega)) <| Yq 24 E3 (Z1 E2 g5 (bs_at x hx)) ?_
     refine Yp 25 E3 (Zq E3) <| J.caseD (fun c33 => ?_) (fun c33 => ?_)
     ·exact Yp 26 E3 (QP.pick_t rfl rfl rfl) <| Pf 27 E4 <| Zl hk8 <| Zt <| Zs fun _ hk15 => Sg 0 E3 <| Zl hk15 <| Run.ret <| Je E2 ⟨false, rfl, fun h => (by cases h), rfl⟩
     ·exact Yp 26 E3 (QP.pick_t rfl rfl rfl) <| Pf 27 E4 <| Zl hk8 <| Zf <| Run.skip <| hk7 _ _ <| Run.region <| Mv 0 E3 <| Qp 1 E2 (QP.add64 rfl rfl rfl Og Og) <| Sg 2 E3 <| Sq.nil <| J.envJ (J.keep Tk1 (hl4 (i + 1) (⟨by omega, fun _ => hall (by omega)⟩) (by omega))) ⟨rfl, rfl, trivial⟩
    ·exact Ym 21 E4 <| Sk 22 E3 <| Sk 23 E3 <| Sk 24 E3 <| Sk 25 E3 <| Yp 26 E3 (QP.pick_f rfl rfl rfl) <| Pf 27 E4 <| Zl hk8 <| Zf <| Run.skip <| hk7 _ _ <| Run.region <| Mv 0 E3 <| Qp 1 E2 (QP.add64 rfl rfl rfl Og Og) <| Sg 2 E3 <| Sq.nil <| J.envJ (J.keep Tk1 (hl4 (i + 1) (⟨by omega, fun _ => hall (by omega)⟩) (by omega))) ⟨rfl, rfl, trivial⟩
 ·exact Zl hk6 <| Zf <| Run.exit rfl <| hk2 _ _ <| Zs fun _ hk16 => Sg 0 E3 <| Zl hk16 <| Run.ret <| Je E2 ⟨true, rfl, fun _ => hall (by omega), rfl⟩

theorem rfull_spec (F : Fr) (x : Bs 8) : Spec Tryz.prog 52 #[.agg (Bs.enc x).toArray] [] F (fun v S => ∃ r, v = .bool r ∧ (r = true → ∀ i, i < 8 → x.l[i]? = some 255) ∧ S = []) := by
 refine Spec.intro (N := 12) (args := [.agg (Bs.enc x).toArray]) Tryz.func52 rfl rfl (by simp) ?_
 refine Zs fun _ hk1 => Ef 0 E2 (EF.boxA rfl rfl) ?_
 rintro _ _ ⟨b1, rfl, rfl⟩
 refine Sg 1 E3 <| Zl hk1 <| Run.seq fun _ hk2 => Zs fun _ hk3 => Sg 0 E3 <| Zl hk3 <| Run.block <| Run.loop1 (fun (i : Nat) => i ≤ 8 ∧ ∀ j, j < i → x.l[j]? = some 255) (fun i => .cons 1 (.pointer (some ⟨b1, 0, none⟩)) (.cons 3 (.int .i64 i) (.nil))) (fun i => [blk b1 (Bs.enc x) 42]) (fun i => 8 - i) (0) (⟨Nat.zero_le _, fun _ h => absurd h (by omega)⟩) ?_ ?_
 ·exact fun _ j => J.envJ (J.keep Tk1 j) ⟨rfl, rfl, trivial⟩
 rintro i ⟨hile, hall⟩ kl4 hl4
 refine Run.seq fun _ hk5 => Zs fun _ hk6 => Mv 0 E3 <| Qp 1 E2 (Zb E3) <| J.caseD (fun c5 => ?_) (fun c5 => ?_)
 ·refine Zl hk6 <| Zt <| Run.skip <| hk5 _ _ <| Run.seq fun _ hk7 => Run.block <| Run.seq fun _ hk8 => Run.region ?_
  obtain ⟨u, hx⟩ : ∃ u, x.l[i]? = some u := ⟨_, GE (by rw [x.h]; omega)⟩
  refine Mv 0 E3 <| Qp 1 E2 (QP.indexArr rfl rfl rfl Tryz.underlying42 z5 (by omega) (by omega)) <| Qq 2 E2 (Z1 E2 g5 (bs_at x hx)) ?_
  refine Qp 3 E2 (Zq E3) <| J.caseD (fun c11 => ?_) (fun c11 => ?_)
  ·exact Zl hk8 <| Zt <| Zs fun _ hk9 => Sg 0 E3 <| Zl hk9 <| Run.ret <| Je E2 ⟨false, rfl, fun h => (by cases h), rfl⟩
  ·exact Zl hk8 <| Zf <| Run.skip <| hk7 _ _ <| Run.region <| Mv 0 E3 <| Qp 1 E2 (QP.add64 rfl rfl rfl Og Og) <| Sg 2 E3 <| Sq.nil <| J.envJ (J.keep Tk1 (hl4 (i + 1) (⟨by omega, fun j hj => by rcases Nat.lt_succ_iff_lt_or_eq.1 hj with h | h; exact hall j h; subst h; rw [hx, byte_eq (t := 255) (Classical.not_not.1 c11)]⟩) (by omega))) ⟨rfl, rfl, trivial⟩
 ·exact Zl hk6 <| Zf <| Run.exit rfl <| hk2 _ _ <| Zs fun _ hk10 => Sg 0 E3 <| Zl hk10 <| Run.ret <| Je E2 ⟨true, rfl, fun _ j hj => hall j (by omega), rfl⟩

/-- What is known of an interface that may be. -/
structure IfOk (x : IfConf) : Prop where
 kind : x.kind = 0 ∨ x.kind = 1
 cost : 1 ≤ x.cost ∧ x.cost ≤ 65534
 mtu : 64 ≤ x.mtu ∧ x.mtu ≤ 65539
 hello : 10 ≤ x.hello ∧ x.hello ≤ 655350
 update : 10 ≤ x.update ∧ x.update ≤ 655350
 hello10 : x.hello.tmod 10 = 0
 update10 : x.update.tmod 10 = 0
 addr : x.addr.l[0]? = some 254
 addr4 : x.addr4 = Bs.zero 16 ∨ familyB x.addr4 = 4
 rtt : x.rtt = Rtt.zero ∨ (0 ≤ x.rtt.min ∧ x.rtt.min < x.rtt.max ∧ x.rtt.max ≤ 1000000 ∧ (1 ≤ x.rtt.cost ∧ x.rtt.cost ≤ 65534) ∧ (1 ≤ x.rtt.decay ∧ x.rtt.decay ≤ 256))

set_option maxHeartbeats 1600000 in
theorem riface_spec (F : Fr) (x : IfConf) : Spec Tryz.prog 53 #[.agg (IfConf.enc x).toArray] [] F (fun v S => ∃ r, v = .bool r ∧ (r = true → IfOk x) ∧ S = []) := by
 refine Spec.intro (N := 101) (args := [.agg (IfConf.enc x).toArray]) Tryz.func53 rfl rfl (by simp) ?_
 refine Zs fun _ hk1 => Ef 0 E2 (EF.boxA rfl rfl) ?_
 rintro _ _ ⟨b1, rfl, rfl⟩
 refine Sg 1 E3 <| Zl hk1 <| Zs fun _ hk2 => Fa 0 E3 f65_8 <| Qq 1 E2 (Z0 E2 g63 (IfConf.sub_rtt _)) ?_
 refine Ef 2 E2 (EF.allocA (l := Rtt.enc Rtt.zero) rfl zero63) ?_
 rintro _ _ ⟨b3, rfl, rfl⟩
 refine Ac 3 rfl (EF.storeA rfl rfl rfl z63 (SetL.all (Rtt.enc_len _) (Rtt.enc_len _)) (Rtt.enc_cell _)) ?_
 rintro _ _ rfl
 refine Zl hk2 <| Run.seq fun _ hk3 => Zs fun _ hk4 => Fa 0 E3 f65_0 <| Qq 1 E2 (Z1 E2 g9 (IfConf.sub_name _)) ?_
 refine Ef 2 E2 (Zc E2 ce84 TN (fun F' hle hr => rname_spec F' _)) ?_
 rintro _ _ ⟨_, ⟨r8, rfl, rfl⟩, rfl⟩
 refine J.app <| J.caseB (fun c8 => ?_) (fun c8 => ?_)
 ·refine Qp 3 E2 (Zu E2) <| Mv 4 E3 <| Yf 5 E4 f65_1 <| Yq 6 E3 (Z1 E2 g3 (IfConf.sub_kind _)) ?_
  refine Yp 7 E3 (Zq E3) <| J.caseD (fun c13 => ?_) (fun c13 => ?_)
  ·refine Ym 8 E4 <| Yf 9 E4 f65_1 <| Yq 10 E3 (Z1 E2 g3 (IfConf.sub_kind _)) ?_
   refine Yp 11 E3 (Zq E3) <| J.caseD (fun c17 => ?_) (fun c17 => ?_)
   ·exact Yp 12 E3 (QP.pick_t rfl rfl rfl) <| Pf 13 E4 <| Mv 14 E3 <| Sk 15 E3 <| Sk 16 E3 <| Sk 17 E3 <| Sk 18 E3 <| Pt 19 E4 <| Mv 20 E3 <| Sk 21 E3 <| Sk 22 E3 <| Sk 23 E3 <| Sk 24 E3 <| Pt 25 E4 <| Zl hk4 <| Zt <| Zs fun _ hk5 => Sg 0 E3 <| Zl hk5 <| Run.ret <| Je E2 ⟨false, rfl, fun h => (by cases h), rfl⟩
   ·refine Yp 12 E3 (QP.pick_t rfl rfl rfl) <| Pf 13 E4 <| Mv 14 E3 <| Yf 15 E4 f65_2 <| Yq 16 E3 (Z1 E2 g3 (IfConf.sub_cost _)) ?_
    refine Ye 17 E3 (Zc E2 ce56 TN (fun F' hle hr => rin_spec F' ((x).cost) (1) (65534))) ?_
    rintro _ _ ⟨_, ⟨rfl, rfl⟩, rfl⟩
    refine J.app <| J.caseB (fun c23 => ?_) (fun c23 => ?_)
    ·refine Yp 18 E3 (Zu E2) <| Pf 19 E4 <| Mv 20 E3 <| Yf 21 E4 f65_5 <| Yq 22 E3 (Z1 E2 g3 (IfConf.sub_mtu _)) ?_
     refine Ye 23 E3 (Zc E2 ce56 TN (fun F' hle hr => rin_spec F' ((x).mtu) (64) (65539))) ?_
     rintro _ _ ⟨_, ⟨rfl, rfl⟩, rfl⟩
     refine J.app <| J.caseB (fun c29 => ?_) (fun c29 => ?_)
     ·refine Yp 24 E3 (Zu E2) <| Pf 25 E4 <| Zl hk4 <| Zf <| Run.skip <| hk3 _ _ <| Run.seq fun _ hk6 => Zs fun _ hk7 => Fa 0 E3 f65_3 <| Qq 1 E2 (Z1 E2 g3 (IfConf.sub_hello _)) ?_
      refine Ef 2 E2 (Zc E2 ce56 TN (fun F' hle hr => rin_spec F' ((x).hello) (10) (655350))) ?_
      rintro _ _ ⟨_, ⟨rfl, rfl⟩, rfl⟩
      refine J.app <| J.caseB (fun c34 => ?_) (fun c34 => ?_)
      ·refine Qp 3 E2 (Zu E2) <| Mv 4 E3 <| Yf 5 E4 f65_4 <| Yq 6 E3 (Z1 E2 g3 (IfConf.sub_update _)) ?_
       refine Ye 7 E3 (Zc E2 ce56 TN (fun F' hle hr => rin_spec F' ((x).update) (10) (655350))) ?_
       rintro _ _ ⟨_, ⟨rfl, rfl⟩, rfl⟩
       refine J.app <| J.caseB (fun c39 => ?_) (fun c39 => ?_)
       ·refine Yp 8 E3 (Zu E2) <| Pf 9 E4 <| Mv 10 E3 <| Yf 11 E4 f65_3 <| Yq 12 E3 (Z1 E2 g3 (IfConf.sub_hello _)) ?_
        refine Yp 13 E3 (QP.rem rfl rfl rfl (by decide)) <| Yp 14 E3 (Zq E3) <| J.caseD (fun c46 => ?_) (fun c46 => ?_)
        ·exact Pf 15 E4 <| Mv 16 E3 <| Sk 17 E3 <| Sk 18 E3 <| Sk 19 E3 <| Sk 20 E3 <| Pt 21 E4 <| Zl hk7 <| Zt <| Zs fun _ hk8 => Sg 0 E3 <| Zl hk8 <| Run.ret <| Je E2 ⟨false, rfl, fun h => (by cases h), rfl⟩
        ·refine Pf 15 E4 <| Mv 16 E3 <| Yf 17 E4 f65_4 <| Yq 18 E3 (Z1 E2 g3 (IfConf.sub_update _)) ?_
         refine Yp 19 E3 (QP.rem rfl rfl rfl (by decide)) <| Yp 20 E3 (Zq E3) <| J.caseD (fun c52 => ?_) (fun c52 => ?_)
         ·exact Pf 21 E4 <| Zl hk7 <| Zt <| Zs fun _ hk9 => Sg 0 E3 <| Zl hk9 <| Run.ret <| Je E2 ⟨false, rfl, fun h => (by cases h), rfl⟩
         ·refine Pf 21 E4 <| Zl hk7 <| Zf <| Run.skip <| hk6 _ _ <| Run.seq fun _ hk10 => Zs fun _ hk11 => Fa 0 E3 f65_6 <| Qq 1 E2 (Z0 E2 g32 (IfConf.sub_addr _)) ?_
          refine Ef 2 E2 (Zc E2 ce85 TN (fun F' hle hr => rlocal_spec F' ((x).addr))) ?_
          rintro _ _ ⟨_, ⟨r56, rfl, hl56, rfl⟩, rfl⟩
          refine J.app <| J.caseB (fun c56 => ?_) (fun c56 => ?_)
          ·refine Qp 3 E2 (Zu E2) <| Mv 4 E3 <| Yf 5 E4 f65_7 <| Yq 6 E3 (Z0 E2 g32 (IfConf.sub_addr4 _)) ?_
           refine Yp 7 E3 (QP.const (.agg (Bs.enc (⟨[0, 0, 0, 0, 0, 0, 0, 0, 0, 0, 0, 0, 0, 0, 0, 0], rfl⟩ : Bs 16)).toArray) (fun _ _ => by kernel_rfl)) <| Yp 8 E3 (QP.neq_agg eq32 rfl rfl rfl) <| J.caseD (fun c62 => ?_) (fun c62 => ?_)
           ·refine Ym 9 E4 <| Yf 10 E4 f65_7 <| Yq 11 E3 (Z0 E2 g32 (IfConf.sub_addr4 _)) ?_
            refine Ye 12 E3 (Zc E2 ce86 TN (fun F' hle hr => rfamily_spec F' ((x).addr4))) ?_
            rintro _ _ ⟨_, ⟨rfl, rfl⟩, rfl⟩
            refine J.app <| Yp 13 E3 (Zq E3) <| J.caseD (fun c67 => ?_) (fun c67 => ?_)
            ·exact Yp 14 E3 (QP.pick_t rfl rfl rfl) <| Pf 15 E4 <| Zl hk11 <| Zt <| Zs fun _ hk12 => Sg 0 E3 <| Zl hk12 <| Run.ret <| Je E2 ⟨false, rfl, fun h => (by cases h), rfl⟩
            ·refine Yp 14 E3 (QP.pick_t rfl rfl rfl) <| Pf 15 E4 <| Zl hk11 <| Zf <| Run.skip <| hk10 _ _ <| Run.seq fun _ hk13 => Zs fun _ hk14 => Fa 0 E3 f63_0 <| Qq 1 E2 (Z1 E2 g4 (Rtt.sub_on_ _)) ?_
             refine J.caseB (fun c71 => ?_) (fun c71 => ?_)
             ·refine Qp 2 E2 (Zu E2) <| Zl hk14 <| Zf <| Run.skip <| hk13 _ _ <| Zs fun _ hk15 => Fa 0 E3 f63_1 <| Qq 1 E2 (Z1 E2 g3 (Rtt.sub_min _)) ?_
              refine Ef 2 E2 (Zc E2 ce56 TN (fun F' hle hr => rin_spec F' (((x).rtt).min) (0) (1000000))) ?_
              rintro _ _ ⟨_, ⟨rfl, rfl⟩, rfl⟩
              refine J.app <| J.caseB (fun c78 => ?_) (fun c78 => ?_)
              ·refine Mv 3 E3 <| Yf 4 E4 f63_2 <| Yq 5 E3 (Z1 E2 g3 (Rtt.sub_max _)) ?_
               refine Yf 6 E4 f63_1 <| Yq 7 E3 (Z1 E2 g3 (Rtt.sub_min _)) ?_
               refine Yp 8 E3 (QP.gtr rfl rfl rfl) <| J.caseD (fun c84 => ?_) (fun c84 => ?_)
               ·refine Pt 9 E4 <| Mv 10 E3 <| Yf 11 E4 f63_2 <| Yq 12 E3 (Z1 E2 g3 (Rtt.sub_max _)) ?_
                refine Yp 13 E3 (QP.leq rfl rfl rfl) <| J.caseD (fun c89 => ?_) (fun c89 => ?_)
                ·refine Pt 14 E4 <| Mv 15 E3 <| Yf 16 E4 f63_3 <| Yq 17 E3 (Z1 E2 g3 (Rtt.sub_cost _)) ?_
                 refine Ye 18 E3 (Zc E2 ce56 TN (fun F' hle hr => rin_spec F' (((x).rtt).cost) (1) (65534))) ?_
                 rintro _ _ ⟨_, ⟨rfl, rfl⟩, rfl⟩
                 refine J.app <| J.caseB (fun c94 => ?_) (fun c94 => ?_)
                 ·refine Pt 19 E4 <| Mv 20 E3 <| Yf 21 E4 f63_4 <| Yq 22 E3 (Z1 E2 g3 (Rtt.sub_decay _)) ?_
                  refine Ye 23 E3 (Zc E2 ce56 TN (fun F' hle hr => rin_spec F' (((x).rtt).decay) (1) (256))) ?_
                  rintro _ _ ⟨_, ⟨rfl, rfl⟩, rfl⟩
                  exact J.app <| Pt 24 E4 <| Sg 25 E3 <| Zl hk15 <| Run.ret <| Je E2 ⟨_, rfl, fun h => { kind := by omega, cost := inB_iff.1 c23, mtu := inB_iff.1 c29, hello := inB_iff.1 c34, update := inB_iff.1 c39, hello10 := by omega, update10 := by omega, addr := hl56 (by simpa using c56), addr4 := .inr (by omega), rtt := .inr ⟨(inB_iff.1 c78).1, by omega, by omega, inB_iff.1 c94, inB_iff.1 h⟩ }, rfl⟩
                 ·exact Pt 19 E4 <| Mv 20 E3 <| Sk 21 E3 <| Sk 22 E3 <| Sk 23 E3 <| Pf 24 E4 <| Sg 25 E3 <| Zl hk15 <| Run.ret <| Je E2 ⟨false, rfl, fun h => (by cases h), rfl⟩
                ·exact Pt 14 E4 <| Mv 15 E3 <| Sk 16 E3 <| Sk 17 E3 <| Sk 18 E3 <| Pf 19 E4 <| Mv 20 E3 <| Sk 21 E3 <| Sk 22 E3 <| Sk 23 E3 <| Pf 24 E4 <| Sg 25 E3 <| Zl hk15 <| Run.ret <| Je E2 ⟨false, rfl, fun h => (by cases h), rfl⟩
               ·exact Pt 9 E4 <| Mv 10 E3 <| Sk 11 E3 <| Sk 12 E3 <| Sk 13 E3 <| Pf 14 E4 <| Mv 15 E3 <| Sk 16 E3 <| Sk 17 E3 <| Sk 18 E3 <| Pf 19 E4 <| Mv 20 E3 <| Sk 21 E3 <| Sk 22 E3 <| Sk 23 E3 <| Pf 24 E4 <| Sg 25 E3 <| Zl hk15 <| Run.ret <| Je E2 ⟨false, rfl, fun h => (by cases h), rfl⟩
              ·exact Mv 3 E3 <| Sk 4 E3 <| Sk 5 E3 <| Sk 6 E3 <| Sk 7 E3 <| Sk 8 E3 <| Pf 9 E4 <| Mv 10 E3 <| Sk 11 E3 <| Sk 12 E3 <| Sk 13 E3 <| Pf 14 E4 <| Mv 15 E3 <| Sk 16 E3 <| Sk 17 E3 <| Sk 18 E3 <| Pf 19 E4 <| Mv 20 E3 <| Sk 21 E3 <| Sk 22 E3 <| Sk 23 E3 <| Pf 24 E4 <| Sg 25 E3 <| Zl hk15 <| Run.ret <| Je E2 ⟨false, rfl, fun h => (by cases h), rfl⟩
             ·refine Qp 2 E2 (Zu E2) <| Zl hk14 <| Zt <| Zs fun _ hk16 => Qq 0 E2 (Z0 E2 g63 (Rtt.enc_sub _)) ?_
              exact Qp 1 E2 (QP.build (l := Rtt.enc Rtt.zero) rfl st63 rfl (by exact trivial) rfl) <| Qp 2 E2 (QP.eql_agg eq63 rfl rfl rfl) <| Sg 3 E3 <| Zl hk16 <| Run.ret <| Je E2 ⟨_, rfl, fun h => { kind := by omega, cost := inB_iff.1 c23, mtu := inB_iff.1 c29, hello := inB_iff.1 c34, update := inB_iff.1 c39, hello10 := by omega, update10 := by omega, addr := hl56 (by simpa using c56), addr4 := .inr (by omega), rtt := .inl (of_decide_eq_true h) }, rfl⟩
           ·refine Ym 9 E4 <| Sk 10 E3 <| Sk 11 E3 <| Sk 12 E3 <| Sk 13 E3 <| Yp 14 E3 (QP.pick_f rfl rfl rfl) <| Pf 15 E4 <| Zl hk11 <| Zf <| Run.skip <| hk10 _ _ <| Run.seq fun _ hk17 => Zs fun _ hk18 => Fa 0 E3 f63_0 <| Qq 1 E2 (Z1 E2 g4 (Rtt.sub_on_ _)) ?_
            refine J.caseB (fun c71 => ?_) (fun c71 => ?_)
            ·refine Qp 2 E2 (Zu E2) <| Zl hk18 <| Zf <| Run.skip <| hk17 _ _ <| Zs fun _ hk19 => Fa 0 E3 f63_1 <| Qq 1 E2 (Z1 E2 g3 (Rtt.sub_min _)) ?_
             refine Ef 2 E2 (Zc E2 ce56 TN (fun F' hle hr => rin_spec F' (((x).rtt).min) (0) (1000000))) ?_
             rintro _ _ ⟨_, ⟨rfl, rfl⟩, rfl⟩
             refine J.app <| J.caseB (fun c78 => ?_) (fun c78 => ?_)
             ·refine Mv 3 E3 <| Yf 4 E4 f63_2 <| Yq 5 E3 (Z1 E2 g3 (Rtt.sub_max _)) ?_
              refine Yf 6 E4 f63_1 <| Yq 7 E3 (Z1 E2 g3 (Rtt.sub_min _)) ?_
              refine Yp 8 E3 (QP.gtr rfl rfl rfl) <| J.caseD (fun c84 => ?_) (fun c84 => ?_)
              ·refine Pt 9 E4 <| Mv 10 E3 <| Yf 11 E4 f63_2 <| Yq 12 E3 (Z1 E2 g3 (Rtt.sub_max _)) ?_
               refine Yp 13 E3 (QP.leq rfl rfl rfl) <| J.caseD (fun c89 => ?_) (fun c89 => ?_)
               ·refine Pt 14 E4 <| Mv 15 E3 <| Yf 16 E4 f63_3 <| Yq 17 E3 (Z1 E2 g3 (Rtt.sub_cost _)) ?_
                refine Ye 18 E3 (Zc E2 ce56 TN (fun F' hle hr => rin_spec F' (((x).rtt).cost) (1) (65534))) ?_
                rintro _ _ ⟨_, ⟨rfl, rfl⟩, rfl⟩
                refine J.app <| J.caseB (fun c94 => ?_) (fun c94 => ?_)
                ·refine Pt 19 E4 <| Mv 20 E3 <| Yf 21 E4 f63_4 <| Yq 22 E3 (Z1 E2 g3 (Rtt.sub_decay _)) ?_
                 refine Ye 23 E3 (Zc E2 ce56 TN (fun F' hle hr => rin_spec F' (((x).rtt).decay) (1) (256))) ?_
                 rintro _ _ ⟨_, ⟨rfl, rfl⟩, rfl⟩
                 exact J.app <| Pt 24 E4 <| Sg 25 E3 <| Zl hk19 <| Run.ret <| Je E2 ⟨_, rfl, fun h => { kind := by omega, cost := inB_iff.1 c23, mtu := inB_iff.1 c29, hello := inB_iff.1 c34, update := inB_iff.1 c39, hello10 := by omega, update10 := by omega, addr := hl56 (by simpa using c56), addr4 := .inl (Classical.not_not.1 c62), rtt := .inr ⟨(inB_iff.1 c78).1, by omega, by omega, inB_iff.1 c94, inB_iff.1 h⟩ }, rfl⟩
                ·exact Pt 19 E4 <| Mv 20 E3 <| Sk 21 E3 <| Sk 22 E3 <| Sk 23 E3 <| Pf 24 E4 <| Sg 25 E3 <| Zl hk19 <| Run.ret <| Je E2 ⟨false, rfl, fun h => (by cases h), rfl⟩
               ·exact Pt 14 E4 <| Mv 15 E3 <| Sk 16 E3 <| Sk 17 E3 <| Sk 18 E3 <| Pf 19 E4 <| Mv 20 E3 <| Sk 21 E3 <| Sk 22 E3 <| Sk 23 E3 <| Pf 24 E4 <| Sg 25 E3 <| Zl hk19 <| Run.ret <| Je E2 ⟨false, rfl, fun h => (by cases h), rfl⟩
              ·exact Pt 9 E4 <| Mv 10 E3 <| Sk 11 E3 <| Sk 12 E3 <| Sk 13 E3 <| Pf 14 E4 <| Mv 15 E3 <| Sk 16 E3 <| Sk 17 E3 <| Sk 18 E3 <| Pf 19 E4 <| Mv 20 E3 <| Sk 21 E3 <| Sk 22 E3 <| Sk 23 E3 <| Pf 24 E4 <| Sg 25 E3 <| Zl hk19 <| Run.ret <| Je E2 ⟨false, rfl, fun h => (by cases h), rfl⟩
             ·exact Mv 3 E3 <| Sk 4 E3 <| Sk 5 E3 <| Sk 6 E3 <| Sk 7 E3 <| Sk 8 E3 <| Pf 9 E4 <| Mv 10 E3 <| Sk 11 E3 <| Sk 12 E3 <| Sk 13 E3 <| Pf 14 E4 <| Mv 15 E3 <| Sk 16 E3 <| Sk 17 E3 <| Sk 18 E3 <| Pf 19 E4 <| Mv 20 E3 <| Sk 21 E3 <| Sk 22 E3 <| Sk 23 E3 <| Pf 24 E4 <| Sg 25 E3 <| Zl hk19 <| Run.ret <| Je E2 ⟨false, rfl, fun h => (by cases h), rfl⟩
            ·refine Qp 2 E2 (Zu E2) <| Zl hk18 <| Zt <| Zs fun _ hk20 => Qq 0 E2 (Z0 E2 g63 (Rtt.enc_sub _)) ?_
             exact Qp 1 E2 (QP.build (l := Rtt.enc Rtt.zero) rfl st63 rfl (by exact trivial) rfl) <| Qp 2 E2 (QP.eql_agg eq63 rfl rfl rfl) <| Sg 3 E3 <| Zl hk20 <| Run.ret <| Je E2 ⟨_, rfl, fun h => { kind := by omega, cost := inB_iff.1 c23, mtu := inB_iff.1 c29, hello := inB_iff.1 c34, update := inB_iff.1 c39, hello10 := by omega, update10 := by omega, addr := hl56 (by simpa using c56), addr4 := .inl (Classical.not_not.1 c62), rtt := .inl (of_decide_eq_true h) }, rfl⟩
          ·refine Qp 3 E2 (Zu E2) <| Mv 4 E3 <| Sk 5 E3 <| Sk 6 E3 <| Sk 7 E3 <| Sk 8 E3 <| Sk 9 E3 <| Sq.skip (i := 10) rfl (Want.undef rfl rfl rfl) rfl (ltN rfl) ?_
           refine Sq.skip (i := 11) rfl (Want.undef rfl rfl rfl) rfl (ltN rfl) ?_
           refine Sq.skip (i := 12) rfl (Want.undef rfl rfl rfl) rfl (ltN rfl) ?_
           refine Sq.skip (i := 13) rfl (Want.undef rfl rfl rfl) rfl (ltN rfl) ?_
           exact Sk 14 E3 <| Pt 15 E4 <| Zl hk11 <| Zt <| Zs fun _ hk21 => Sg 0 E3 <| Zl hk21 <| Run.ret <| Je E2 ⟨false, rfl, fun h => (by cases h), rfl⟩
       ·exact Yp 8 E3 (Zu E2) <| Pf 9 E4 <| Mv 10 E3 <| Sk 11 E3 <| Sk 12 E3 <| Sk 13 E3 <| Sk 14 E3 <| Pt 15 E4 <| Mv 16 E3 <| Sk 17 E3 <| Sk 18 E3 <| Sk 19 E3 <| Sk 20 E3 <| Pt 21 E4 <| Zl hk7 <| Zt <| Zs fun _ hk22 => Sg 0 E3 <| Zl hk22 <| Run.ret <| Je E2 ⟨false, rfl, fun h => (by cases h), rfl⟩
      ·exact Qp 3 E2 (Zu E2) <| Mv 4 E3 <| Sk 5 E3 <| Sk 6 E3 <| Sk 7 E3 <| Sk 8 E3 <| Pt 9 E4 <| Mv 10 E3 <| Sk 11 E3 <| Sk 12 E3 <| Sk 13 E3 <| Sk 14 E3 <| Pt 15 E4 <| Mv 16 E3 <| Sk 17 E3 <| Sk 18 E3 <| Sk 19 E3 <| Sk 20 E3 <| Pt 21 E4 <| Zl hk7 <| Zt <| Zs fun _ hk23 => Sg 0 E3 <| Zl hk23 <| Run.ret <| Je E2 ⟨false, rfl, fun h => (by cases h), rfl⟩
     ·exact Yp 24 E3 (Zu E2) <| Pf 25 E4 <| Zl hk4 <| Zt <| Zs fun _ hk24 => Sg 0 E3 <| Zl hk24 <| Run.ret <| Je E2 ⟨false, rfl, fun h => (by cases h), rfl⟩
    ·exact Yp 18 E3 (Zu E2) <| Pf 19 E4 <| Mv 20 E3 <| Sk 21 E3 <| Sk 22 E3 <| Sk 23 E3 <| Sk 24 E3 <| Pt 25 E4 <| Zl hk4 <| Zt <| Zs fun _ hk25 => Sg 0 E3 <| Zl hk25 <| Run.ret <| Je E2 ⟨false, rfl, fun h => (by cases h), rfl⟩
  ·refine Ym 8 E4 <| Sk 9 E3 <| Sk 10 E3 <| Sk 11 E3 <| Yp 12 E3 (QP.pick_f rfl rfl rfl) <| Pf 13 E4 <| Mv 14 E3 <| Yf 15 E4 f65_2 <| Yq 16 E3 (Z1 E2 g3 (IfConf.sub_cost _)) ?_
   refine Ye 17 E3 (Zc E2 ce56 TN (fun F' hle hr => rin_spec F' ((x).cost) (1) (65534))) ?_
   rintro _ _ ⟨_, ⟨rfl, rfl⟩, rfl⟩
   refine J.app <| J.caseB (fun c23 => ?_) (fun c23 => ?_)
   ·refine Yp 18 E3 (Zu E2) <| Pf 19 E4 <| Mv 20 E3 <| Yf 21 E4 f65_5 <| Yq 22 E3 (Z1 E2 g3 (IfConf.sub_mtu _)) ?_
    refine Ye 23 E3 (Zc E2 ce56 TN (fun F' hle hr => rin_spec F' ((x).mtu) (64) (65539))) ?_
    rintro _ _ ⟨_, ⟨rfl, rfl⟩, rfl⟩
    refine J.app <| J.caseB (fun c29 => ?_) (fun c29 => ?_)
    ·refine Yp 24 E3 (Zu E2) <| Pf 25 E4 <| Zl hk4 <| Zf <| Run.skip <| hk3 _ _ <| Run.seq fun _ hk26 => Zs fun _ hk27 => Fa 0 E3 f65_3 <| Qq 1 E2 (Z1 E2 g3 (IfConf.sub_hello _)) ?_
     refine Ef 2 E2 (Zc E2 ce56 TN (fun F' hle hr => rin_spec F' ((x).hello) (10) (655350))) ?_
     rintro _ _ ⟨_, ⟨rfl, rfl⟩, rfl⟩
     refine J.app <| J.caseB (fun c34 => ?_) (fun c34 => ?_)
     ·refine Qp 3 E2 (Zu E2) <| Mv 4 E3 <| Yf 5 E4 f65_4 <| Yq 6 E3 (Z1 E2 g3 (IfConf.sub_update _)) ?_
      refine Ye 7 E3 (Zc E2 ce56 TN (fun F' hle hr => rin_spec F' ((x).update) (10) (655350))) ?_
      rintro _ _ ⟨_, ⟨rfl, rfl⟩, rfl⟩
      refine J.app <| J.caseB (fun c39 => ?_) (fun c39 => ?_)
      ·refine Yp 8 E3 (Zu E2) <| Pf 9 E4 <| Mv 10 E3 <| Yf 11 E4 f65_3 <| Yq 12 E3 (Z1 E2 g3 (IfConf.sub_hello _)) ?_
       refine Yp 13 E3 (QP.rem rfl rfl rfl (by decide)) <| Yp 14 E3 (Zq E3) <| J.caseD (fun c46 => ?_) (fun c46 => ?_)
       ·exact Pf 15 E4 <| Mv 16 E3 <| Sk 17 E3 <| Sk 18 E3 <| Sk 19 E3 <| Sk 20 E3 <| Pt 21 E4 <| Zl hk27 <| Zt <| Zs fun _ hk28 => Sg 0 E3 <| Zl hk28 <| Run.ret <| Je E2 ⟨false, rfl, fun h => (by cases h), rfl⟩
       ·refine Pf 15 E4 <| Mv 16 E3 <| Yf 17 E4 f65_4 <| Yq 18 E3 (Z1 E2 g3 (IfConf.sub_update _)) ?_
        refine Yp 19 E3 (QP.rem rfl rfl rfl (by decide)) <| Yp 20 E3 (Zq E3) <| J.caseD (fun c52 => ?_) (fun c52 => ?_)
        ·exact Pf 21 E4 <| Zl hk27 <| Zt <| Zs fun _ hk29 => Sg 0 E3 <| Zl hk29 <| Run.ret <| Je E2 ⟨false, rfl, fun h => (by cases h), rfl⟩
        ·refine Pf 21 E4 <| Zl hk27 <| Zf <| Run.skip <| hk26 _ _ <| Run.seq fun _ hk30 => Zs fun _ hk31 => Fa 0 E3 f65_6 <| Qq 1 E2 (Z0 E2 g32 (IfConf.sub_addr _)) ?_
         refine Ef 2 E2 (Zc E2 ce85 TN (fun F' hle hr => rlocal_spec F' ((x).addr))) ?_
         rintro _ _ ⟨_, ⟨r56, rfl, hl56, rfl⟩, rfl⟩
         refine J.app <| J.caseB (fun c56 => ?_) (fun c56 => ?_)
         ·refine Qp 3 E2 (Zu E2) <| Mv 4 E3 <| Yf 5 E4 f65_7 <| Yq 6 E3 (Z0 E2 g32 (IfConf.sub_addr4 _)) ?_
          refine Yp 7 E3 (QP.const (.agg (Bs.enc (⟨[0, 0, 0, 0, 0, 0, 0, 0, 0, 0, 0, 0, 0, 0, 0, 0], rfl⟩ : Bs 16)).toArray) (fun _ _ => by kernel_rfl)) <| Yp 8 E3 (QP.neq_agg eq32 rfl rfl rfl) <| J.caseD (fun c62 => ?_) (fun c62 => ?_)
          ·refine Ym 9 E4 <| Yf 10 E4 f65_7 <| Yq 11 E3 (Z0 E2 g32 (IfConf.sub_addr4 _)) ?_
           refine Ye 12 E3 (Zc E2 ce86 TN (fun F' hle hr => rfamily_spec F' ((x).addr4))) ?_
           rintro _ _ ⟨_, ⟨rfl, rfl⟩, rfl⟩
           refine J.app <| Yp 13 E3 (Zq E3) <| J.caseD (fun c67 => ?_) (fun c67 => ?_)
           ·exact Yp 14 E3 (QP.pick_t rfl rfl rfl) <| Pf 15 E4 <| Zl hk31 <| Zt <| Zs fun _ hk32 => Sg 0 E3 <| Zl hk32 <| Run.ret <| Je E2 ⟨false, rfl, fun h => (by cases h), rfl⟩
           ·refine Yp 14 E3 (QP.pick_t rfl rfl rfl) <| Pf 15 E4 <| Zl hk31 <| Zf <| Run.skip <| hk30 _ _ <| Run.seq fun _ hk33 => Zs fun _ hk34 => Fa 0 E3 f63_0 <| Qq 1 E2 (Z1 E2 g4 (Rtt.sub_on_ _)) ?_
            refine J.caseB (fun c71 => ?_) (fun c71 => ?_)
            ·refine Qp 2 E2 (Zu E2) <| Zl hk34 <| Zf <| Run.skip <| hk33 _ _ <| Zs fun _ hk35 => Fa 0 E3 f63_1 <| Qq 1 E2 (Z1 E2 g3 (Rtt.sub_min _)) ?_
             refine Ef 2 E2 (Zc E2 ce56 TN (fun F' hle hr => rin_spec F' (((x).rtt).min) (0) (1000000))) ?_
             rintro _ _ ⟨_, ⟨rfl, rfl⟩, rfl⟩
             refine J.app <| J.caseB (fun c78 => ?_) (fun c78 => ?_)
             ·refine Mv 3 E3 <| Yf 4 E4 f63_2 <| Yq 5 E3 (Z1 E2 g3 (Rtt.sub_max _)) ?_
              refine Yf 6 E4 f63_1 <| Yq 7 E3 (Z1 E2 g3 (Rtt.sub_min _)) ?_
              refine Yp 8 E3 (QP.gtr rfl rfl rfl) <| J.caseD (fun c84 => ?_) (fun c84 => ?_)
              ·refine Pt 9 E4 <| Mv 10 E3 <| Yf 11 E4 f63_2 <| Yq 12 E3 (Z1 E2 g3 (Rtt.sub_max _)) ?_
               refine Yp 13 E3 (QP.leq rfl rfl rfl) <| J.caseD (fun c89 => ?_) (fun c89 => ?_)
               ·refine Pt 14 E4 <| Mv 15 E3 <| Yf 16 E4 f63_3 <| Yq 17 E3 (Z1 E2 g3 (Rtt.sub_cost _)) ?_
                refine Ye 18 E3 (Zc E2 ce56 TN (fun F' hle hr => rin_spec F' (((x).rtt).cost) (1) (65534))) ?_
                rintro _ _ ⟨_, ⟨rfl, rfl⟩, rfl⟩
                refine J.app <| J.caseB (fun c94 => ?_) (fun c94 => ?_)
                ·refine Pt 19 E4 <| Mv 20 E3 <| Yf 21 E4 f63_4 <| Yq 22 E3 (Z1 E2 g3 (Rtt.sub_decay _)) ?_
                 refine Ye 23 E3 (Zc E2 ce56 TN (fun F' hle hr => rin_spec F' (((x).rtt).decay) (1) (256))) ?_
                 rintro _ _ ⟨_, ⟨rfl, rfl⟩, rfl⟩
                 exact J.app <| Pt 24 E4 <| Sg 25 E3 <| Zl hk35 <| Run.ret <| Je E2 ⟨_, rfl, fun h => { kind := by omega, cost := inB_iff.1 c23, mtu := inB_iff.1 c29, hello := inB_iff.1 c34, update := inB_iff.1 c39, hello10 := by omega, update10 := by omega, addr := hl56 (by simpa using c56), addr4 := .inr (by omega), rtt := .inr ⟨(inB_iff.1 c78).1, by omega, by omega, inB_iff.1 c94, inB_iff.1 h⟩ }, rfl⟩
                ·exact Pt 19 E4 <| Mv 20 E3 <| Sk 21 E3 <| Sk 22 E3 <| Sk 23 E3 <| Pf 24 E4 <| Sg 25 E3 <| Zl hk35 <| Run.ret <| Je E2 ⟨false, rfl, fun h => (by cases h), rfl⟩
               ·exact Pt 14 E4 <| Mv 15 E3 <| Sk 16 E3 <| Sk 17 E3 <| Sk 18 E3 <| Pf 19 E4 <| Mv 20 E3 <| Sk 21 E3 <| Sk 22 E3 <| Sk 23 E3 <| Pf 24 E4 <| Sg 25 E3 <| Zl hk35 <| Run.ret <| Je E2 ⟨false, rfl, fun h => (by cases h), rfl⟩
              ·exact Pt 9 E4 <| Mv 10 E3 <| Sk 11 E3 <| Sk 12 E3 <| Sk 13 E3 <| Pf 14 E4 <| Mv 15 E3 <| Sk 16 E3 <| Sk 17 E3 <| Sk 18 E3 <| Pf 19 E4 <| Mv 20 E3 <| Sk 21 E3 <| Sk 22 E3 <| Sk 23 E3 <| Pf 24 E4 <| Sg 25 E3 <| Zl hk35 <| Run.ret <| Je E2 ⟨false, rfl, fun h => (by cases h), rfl⟩
             ·exact Mv 3 E3 <| Sk 4 E3 <| Sk 5 E3 <| Sk 6 E3 <| Sk 7 E3 <| Sk 8 E3 <| Pf 9 E4 <| Mv 10 E3 <| Sk 11 E3 <| Sk 12 E3 <| Sk 13 E3 <| Pf 14 E4 <| Mv 15 E3 <| Sk 16 E3 <| Sk 17 E3 <| Sk 18 E3 <| Pf 19 E4 <| Mv 20 E3 <| Sk 21 E3 <| Sk 22 E3 <| Sk 23 E3 <| Pf 24 E4 <| Sg 25 E3 <| Zl hk35 <| Run.ret <| Je E2 ⟨false, rfl, fun h => (by cases h), rfl⟩
            ·refine Qp 2 E2 (Zu E2) <| Zl hk34 <| Zt <| Zs fun _ hk36 => Qq 0 E2 (Z0 E2 g63 (Rtt.enc_sub _)) ?_
             exact Qp 1 E2 (QP.build (l := Rtt.enc Rtt.zero) rfl st63 rfl (by exact trivial) rfl) <| Qp 2 E2 (QP.eql_agg eq63 rfl rfl rfl) <| Sg 3 E3 <| Zl hk36 <| Run.ret <| Je E2 ⟨_, rfl, fun h => { kind := by omega, cost := inB_iff.1 c23, mtu := inB_iff.1 c29, hello := inB_iff.1 c34, update := inB_iff.1 c39, hello10 := by omega, update10 := by omega, addr := hl56 (by simpa using c56), addr4 := .inr (by omega), rtt := .inl (of_decide_eq_true h) }, rfl⟩
          ·refine Ym 9 E4 <| Sk 10 E3 <| Sk 11 E3 <| Sk 12 E3 <| Sk 13 E3 <| Yp 14 E3 (QP.pick_f rfl rfl rfl) <| Pf 15 E4 <| Zl hk31 <| Zf <| Run.skip <| hk30 _ _ <| Run.seq fun _ hk37 => Zs fun _ hk38 => Fa 0 E3 f63_0 <| Qq 1 E2 (Z1 E2 g4 (Rtt.sub_on_ _)) ?_
           refine J.caseB (fun c71 => ?_) (fun c71 => ?_)
           ·refine Qp 2 E2 (Zu E2) <| Zl hk38 <| Zf <| Run.skip <| hk37 _ _ <| Zs fun _ hk39 => Fa 0 E3 f63_1 <| Qq 1 E2 (Z1 E2 g3 (Rtt.sub_min _)) ?_
            refine Ef 2 E2 (Zc E2 ce56 TN (fun F' hle hr => rin_spec F' (((x).rtt).min) (0) (1000000))) ?_
            rintro _ _ ⟨_, ⟨rfl, rfl⟩, rfl⟩
            refine J.app <| J.caseB (fun c78 => ?_) (fun c78 => ?_)
            ·refine Mv 3 E3 <| Yf 4 E4 f63_2 <| Yq 5 E3 (Z1 E2 g3 (Rtt.sub_max _)) ?_
             refine Yf 6 E4 f63_1 <| Yq 7 E3 (Z1 E2 g3 (Rtt.sub_min _)) ?_
             refine Yp 8 E3 (QP.gtr rfl rfl rfl) <| J.caseD (fun c84 => ?_) (fun c84 => ?_)
             ·refine Pt 9 E4 <| Mv 10 E3 <| Yf 11 E4 f63_2 <| Yq 12 E3 (Z1 E2 g3 (Rtt.sub_max _)) ?_
              refine Yp 13 E3 (QP.leq rfl rfl rfl) <| J.caseD (fun c89 => ?_) (fun c89 => ?_)
              ·refine Pt 14 E4 <| Mv 15 E3 <| Yf 16 E4 f63_3 <| Yq 17 E3 (Z1 E2 g3 (Rtt.sub_cost _)) ?_
               refine Ye 18 E3 (Zc E2 ce56 TN (fun F' hle hr => rin_spec F' (((x).rtt).cost) (1) (65534))) ?_
               rintro _ _ ⟨_, ⟨rfl, rfl⟩, rfl⟩
               refine J.app <| J.caseB (fun c94 => ?_) (fun c94 => ?_)
               ·refine Pt 19 E4 <| Mv 20 E3 <| Yf 21 E4 f63_4 <| Yq 22 E3 (Z1 E2 g3 (Rtt.sub_decay _)) ?_
                refine Ye 23 E3 (Zc E2 ce56 TN (fun F' hle hr => rin_spec F' (((x).rtt).decay) (1) (256))) ?_
                rintro _ _ ⟨_, ⟨rfl, rfl⟩, rfl⟩
                exact J.app <| Pt 24 E4 <| Sg 25 E3 <| Zl hk39 <| Run.ret <| Je E2 ⟨_, rfl, fun h => { kind := by omega, cost := inB_iff.1 c23, mtu := inB_iff.1 c29, hello := inB_iff.1 c34, update := inB_iff.1 c39, hello10 := by omega, update10 := by omega, addr := hl56 (by simpa using c56), addr4 := .inl (Classical.not_not.1 c62), rtt := .inr ⟨(inB_iff.1 c78).1, by omega, by omega, inB_iff.1 c94, inB_iff.1 h⟩ }, rfl⟩
               ·exact Pt 19 E4 <| Mv 20 E3 <| Sk 21 E3 <| Sk 22 E3 <| Sk 23 E3 <| Pf 24 E4 <| Sg 25 E3 <| Zl hk39 <| Run.ret <| Je E2 ⟨false, rfl, fun h => (by cases h), rfl⟩
              ·exact Pt 14 E4 <| Mv 15 E3 <| Sk 16 E3 <| Sk 17 E3 <| Sk 18 E3 <| Pf 19 E4 <| Mv 20 E3 <| Sk 21 E3 <| Sk 22 E3 <| Sk 23 E3 <| Pf 24 E4 <| Sg 25 E3 <| Zl hk39 <| Run.ret <| Je E2 ⟨false, rfl, fun h => (by cases h), rfl⟩
             ·exact Pt 9 E4 <| Mv 10 E3 <| Sk 11 E3 <| Sk 12 E3 <| Sk 13 E3 <| Pf 14 E4 <| Mv 15 E3 <| Sk 16 E3 <| Sk 17 E3 <| Sk 18 E3 <| Pf 19 E4 <| Mv 20 E3 <| Sk 21 E3 <| Sk 22 E3 <| Sk 23 E3 <| Pf 24 E4 <| Sg 25 E3 <| Zl hk39 <| Run.ret <| Je E2 ⟨false, rfl, fun h => (by cases h), rfl⟩
            ·exact Mv 3 E3 <| Sk 4 E3 <| Sk 5 E3 <| Sk 6 E3 <| Sk 7 E3 <| Sk 8 E3 <| Pf 9 E4 <| Mv 10 E3 <| Sk 11 E3 <| Sk 12 E3 <| Sk 13 E3 <| Pf 14 E4 <| Mv 15 E3 <| Sk 16 E3 <| Sk 17 E3 <| Sk 18 E3 <| Pf 19 E4 <| Mv 20 E3 <| Sk 21 E3 <| Sk 22 E3 <| Sk 23 E3 <| Pf 24 E4 <| Sg 25 E3 <| Zl hk39 <| Run.ret <| Je E2 ⟨false, rfl, fun h => (by cases h), rfl⟩
           ·refine Qp 2 E2 (Zu E2) <| Zl hk38 <| Zt <| Zs fun _ hk40 => Qq 0 E2 (Z0 E2 g63 (Rtt.enc_sub _)) ?_
            exact Qp 1 E2 (QP.build (l := Rtt.enc Rtt.zero) rfl st63 rfl (by exact trivial) rfl) <| Qp 2 E2 (QP.eql_agg eq63 rfl rfl rfl) <| Sg 3 E3 <| Zl hk40 <| Run.ret <| Je E2 ⟨_, rfl, fun h => { kind := by omega, cost := inB_iff.1 c23, mtu := inB_iff.1 c29, hello := inB_iff.1 c34, update := inB_iff.1 c39, hello10 := by omega, update10 := by omega, addr := hl56 (by simpa using c56), addr4 := .inl (Classical.not_not.1 c62), rtt := .inl (of_decide_eq_true h) }, rfl⟩
         ·refine Qp 3 E2 (Zu E2) <| Mv 4 E3 <| Sk 5 E3 <| Sk 6 E3 <| Sk 7 E3 <| Sk 8 E3 <| Sk 9 E3 <| Sq.skip (i := 10) rfl (Want.undef rfl rfl rfl) rfl (ltN rfl) ?_
          refine Sq.skip (i := 11) rfl (Want.undef rfl rfl rfl) rfl (ltN rfl) ?_
          refine Sq.skip (i := 12) rfl (Want.undef rfl rfl rfl) rfl (ltN rfl) ?_
          refine Sq.skip (i := 13) rfl (Want.undef rfl rfl rfl) rfl (ltN rfl) ?_
          exact Sk 14 E3 <| Pt 15 E4 <| Zl hk31 <| Zt <| Zs fun _ hk41 => Sg 0 E3 <| Zl hk41 <| Run.ret <| Je E2 ⟨false, rfl, fun h => (by cases h), rfl⟩
      ·exact Yp 8 E3 (Zu E2) <| Pf 9 E4 <| Mv 10 E3 <| Sk 11 E3 <| Sk 12 E3 <| Sk 13 E3 <| Sk 14 E3 <| Pt 15 E4 <| Mv 16 E3 <| Sk 17 E3 <| Sk 18 E3 <| Sk 19 E3 <| Sk 20 E3 <| Pt 21 E4 <| Zl hk27 <| Zt <| Zs fun _ hk42 => Sg 0 E3 <| Zl hk42 <| Run.ret <| Je E2 ⟨false, rfl, fun h => (by cases h), rfl⟩
     ·exact Qp 3 E2 (Zu E2) <| Mv 4 E3 <| Sk 5 E3 <| Sk 6 E3 <| Sk 7 E3 <| Sk 8 E3 <| Pt 9 E4 <| Mv 10 E3 <| Sk 11 E3 <| Sk 12 E3 <| Sk 13 E3 <| Sk 14 E3 <| Pt 15 E4 <| Mv 16 E3 <| Sk 17 E3 <| Sk 18 E3 <| Sk 19 E3 <| Sk 20 E3 <| Pt 21 E4 <| Zl hk27 <| Zt <| Zs fun _ hk43 => Sg 0 E3 <| Zl hk43 <| Run.ret <| Je E2 ⟨false, rfl, fun h => (by cases h), rfl⟩
    ·exact Yp 24 E3 (Zu E2) <| Pf 25 E4 <| Zl hk4 <| Zt <| Zs fun _ hk44 => Sg 0 E3 <| Zl hk44 <| Run.ret <| Je E2 ⟨false, rfl, fun h => (by cases h), rfl⟩
   ·exact Yp 18 E3 (Zu E2) <| Pf 19 E4 <| Mv 20 E3 <| Sk 21 E3 <| Sk 22 E3 <| Sk 23 E3 <| Sk 24 E3 <| Pt 25 E4 <| Zl hk4 <| Zt <| Zs fun _ hk45 => Sg 0 E3 <| Zl hk45 <| Run.ret <| Je E2 ⟨false, rfl, fun h => (by cases h), rfl⟩
 ·refine Qp 3 E2 (Zu E2) <| Mv 4 E3 <| Sk 5 E3 <| Sk 6 E3 <| Sk 7 E3 <| Sk 8 E3 <| Sq.skip (i := 9) rfl (Want.undef rfl rfl rfl) rfl (ltN rfl) ?_
  refine Sq.skip (i := 10) rfl (Want.undef rfl rfl rfl) rfl (ltN rfl) ?_
  refine Sq.skip (i := 11) rfl (Want.undef rfl rfl rfl) rfl (ltN rfl) ?_
  exact Sk 12 E3 <| Pt 13 E4 <| Mv 14 E3 <| Sk 15 E3 <| Sk 16 E3 <| Sk 17 E3 <| Sk 18 E3 <| Pt 19 E4 <| Mv 20 E3 <| Sk 21 E3 <| Sk 22 E3 <| Sk 23 E3 <| Sk 24 E3 <| Pt 25 E4 <| Zl hk4 <| Zt <| Zs fun _ hk46 => Sg 0 E3 <| Zl hk46 <| Run.ret <| Je E2 ⟨false, rfl, fun h => (by cases h), rfl⟩

def id1 : Bs 8 := ⟨[0, 0, 0, 0, 0, 0, 0, 1], rfl⟩
def conf1 (b off c : Nat) : Config := ⟨id1, ⟨some ⟨b, off, none⟩, 1, c⟩, Slc.zero, Slc.zero, 1, 1, 1, 1⟩

theorem rcheckC_spec (F : Fr) {b off c : Nat} {x : IfConf} (hb : ArgSl F (some ⟨b, off, none⟩) 43 IfConf.enc [x]) : Spec Tryz.prog 30 #[.agg (Config.enc (conf1 b off c)).toArray] [] F (fun v S => ∃ n, v = .int .i64 n ∧ (n = 0 → IfOk x) ∧ S = []) := by
 obtain ⟨b9, o9, e9, hb1⟩ := hb.get (by simp)
 cases e9
 refine Spec.intro (N := 151) (args := [.agg (Config.enc (conf1 b off c)).toArray]) Tryz.func30 rfl rfl (by simp) ?_
 refine Zs fun _ hk1 => Ef 0 E2 (EF.boxA rfl rfl) ?_
 rintro _ _ ⟨b1, rfl, rfl⟩
 refine Sg 1 E3 <| Zl hk1 <| Run.seq fun _ hk2 => Zs fun _ hk3 => Fa 0 E3 f83_0 <| Qq 1 E2 (Z0 E2 g42 (Config.sub_id_ _)) ?_
 refine Qp 2 E2 (QP.const (.agg (Bs.enc (⟨[0, 0, 0, 0, 0, 0, 0, 0], rfl⟩ : Bs 8)).toArray) (fun _ _ => by kernel_rfl)) <| Qp 3 E2 (QP.eql_agg eq42 rfl rfl rfl) <| J.decF (by show ¬ id1 = _; decide) ?_
 refine Mv 4 E3 <| Yf 5 E4 f83_0 <| Yq 6 E3 (Z0 E2 g42 (Config.sub_id_ _)) ?_
 refine Ye 7 E3 (Zc E2 ce52 TN (fun F' hle hr => rfull_spec F' (((conf1 b off c)).id_))) ?_
 rintro _ _ ⟨_, ⟨r16, rfl, hfu16, rfl⟩, rfl⟩
 refine J.app <| J.caseB (fun c16 => ?_) (fun c16 => ?_)
 ·exact Pf 8 E4 <| Zl hk3 <| Zt <| Zs fun _ hk4 => Sg 0 E3 <| Zl hk4 <| Run.ret <| Je E2 ⟨91, rfl, fun h => absurd h (by decide), rfl⟩
 ·refine Pf 8 E4 <| Zl hk3 <| Zf <| Run.skip <| hk2 _ _ <| Run.seq fun _ hk5 => Zs fun _ hk6 => Fa 0 E3 f83_1 <| Qq 1 E2 (Z1 E2 g22 (Config.sub_ifs _)) ?_
  refine Qp 2 E2 (QP.len rfl rfl rfl Tryz.underlying22) <| Qp 3 E2 (Ze E3) <| J.decF (by show ¬ ((1 : Nat) : Int) = 0; decide) ?_
  refine Zl hk6 <| Zf <| Run.skip <| hk5 _ _ <| Run.seq fun _ hk7 => Zs fun _ hk8 => Fa 0 E3 f83_1 <| Qq 1 E2 (Z1 E2 g22 (Config.sub_ifs _)) ?_
  refine Qp 2 E2 (QP.len rfl rfl rfl Tryz.underlying22) <| Qp 3 E2 (QP.gtr rfl rfl rfl) <| J.decF (by show ¬ (16 : Int) < ((1 : Nat) : Int); decide) ?_
  refine Mv 4 E3 <| Yf 5 E4 f83_2 <| Yq 6 E3 (Z1 E2 g80 (Config.sub_rules _)) ?_
  refine Yp 7 E3 (QP.len rfl rfl rfl Tryz.underlying80) <| Yp 8 E3 (QP.gtr rfl rfl rfl) <| J.decF (by show ¬ (256 : Int) < ((0 : Nat) : Int); decide) ?_
  refine Pf 9 E4 <| Mv 10 E3 <| Yf 11 E4 f83_3 <| Yq 12 E3 (Z1 E2 g81 (Config.sub_locals _)) ?_
  refine Yp 13 E3 (QP.len rfl rfl rfl Tryz.underlying81) <| Yp 14 E3 (QP.gtr rfl rfl rfl) <| J.decF (by show ¬ (256 : Int) < ((0 : Nat) : Int); decide) ?_
  refine Pf 15 E4 <| Zl hk8 <| Zf <| Run.skip <| hk7 _ _ <| Run.seq fun _ hk9 => Zs fun _ hk10 => Sg 0 E3 <| Zl hk10 <| Run.block <| Run.loop1 (fun (i : Nat) => i ≤ 1 ∧ (0 < i → IfOk x)) (fun i => .cons 1 (.pointer (some ⟨b1, 0, none⟩)) (.cons 3 (.int .i64 i) (.nil))) (fun i => [blk b1 (Config.enc (conf1 b off c)) 83]) (fun i => 1 - i) (0) (⟨Nat.zero_le _, fun h => absurd h (by omega)⟩) ?_ ?_
  ·exact fun _ j => J.envJ (J.keep Tk1 j) ⟨rfl, rfl, trivial⟩
  rintro i ⟨hile, hok⟩ kl11 hl11
  refine Run.seq fun _ hk12 => Zs fun _ hk13 => Mv 0 E3 <| Fa 1 E3 f83_1 <| Qq 2 E2 (Z1 E2 g22 (Config.sub_ifs _)) ?_
  refine Qp 3 E2 (QP.len rfl rfl rfl Tryz.underlying22) <| Qp 4 E2 (Zb E3) <| J.caseD (fun c42 => ?_) (fun c42 => ?_)
  ·refine Zl hk13 <| Zt <| Run.skip <| hk12 _ _ <| Run.seq fun _ hk14 => Run.block <| Run.seq fun _ hk15 => Run.seq fun _ hk16 => Run.region ?_
   obtain rfl : i = 0 := by have : (i : Int) < ((1 : Nat) : Int) := c42; omega
   have hi : [x][Int.toNat ((0 : Nat) : Int)]? = some x := rfl
   refine Fa 0 E3 f83_1 <| Qq 1 E2 (Z1 E2 g22 (Config.sub_ifs _)) ?_
   refine Mv 2 E3 <| Qp 3 E2 (QP.indexAddr rfl rfl rfl Tryz.underlying22 z65 Og Og) <| Qq 4 E2 (QR.loadSl rfl rfl g65 IfConf.enc_len (hb1 _) hi) ?_
   refine Ef 5 E2 (Zc E2 ce53 TN (fun F' hle hr => riface_spec F' (x))) ?_
   rintro _ _ ⟨_, ⟨r50, rfl, hif50, rfl⟩, rfl⟩
   refine J.app <| J.caseB (fun c50 => ?_) (fun c50 => ?_)
   ·refine Qp 6 E2 (Zu E2) <| Zl hk16 <| Zf <| Run.skip <| hk15 _ _ <| Zs fun _ hk17 => Sg 0 E3 <| Zl hk17 <| Run.block <| Run.loop1 (fun (u : Unit) => True) (fun u => .cons 1 (.pointer (some ⟨b1, 0, none⟩)) (.cons 3 (.int .i64 ((0 : Nat) : Int)) (.cons 4 (.int .i64 0) (.nil)))) (fun u => [blk b1 (Config.enc (conf1 b off c)) 83]) (fun u => 0) (()) (trivial) ?_ ?_
    ·exact fun _ j => J.envJ (J.keep Tk1 j) ⟨rfl, rfl, rfl, trivial⟩
    rintro u _ kl18 hl18
    refine Run.seq fun _ hk19 => Zs fun _ hk20 => Mv 0 E3 <| Mv 1 E3 <| Qp 2 E2 (Zb E3) <| J.caseD (fun c54 => ?_) (fun c54 => ?_)
    ·refine Zl hk20 <| Zt <| Run.skip <| hk19 _ _ <| Run.seq fun _ hk21 => Run.block <| Run.seq fun _ hk22 => Run.regionD (M := [0, 1, 0, 7, 15, 31, 0, 64, 0, 448, 960, 1984, 4095]) (q := 8191) (r := 2210) Kr ?_
     exact absurd c54 (by omega)
    ·exact Zl hk20 <| Zf <| Run.exit rfl <| hk14 _ _ <| Run.region <| Mv 0 E3 <| Qp 1 E2 (QP.add64 rfl rfl rfl Og Og) <| Sg 2 E3 <| Sq.nil <| J.envJ (J.keep Tk1 (hl11 (1) (⟨Nat.le_refl _, fun _ => hif50 (by simpa using c50)⟩) (by omega))) ⟨rfl, rfl, trivial⟩
   ·exact Qp 6 E2 (Zu E2) <| Zl hk16 <| Zt <| Zs fun _ hk23 => Sg 0 E3 <| Zl hk23 <| Run.ret <| Je E2 ⟨91, rfl, fun h => absurd h (by decide), rfl⟩
  ·refine Zl hk13 <| Zf <| Run.exit rfl <| hk9 _ _ <| Run.seq fun _ hk24 => Run.seq fun _ hk25 => Run.region ?_
   have hok1 : IfOk x := hok (by have : ¬ (i : Int) < ((1 : Nat) : Int) := c42; omega)
   refine Sg 0 E3 <| Zl hk25 <| Run.block <| Run.loop1 (fun (u : Unit) => True) (fun u => .cons 1 (.pointer (some ⟨b1, 0, none⟩)) (.cons 5 (.int .i64 0) (.nil))) (fun u => [blk b1 (Config.enc (conf1 b off c)) 83]) (fun u => 0) (()) (trivial) ?_ ?_
   ·exact fun _ j => J.envJ (J.keep Tk1 j) ⟨rfl, rfl, trivial⟩
   rintro u _ kl26 hl26
   refine Run.seq fun _ hk27 => Zs fun _ hk28 => Mv 0 E3 <| Fa 1 E3 f83_2 <| Qq 2 E2 (Z1 E2 g80 (Config.sub_rules _)) ?_
   refine Qp 3 E2 (QP.len rfl rfl rfl Tryz.underlying80) <| Qp 4 E2 (Zb E3) <| J.caseD (fun c74 => ?_) (fun c74 => ?_)
   ·exact Zl hk28 <| Zt <| Run.skip <| hk27 _ _ <| Run.seq fun _ hk29 => Run.block <| Zs fun _ hk30 => absurd c74 (by show ¬ ((0 : Int) < ((0 : Nat) : Int)); decide)
   ·refine Zl hk28 <| Zf <| Run.exit rfl <| hk24 _ _ <| Run.seq fun _ hk31 => Zs fun _ hk32 => Sg 0 E3 <| Zl hk32 <| Run.block <| Run.loop1 (fun (u : Unit) => True) (fun u => .cons 1 (.pointer (some ⟨b1, 0, none⟩)) (.cons 7 (.int .i64 0) (.nil))) (fun u => [blk b1 (Config.enc (conf1 b off c)) 83]) (fun u => 0) (()) (trivial) ?_ ?_
    ·exact fun _ j => J.envJ (J.keep Tk1 j) ⟨rfl, rfl, trivial⟩
    rintro u _ kl33 hl33
    refine Run.seq fun _ hk34 => Zs fun _ hk35 => Mv 0 E3 <| Fa 1 E3 f83_3 <| Qq 2 E2 (Z1 E2 g81 (Config.sub_locals _)) ?_
    refine Qp 3 E2 (QP.len rfl rfl rfl Tryz.underlying81) <| Qp 4 E2 (Zb E3) <| J.caseD (fun c90 => ?_) (fun c90 => ?_)
    ·exact Zl hk35 <| Zt <| Run.skip <| hk34 _ _ <| Run.seq fun _ hk36 => Run.block <| Run.seq fun _ hk37 => Zs fun _ hk38 => absurd c90 (by show ¬ ((0 : Int) < ((0 : Nat) : Int)); decide)
    ·refine Zl hk35 <| Zf <| Run.exit rfl <| hk31 _ _ <| Run.seq fun _ hk39 => Zs fun _ hk40 => Fa 0 E3 f83_4 <| Qq 1 E2 (Z1 E2 g3 (Config.sub_neighbours _)) ?_
     refine Ef 2 E2 (Zc E2 ce56 TN (fun F' hle hr => rin_spec F' (((conf1 b off c)).neighbours) (1) (4096))) ?_
     rintro _ _ ⟨_, ⟨rfl, rfl⟩, rfl⟩
     refine J.app <| J.caseB (fun c131 => ?_) (fun c131 => ?_)
     ·refine Qp 3 E2 (Zu E2) <| Mv 4 E3 <| Yf 5 E4 f83_5 <| Yq 6 E3 (Z1 E2 g3 (Config.sub_sources _)) ?_
      refine Ye 7 E3 (Zc E2 ce56 TN (fun F' hle hr => rin_spec F' (((conf1 b off c)).sources) (1) (4096))) ?_
      rintro _ _ ⟨_, ⟨rfl, rfl⟩, rfl⟩
      refine J.app <| J.caseB (fun c136 => ?_) (fun c136 => ?_)
      ·refine Yp 8 E3 (Zu E2) <| Pf 9 E4 <| Mv 10 E3 <| Yf 11 E4 f83_6 <| Yq 12 E3 (Z1 E2 g3 (Config.sub_routes _)) ?_
       refine Ye 13 E3 (Zc E2 ce56 TN (fun F' hle hr => rin_spec F' (((conf1 b off c)).routes) (1) (4096))) ?_
       rintro _ _ ⟨_, ⟨rfl, rfl⟩, rfl⟩
       refine J.app <| J.caseB (fun c142 => ?_) (fun c142 => ?_)
       ·refine Yp 14 E3 (Zu E2) <| Pf 15 E4 <| Mv 16 E3 <| Yf 17 E4 f83_7 <| Yq 18 E3 (Z1 E2 g3 (Config.sub_requests _)) ?_
        refine Ye 19 E3 (Zc E2 ce56 TN (fun F' hle hr => rin_spec F' (((conf1 b off c)).requests) (1) (4096))) ?_
        rintro _ _ ⟨_, ⟨rfl, rfl⟩, rfl⟩
        refine J.app <| J.caseB (fun c148 => ?_) (fun c148 => ?_)
        ·exact Yp 20 E3 (Zu E2) <| Pf 21 E4 <| Zl hk40 <| Zf <| Run.skip <| hk39 _ _ <| Zs fun _ hk41 => Sg 0 E3 <| Zl hk41 <| Run.ret <| Je E2 ⟨0, rfl, fun _ => hok1, rfl⟩
        ·exact Yp 20 E3 (Zu E2) <| Pf 21 E4 <| Zl hk40 <| Zt <| Zs fun _ hk42 => Sg 0 E3 <| Zl hk42 <| Run.ret <| Je E2 ⟨91, rfl, fun h => absurd h (by decide), rfl⟩
       ·exact Yp 14 E3 (Zu E2) <| Pf 15 E4 <| Mv 16 E3 <| Sk 17 E3 <| Sk 18 E3 <| Sk 19 E3 <| Sk 20 E3 <| Pt 21 E4 <| Zl hk40 <| Zt <| Zs fun _ hk43 => Sg 0 E3 <| Zl hk43 <| Run.ret <| Je E2 ⟨91, rfl, fun h => absurd h (by decide), rfl⟩
      ·exact Yp 8 E3 (Zu E2) <| Pf 9 E4 <| Mv 10 E3 <| Sk 11 E3 <| Sk 12 E3 <| Sk 13 E3 <| Sk 14 E3 <| Pt 15 E4 <| Mv 16 E3 <| Sk 17 E3 <| Sk 18 E3 <| Sk 19 E3 <| Sk 20 E3 <| Pt 21 E4 <| Zl hk40 <| Zt <| Zs fun _ hk44 => Sg 0 E3 <| Zl hk44 <| Run.ret <| Je E2 ⟨91, rfl, fun h => absurd h (by decide), rfl⟩
     ·exact Qp 3 E2 (Zu E2) <| Mv 4 E3 <| Sk 5 E3 <| Sk 6 E3 <| Sk 7 E3 <| Sk 8 E3 <| Pt 9 E4 <| Mv 10 E3 <| Sk 11 E3 <| Sk 12 E3 <| Sk 13 E3 <| Sk 14 E3 <| Pt 15 E4 <| Mv 16 E3 <| Sk 17 E3 <| Sk 18 E3 <| Sk 19 E3 <| Sk 20 E3 <| Pt 21 E4 <| Zl hk40 <| Zt <| Zs fun _ hk45 => Sg 0 E3 <| Zl hk45 <| Run.ret <| Je E2 ⟨91, rfl, fun h => absurd h (by decide), rfl⟩

theorem may_spec (F : Fr) {cs : List IfConf} {a : Option Addr} {c : Nat} (hi0 : cs.length ≤ 9223372036854775807) (ha : ArgSl F a 43 IfConf.enc cs) (hcap : cs.length ≤ c)  : Spec Tryz.prog 5 #[.slice a cs.length c] [] F (fun v S => ∃ r, v = .bool r ∧ (r = true → cs.length ≤ 8 ∧ ∀ x ∈ cs, IfOk x) ∧ S = []) := by
 refine Spec.intro (N := 28) (args := [.slice a cs.length c]) Tryz.func5 rfl rfl (by simp) ?_
 refine Zs fun _ hk1 => Sg 0 E3 <| Zl hk1 <| Run.seq fun _ hk2 => Zs fun _ hk3 => Sg 0 E3 <| Zl hk3 <| Run.block <| Run.loop1 (fun (i : Nat) => i ≤ cs.length ∧ i ≤ 9 ∧ ∀ x ∈ cs.take i, IfOk x) (fun i => .cons 0 (.slice a cs.length c) (.cons 3 (.int .i64 i) (.nil))) (fun i => []) (fun i => cs.length - i) (0) (⟨Nat.zero_le _, Nat.zero_le _, by simp⟩) ?_ ?_
 ·exact fun _ j => J.envJ (J.keep TN j) ⟨rfl, rfl, trivial⟩
 rintro i ⟨hile, hi9, hok⟩ kl4 hl4
 refine Run.seq fun _ hk5 => Zs fun _ hk6 => Mv 0 E3 <| Mv 1 E3 <| Qp 2 E2 (QP.len rfl rfl rfl Tryz.underlying22) <| Qp 3 E2 (Zb E3) <| J.caseD (fun c8 => ?_) (fun c8 => ?_)
 ·refine Mv 4 E3 <| Ym 5 E4 <| Yp 6 E3 (QP.leq rfl rfl rfl) <| J.caseD (fun c11 => ?_) (fun c11 => ?_)
  ·refine Pt 7 E4 <| Zl hk6 <| Zt <| Run.skip <| hk5 _ _ <| Run.seq fun _ hk7 => Run.block <| Run.seq fun _ hk8 => Run.region ?_
   obtain ⟨x, hi⟩ : ∃ x, cs[i]? = some x := ⟨_, GE (by omega)⟩
   obtain ⟨b0, o0, rfl, hs0⟩ := ha.get (by omega)
   refine Qp 0 E2 (QP.const (.agg (Bs.enc id1).toArray) (fun _ _ => by kernel_rfl)) <| Mv 1 E3 <| Mv 2 E3 <| Mv 3 E3 <| Qp 4 E2 (QP.add64 rfl rfl rfl Og Og) <| Qp 5 E2 (QP.sliceLoHi rfl rfl rfl rfl Tryz.underlying22 z65 (by omega) (by omega) (by omega)) ?_
   rw [slOff_at (i := Int.toNat ((i : Nat) : Int)) (by show i < c; omega), show (Int.toNat (((i : Nat) : Int) + 1) - Int.toNat ((i : Nat) : Int)) = 1 by omega, show Int.toNat ((i : Nat) : Int) = i by omega]
   refine Qp 6 E2 (QP.build (l := Config.enc (conf1 b0 (o0 + i * 43) (c - i))) rfl st83 rfl (by exact ⟨congrArg some (Bs.len _).symm, ⟨rfl, ⟨rfl, ⟨rfl, ⟨rfl, ⟨rfl, trivial⟩⟩⟩⟩⟩⟩) rfl) <| Ef 7 E2 (EF.allocA (l := Config.enc Config.zero) rfl zero83) ?_
   rintro _ _ ⟨b4, rfl, rfl⟩
   refine Ac 8 rfl (EF.storeA rfl rfl rfl z83 (SetL.all (Config.enc_len _) (Config.enc_len _)) (Config.enc_cell _)) ?_
   rintro _ _ rfl
   refine Zl hk8 <| Zs fun _ hk9 => Qq 0 E2 (Z0 E2 g83 (Config.enc_sub _)) ?_
   refine Ef 1 E2 (Zc E2 ce30 TN (fun F' hle hr => rcheckC_spec F' ((ArgSl.one IfConf.enc_len ha hi).mono hle))) ?_
   rintro _ _ ⟨_, ⟨n23, rfl, hn23, rfl⟩, rfl⟩
   refine J.app <| Qp 2 E2 (Zq E3) <| J.caseD (fun c24 => ?_) (fun c24 => ?_)
   ·exact Zl hk9 <| Zt <| Zs fun _ hk10 => Sg 0 E3 <| Zl hk10 <| Run.ret <| Je E2 ⟨false, rfl, fun h => (by cases h), rfl⟩
   ·exact Zl hk9 <| Zf <| Run.skip <| hk7 _ _ <| Run.region <| Mv 0 E3 <| Qp 1 E2 (QP.add64 rfl rfl rfl Og Og) <| Sg 2 E3 <| Sq.nil <| J.envJ (J.keep TN (hl4 (i + 1) (⟨by omega, by omega, take_not hok hi (hn23 (by omega))⟩) (by omega))) ⟨rfl, rfl, trivial⟩
  ·exact Pt 7 E4 <| Zl hk6 <| Zf <| Run.exit rfl <| hk2 _ _ <| Zs fun _ hk11 => Mv 0 E3 <| Qp 1 E2 (QP.len rfl rfl rfl Tryz.underlying22) <| Qp 2 E2 (QP.leq rfl rfl rfl) <| Sg 3 E3 <| Zl hk11 <| Run.ret <| Je E2 ⟨_, rfl, fun h => ⟨by have h9 := of_decide_eq_true h; omega, by have h9 := of_decide_eq_true h; have h8 : cs.take i = cs := List.take_of_length_le (by omega); rw [h8] at hok; exact hok⟩, rfl⟩
 ·exact Mv 4 E3 <| Sk 5 E3 <| Sk 6 E3 <| Pf 7 E4 <| Zl hk6 <| Zf <| Run.exit rfl <| hk2 _ _ <| Zs fun _ hk12 => Mv 0 E3 <| Qp 1 E2 (QP.len rfl rfl rfl Tryz.underlying22) <| Qp 2 E2 (QP.leq rfl rfl rfl) <| Sg 3 E3 <| Zl hk12 <| Run.ret <| Je E2 ⟨_, rfl, fun h => ⟨by have h9 := of_decide_eq_true h; omega, by have h9 := of_decide_eq_true h; have h8 : cs.take i = cs := List.take_of_length_le (by omega); rw [h8] at hok; exact hok⟩, rfl⟩

theorem num14_spec (F : Fr) (a : Int) : Spec Tryz.prog 10 #[.int .i64 a] [] F (fun v S => v = .int .i64 a ∧ S = []) := by
 refine Spec.intro (N := 4) (args := [.int .i64 a]) Tryz.func10 rfl rfl (by simp) ?_
 exact Zs fun _ hk1 => Sg 0 E3 <| Zl hk1 <| Zs fun _ hk2 => Mv 0 E3 <| Sg 1 E3 <| Zl hk2 <| Run.ret <| Je E2 ⟨rfl, rfl⟩
end Slb
