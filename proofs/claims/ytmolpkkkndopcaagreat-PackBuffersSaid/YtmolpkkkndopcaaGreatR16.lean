/- R16: a part of the proof that a law of this package holds for every input; no condition. -/
import Derived.Test.YtmolpkkkndopcaaGreatM2
import Derived.Test.YtmolpkkkndopcaaGreatR15
namespace Slb
open Go Go.Proofs
set_option maxRecDepth 20000
def bareF (t : Tlv) : Tlv := { (ownF t).1 with stamps := t.stamps }
theorem pair8 {t : Tlv} (h : t.type = 8 ∨ t.type = 9) : pairedB t = !t.all := by unfold pairedB; rw [if_pos h]
theorem pair10 {t : Tlv} (h : t.type = 10) : pairedB t = true := by unfold pairedB; rw [if_neg (by omega)]; exact decide_eq_true h
theorem pairNo {t : Tlv} (h : ¬ (t.type = 8 ∨ t.type = 9)) (h2 : ¬ t.type = 10) : pairedB t = false := by unfold pairedB; rw [if_neg h]; exact decide_eq_false h2

set_option maxHeartbeats 4000000 in
theorem bare_spec (F : Fr) (t : Tlv) : Spec Tryz.prog 25 #[.agg (Tlv.enc t).toArray] [] F (fun v S => v = .agg (Tlv.enc (bareF t)).toArray ∧ S = []) := by
 refine Spec.intro (N := 107) (args := [.agg (Tlv.enc t).toArray]) Tryz.func25 rfl rfl (by simp) ?_
 refine Zs fun _ hk1 => Ef 0 E2 (EF.boxA rfl rfl) ?_
 rintro _ _ ⟨b1, rfl, rfl⟩
 refine Ef 1 E2 (EF.allocA (l := Tlv.enc Tlv.zero) rfl zero45) ?_
 rintro _ _ ⟨b2, rfl, rfl⟩
 refine Zl hk1 <| Zs fun _ hk2 => Fa 0 E3 f45_0 <| Qq 1 E2 (Z1 E2 g5 (Tlv.sub_type _)) ?_
 refine Fa 2 E3 f45_12 <| Qq 3 E2 (Z1 E2 g43 (Tlv.sub_stamps _)) ?_
 refine Qp 4 E2 (QP.build (l := Tlv.enc ({ Tlv.zero with type := t.type, stamps := t.stamps } : Tlv)) rfl st45 rfl (by exact ⟨rfl, ⟨rfl, trivial⟩⟩) rfl) <| Ef 5 E2 (EF.allocA (l := Tlv.enc Tlv.zero) rfl zero45) ?_
 rintro _ _ ⟨b3, rfl, rfl⟩
 refine Ac 6 rfl (EF.storeA rfl rfl rfl z45 (SetL.all (Tlv.enc_len _) (Tlv.enc_len _)) (Tlv.enc_cell _)) ?_
 rintro _ _ rfl
 refine Zl hk2 <| Run.cut1 (fun (y : Tlv) => y = bareF t) (fun y => .cons 2 (fp b2) (.cons 3 (fp b3) (.nil))) (fun y => [blk b2 (Tlv.enc Tlv.zero) 45, blk b3 (Tlv.enc y) 45]) ?_ ?_
 ·rintro y hy
  refine Zs fun _ hk4 => Qq 0 E2 (Z0 E2 g45 (Tlv.enc_sub _)) ?_
  refine Ac 1 rfl (EF.storeA rfl rfl rfl z45 (SetL.all (Tlv.enc_len _) (Tlv.enc_len _)) (Tlv.enc_cell _)) ?_
  rintro _ _ rfl
  refine Zl hk4 <| Run.ret ?_
  rw [← hy]
  exact J.ends (res_cell rfl rfl g45 (Tlv.enc_sub _)) Takes.nil ⟨rfl, rfl⟩
 ·intro ku3 hu3
  refine Zs fun _ hk5 => Fa 0 E3 f45_0 <| Qq 1 E2 (Z1 E2 g5 (Tlv.sub_type _)) ?_
  refine Zl hk5 <| Run.block <| Zs fun _ hk6 => Qp 0 E2 (Ze E3) <| J.caseD (fun c12 => ?_) (fun c12 => ?_)
  ·refine Sg 1 E3 <| Zl hk6 <| Zt <| Zs fun _ hk7 => Fa 0 E3 f45_1 <| Qq 1 E2 (Z1 E2 g36 (Tlv.sub_nonce _)) ?_
   refine Fa 2 E3 f45_1 <| Ac 3 rfl (EF.store rfl rfl rfl z36 (Tlv.set_nonce _ _) (cell_one rfl)) ?_
   rintro _ _ rfl
   refine Zl hk7 <| Run.region <| Fa 0 E3 f45_2 <| Qq 1 E2 (Z1 E2 g36 (Tlv.sub_interval _)) ?_
   refine Fa 2 E3 f45_2 <| Ac 3 rfl (EF.store rfl rfl rfl z36 (Tlv.set_interval _ _) (cell_one rfl)) ?_
   rintro _ _ rfl
   exact Sq.nil <| J.envJ (J.keep Tk2 (hu3 (({ ({ Tlv.zero with type := t.type, stamps := t.stamps } : Tlv) with nonce := t.nonce, interval := t.interval } : Tlv)) (by have hp : pairedB t = false := pairNo (by have h9 := c12; omega) (by have h9 := c12; omega); unfold bareF ownF; rw [if_pos c12]; unfold ownB; rw [hp]; rfl))) ⟨rfl, rfl, trivial⟩
  ·refine Sg 1 E3 <| Zl hk6 <| Zf <| Zs fun _ hk8 => Qp 0 E2 (Ze E3) <| J.caseD (fun c20 => ?_) (fun c20 => ?_)
   ·refine Sg 1 E3 <| Zl hk8 <| Zt <| Run.region <| Fa 0 E3 f45_1 <| Qq 1 E2 (Z1 E2 g36 (Tlv.sub_nonce _)) ?_
    refine Fa 2 E3 f45_1 <| Ac 3 rfl (EF.store rfl rfl rfl z36 (Tlv.set_nonce _ _) (cell_one rfl)) ?_
    rintro _ _ rfl
    exact Sq.nil <| J.envJ (J.keep Tk2 (hu3 (({ ({ Tlv.zero with type := t.type, stamps := t.stamps } : Tlv) with nonce := t.nonce } : Tlv)) (by have hp : pairedB t = false := pairNo (by have h9 := c20; omega) (by have h9 := c20; omega); unfold bareF ownF; rw [if_neg c12, if_pos c20]; unfold ownB; rw [hp]; rfl))) ⟨rfl, rfl, trivial⟩
   ·refine Sg 1 E3 <| Zl hk8 <| Zf <| Zs fun _ hk9 => Qp 0 E2 (Ze E3) <| J.caseD (fun c25 => ?_) (fun c25 => ?_)
    ·refine Sg 1 E3 <| Zl hk9 <| Zt <| Zs fun _ hk10 => Fa 0 E3 f45_3 <| Qq 1 E2 (Z1 E2 g36 (Tlv.sub_seqno _)) ?_
     refine Fa 2 E3 f45_3 <| Ac 3 rfl (EF.store rfl rfl rfl z36 (Tlv.set_seqno _ _) (cell_one rfl)) ?_
     rintro _ _ rfl
     refine Zl hk10 <| Zs fun _ hk11 => Fa 0 E3 f45_2 <| Qq 1 E2 (Z1 E2 g36 (Tlv.sub_interval _)) ?_
     refine Fa 2 E3 f45_2 <| Ac 3 rfl (EF.store rfl rfl rfl z36 (Tlv.set_interval _ _) (cell_one rfl)) ?_
     rintro _ _ rfl
     refine Zl hk11 <| Run.region <| Fa 0 E3 f45_7 <| Qq 1 E2 (Z1 E2 g4 (Tlv.sub_unicast _)) ?_
     refine Fa 2 E3 f45_7 <| Ac 3 rfl (EF.store rfl rfl rfl z4 (Tlv.set_unicast _ _) (cell_one rfl)) ?_
     rintro _ _ rfl
     exact Sq.nil <| J.envJ (J.keep Tk2 (hu3 (({ ({ Tlv.zero with type := t.type, stamps := t.stamps } : Tlv) with seqno := t.seqno, interval := t.interval, unicast := t.unicast } : Tlv)) (by have hp : pairedB t = false := pairNo (by have h9 := c25; omega) (by have h9 := c25; omega); unfold bareF ownF; rw [if_neg c12, if_neg c20, if_pos c25]; unfold ownB; rw [hp]; rfl))) ⟨rfl, rfl, trivial⟩
    ·refine Sg 1 E3 <| Zl hk9 <| Zf <| Zs fun _ hk12 => Qp 0 E2 (Ze E3) <| J.caseD (fun c36 => ?_) (fun c36 => ?_)
     ·refine Sg 1 E3 <| Zl hk12 <| Zt <| Zs fun _ hk13 => Fa 0 E3 f45_4 <| Qq 1 E2 (Z1 E2 g36 (Tlv.sub_rxcost _)) ?_
      refine Fa 2 E3 f45_4 <| Ac 3 rfl (EF.store rfl rfl rfl z36 (Tlv.set_rxcost _ _) (cell_one rfl)) ?_
      rintro _ _ rfl
      refine Zl hk13 <| Zs fun _ hk14 => Fa 0 E3 f45_2 <| Qq 1 E2 (Z1 E2 g36 (Tlv.sub_interval _)) ?_
      refine Fa 2 E3 f45_2 <| Ac 3 rfl (EF.store rfl rfl rfl z36 (Tlv.set_interval _ _) (cell_one rfl)) ?_
      rintro _ _ rfl
      refine Zl hk14 <| Zs fun _ hk15 => Fa 0 E3 f45_8 <| Qq 1 E2 (Z1 E2 g4 (Tlv.sub_all _)) ?_
      refine Fa 2 E3 f45_8 <| Ac 3 rfl (EF.store rfl rfl rfl z4 (Tlv.set_all _ _) (cell_one rfl)) ?_
      rintro _ _ rfl
      refine Zl hk15 <| Zs fun _ hk16 => Fa 0 E3 f45_8 <| Qq 1 E2 (Z1 E2 g4 (Tlv.sub_all _)) ?_
      refine J.caseB (fun c47 => ?_) (fun c47 => ?_)
      ·exact Qp 2 E2 (Zu E2) <| Zl hk16 <| Zf <| Run.skip <| J.envJ (J.keep Tk2 (hu3 (({ ({ Tlv.zero with type := t.type, stamps := t.stamps } : Tlv) with rxcost := t.rxcost, interval := t.interval, all := t.all } : Tlv)) (by have hp : pairedB t = false := pairNo (by have h9 := c36; omega) (by have h9 := c36; omega); unfold bareF ownF; rw [if_neg c12, if_neg c20, if_neg c25, if_pos c36, if_neg (by rw [c47]; simp)]; unfold ownB; rw [hp]; rfl))) ⟨rfl, rfl, trivial⟩
      ·refine Qp 2 E2 (Zu E2) <| Zl hk16 <| Zt <| Run.region <| Fa 0 E3 f45_10 <| Qq 1 E2 (Z0 E2 g23 (Tlv.sub_addr _)) ?_
       refine Fa 2 E3 f45_10 <| Ac 3 rfl (EF.storeA rfl rfl rfl z23 (Tlv.set_addr _ _) (Bs.cell _)) ?_
       rintro _ _ rfl
       exact Sq.nil <| J.envJ (J.keep Tk2 (hu3 (({ ({ Tlv.zero with type := t.type, stamps := t.stamps } : Tlv) with rxcost := t.rxcost, interval := t.interval, all := t.all, addr := t.addr } : Tlv)) (by have hp : pairedB t = false := pairNo (by have h9 := c36; omega) (by have h9 := c36; omega); unfold bareF ownF; rw [if_neg c12, if_neg c20, if_neg c25, if_pos c36, if_pos c47]; unfold ownB; rw [hp]; rfl))) ⟨rfl, rfl, trivial⟩
     ·refine Sg 1 E3 <| Zl hk12 <| Zf <| Zs fun _ hk17 => Qp 0 E2 (Ze E3) <| J.caseD (fun c53 => ?_) (fun c53 => ?_)
      ·refine Sg 1 E3 <| Zl hk17 <| Zt <| Zs fun _ hk18 => Fa 0 E3 f45_2 <| Qq 1 E2 (Z1 E2 g36 (Tlv.sub_interval _)) ?_
       refine Fa 2 E3 f45_2 <| Ac 3 rfl (EF.store rfl rfl rfl z36 (Tlv.set_interval _ _) (cell_one rfl)) ?_
       rintro _ _ rfl
       refine Zl hk18 <| Zs fun _ hk19 => Fa 0 E3 f45_3 <| Qq 1 E2 (Z1 E2 g36 (Tlv.sub_seqno _)) ?_
       refine Fa 2 E3 f45_3 <| Ac 3 rfl (EF.store rfl rfl rfl z36 (Tlv.set_seqno _ _) (cell_one rfl)) ?_
       rintro _ _ rfl
       refine Zl hk19 <| Zs fun _ hk20 => Fa 0 E3 f45_5 <| Qq 1 E2 (Z1 E2 g36 (Tlv.sub_metric _)) ?_
       refine Fa 2 E3 f45_5 <| Ac 3 rfl (EF.store rfl rfl rfl z36 (Tlv.set_metric _ _) (cell_one rfl)) ?_
       rintro _ _ rfl
       refine Zl hk20 <| Zs fun _ hk21 => Fa 0 E3 f45_8 <| Qq 1 E2 (Z1 E2 g4 (Tlv.sub_all _)) ?_
       refine Fa 2 E3 f45_8 <| Ac 3 rfl (EF.store rfl rfl rfl z4 (Tlv.set_all _ _) (cell_one rfl)) ?_
       rintro _ _ rfl
       refine Zl hk21 <| Run.seq fun _ hk22 => Zs fun _ hk23 => Fa 0 E3 f45_8 <| Qq 1 E2 (Z1 E2 g4 (Tlv.sub_all _)) ?_
       refine J.caseB (fun c67 => ?_) (fun c67 => ?_)
       ·refine Qp 2 E2 (Zu E2) <| Zl hk23 <| Zf <| Run.skip <| hk22 _ _ <| Zs fun _ hk24 => Fa 0 E3 f45_5 <| Qq 1 E2 (Z1 E2 g36 (Tlv.sub_metric _)) ?_
        refine Qp 2 E2 (Zq E3) <| J.caseD (fun c74 => ?_) (fun c74 => ?_)
        ·refine Zl hk24 <| Zt <| Zs fun _ hk25 => Fa 0 E3 f45_9 <| Qq 1 E2 (Z0 E2 g38 (Tlv.sub_id_ _)) ?_
         refine Fa 2 E3 f45_9 <| Ac 3 rfl (EF.storeA rfl rfl rfl z38 (Tlv.set_id_ _ _) (Bs.cell _)) ?_
         rintro _ _ rfl
         refine Zl hk25 <| Run.region <| Fa 0 E3 f45_10 <| Qq 1 E2 (Z0 E2 g23 (Tlv.sub_addr _)) ?_
         refine Fa 2 E3 f45_10 <| Ac 3 rfl (EF.storeA rfl rfl rfl z23 (Tlv.set_addr _ _) (Bs.cell _)) ?_
         rintro _ _ rfl
         exact Sq.nil <| J.envJ (J.keep Tk2 (hu3 (({ ({ Tlv.zero with type := t.type, stamps := t.stamps } : Tlv) with interval := t.interval, seqno := t.seqno, metric := t.metric, all := t.all, id_ := t.id_, addr := t.addr } : Tlv)) (by have hp : pairedB t = false := (pair8 (.inl c53)).trans (by rw [c67]; rfl); unfold bareF ownF; rw [if_neg c12, if_neg c20, if_neg c25, if_neg c36, if_pos c53, if_pos c74]; unfold ownB; rw [hp]; rfl))) ⟨rfl, rfl, trivial⟩
        ·exact Zl hk24 <| Zf <| Run.skip <| J.envJ (J.keep Tk2 (hu3 (({ ({ Tlv.zero with type := t.type, stamps := t.stamps } : Tlv) with interval := t.interval, seqno := t.seqno, metric := t.metric, all := t.all } : Tlv)) (by have hp : pairedB t = false := (pair8 (.inl c53)).trans (by rw [c67]; rfl); unfold bareF ownF; rw [if_neg c12, if_neg c20, if_neg c25, if_neg c36, if_pos c53, if_neg c74]; unfold ownB; rw [hp]; rfl))) ⟨rfl, rfl, trivial⟩
       ·refine Qp 2 E2 (Zu E2) <| Zl hk23 <| Zt <| Run.region <| Fa 0 E3 f45_11 <| Qq 1 E2 (Z0 E2 g42 (Tlv.sub_pair _)) ?_
        refine Fa 2 E3 f45_11 <| Ac 3 rfl (EF.storeA rfl rfl rfl z42 (Tlv.set_pair _ _) (Pair.enc_cell _)) ?_
        rintro _ _ rfl
        refine Zl hk22 <| Zs fun _ hk26 => Fa 0 E3 f45_5 <| Qq 1 E2 (Z1 E2 g36 (Tlv.sub_metric _)) ?_
        refine Qp 2 E2 (Zq E3) <| J.caseD (fun c74 => ?_) (fun c74 => ?_)
        ·refine Zl hk26 <| Zt <| Zs fun _ hk27 => Fa 0 E3 f45_9 <| Qq 1 E2 (Z0 E2 g38 (Tlv.sub_id_ _)) ?_
         refine Fa 2 E3 f45_9 <| Ac 3 rfl (EF.storeA rfl rfl rfl z38 (Tlv.set_id_ _ _) (Bs.cell _)) ?_
         rintro _ _ rfl
         refine Zl hk27 <| Run.region <| Fa 0 E3 f45_10 <| Qq 1 E2 (Z0 E2 g23 (Tlv.sub_addr _)) ?_
         refine Fa 2 E3 f45_10 <| Ac 3 rfl (EF.storeA rfl rfl rfl z23 (Tlv.set_addr _ _) (Bs.cell _)) ?_
         rintro _ _ rfl
         exact Sq.nil <| J.envJ (J.keep Tk2 (hu3 (({ ({ Tlv.zero with type := t.type, stamps := t.stamps } : Tlv) with interval := t.interval, seqno := t.seqno, metric := t.metric, all := t.all, pair := t.pair, id_ := t.id_, addr := t.addr } : Tlv)) (by have hp : pairedB t = true := (pair8 (.inl c53)).trans (by rw [c67]; rfl); unfold bareF ownF; rw [if_neg c12, if_neg c20, if_neg c25, if_neg c36, if_pos c53, if_pos c74]; unfold ownB; rw [hp]; rfl))) ⟨rfl, rfl, trivial⟩
        ·exact Zl hk26 <| Zf <| Run.skip <| J.envJ (J.keep Tk2 (hu3 (({ ({ Tlv.zero with type := t.type, stamps := t.stamps } : Tlv) with interval := t.interval, seqno := t.seqno, metric := t.metric, all := t.all, pair := t.pair } : Tlv)) (by have hp : pairedB t = true := (pair8 (.inl c53)).trans (by rw [c67]; rfl); unfold bareF ownF; rw [if_neg c12, if_neg c20, if_neg c25, if_neg c36, if_pos c53, if_neg c74]; unfold ownB; rw [hp]; rfl))) ⟨rfl, rfl, trivial⟩
      ·refine Sg 1 E3 <| Zl hk17 <| Zf <| Zs fun _ hk28 => Qp 0 E2 (Ze E3) <| J.caseD (fun c82 => ?_) (fun c82 => ?_)
       ·refine Sg 1 E3 <| Zl hk28 <| Zt <| Zs fun _ hk29 => Fa 0 E3 f45_8 <| Qq 1 E2 (Z1 E2 g4 (Tlv.sub_all _)) ?_
        refine Fa 2 E3 f45_8 <| Ac 3 rfl (EF.store rfl rfl rfl z4 (Tlv.set_all _ _) (cell_one rfl)) ?_
        rintro _ _ rfl
        refine Zl hk29 <| Zs fun _ hk30 => Fa 0 E3 f45_8 <| Qq 1 E2 (Z1 E2 g4 (Tlv.sub_all _)) ?_
        refine J.caseB (fun c87 => ?_) (fun c87 => ?_)
        ·exact Qp 2 E2 (Zu E2) <| Zl hk30 <| Zf <| Run.skip <| J.envJ (J.keep Tk2 (hu3 (({ ({ Tlv.zero with type := t.type, stamps := t.stamps } : Tlv) with all := t.all } : Tlv)) (by have hp : pairedB t = false := (pair8 (.inr c82)).trans (by rw [c87]; rfl); unfold bareF ownF; rw [if_neg c12, if_neg c20, if_neg c25, if_neg c36, if_neg c53, if_pos c82]; unfold ownB; rw [hp]; rfl))) ⟨rfl, rfl, trivial⟩
        ·refine Qp 2 E2 (Zu E2) <| Zl hk30 <| Zt <| Run.region <| Fa 0 E3 f45_11 <| Qq 1 E2 (Z0 E2 g42 (Tlv.sub_pair _)) ?_
         refine Fa 2 E3 f45_11 <| Ac 3 rfl (EF.storeA rfl rfl rfl z42 (Tlv.set_pair _ _) (Pair.enc_cell _)) ?_
         rintro _ _ rfl
         exact Sq.nil <| J.envJ (J.keep Tk2 (hu3 (({ ({ Tlv.zero with type := t.type, stamps := t.stamps } : Tlv) with all := t.all, pair := t.pair } : Tlv)) (by have hp : pairedB t = true := (pair8 (.inr c82)).trans (by rw [c87]; rfl); unfold bareF ownF; rw [if_neg c12, if_neg c20, if_neg c25, if_neg c36, if_neg c53, if_pos c82]; unfold ownB; rw [hp]; rfl))) ⟨rfl, rfl, trivial⟩
       ·refine Sg 1 E3 <| Zl hk28 <| Zf <| Zs fun _ hk31 => Qp 0 E2 (Ze E3) <| J.caseD (fun c93 => ?_) (fun c93 => ?_)
        ·refine Sg 1 E3 <| Zl hk31 <| Zt <| Zs fun _ hk32 => Fa 0 E3 f45_3 <| Qq 1 E2 (Z1 E2 g36 (Tlv.sub_seqno _)) ?_
         refine Fa 2 E3 f45_3 <| Ac 3 rfl (EF.store rfl rfl rfl z36 (Tlv.set_seqno _ _) (cell_one rfl)) ?_
         rintro _ _ rfl
         refine Zl hk32 <| Zs fun _ hk33 => Fa 0 E3 f45_6 <| Qq 1 E2 (Z1 E2 g5 (Tlv.sub_hops _)) ?_
         refine Fa 2 E3 f45_6 <| Ac 3 rfl (EF.store rfl rfl rfl z5 (Tlv.set_hops _ _) (cell_one rfl)) ?_
         rintro _ _ rfl
         refine Zl hk33 <| Zs fun _ hk34 => Fa 0 E3 f45_9 <| Qq 1 E2 (Z0 E2 g38 (Tlv.sub_id_ _)) ?_
         refine Fa 2 E3 f45_9 <| Ac 3 rfl (EF.storeA rfl rfl rfl z38 (Tlv.set_id_ _ _) (Bs.cell _)) ?_
         rintro _ _ rfl
         refine Zl hk34 <| Run.region <| Fa 0 E3 f45_11 <| Qq 1 E2 (Z0 E2 g42 (Tlv.sub_pair _)) ?_
         refine Fa 2 E3 f45_11 <| Ac 3 rfl (EF.storeA rfl rfl rfl z42 (Tlv.set_pair _ _) (Pair.enc_cell _)) ?_
         rintro _ _ rfl
         exact Sq.nil <| J.envJ (J.keep Tk2 (hu3 (({ ({ Tlv.zero with type := t.type, stamps := t.stamps } : Tlv) with seqno := t.seqno, hops := t.hops, id_ := t.id_, pair := t.pair } : Tlv)) (by have hp : pairedB t = true := pair10 c93; unfold bareF ownF; rw [if_neg c12, if_neg c20, if_neg c25, if_neg c36, if_neg c53, if_neg c82, if_pos c93]; unfold ownB; rw [hp]; rfl))) ⟨rfl, rfl, trivial⟩
        ·exact Sg 1 E3 <| Zl hk31 <| Zf <| Run.skip <| J.envJ (J.keep Tk2 (hu3 (({ Tlv.zero with type := t.type, stamps := t.stamps } : Tlv)) (by have hp : pairedB t = false := pairNo (fun h => h.elim c53 c82) c93; unfold bareF ownF; rw [if_neg c12, if_neg c20, if_neg c25, if_neg c36, if_neg c53, if_neg c82, if_neg c93]; unfold ownB; rw [hp]; rfl))) ⟨rfl, rfl, trivial⟩

theorem own_yes {t : Tlv} (h : t.type = 2 ∨ t.type = 3 ∨ t.type = 4 ∨ t.type = 5 ∨ t.type = 8 ∨ t.type = 9 ∨ t.type = 10) : (ownF t).2 = true := by
  unfold ownF
  rcases h with h | h | h | h | h | h | h <;> rw [h] <;> simp
theorem own_no {t : Tlv} (h2 : ¬ t.type = 2) (h3 : ¬ t.type = 3) (h4 : ¬ t.type = 4) (h5 : ¬ t.type = 5) (h8 : ¬ t.type = 8) (h9 : ¬ t.type = 9) (h10 : ¬ t.type = 10) : (ownF t).2 = false := by
  unfold ownF
  rw [if_neg h2, if_neg h3, if_neg h4, if_neg h5, if_neg h8, if_neg h9, if_neg h10]
theorem timesX (x : TlvX) : timesB (tlvS x) = (decide (x.l.length = 0) || (decide (x.l.length = 1) && decide (x.t.type = 4) || decide (x.l.length = 2) && decide (x.t.type = 5))) := rfl
theorem eqX_own (x : TlvX) (y : Tlv) : eqX x ⟨y, x.a, x.c, x.l⟩ = sameB (tlvS x) y := by
  unfold eqX
  rw [decide_eq_true rfl]
  rfl
theorem chk2_eq (t : Tlv) : chk2 t = ((decide (t.type = 8) && decide (t.metric ≠ 65535)) && (t.all || (decide (t.id_ = Bs.zero 8) || decide (t.id_ = onesB)))) := by
  unfold chk2 namedB
  congr 2
  simp
theorem paired_eq (t : Tlv) : pairedB t = (((decide (t.type = 8) || decide (t.type = 9)) && !t.all) || decide (t.type = 10)) := by
  unfold pairedB
  by_cases h : t.type = 8 ∨ t.type = 9
  · rw [if_pos h, decide_eq_false (show ¬ t.type = 10 by omega)]
    rcases h with h | h <;> simp [h]
  · rw [if_neg h, decide_eq_false (show ¬ t.type = 8 from fun h2 => h (.inl h2)), decide_eq_false (show ¬ t.type = 9 from fun h2 => h (.inr h2))]
    simp
theorem erno21 {b : Bool} (h : ¬ ernoB b = 0) : ernoB b = 21 := by cases b <;> simp_all [ernoB]

set_option maxHeartbeats 4000000 in
theorem rchk_spec (F : Fr) (x : TlvX) (hx : TlvIn F x) (hxl : x.l.length ≤ 4294967296)  : Spec Tryz.prog 11 #[.agg (Tlv.enc (tlvS x)).toArray] [] F (fun v S => v = .int .i64 (checkF (tlvS x)) ∧ S = []) := by
 refine Spec.intro (N := 148) (args := [.agg (Tlv.enc (tlvS x)).toArray]) Tryz.func11 rfl rfl (by simp) ?_
 refine Zs fun _ hk1 => Ef 0 E2 (EF.boxA rfl rfl) ?_
 rintro _ _ ⟨b1, rfl, rfl⟩
 refine Sg 1 E3 <| Zl hk1 <| Zs fun _ hk2 => Fa 0 E3 f45_12 <| Qq 1 E2 (QR.load1 (v := .slice x.a x.l.length x.c) rfl rfl g43 (Tlv.sub_stamps _)) ?_
 refine Qp 2 E2 (QP.len rfl rfl rfl Tryz.underlying43) <| Sg 3 E3 <| Zl hk2 <| Run.cut1 (fun (told : Bool) => told = (ownF (tlvS x)).2) (fun told => .cons 1 (fp b1) (.cons 3 (.int .i64 x.l.length) (.cons 4 (.bool told) (.nil)))) (fun told => [blk b1 (Tlv.enc (tlvS x)) 45]) ?_ ?_
 ·rintro told ht
  refine Run.cut1 (fun (u5 : Unit) => chk1 (tlvS x) = false) (fun u5 => .cons 1 (fp b1) (.nil)) (fun u5 => [blk b1 (Tlv.enc (tlvS x)) 45]) ?_ ?_
  ·rintro u5 h1
   refine Zs fun _ hk5 => Fa 0 E3 f45_9 <| Qq 1 E2 (Z0 E2 g38 (Tlv.sub_id_ _)) ?_
   refine Ef 2 E2 (EF.call rfl ce26 rfl Takes.nil (fun F' hle hr => special_spec F' (tlvS x).id_)) ?_
   rintro _ _ ⟨_, ⟨rfl, rfl⟩, rfl⟩
   refine J.app <| Mv 3 E3 <| Qp 4 E2 (Zx E3) <| J.caseB (fun c81 => ?_) (fun c81 => ?_)
   ·refine Qp 5 E2 (Zx E3) <| J.caseB (fun c82 => ?_) (fun c82 => ?_)
    ·refine Sg 6 E3 <| Sg 7 E3 <| Zl hk5 <| Run.cut1 (fun (u12 : Unit) => chk2 (tlvS x) = false ∧ chk3 (tlvS x) = false) (fun u12 => .cons 1 (fp b1) (.nil)) (fun u12 => [blk b1 (Tlv.enc (tlvS x)) 45]) ?_ ?_
     ·rintro u12 ⟨h2, h3⟩
      refine Zs fun _ hk7 => Fa 0 E3 f45_0 <| Qq 1 E2 (Z1 E2 g5 (Tlv.sub_type _)) ?_
      refine Qp 2 E2 (Ze E3) <| J.caseD (fun c125 => ?_) (fun c125 => ?_)
      ·refine Mv 3 E3 <| Sk 4 E3 <| Sk 5 E3 <| Sk 6 E3 <| Pt 7 E4 <| Mv 8 E3 <| Yf 9 E4 f45_8 <| Yq 10 E3 (Z1 E2 g4 (Tlv.sub_all _)) ?_
       refine J.caseB (fun c133 => ?_) (fun c133 => ?_)
       ·refine Yp 11 E3 (Zu E2) <| Pt 12 E4 <| Mv 13 E3 <| Yf 14 E4 f45_0 <| Yq 15 E3 (Z1 E2 g5 (Tlv.sub_type _)) ?_
        refine Yp 16 E3 (Ze E3) <| J.caseD (fun c139 => ?_) (fun c139 => ?_)
        ·refine Pf 17 E4 <| Sg 18 E3 <| Zl hk7 <| Run.seq fun _ hk8 => Zs fun _ hk9 => Mv 0 E3 <| Mv 1 E3 <| Yf 2 E4 f45_11 <| Yq 3 E3 (Z0 E2 g42 (Tlv.sub_pair _)) ?_
         refine Ye 4 E3 (EF.call rfl ce27 rfl Takes.nil (fun F' hle hr => rcheckPair_spec F' (tlvS x).pair)) ?_
         rintro _ _ ⟨_, ⟨rfl, rfl⟩, rfl⟩
         refine J.app <| Yp 5 E3 (Zq E3) <| J.caseD (fun c146 => ?_) (fun c146 => ?_)
         ·exact Pt 6 E4 <| Zl hk9 <| Zt <| Zs fun _ hk10 => Sg 0 E3 <| Zl hk10 <| Run.ret <| J.ends (res_tmp rfl rfl) Takes.nil ⟨congrArg (Value.int .i64) (by unfold checkF; rw [if_neg (by rw [h1]; simp), if_neg (by rw [h2]; simp), if_neg (by rw [h3]; simp), if_pos (by rw [paired_eq, decide_eq_true (show (tlvS x).type = 8 from c125), show (tlvS x).all = true from c133, decide_eq_true (show (tlvS x).type = 10 from c139)] <;> simp), erno21 c146]), rfl⟩
         ·exact Pt 6 E4 <| Zl hk9 <| Zf <| Run.skip <| hk8 _ _ <| Zs fun _ hk11 => Sg 0 E3 <| Zl hk11 <| Run.ret <| J.ends (res_tmp rfl rfl) Takes.nil ⟨congrArg (Value.int .i64) (by unfold checkF; rw [if_neg (by rw [h1]; simp), if_neg (by rw [h2]; simp), if_neg (by rw [h3]; simp), if_pos (by rw [paired_eq, decide_eq_true (show (tlvS x).type = 8 from c125), show (tlvS x).all = true from c133, decide_eq_true (show (tlvS x).type = 10 from c139)] <;> simp), Classical.not_not.1 c146]), rfl⟩
        ·exact Pf 17 E4 <| Sg 18 E3 <| Zl hk7 <| Run.seq fun _ hk12 => Zs fun _ hk13 => Mv 0 E3 <| Mv 1 E3 <| Sk 2 E3 <| Sk 3 E3 <| Sk 4 E3 <| Sk 5 E3 <| Pf 6 E4 <| Zl hk13 <| Zf <| Run.skip <| hk12 _ _ <| Zs fun _ hk14 => Sg 0 E3 <| Zl hk14 <| Run.ret <| J.ends (res_tmp rfl rfl) Takes.nil ⟨congrArg (Value.int .i64) (by unfold checkF; rw [if_neg (by rw [h1]; simp), if_neg (by rw [h2]; simp), if_neg (by rw [h3]; simp), if_neg (by rw [show pairedB (tlvS x) = false from (by rw [paired_eq, decide_eq_true (show (tlvS x).type = 8 from c125), show (tlvS x).all = true from c133, decide_eq_false (show ¬ (tlvS x).type = 10 from c139)] <;> simp)]; simp)]), rfl⟩
       ·refine Yp 11 E3 (Zu E2) <| Pt 12 E4 <| Mv 13 E3 <| Sk 14 E3 <| Sk 15 E3 <| Sk 16 E3 <| Pt 17 E4 <| Sg 18 E3 <| Zl hk7 <| Run.seq fun _ hk15 => Zs fun _ hk16 => Mv 0 E3 <| Mv 1 E3 <| Yf 2 E4 f45_11 <| Yq 3 E3 (Z0 E2 g42 (Tlv.sub_pair _)) ?_
        refine Ye 4 E3 (EF.call rfl ce27 rfl Takes.nil (fun F' hle hr => rcheckPair_spec F' (tlvS x).pair)) ?_
        rintro _ _ ⟨_, ⟨rfl, rfl⟩, rfl⟩
        refine J.app <| Yp 5 E3 (Zq E3) <| J.caseD (fun c146 => ?_) (fun c146 => ?_)
        ·exact Pt 6 E4 <| Zl hk16 <| Zt <| Zs fun _ hk17 => Sg 0 E3 <| Zl hk17 <| Run.ret <| J.ends (res_tmp rfl rfl) Takes.nil ⟨congrArg (Value.int .i64) (by unfold checkF; rw [if_neg (by rw [h1]; simp), if_neg (by rw [h2]; simp), if_neg (by rw [h3]; simp), if_pos (by rw [paired_eq, decide_eq_true (show (tlvS x).type = 8 from c125), show (tlvS x).all = false from c133] <;> simp), erno21 c146]), rfl⟩
        ·exact Pt 6 E4 <| Zl hk16 <| Zf <| Run.skip <| hk15 _ _ <| Zs fun _ hk18 => Sg 0 E3 <| Zl hk18 <| Run.ret <| J.ends (res_tmp rfl rfl) Takes.nil ⟨congrArg (Value.int .i64) (by unfold checkF; rw [if_neg (by rw [h1]; simp), if_neg (by rw [h2]; simp), if_neg (by rw [h3]; simp), if_pos (by rw [paired_eq, decide_eq_true (show (tlvS x).type = 8 from c125), show (tlvS x).all = false from c133] <;> simp), Classical.not_not.1 c146]), rfl⟩
      ·refine Mv 3 E3 <| Yf 4 E4 f45_0 <| Yq 5 E3 (Z1 E2 g5 (Tlv.sub_type _)) ?_
       refine Yp 6 E3 (Ze E3) <| J.caseD (fun c129 => ?_) (fun c129 => ?_)
       ·refine Pf 7 E4 <| Mv 8 E3 <| Yf 9 E4 f45_8 <| Yq 10 E3 (Z1 E2 g4 (Tlv.sub_all _)) ?_
        refine J.caseB (fun c133 => ?_) (fun c133 => ?_)
        ·refine Yp 11 E3 (Zu E2) <| Pt 12 E4 <| Mv 13 E3 <| Yf 14 E4 f45_0 <| Yq 15 E3 (Z1 E2 g5 (Tlv.sub_type _)) ?_
         refine Yp 16 E3 (Ze E3) <| J.caseD (fun c139 => ?_) (fun c139 => ?_)
         ·refine Pf 17 E4 <| Sg 18 E3 <| Zl hk7 <| Run.seq fun _ hk19 => Zs fun _ hk20 => Mv 0 E3 <| Mv 1 E3 <| Yf 2 E4 f45_11 <| Yq 3 E3 (Z0 E2 g42 (Tlv.sub_pair _)) ?_
          refine Ye 4 E3 (EF.call rfl ce27 rfl Takes.nil (fun F' hle hr => rcheckPair_spec F' (tlvS x).pair)) ?_
          rintro _ _ ⟨_, ⟨rfl, rfl⟩, rfl⟩
          refine J.app <| Yp 5 E3 (Zq E3) <| J.caseD (fun c146 => ?_) (fun c146 => ?_)
          ·exact Pt 6 E4 <| Zl hk20 <| Zt <| Zs fun _ hk21 => Sg 0 E3 <| Zl hk21 <| Run.ret <| J.ends (res_tmp rfl rfl) Takes.nil ⟨congrArg (Value.int .i64) (by unfold checkF; rw [if_neg (by rw [h1]; simp), if_neg (by rw [h2]; simp), if_neg (by rw [h3]; simp), if_pos (by rw [paired_eq, decide_eq_false (show ¬ (tlvS x).type = 8 from c125), decide_eq_true (show (tlvS x).type = 9 from c129), show (tlvS x).all = true from c133, decide_eq_true (show (tlvS x).type = 10 from c139)] <;> simp), erno21 c146]), rfl⟩
          ·exact Pt 6 E4 <| Zl hk20 <| Zf <| Run.skip <| hk19 _ _ <| Zs fun _ hk22 => Sg 0 E3 <| Zl hk22 <| Run.ret <| J.ends (res_tmp rfl rfl) Takes.nil ⟨congrArg (Value.int .i64) (by unfold checkF; rw [if_neg (by rw [h1]; simp), if_neg (by rw [h2]; simp), if_neg (by rw [h3]; simp), if_pos (by rw [paired_eq, decide_eq_false (show ¬ (tlvS x).type = 8 from c125), decide_eq_true (show (tlvS x).type = 9 from c129), show (tlvS x).all = true from c133, decide_eq_true (show (tlvS x).type = 10 from c139)] <;> simp), Classical.not_not.1 c146]), rfl⟩
         ·exact Pf 17 E4 <| Sg 18 E3 <| Zl hk7 <| Run.seq fun _ hk23 => Zs fun _ hk24 => Mv 0 E3 <| Mv 1 E3 <| Sk 2 E3 <| Sk 3 E3 <| Sk 4 E3 <| Sk 5 E3 <| Pf 6 E4 <| Zl hk24 <| Zf <| Run.skip <| hk23 _ _ <| Zs fun _ hk25 => Sg 0 E3 <| Zl hk25 <| Run.ret <| J.ends (res_tmp rfl rfl) Takes.nil ⟨congrArg (Value.int .i64) (by unfold checkF; rw [if_neg (by rw [h1]; simp), if_neg (by rw [h2]; simp), if_neg (by rw [h3]; simp), if_neg (by rw [show pairedB (tlvS x) = false from (by rw [paired_eq, decide_eq_false (show ¬ (tlvS x).type = 8 from c125), decide_eq_true (show (tlvS x).type = 9 from c129), show (tlvS x).all = true from c133, decide_eq_false (show ¬ (tlvS x).type = 10 from c139)] <;> simp)]; simp)]), rfl⟩
        ·refine Yp 11 E3 (Zu E2) <| Pt 12 E4 <| Mv 13 E3 <| Sk 14 E3 <| Sk 15 E3 <| Sk 16 E3 <| Pt 17 E4 <| Sg 18 E3 <| Zl hk7 <| Run.seq fun _ hk26 => Zs fun _ hk27 => Mv 0 E3 <| Mv 1 E3 <| Yf 2 E4 f45_11 <| Yq 3 E3 (Z0 E2 g42 (Tlv.sub_pair _)) ?_
         refine Ye 4 E3 (EF.call rfl ce27 rfl Takes.nil (fun F' hle hr => rcheckPair_spec F' (tlvS x).pair)) ?_
         rintro _ _ ⟨_, ⟨rfl, rfl⟩, rfl⟩
         refine J.app <| Yp 5 E3 (Zq E3) <| J.caseD (fun c146 => ?_) (fun c146 => ?_)
         ·exact Pt 6 E4 <| Zl hk27 <| Zt <| Zs fun _ hk28 => Sg 0 E3 <| Zl hk28 <| Run.ret <| J.ends (res_tmp rfl rfl) Takes.nil ⟨congrArg (Value.int .i64) (by unfold checkF; rw [if_neg (by rw [h1]; simp), if_neg (by rw [h2]; simp), if_neg (by rw [h3]; simp), if_pos (by rw [paired_eq, decide_eq_false (show ¬ (tlvS x).type = 8 from c125), decide_eq_true (show (tlvS x).type = 9 from c129), show (tlvS x).all = false from c133] <;> simp), erno21 c146]), rfl⟩
         ·exact Pt 6 E4 <| Zl hk27 <| Zf <| Run.skip <| hk26 _ _ <| Zs fun _ hk29 => Sg 0 E3 <| Zl hk29 <| Run.ret <| J.ends (res_tmp rfl rfl) Takes.nil ⟨congrArg (Value.int .i64) (by unfold checkF; rw [if_neg (by rw [h1]; simp), if_neg (by rw [h2]; simp), if_neg (by rw [h3]; simp), if_pos (by rw [paired_eq, decide_eq_false (show ¬ (tlvS x).type = 8 from c125), decide_eq_true (show (tlvS x).type = 9 from c129), show (tlvS x).all = false from c133] <;> simp), Classical.not_not.1 c146]), rfl⟩
       ·refine Pf 7 E4 <| Mv 8 E3 <| Sk 9 E3 <| Sk 10 E3 <| Sk 11 E3 <| Pf 12 E4 <| Mv 13 E3 <| Yf 14 E4 f45_0 <| Yq 15 E3 (Z1 E2 g5 (Tlv.sub_type _)) ?_
        refine Yp 16 E3 (Ze E3) <| J.caseD (fun c139 => ?_) (fun c139 => ?_)
        ·refine Pf 17 E4 <| Sg 18 E3 <| Zl hk7 <| Run.seq fun _ hk30 => Zs fun _ hk31 => Mv 0 E3 <| Mv 1 E3 <| Yf 2 E4 f45_11 <| Yq 3 E3 (Z0 E2 g42 (Tlv.sub_pair _)) ?_
         refine Ye 4 E3 (EF.call rfl ce27 rfl Takes.nil (fun F' hle hr => rcheckPair_spec F' (tlvS x).pair)) ?_
         rintro _ _ ⟨_, ⟨rfl, rfl⟩, rfl⟩
         refine J.app <| Yp 5 E3 (Zq E3) <| J.caseD (fun c146 => ?_) (fun c146 => ?_)
         ·exact Pt 6 E4 <| Zl hk31 <| Zt <| Zs fun _ hk32 => Sg 0 E3 <| Zl hk32 <| Run.ret <| J.ends (res_tmp rfl rfl) Takes.nil ⟨congrArg (Value.int .i64) (by unfold checkF; rw [if_neg (by rw [h1]; simp), if_neg (by rw [h2]; simp), if_neg (by rw [h3]; simp), if_pos (by rw [paired_eq, decide_eq_false (show ¬ (tlvS x).type = 8 from c125), decide_eq_false (show ¬ (tlvS x).type = 9 from c129), decide_eq_true (show (tlvS x).type = 10 from c139)] <;> simp), erno21 c146]), rfl⟩
         ·exact Pt 6 E4 <| Zl hk31 <| Zf <| Run.skip <| hk30 _ _ <| Zs fun _ hk33 => Sg 0 E3 <| Zl hk33 <| Run.ret <| J.ends (res_tmp rfl rfl) Takes.nil ⟨congrArg (Value.int .i64) (by unfold checkF; rw [if_neg (by rw [h1]; simp), if_neg (by rw [h2]; simp), if_neg (by rw [h3]; simp), if_pos (by rw [paired_eq, decide_eq_false (show ¬ (tlvS x).type = 8 from c125), decide_eq_false (show ¬ (tlvS x).type = 9 from c129), decide_eq_true (show (tlvS x).type = 10 from c139)] <;> simp), Classical.not_not.1 c146]), rfl⟩
        ·exact Pf 17 E4 <| Sg 18 E3 <| Zl hk7 <| Run.seq fun _ hk34 => Zs fun _ hk35 => Mv 0 E3 <| Mv 1 E3 <| Sk 2 E3 <| Sk 3 E3 <| Sk 4 E3 <| Sk 5 E3 <| Pf 6 E4 <| Zl hk35 <| Zf <| Run.skip <| hk34 _ _ <| Zs fun _ hk36 => Sg 0 E3 <| Zl hk36 <| Run.ret <| J.ends (res_tmp rfl rfl) Takes.nil ⟨congrArg (Value.int .i64) (by unfold checkF; rw [if_neg (by rw [h1]; simp), if_neg (by rw [h2]; simp), if_neg (by rw [h3]; simp), if_neg (by rw [show pairedB (tlvS x) = false from (by rw [paired_eq, decide_eq_false (show ¬ (tlvS x).type = 8 from c125), decide_eq_false (show ¬ (tlvS x).type = 9 from c129), decide_eq_false (show ¬ (tlvS x).type = 10 from c139)] <;> simp)]; simp)]), rfl⟩
     ·intro ku6 hu6
      refine Run.block <| Zs fun _ hk37 => Fa 0 E3 f45_0 <| Qq 1 E2 (Z1 E2 g5 (Tlv.sub_type _)) ?_
      refine Qp 2 E2 (Ze E3) <| J.caseD (fun c86 => ?_) (fun c86 => ?_)
      ·refine Mv 3 E3 <| Yf 4 E4 f45_8 <| Yq 5 E3 (Z1 E2 g4 (Tlv.sub_all _)) ?_
       refine J.caseB (fun c89 => ?_) (fun c89 => ?_)
       ·refine Pt 6 E4 <| Mv 7 E3 <| Yf 8 E4 f45_5 <| Yq 9 E3 (Z1 E2 g36 (Tlv.sub_metric _)) ?_
        refine Yp 10 E3 (Zq E3) <| J.caseD (fun c94 => ?_) (fun c94 => ?_)
        ·exact Pt 11 E4 <| Sg 12 E3 <| Zl hk37 <| Zt <| Zs fun _ hk38 => Sg 0 E3 <| Zl hk38 <| Run.ret <| J.ends (res_tmp rfl rfl) Takes.nil ⟨congrArg (Value.int .i64) (by unfold checkF; rw [if_neg (by rw [h1]; simp), if_pos (by rw [chk2_eq, decide_eq_true (show (tlvS x).type = 8 from c86), decide_eq_true (show (tlvS x).metric ≠ 65535 from c94), show (tlvS x).all = true from c89, c81, c82] <;> simp)]), rfl⟩
        ·refine Pt 11 E4 <| Sg 12 E3 <| Zl hk37 <| Zf <| Zs fun _ hk39 => Fa 0 E3 f45_0 <| Qq 1 E2 (Z1 E2 g5 (Tlv.sub_type _)) ?_
         refine Qp 2 E2 (Ze E3) <| J.decT (c86) ?_
         refine Mv 3 E3 <| Yf 4 E4 f45_5 <| Yq 5 E3 (Z1 E2 g36 (Tlv.sub_metric _)) ?_
         refine Yp 6 E3 (Zq E3) <| J.decF (c94) ?_
         refine Pt 7 E4 <| Mv 8 E3 <| Sk 9 E3 <| Sk 10 E3 <| Sq.skip (i := 11) rfl (Want.undef rfl rfl rfl) rfl (ltN rfl) ?_
         refine Sk 12 E3 <| Pf 13 E4 <| Sg 14 E3 <| Zl hk39 <| Zf <| Zs fun _ hk40 => Fa 0 E3 f45_0 <| Qq 1 E2 (Z1 E2 g5 (Tlv.sub_type _)) ?_
         refine Qp 2 E2 (Ze E3) <| J.caseD (fun c114 => ?_) (fun c114 => ?_)
         ·exact Mv 3 E3 <| Ym 4 E4 <| Ym 5 E4 <| Sk 6 E3 <| Sk 7 E3 <| Sk 8 E3 <| Yp 9 E3 (QP.pick_t rfl rfl rfl) <| Pt 10 E4 <| Sg 11 E3 <| Zl hk40 <| Zt <| Zs fun _ hk41 => Sg 0 E3 <| Zl hk41 <| Run.ret <| J.ends (res_tmp rfl rfl) Takes.nil ⟨congrArg (Value.int .i64) (by unfold checkF; rw [if_neg (by rw [h1]; simp), if_neg (by rw [show chk2 (tlvS x) = false from (by rw [chk2_eq, decide_eq_true (show (tlvS x).type = 8 from c86), decide_eq_false (show ¬ (tlvS x).metric ≠ 65535 from c94), show (tlvS x).all = true from c89, c81, c82] <;> simp)]; simp), if_pos (by unfold chk3; rw [decide_eq_true (show (tlvS x).type = 10 from c114), c81] <;> simp)]), rfl⟩
         ·refine Mv 3 E3 <| Sk 4 E3 <| Sk 5 E3 <| Sq.skip (i := 6) rfl (Want.undef rfl rfl rfl) rfl (ltN rfl) ?_
          refine Sq.skip (i := 7) rfl (Want.undef rfl rfl rfl) rfl (ltN rfl) ?_
          refine Sq.skip (i := 8) rfl (Want.undef rfl rfl rfl) rfl (ltN rfl) ?_
          exact Sk 9 E3 <| Pf 10 E4 <| Sg 11 E3 <| Zl hk40 <| Zf <| Run.skip <| J.envJ (J.keep Tk1 (hu6 (()) (⟨by rw [chk2_eq, decide_eq_true (show (tlvS x).type = 8 from c86), decide_eq_false (show ¬ (tlvS x).metric ≠ 65535 from c94), show (tlvS x).all = true from c89, c81, c82] <;> simp, by unfold chk3; rw [decide_eq_false (show ¬ (tlvS x).type = 10 from c114), c81] <;> simp⟩))) ⟨rfl, trivial⟩
       ·refine Pt 6 E4 <| Mv 7 E3 <| Sk 8 E3 <| Sk 9 E3 <| Sk 10 E3 <| Pf 11 E4 <| Sg 12 E3 <| Zl hk37 <| Zf <| Zs fun _ hk42 => Fa 0 E3 f45_0 <| Qq 1 E2 (Z1 E2 g5 (Tlv.sub_type _)) ?_
        refine Qp 2 E2 (Ze E3) <| J.decT (c86) ?_
        refine Mv 3 E3 <| Yf 4 E4 f45_5 <| Yq 5 E3 (Z1 E2 g36 (Tlv.sub_metric _)) ?_
        refine Yp 6 E3 (Zq E3) <| J.caseD (fun c103 => ?_) (fun c103 => ?_)
        ·exact Pt 7 E4 <| Mv 8 E3 <| Ym 9 E4 <| Ym 10 E4 <| Sk 11 E3 <| Yp 12 E3 (QP.pick_t rfl rfl rfl) <| Pt 13 E4 <| Sg 14 E3 <| Zl hk42 <| Zt <| Zs fun _ hk43 => Sg 0 E3 <| Zl hk43 <| Run.ret <| J.ends (res_tmp rfl rfl) Takes.nil ⟨congrArg (Value.int .i64) (by unfold checkF; rw [if_neg (by rw [h1]; simp), if_pos (by rw [chk2_eq, decide_eq_true (show (tlvS x).type = 8 from c86), decide_eq_true (show (tlvS x).metric ≠ 65535 from c103), show (tlvS x).all = false from c89, c81, c82] <;> simp)]), rfl⟩
        ·refine Pt 7 E4 <| Mv 8 E3 <| Sk 9 E3 <| Sk 10 E3 <| Sq.skip (i := 11) rfl (Want.undef rfl rfl rfl) rfl (ltN rfl) ?_
         refine Sk 12 E3 <| Pf 13 E4 <| Sg 14 E3 <| Zl hk42 <| Zf <| Zs fun _ hk44 => Fa 0 E3 f45_0 <| Qq 1 E2 (Z1 E2 g5 (Tlv.sub_type _)) ?_
         refine Qp 2 E2 (Ze E3) <| J.caseD (fun c114 => ?_) (fun c114 => ?_)
         ·exact Mv 3 E3 <| Ym 4 E4 <| Ym 5 E4 <| Sk 6 E3 <| Sk 7 E3 <| Sk 8 E3 <| Yp 9 E3 (QP.pick_t rfl rfl rfl) <| Pt 10 E4 <| Sg 11 E3 <| Zl hk44 <| Zt <| Zs fun _ hk45 => Sg 0 E3 <| Zl hk45 <| Run.ret <| J.ends (res_tmp rfl rfl) Takes.nil ⟨congrArg (Value.int .i64) (by unfold checkF; rw [if_neg (by rw [h1]; simp), if_neg (by rw [show chk2 (tlvS x) = false from (by rw [chk2_eq, decide_eq_true (show (tlvS x).type = 8 from c86), decide_eq_false (show ¬ (tlvS x).metric ≠ 65535 from c103), show (tlvS x).all = false from c89, c81, c82] <;> simp)]; simp), if_pos (by unfold chk3; rw [decide_eq_true (show (tlvS x).type = 10 from c114), c81] <;> simp)]), rfl⟩
         ·refine Mv 3 E3 <| Sk 4 E3 <| Sk 5 E3 <| Sq.skip (i := 6) rfl (Want.undef rfl rfl rfl) rfl (ltN rfl) ?_
          refine Sq.skip (i := 7) rfl (Want.undef rfl rfl rfl) rfl (ltN rfl) ?_
          refine Sq.skip (i := 8) rfl (Want.undef rfl rfl rfl) rfl (ltN rfl) ?_
          exact Sk 9 E3 <| Pf 10 E4 <| Sg 11 E3 <| Zl hk44 <| Zf <| Run.skip <| J.envJ (J.keep Tk1 (hu6 (()) (⟨by rw [chk2_eq, decide_eq_true (show (tlvS x).type = 8 from c86), decide_eq_false (show ¬ (tlvS x).metric ≠ 65535 from c103), show (tlvS x).all = false from c89, c81, c82] <;> simp, by unfold chk3; rw [decide_eq_false (show ¬ (tlvS x).type = 10 from c114), c81] <;> simp⟩))) ⟨rfl, trivial⟩
      ·refine Mv 3 E3 <| Sk 4 E3 <| Sk 5 E3 <| Pf 6 E4 <| Mv 7 E3 <| Sk 8 E3 <| Sk 9 E3 <| Sk 10 E3 <| Pf 11 E4 <| Sg 12 E3 <| Zl hk37 <| Zf <| Zs fun _ hk46 => Fa 0 E3 f45_0 <| Qq 1 E2 (Z1 E2 g5 (Tlv.sub_type _)) ?_
       refine Qp 2 E2 (Ze E3) <| J.decF (c86) ?_
       refine Mv 3 E3 <| Sk 4 E3 <| Sk 5 E3 <| Sk 6 E3 <| Pf 7 E4 <| Mv 8 E3 <| Sk 9 E3 <| Sk 10 E3 <| Sq.skip (i := 11) rfl (Want.undef rfl rfl rfl) rfl (ltN rfl) ?_
       refine Sk 12 E3 <| Pf 13 E4 <| Sg 14 E3 <| Zl hk46 <| Zf <| Zs fun _ hk47 => Fa 0 E3 f45_0 <| Qq 1 E2 (Z1 E2 g5 (Tlv.sub_type _)) ?_
       refine Qp 2 E2 (Ze E3) <| J.caseD (fun c114 => ?_) (fun c114 => ?_)
       ·exact Mv 3 E3 <| Ym 4 E4 <| Ym 5 E4 <| Sk 6 E3 <| Sk 7 E3 <| Sk 8 E3 <| Yp 9 E3 (QP.pick_t rfl rfl rfl) <| Pt 10 E4 <| Sg 11 E3 <| Zl hk47 <| Zt <| Zs fun _ hk48 => Sg 0 E3 <| Zl hk48 <| Run.ret <| J.ends (res_tmp rfl rfl) Takes.nil ⟨congrArg (Value.int .i64) (by unfold checkF; rw [if_neg (by rw [h1]; simp), if_neg (by rw [show chk2 (tlvS x) = false from (by rw [chk2_eq, decide_eq_false (show ¬ (tlvS x).type = 8 from c86), c81, c82] <;> simp)]; simp), if_pos (by unfold chk3; rw [decide_eq_true (show (tlvS x).type = 10 from c114), c81] <;> simp)]), rfl⟩
       ·refine Mv 3 E3 <| Sk 4 E3 <| Sk 5 E3 <| Sq.skip (i := 6) rfl (Want.undef rfl rfl rfl) rfl (ltN rfl) ?_
        refine Sq.skip (i := 7) rfl (Want.undef rfl rfl rfl) rfl (ltN rfl) ?_
        refine Sq.skip (i := 8) rfl (Want.undef rfl rfl rfl) rfl (ltN rfl) ?_
        exact Sk 9 E3 <| Pf 10 E4 <| Sg 11 E3 <| Zl hk47 <| Zf <| Run.skip <| J.envJ (J.keep Tk1 (hu6 (()) (⟨by rw [chk2_eq, decide_eq_false (show ¬ (tlvS x).type = 8 from c86), c81, c82] <;> simp, by unfold chk3; rw [decide_eq_false (show ¬ (tlvS x).type = 10 from c114), c81] <;> simp⟩))) ⟨rfl, trivial⟩
    ·refine Sg 6 E3 <| Sg 7 E3 <| Zl hk5 <| Run.cut1 (fun (u12 : Unit) => chk2 (tlvS x) = false ∧ chk3 (tlvS x) = false) (fun u12 => .cons 1 (fp b1) (.nil)) (fun u12 => [blk b1 (Tlv.enc (tlvS x)) 45]) ?_ ?_
     ·rintro u12 ⟨h2, h3⟩
      refine Zs fun _ hk50 => Fa 0 E3 f45_0 <| Qq 1 E2 (Z1 E2 g5 (Tlv.sub_type _)) ?_
      refine Qp 2 E2 (Ze E3) <| J.caseD (fun c125 => ?_) (fun c125 => ?_)
      ·refine Mv 3 E3 <| Sk 4 E3 <| Sk 5 E3 <| Sk 6 E3 <| Pt 7 E4 <| Mv 8 E3 <| Yf 9 E4 f45_8 <| Yq 10 E3 (Z1 E2 g4 (Tlv.sub_all _)) ?_
       refine J.caseB (fun c133 => ?_) (fun c133 => ?_)
       ·refine Yp 11 E3 (Zu E2) <| Pt 12 E4 <| Mv 13 E3 <| Yf 14 E4 f45_0 <| Yq 15 E3 (Z1 E2 g5 (Tlv.sub_type _)) ?_
        refine Yp 16 E3 (Ze E3) <| J.caseD (fun c139 => ?_) (fun c139 => ?_)
        ·refine Pf 17 E4 <| Sg 18 E3 <| Zl hk50 <| Run.seq fun _ hk51 => Zs fun _ hk52 => Mv 0 E3 <| Mv 1 E3 <| Yf 2 E4 f45_11 <| Yq 3 E3 (Z0 E2 g42 (Tlv.sub_pair _)) ?_
         refine Ye 4 E3 (EF.call rfl ce27 rfl Takes.nil (fun F' hle hr => rcheckPair_spec F' (tlvS x).pair)) ?_
         rintro _ _ ⟨_, ⟨rfl, rfl⟩, rfl⟩
         refine J.app <| Yp 5 E3 (Zq E3) <| J.caseD (fun c146 => ?_) (fun c146 => ?_)
         ·exact Pt 6 E4 <| Zl hk52 <| Zt <| Zs fun _ hk53 => Sg 0 E3 <| Zl hk53 <| Run.ret <| J.ends (res_tmp rfl rfl) Takes.nil ⟨congrArg (Value.int .i64) (by unfold checkF; rw [if_neg (by rw [h1]; simp), if_neg (by rw [h2]; simp), if_neg (by rw [h3]; simp), if_pos (by rw [paired_eq, decide_eq_true (show (tlvS x).type = 8 from c125), show (tlvS x).all = true from c133, decide_eq_true (show (tlvS x).type = 10 from c139)] <;> simp), erno21 c146]), rfl⟩
         ·exact Pt 6 E4 <| Zl hk52 <| Zf <| Run.skip <| hk51 _ _ <| Zs fun _ hk54 => Sg 0 E3 <| Zl hk54 <| Run.ret <| J.ends (res_tmp rfl rfl) Takes.nil ⟨congrArg (Value.int .i64) (by unfold checkF; rw [if_neg (by rw [h1]; simp), if_neg (by rw [h2]; simp), if_neg (by rw [h3]; simp), if_pos (by rw [paired_eq, decide_eq_true (show (tlvS x).type = 8 from c125), show (tlvS x).all = true from c133, decide_eq_true (show (tlvS x).type = 10 from c139)] <;> simp), Classical.not_not.1 c146]), rfl⟩
        ·exact Pf 17 E4 <| Sg 18 E3 <| Zl hk50 <| Run.seq fun _ hk55 => Zs fun _ hk56 => Mv 0 E3 <| Mv 1 E3 <| Sk 2 E3 <| Sk 3 E3 <| Sk 4 E3 <| Sk 5 E3 <| Pf 6 E4 <| Zl hk56 <| Zf <| Run.skip <| hk55 _ _ <| Zs fun _ hk57 => Sg 0 E3 <| Zl hk57 <| Run.ret <| J.ends (res_tmp rfl rfl) Takes.nil ⟨congrArg (Value.int .i64) (by unfold checkF; rw [if_neg (by rw [h1]; simp), if_neg (by rw [h2]; simp), if_neg (by rw [h3]; simp), if_neg (by rw [show pairedB (tlvS x) = false from (by rw [paired_eq, decide_eq_true (show (tlvS x).type = 8 from c125), show (tlvS x).all = true from c133, decide_eq_false (show ¬ (tlvS x).type = 10 from c139)] <;> simp)]; simp)]), rfl⟩
       ·refine Yp 11 E3 (Zu E2) <| Pt 12 E4 <| Mv 13 E3 <| Sk 14 E3 <| Sk 15 E3 <| Sk 16 E3 <| Pt 17 E4 <| Sg 18 E3 <| Zl hk50 <| Run.seq fun _ hk58 => Zs fun _ hk59 => Mv 0 E3 <| Mv 1 E3 <| Yf 2 E4 f45_11 <| Yq 3 E3 (Z0 E2 g42 (Tlv.sub_pair _)) ?_
        refine Ye 4 E3 (EF.call rfl ce27 rfl Takes.nil (fun F' hle hr => rcheckPair_spec F' (tlvS x).pair)) ?_
        rintro _ _ ⟨_, ⟨rfl, rfl⟩, rfl⟩
        refine J.app <| Yp 5 E3 (Zq E3) <| J.caseD (fun c146 => ?_) (fun c146 => ?_)
        ·exact Pt 6 E4 <| Zl hk59 <| Zt <| Zs fun _ hk60 => Sg 0 E3 <| Zl hk60 <| Run.ret <| J.ends (res_tmp rfl rfl) Takes.nil ⟨congrArg (Value.int .i64) (by unfold checkF; rw [if_neg (by rw [h1]; simp), if_neg (by rw [h2]; simp), if_neg (by rw [h3]; simp), if_pos (by rw [paired_eq, decide_eq_true (show (tlvS x).type = 8 from c125), show (tlvS x).all = false from c133] <;> simp), erno21 c146]), rfl⟩
        ·exact Pt 6 E4 <| Zl hk59 <| Zf <| Run.skip <| hk58 _ _ <| Zs fun _ hk61 => Sg 0 E3 <| Zl hk61 <| Run.ret <| J.ends (res_tmp rfl rfl) Takes.nil ⟨congrArg (Value.int .i64) (by unfold checkF; rw [if_neg (by rw [h1]; simp), if_neg (by rw [h2]; simp), if_neg (by rw [h3]; simp), if_pos (by rw [paired_eq, decide_eq_true (show (tlvS x).type = 8 from c125), show (tlvS x).all = false from c133] <;> simp), Classical.not_not.1 c146]), rfl⟩
      ·refine Mv 3 E3 <| Yf 4 E4 f45_0 <| Yq 5 E3 (Z1 E2 g5 (Tlv.sub_type _)) ?_
       refine Yp 6 E3 (Ze E3) <| J.caseD (fun c129 => ?_) (fun c129 => ?_)
       ·refine Pf 7 E4 <| Mv 8 E3 <| Yf 9 E4 f45_8 <| Yq 10 E3 (Z1 E2 g4 (Tlv.sub_all _)) ?_
        refine J.caseB (fun c133 => ?_) (fun c133 => ?_)
        ·refine Yp 11 E3 (Zu E2) <| Pt 12 E4 <| Mv 13 E3 <| Yf 14 E4 f45_0 <| Yq 15 E3 (Z1 E2 g5 (Tlv.sub_type _)) ?_
         refine Yp 16 E3 (Ze E3) <| J.caseD (fun c139 => ?_) (fun c139 => ?_)
         ·refine Pf 17 E4 <| Sg 18 E3 <| Zl hk50 <| Run.seq fun _ hk62 => Zs fun _ hk63 => Mv 0 E3 <| Mv 1 E3 <| Yf 2 E4 f45_11 <| Yq 3 E3 (Z0 E2 g42 (Tlv.sub_pair _)) ?_
          refine Ye 4 E3 (EF.call rfl ce27 rfl Takes.nil (fun F' hle hr => rcheckPair_spec F' (tlvS x).pair)) ?_
          rintro _ _ ⟨_, ⟨rfl, rfl⟩, rfl⟩
          refine J.app <| Yp 5 E3 (Zq E3) <| J.caseD (fun c146 => ?_) (fun c146 => ?_)
          ·exact Pt 6 E4 <| Zl hk63 <| Zt <| Zs fun _ hk64 => Sg 0 E3 <| Zl hk64 <| Run.ret <| J.ends (res_tmp rfl rfl) Takes.nil ⟨congrArg (Value.int .i64) (by unfold checkF; rw [if_neg (by rw [h1]; simp), if_neg (by rw [h2]; simp), if_neg (by rw [h3]; simp), if_pos (by rw [paired_eq, decide_eq_false (show ¬ (tlvS x).type = 8 from c125), decide_eq_true (show (tlvS x).type = 9 from c129), show (tlvS x).all = true from c133, decide_eq_true (show (tlvS x).type = 10 from c139)] <;> simp), erno21 c146]), rfl⟩
          ·exact Pt 6 E4 <| Zl hk63 <| Zf <| Run.skip <| hk62 _ _ <| Zs fun _ hk65 => Sg 0 E3 <| Zl hk65 <| Run.ret <| J.ends (res_tmp rfl rfl) Takes.nil ⟨congrArg (Value.int .i64) (by unfold checkF; rw [if_neg (by rw [h1]; simp), if_neg (by rw [h2]; simp), if_neg (by rw [h3]; simp), if_pos (by rw [paired_eq, decide_eq_false (show ¬ (tlvS x).type = 8 from c125), decide_eq_true (show (tlvS x).type = 9 from c129), show (tlvS x).all = true from c133, decide_eq_true (show (tlvS x).type = 10 from c139)] <;> simp), Classical.not_not.1 c146]), rfl⟩
         ·exact Pf 17 E4 <| Sg 18 E3 <| Zl hk50 <| Run.seq fun _ hk66 => Zs fun _ hk67 => Mv 0 E3 <| Mv 1 E3 <| Sk 2 E3 <| Sk 3 E3 <| Sk 4 E3 <| Sk 5 E3 <| Pf 6 E4 <| Zl hk67 <| Zf <| Run.skip <| hk66 _ _ <| Zs fun _ hk68 => Sg 0 E3 <| Zl hk68 <| Run.ret <| J.ends (res_tmp rfl rfl) Takes.nil ⟨congrArg (Value.int .i64) (by unfold checkF; rw [if_neg (by rw [h1]; simp), if_neg (by rw [h2]; simp), if_neg (by rw [h3]; simp), if_neg (by rw [show pairedB (tlvS x) = false from (by rw [paired_eq, decide_eq_false (show ¬ (tlvS x).type = 8 from c125), decide_eq_true (show (tlvS x).type = 9 from c129), show (tlvS x).all = true from c133, decide_eq_false (show ¬ (tlvS x).type = 10 from c139)] <;> simp)]; simp)]), rfl⟩
        ·refine Yp 11 E3 (Zu E2) <| Pt 12 E4 <| Mv 13 E3 <| Sk 14 E3 <| Sk 15 E3 <| Sk 16 E3 <| Pt 17 E4 <| Sg 18 E3 <| Zl hk50 <| Run.seq fun _ hk69 => Zs fun _ hk70 => Mv 0 E3 <| Mv 1 E3 <| Yf 2 E4 f45_11 <| Yq 3 E3 (Z0 E2 g42 (Tlv.sub_pair _)) ?_
         refine Ye 4 E3 (EF.call rfl ce27 rfl Takes.nil (fun F' hle hr => rcheckPair_spec F' (tlvS x).pair)) ?_
         rintro _ _ ⟨_, ⟨rfl, rfl⟩, rfl⟩
         refine J.app <| Yp 5 E3 (Zq E3) <| J.caseD (fun c146 => ?_) (fun c146 => ?_)
         ·exact Pt 6 E4 <| Zl hk70 <| Zt <| Zs fun _ hk71 => Sg 0 E3 <| Zl hk71 <| Run.ret <| J.ends (res_tmp rfl rfl) Takes.nil ⟨congrArg (Value.int .i64) (by unfold checkF; rw [if_neg (by rw [h1]; simp), if_neg (by rw [h2]; simp), if_neg (by rw [h3]; simp), if_pos (by rw [paired_eq, decide_eq_false (show ¬ (tlvS x).type = 8 from c125), decide_eq_true (show (tlvS x).type = 9 from c129), show (tlvS x).all = false from c133] <;> simp), erno21 c146]), rfl⟩
         ·exact Pt 6 E4 <| Zl hk70 <| Zf <| Run.skip <| hk69 _ _ <| Zs fun _ hk72 => Sg 0 E3 <| Zl hk72 <| Run.ret <| J.ends (res_tmp rfl rfl) Takes.nil ⟨congrArg (Value.int .i64) (by unfold checkF; rw [if_neg (by rw [h1]; simp), if_neg (by rw [h2]; simp), if_neg (by rw [h3]; simp), if_pos (by rw [paired_eq, decide_eq_false (show ¬ (tlvS x).type = 8 from c125), decide_eq_true (show (tlvS x).type = 9 from c129), show (tlvS x).all = false from c133] <;> simp), Classical.not_not.1 c146]), rfl⟩
       ·refine Pf 7 E4 <| Mv 8 E3 <| Sk 9 E3 <| Sk 10 E3 <| Sk 11 E3 <| Pf 12 E4 <| Mv 13 E3 <| Yf 14 E4 f45_0 <| Yq 15 E3 (Z1 E2 g5 (Tlv.sub_type _)) ?_
        refine Yp 16 E3 (Ze E3) <| J.caseD (fun c139 => ?_) (fun c139 => ?_)
        ·refine Pf 17 E4 <| Sg 18 E3 <| Zl hk50 <| Run.seq fun _ hk73 => Zs fun _ hk74 => Mv 0 E3 <| Mv 1 E3 <| Yf 2 E4 f45_11 <| Yq 3 E3 (Z0 E2 g42 (Tlv.sub_pair _)) ?_
         refine Ye 4 E3 (EF.call rfl ce27 rfl Takes.nil (fun F' hle hr => rcheckPair_spec F' (tlvS x).pair)) ?_
         rintro _ _ ⟨_, ⟨rfl, rfl⟩, rfl⟩
         refine J.app <| Yp 5 E3 (Zq E3) <| J.caseD (fun c146 => ?_) (fun c146 => ?_)
         ·exact Pt 6 E4 <| Zl hk74 <| Zt <| Zs fun _ hk75 => Sg 0 E3 <| Zl hk75 <| Run.ret <| J.ends (res_tmp rfl rfl) Takes.nil ⟨congrArg (Value.int .i64) (by unfold checkF; rw [if_neg (by rw [h1]; simp), if_neg (by rw [h2]; simp), if_neg (by rw [h3]; simp), if_pos (by rw [paired_eq, decide_eq_false (show ¬ (tlvS x).type = 8 from c125), decide_eq_false (show ¬ (tlvS x).type = 9 from c129), decide_eq_true (show (tlvS x).type = 10 from c139)] <;> simp), erno21 c146]), rfl⟩
         ·exact Pt 6 E4 <| Zl hk74 <| Zf <| Run.skip <| hk73 _ _ <| Zs fun _ hk76 => Sg 0 E3 <| Zl hk76 <| Run.ret <| J.ends (res_tmp rfl rfl) Takes.nil ⟨congrArg (Value.int .i64) (by unfold checkF; rw [if_neg (by rw [h1]; simp), if_neg (by rw [h2]; simp), if_neg (by rw [h3]; simp), if_pos (by rw [paired_eq, decide_eq_false (show ¬ (tlvS x).type = 8 from c125), decide_eq_false (show ¬ (tlvS x).type = 9 from c129), decide_eq_true (show (tlvS x).type = 10 from c139)] <;> simp), Classical.not_not.1 c146]), rfl⟩
        ·exact Pf 17 E4 <| Sg 18 E3 <| Zl hk50 <| Run.seq fun _ hk77 => Zs fun _ hk78 => Mv 0 E3 <| Mv 1 E3 <| Sk 2 E3 <| Sk 3 E3 <| Sk 4 E3 <| Sk 5 E3 <| Pf 6 E4 <| Zl hk78 <| Zf <| Run.skip <| hk77 _ _ <| Zs fun _ hk79 => Sg 0 E3 <| Zl hk79 <| Run.ret <| J.ends (res_tmp rfl rfl) Takes.nil ⟨congrArg (Value.int .i64) (by unfold checkF; rw [if_neg (by rw [h1]; simp), if_neg (by rw [h2]; simp), if_neg (by rw [h3]; simp), if_neg (by rw [show pairedB (tlvS x) = false from (by rw [paired_eq, decide_eq_false (show ¬ (tlvS x).type = 8 from c125), decide_eq_false (show ¬ (tlvS x).type = 9 from c129), decide_eq_false (show ¬ (tlvS x).type = 10 from c139)] <;> simp)]; simp)]), rfl⟩
     ·intro ku49 hu49
      refine Run.block <| Zs fun _ hk80 => Fa 0 E3 f45_0 <| Qq 1 E2 (Z1 E2 g5 (Tlv.sub_type _)) ?_
      refine Qp 2 E2 (Ze E3) <| J.caseD (fun c86 => ?_) (fun c86 => ?_)
      ·refine Mv 3 E3 <| Yf 4 E4 f45_8 <| Yq 5 E3 (Z1 E2 g4 (Tlv.sub_all _)) ?_
       refine J.caseB (fun c89 => ?_) (fun c89 => ?_)
       ·refine Pt 6 E4 <| Mv 7 E3 <| Yf 8 E4 f45_5 <| Yq 9 E3 (Z1 E2 g36 (Tlv.sub_metric _)) ?_
        refine Yp 10 E3 (Zq E3) <| J.caseD (fun c94 => ?_) (fun c94 => ?_)
        ·exact Pt 11 E4 <| Sg 12 E3 <| Zl hk80 <| Zt <| Zs fun _ hk81 => Sg 0 E3 <| Zl hk81 <| Run.ret <| J.ends (res_tmp rfl rfl) Takes.nil ⟨congrArg (Value.int .i64) (by unfold checkF; rw [if_neg (by rw [h1]; simp), if_pos (by rw [chk2_eq, decide_eq_true (show (tlvS x).type = 8 from c86), decide_eq_true (show (tlvS x).metric ≠ 65535 from c94), show (tlvS x).all = true from c89, c81, c82] <;> simp)]), rfl⟩
        ·refine Pt 11 E4 <| Sg 12 E3 <| Zl hk80 <| Zf <| Zs fun _ hk82 => Fa 0 E3 f45_0 <| Qq 1 E2 (Z1 E2 g5 (Tlv.sub_type _)) ?_
         refine Qp 2 E2 (Ze E3) <| J.decT (c86) ?_
         refine Mv 3 E3 <| Yf 4 E4 f45_5 <| Yq 5 E3 (Z1 E2 g36 (Tlv.sub_metric _)) ?_
         refine Yp 6 E3 (Zq E3) <| J.decF (c94) ?_
         refine Pt 7 E4 <| Mv 8 E3 <| Sk 9 E3 <| Sk 10 E3 <| Sq.skip (i := 11) rfl (Want.undef rfl rfl rfl) rfl (ltN rfl) ?_
         refine Sk 12 E3 <| Pf 13 E4 <| Sg 14 E3 <| Zl hk82 <| Zf <| Zs fun _ hk83 => Fa 0 E3 f45_0 <| Qq 1 E2 (Z1 E2 g5 (Tlv.sub_type _)) ?_
         refine Qp 2 E2 (Ze E3) <| J.caseD (fun c114 => ?_) (fun c114 => ?_)
         ·exact Mv 3 E3 <| Ym 4 E4 <| Ym 5 E4 <| Sk 6 E3 <| Sk 7 E3 <| Sk 8 E3 <| Yp 9 E3 (QP.pick_t rfl rfl rfl) <| Pt 10 E4 <| Sg 11 E3 <| Zl hk83 <| Zt <| Zs fun _ hk84 => Sg 0 E3 <| Zl hk84 <| Run.ret <| J.ends (res_tmp rfl rfl) Takes.nil ⟨congrArg (Value.int .i64) (by unfold checkF; rw [if_neg (by rw [h1]; simp), if_neg (by rw [show chk2 (tlvS x) = false from (by rw [chk2_eq, decide_eq_true (show (tlvS x).type = 8 from c86), decide_eq_false (show ¬ (tlvS x).metric ≠ 65535 from c94), show (tlvS x).all = true from c89, c81, c82] <;> simp)]; simp), if_pos (by unfold chk3; rw [decide_eq_true (show (tlvS x).type = 10 from c114), c81] <;> simp)]), rfl⟩
         ·refine Mv 3 E3 <| Sk 4 E3 <| Sk 5 E3 <| Sq.skip (i := 6) rfl (Want.undef rfl rfl rfl) rfl (ltN rfl) ?_
          refine Sq.skip (i := 7) rfl (Want.undef rfl rfl rfl) rfl (ltN rfl) ?_
          refine Sq.skip (i := 8) rfl (Want.undef rfl rfl rfl) rfl (ltN rfl) ?_
          exact Sk 9 E3 <| Pf 10 E4 <| Sg 11 E3 <| Zl hk83 <| Zf <| Run.skip <| J.envJ (J.keep Tk1 (hu49 (()) (⟨by rw [chk2_eq, decide_eq_true (show (tlvS x).type = 8 from c86), decide_eq_false (show ¬ (tlvS x).metric ≠ 65535 from c94), show (tlvS x).all = true from c89, c81, c82] <;> simp, by unfold chk3; rw [decide_eq_false (show ¬ (tlvS x).type = 10 from c114), c81] <;> simp⟩))) ⟨rfl, trivial⟩
       ·refine Pt 6 E4 <| Mv 7 E3 <| Sk 8 E3 <| Sk 9 E3 <| Sk 10 E3 <| Pf 11 E4 <| Sg 12 E3 <| Zl hk80 <| Zf <| Zs fun _ hk85 => Fa 0 E3 f45_0 <| Qq 1 E2 (Z1 E2 g5 (Tlv.sub_type _)) ?_
        refine Qp 2 E2 (Ze E3) <| J.decT (c86) ?_
        refine Mv 3 E3 <| Yf 4 E4 f45_5 <| Yq 5 E3 (Z1 E2 g36 (Tlv.sub_metric _)) ?_
        refine Yp 6 E3 (Zq E3) <| J.caseD (fun c103 => ?_) (fun c103 => ?_)
        ·exact Pt 7 E4 <| Mv 8 E3 <| Ym 9 E4 <| Ym 10 E4 <| Sk 11 E3 <| Yp 12 E3 (QP.pick_t rfl rfl rfl) <| Pt 13 E4 <| Sg 14 E3 <| Zl hk85 <| Zt <| Zs fun _ hk86 => Sg 0 E3 <| Zl hk86 <| Run.ret <| J.ends (res_tmp rfl rfl) Takes.nil ⟨congrArg (Value.int .i64) (by unfold checkF; rw [if_neg (by rw [h1]; simp), if_pos (by rw [chk2_eq, decide_eq_true (show (tlvS x).type = 8 from c86), decide_eq_true (show (tlvS x).metric ≠ 65535 from c103), show (tlvS x).all = false from c89, c81, c82] <;> simp)]), rfl⟩
        ·refine Pt 7 E4 <| Mv 8 E3 <| Sk 9 E3 <| Sk 10 E3 <| Sq.skip (i := 11) rfl (Want.undef rfl rfl rfl) rfl (ltN rfl) ?_
         refine Sk 12 E3 <| Pf 13 E4 <| Sg 14 E3 <| Zl hk85 <| Zf <| Zs fun _ hk87 => Fa 0 E3 f45_0 <| Qq 1 E2 (Z1 E2 g5 (Tlv.sub_type _)) ?_
         refine Qp 2 E2 (Ze E3) <| J.caseD (fun c114 => ?_) (fun c114 => ?_)
         ·exact Mv 3 E3 <| Ym 4 E4 <| Ym 5 E4 <| Sk 6 E3 <| Sk 7 E3 <| Sk 8 E3 <| Yp 9 E3 (QP.pick_t rfl rfl rfl) <| Pt 10 E4 <| Sg 11 E3 <| Zl hk87 <| Zt <| Zs fun _ hk88 => Sg 0 E3 <| Zl hk88 <| Run.ret <| J.ends (res_tmp rfl rfl) Takes.nil ⟨congrArg (Value.int .i64) (by unfold checkF; rw [if_neg (by rw [h1]; simp), if_neg (by rw [show chk2 (tlvS x) = false from (by rw [chk2_eq, decide_eq_true (show (tlvS x).type = 8 from c86), decide_eq_false (show ¬ (tlvS x).metric ≠ 65535 from c103), show (tlvS x).all = false from c89, c81, c82] <;> simp)]; simp), if_pos (by unfold chk3; rw [decide_eq_true (show (tlvS x).type = 10 from c114), c81] <;> simp)]), rfl⟩
         ·refine Mv 3 E3 <| Sk 4 E3 <| Sk 5 E3 <| Sq.skip (i := 6) rfl (Want.undef rfl rfl rfl) rfl (ltN rfl) ?_
          refine Sq.skip (i := 7) rfl (Want.undef rfl rfl rfl) rfl (ltN rfl) ?_
          refine Sq.skip (i := 8) rfl (Want.undef rfl rfl rfl) rfl (ltN rfl) ?_
          exact Sk 9 E3 <| Pf 10 E4 <| Sg 11 E3 <| Zl hk87 <| Zf <| Run.skip <| J.envJ (J.keep Tk1 (hu49 (()) (⟨by rw [chk2_eq, decide_eq_true (show (tlvS x).type = 8 from c86), decide_eq_false (show ¬ (tlvS x).metric ≠ 65535 from c103), show (tlvS x).all = false from c89, c81, c82] <;> simp, by unfold chk3; rw [decide_eq_false (show ¬ (tlvS x).type = 10 from c114), c81] <;> simp⟩))) ⟨rfl, trivial⟩
      ·refine Mv 3 E3 <| Sk 4 E3 <| Sk 5 E3 <| Pf 6 E4 <| Mv 7 E3 <| Sk 8 E3 <| Sk 9 E3 <| Sk 10 E3 <| Pf 11 E4 <| Sg 12 E3 <| Zl hk80 <| Zf <| Zs fun _ hk89 => Fa 0 E3 f45_0 <| Qq 1 E2 (Z1 E2 g5 (Tlv.sub_type _)) ?_
       refine Qp 2 E2 (Ze E3) <| J.decF (c86) ?_
       refine Mv 3 E3 <| Sk 4 E3 <| Sk 5 E3 <| Sk 6 E3 <| Pf 7 E4 <| Mv 8 E3 <| Sk 9 E3 <| Sk 10 E3 <| Sq.skip (i := 11) rfl (Want.undef rfl rfl rfl) rfl (ltN rfl) ?_
       refine Sk 12 E3 <| Pf 13 E4 <| Sg 14 E3 <| Zl hk89 <| Zf <| Zs fun _ hk90 => Fa 0 E3 f45_0 <| Qq 1 E2 (Z1 E2 g5 (Tlv.sub_type _)) ?_
       refine Qp 2 E2 (Ze E3) <| J.caseD (fun c114 => ?_) (fun c114 => ?_)
       ·exact Mv 3 E3 <| Ym 4 E4 <| Ym 5 E4 <| Sk 6 E3 <| Sk 7 E3 <| Sk 8 E3 <| Yp 9 E3 (QP.pick_t rfl rfl rfl) <| Pt 10 E4 <| Sg 11 E3 <| Zl hk90 <| Zt <| Zs fun _ hk91 => Sg 0 E3 <| Zl hk91 <| Run.ret <| J.ends (res_tmp rfl rfl) Takes.nil ⟨congrArg (Value.int .i64) (by unfold checkF; rw [if_neg (by rw [h1]; simp), if_neg (by rw [show chk2 (tlvS x) = false from (by rw [chk2_eq, decide_eq_false (show ¬ (tlvS x).type = 8 from c86), c81, c82] <;> simp)]; simp), if_pos (by unfold chk3; rw [decide_eq_true (show (tlvS x).type = 10 from c114), c81] <;> simp)]), rfl⟩
       ·refine Mv 3 E3 <| Sk 4 E3 <| Sk 5 E3 <| Sq.skip (i := 6) rfl (Want.undef rfl rfl rfl) rfl (ltN rfl) ?_
        refine Sq.skip (i := 7) rfl (Want.undef rfl rfl rfl) rfl (ltN rfl) ?_
        refine Sq.skip (i := 8) rfl (Want.undef rfl rfl rfl) rfl (ltN rfl) ?_
        exact Sk 9 E3 <| Pf 10 E4 <| Sg 11 E3 <| Zl hk90 <| Zf <| Run.skip <| J.envJ (J.keep Tk1 (hu49 (()) (⟨by rw [chk2_eq, decide_eq_false (show ¬ (tlvS x).type = 8 from c86), c81, c82] <;> simp, by unfold chk3; rw [decide_eq_false (show ¬ (tlvS x).type = 10 from c114), c81] <;> simp⟩))) ⟨rfl, trivial⟩
   ·refine Qp 5 E2 (Zx E3) <| J.caseB (fun c82 => ?_) (fun c82 => ?_)
    ·refine Sg 6 E3 <| Sg 7 E3 <| Zl hk5 <| Run.cut1 (fun (u12 : Unit) => chk2 (tlvS x) = false ∧ chk3 (tlvS x) = false) (fun u12 => .cons 1 (fp b1) (.nil)) (fun u12 => [blk b1 (Tlv.enc (tlvS x)) 45]) ?_ ?_
     ·rintro u12 ⟨h2, h3⟩
      refine Zs fun _ hk93 => Fa 0 E3 f45_0 <| Qq 1 E2 (Z1 E2 g5 (Tlv.sub_type _)) ?_
      refine Qp 2 E2 (Ze E3) <| J.caseD (fun c125 => ?_) (fun c125 => ?_)
      ·refine Mv 3 E3 <| Sk 4 E3 <| Sk 5 E3 <| Sk 6 E3 <| Pt 7 E4 <| Mv 8 E3 <| Yf 9 E4 f45_8 <| Yq 10 E3 (Z1 E2 g4 (Tlv.sub_all _)) ?_
       refine J.caseB (fun c133 => ?_) (fun c133 => ?_)
       ·refine Yp 11 E3 (Zu E2) <| Pt 12 E4 <| Mv 13 E3 <| Yf 14 E4 f45_0 <| Yq 15 E3 (Z1 E2 g5 (Tlv.sub_type _)) ?_
        refine Yp 16 E3 (Ze E3) <| J.caseD (fun c139 => ?_) (fun c139 => ?_)
        ·refine Pf 17 E4 <| Sg 18 E3 <| Zl hk93 <| Run.seq fun _ hk94 => Zs fun _ hk95 => Mv 0 E3 <| Mv 1 E3 <| Yf 2 E4 f45_11 <| Yq 3 E3 (Z0 E2 g42 (Tlv.sub_pair _)) ?_
         refine Ye 4 E3 (EF.call rfl ce27 rfl Takes.nil (fun F' hle hr => rcheckPair_spec F' (tlvS x).pair)) ?_
         rintro _ _ ⟨_, ⟨rfl, rfl⟩, rfl⟩
         refine J.app <| Yp 5 E3 (Zq E3) <| J.caseD (fun c146 => ?_) (fun c146 => ?_)
         ·exact Pt 6 E4 <| Zl hk95 <| Zt <| Zs fun _ hk96 => Sg 0 E3 <| Zl hk96 <| Run.ret <| J.ends (res_tmp rfl rfl) Takes.nil ⟨congrArg (Value.int .i64) (by unfold checkF; rw [if_neg (by rw [h1]; simp), if_neg (by rw [h2]; simp), if_neg (by rw [h3]; simp), if_pos (by rw [paired_eq, decide_eq_true (show (tlvS x).type = 8 from c125), show (tlvS x).all = true from c133, decide_eq_true (show (tlvS x).type = 10 from c139)] <;> simp), erno21 c146]), rfl⟩
         ·exact Pt 6 E4 <| Zl hk95 <| Zf <| Run.skip <| hk94 _ _ <| Zs fun _ hk97 => Sg 0 E3 <| Zl hk97 <| Run.ret <| J.ends (res_tmp rfl rfl) Takes.nil ⟨congrArg (Value.int .i64) (by unfold checkF; rw [if_neg (by rw [h1]; simp), if_neg (by rw [h2]; simp), if_neg (by rw [h3]; simp), if_pos (by rw [paired_eq, decide_eq_true (show (tlvS x).type = 8 from c125), show (tlvS x).all = true from c133, decide_eq_true (show (tlvS x).type = 10 from c139)] <;> simp), Classical.not_not.1 c146]), rfl⟩
        ·exact Pf 17 E4 <| Sg 18 E3 <| Zl hk93 <| Run.seq fun _ hk98 => Zs fun _ hk99 => Mv 0 E3 <| Mv 1 E3 <| Sk 2 E3 <| Sk 3 E3 <| Sk 4 E3 <| Sk 5 E3 <| Pf 6 E4 <| Zl hk99 <| Zf <| Run.skip <| hk98 _ _ <| Zs fun _ hk100 => Sg 0 E3 <| Zl hk100 <| Run.ret <| J.ends (res_tmp rfl rfl) Takes.nil ⟨congrArg (Value.int .i64) (by unfold checkF; rw [if_neg (by rw [h1]; simp), if_neg (by rw [h2]; simp), if_neg (by rw [h3]; simp), if_neg (by rw [show pairedB (tlvS x) = false from (by rw [paired_eq, decide_eq_true (show (tlvS x).type = 8 from c125), show (tlvS x).all = true from c133, decide_eq_false (show ¬ (tlvS x).type = 10 from c139)] <;> simp)]; simp)]), rfl⟩
       ·refine Yp 11 E3 (Zu E2) <| Pt 12 E4 <| Mv 13 E3 <| Sk 14 E3 <| Sk 15 E3 <| Sk 16 E3 <| Pt 17 E4 <| Sg 18 E3 <| Zl hk93 <| Run.seq fun _ hk101 => Zs fun _ hk102 => Mv 0 E3 <| Mv 1 E3 <| Yf 2 E4 f45_11 <| Yq 3 E3 (Z0 E2 g42 (Tlv.sub_pair _)) ?_
        refine Ye 4 E3 (EF.call rfl ce27 rfl Takes.nil (fun F' hle hr => rcheckPair_spec F' (tlvS x).pair)) ?_
        rintro _ _ ⟨_, ⟨rfl, rfl⟩, rfl⟩
        refine J.app <| Yp 5 E3 (Zq E3) <| J.caseD (fun c146 => ?_) (fun c146 => ?_)
        ·exact Pt 6 E4 <| Zl hk102 <| Zt <| Zs fun _ hk103 => Sg 0 E3 <| Zl hk103 <| Run.ret <| J.ends (res_tmp rfl rfl) Takes.nil ⟨congrArg (Value.int .i64) (by unfold checkF; rw [if_neg (by rw [h1]; simp), if_neg (by rw [h2]; simp), if_neg (by rw [h3]; simp), if_pos (by rw [paired_eq, decide_eq_true (show (tlvS x).type = 8 from c125), show (tlvS x).all = false from c133] <;> simp), erno21 c146]), rfl⟩
        ·exact Pt 6 E4 <| Zl hk102 <| Zf <| Run.skip <| hk101 _ _ <| Zs fun _ hk104 => Sg 0 E3 <| Zl hk104 <| Run.ret <| J.ends (res_tmp rfl rfl) Takes.nil ⟨congrArg (Value.int .i64) (by unfold checkF; rw [if_neg (by rw [h1]; simp), if_neg (by rw [h2]; simp), if_neg (by rw [h3]; simp), if_pos (by rw [paired_eq, decide_eq_true (show (tlvS x).type = 8 from c125), show (tlvS x).all = false from c133] <;> simp), Classical.not_not.1 c146]), rfl⟩
      ·refine Mv 3 E3 <| Yf 4 E4 f45_0 <| Yq 5 E3 (Z1 E2 g5 (Tlv.sub_type _)) ?_
       refine Yp 6 E3 (Ze E3) <| J.caseD (fun c129 => ?_) (fun c129 => ?_)
       ·refine Pf 7 E4 <| Mv 8 E3 <| Yf 9 E4 f45_8 <| Yq 10 E3 (Z1 E2 g4 (Tlv.sub_all _)) ?_
        refine J.caseB (fun c133 => ?_) (fun c133 => ?_)
        ·refine Yp 11 E3 (Zu E2) <| Pt 12 E4 <| Mv 13 E3 <| Yf 14 E4 f45_0 <| Yq 15 E3 (Z1 E2 g5 (Tlv.sub_type _)) ?_
         refine Yp 16 E3 (Ze E3) <| J.caseD (fun c139 => ?_) (fun c139 => ?_)
         ·refine Pf 17 E4 <| Sg 18 E3 <| Zl hk93 <| Run.seq fun _ hk105 => Zs fun _ hk106 => Mv 0 E3 <| Mv 1 E3 <| Yf 2 E4 f45_11 <| Yq 3 E3 (Z0 E2 g42 (Tlv.sub_pair _)) ?_
          refine Ye 4 E3 (EF.call rfl ce27 rfl Takes.nil (fun F' hle hr => rcheckPair_spec F' (tlvS x).pair)) ?_
          rintro _ _ ⟨_, ⟨rfl, rfl⟩, rfl⟩
          refine J.app <| Yp 5 E3 (Zq E3) <| J.caseD (fun c146 => ?_) (fun c146 => ?_)
          ·exact Pt 6 E4 <| Zl hk106 <| Zt <| Zs fun _ hk107 => Sg 0 E3 <| Zl hk107 <| Run.ret <| J.ends (res_tmp rfl rfl) Takes.nil ⟨congrArg (Value.int .i64) (by unfold checkF; rw [if_neg (by rw [h1]; simp), if_neg (by rw [h2]; simp), if_neg (by rw [h3]; simp), if_pos (by rw [paired_eq, decide_eq_false (show ¬ (tlvS x).type = 8 from c125), decide_eq_true (show (tlvS x).type = 9 from c129), show (tlvS x).all = true from c133, decide_eq_true (show (tlvS x).type = 10 from c139)] <;> simp), erno21 c146]), rfl⟩
          ·exact Pt 6 E4 <| Zl hk106 <| Zf <| Run.skip <| hk105 _ _ <| Zs fun _ hk108 => Sg 0 E3 <| Zl hk108 <| Run.ret <| J.ends (res_tmp rfl rfl) Takes.nil ⟨congrArg (Value.int .i64) (by unfold checkF; rw [if_neg (by rw [h1]; simp), if_neg (by rw [h2]; simp), if_neg (by rw [h3]; simp), if_pos (by rw [paired_eq, decide_eq_false (show ¬ (tlvS x).type = 8 from c125), decide_eq_true (show (tlvS x).type = 9 from c129), show (tlvS x).all = true from c133, decide_eq_true (show (tlvS x).type = 10 from c139)] <;> simp), Classical.not_not.1 c146]), rfl⟩
         ·exact Pf 17 E4 <| Sg 18 E3 <| Zl hk93 <| Run.seq fun _ hk109 => Zs fun _ hk110 => Mv 0 E3 <| Mv 1 E3 <| Sk 2 E3 <| Sk 3 E3 <| Sk 4 E3 <| Sk 5 E3 <| Pf 6 E4 <| Zl hk110 <| Zf <| Run.skip <| hk109 _ _ <| Zs fun _ hk111 => Sg 0 E3 <| Zl hk111 <| Run.ret <| J.ends (res_tmp rfl rfl) Takes.nil ⟨congrArg (Value.int .i64) (by unfold checkF; rw [if_neg (by rw [h1]; simp), if_neg (by rw [h2]; simp), if_neg (by rw [h3]; simp), if_neg (by rw [show pairedB (tlvS x) = false from (by rw [paired_eq, decide_eq_false (show ¬ (tlvS x).type = 8 from c125), decide_eq_true (show (tlvS x).type = 9 from c129), show (tlvS x).all = true from c133, decide_eq_false (show ¬ (tlvS x).type = 10 from c139)] <;> simp)]; simp)]), rfl⟩
        ·refine Yp 11 E3 (Zu E2) <| Pt 12 E4 <| Mv 13 E3 <| Sk 14 E3 <| Sk 15 E3 <| Sk 16 E3 <| Pt 17 E4 <| Sg 18 E3 <| Zl hk93 <| Run.seq fun _ hk112 => Zs fun _ hk113 => Mv 0 E3 <| Mv 1 E3 <| Yf 2 E4 f45_11 <| Yq 3 E3 (Z0 E2 g42 (Tlv.sub_pair _)) ?_
         refine Ye 4 E3 (EF.call rfl ce27 rfl Takes.nil (fun F' hle hr => rcheckPair_spec F' (tlvS x).pair)) ?_
         rintro _ _ ⟨_, ⟨rfl, rfl⟩, rfl⟩
         refine J.app <| Yp 5 E3 (Zq E3) <| J.caseD (fun c146 => ?_) (fun c146 => ?_)
         ·exact Pt 6 E4 <| Zl hk113 <| Zt <| Zs fun _ hk114 => Sg 0 E3 <| Zl hk114 <| Run.ret <| J.ends (res_tmp rfl rfl) Takes.nil ⟨congrArg (Value.int .i64) (by unfold checkF; rw [if_neg (by rw [h1]; simp), if_neg (by rw [h2]; simp), if_neg (by rw [h3]; simp), if_pos (by rw [paired_eq, decide_eq_false (show ¬ (tlvS x).type = 8 from c125), decide_eq_true (show (tlvS x).type = 9 from c129), show (tlvS x).all = false from c133] <;> simp), erno21 c146]), rfl⟩
         ·exact Pt 6 E4 <| Zl hk113 <| Zf <| Run.skip <| hk112 _ _ <| Zs fun _ hk115 => Sg 0 E3 <| Zl hk115 <| Run.ret <| J.ends (res_tmp rfl rfl) Takes.nil ⟨congrArg (Value.int .i64) (by unfold checkF; rw [if_neg (by rw [h1]; simp), if_neg (by rw [h2]; simp), if_neg (by rw [h3]; simp), if_pos (by rw [paired_eq, decide_eq_false (show ¬ (tlvS x).type = 8 from c125), decide_eq_true (show (tlvS x).type = 9 from c129), show (tlvS x).all = false from c133] <;> simp), Classical.not_not.1 c146]), rfl⟩
       ·refine Pf 7 E4 <| Mv 8 E3 <| Sk 9 E3 <| Sk 10 E3 <| Sk 11 E3 <| Pf 12 E4 <| Mv 13 E3 <| Yf 14 E4 f45_0 <| Yq 15 E3 (Z1 E2 g5 (Tlv.sub_type _)) ?_
        refine Yp 16 E3 (Ze E3) <| J.caseD (fun c139 => ?_) (fun c139 => ?_)
        ·refine Pf 17 E4 <| Sg 18 E3 <| Zl hk93 <| Run.seq fun _ hk116 => Zs fun _ hk117 => Mv 0 E3 <| Mv 1 E3 <| Yf 2 E4 f45_11 <| Yq 3 E3 (Z0 E2 g42 (Tlv.sub_pair _)) ?_
         refine Ye 4 E3 (EF.call rfl ce27 rfl Takes.nil (fun F' hle hr => rcheckPair_spec F' (tlvS x).pair)) ?_
         rintro _ _ ⟨_, ⟨rfl, rfl⟩, rfl⟩
         refine J.app <| Yp 5 E3 (Zq E3) <| J.caseD (fun c146 => ?_) (fun c146 => ?_)
         ·exact Pt 6 E4 <| Zl hk117 <| Zt <| Zs fun _ hk118 => Sg 0 E3 <| Zl hk118 <| Run.ret <| J.ends (res_tmp rfl rfl) Takes.nil ⟨congrArg (Value.int .i64) (by unfold checkF; rw [if_neg (by rw [h1]; simp), if_neg (by rw [h2]; simp), if_neg (by rw [h3]; simp), if_pos (by rw [paired_eq, decide_eq_false (show ¬ (tlvS x).type = 8 from c125), decide_eq_false (show ¬ (tlvS x).type = 9 from c129), decide_eq_true (show (tlvS x).type = 10 from c139)] <;> simp), erno21 c146]), rfl⟩
         ·exact Pt 6 E4 <| Zl hk117 <| Zf <| Run.skip <| hk116 _ _ <| Zs fun _ hk119 => Sg 0 E3 <| Zl hk119 <| Run.ret <| J.ends (res_tmp rfl rfl) Takes.nil ⟨congrArg (Value.int .i64) (by unfold checkF; rw [if_neg (by rw [h1]; simp), if_neg (by rw [h2]; simp), if_neg (by rw [h3]; simp), if_pos (by rw [paired_eq, decide_eq_false (show ¬ (tlvS x).type = 8 from c125), decide_eq_false (show ¬ (tlvS x).type = 9 from c129), decide_eq_true (show (tlvS x).type = 10 from c139)] <;> simp), Classical.not_not.1 c146]), rfl⟩
        ·exact Pf 17 E4 <| Sg 18 E3 <| Zl hk93 <| Run.seq fun _ hk120 => Zs fun _ hk121 => Mv 0 E3 <| Mv 1 E3 <| Sk 2 E3 <| Sk 3 E3 <| Sk 4 E3 <| Sk 5 E3 <| Pf 6 E4 <| Zl hk121 <| Zf <| Run.skip <| hk120 _ _ <| Zs fun _ hk122 => Sg 0 E3 <| Zl hk122 <| Run.ret <| J.ends (res_tmp rfl rfl) Takes.nil ⟨congrArg (Value.int .i64) (by unfold checkF; rw [if_neg (by rw [h1]; simp), if_neg (by rw [h2]; simp), if_neg (by rw [h3]; simp), if_neg (by rw [show pairedB (tlvS x) = false from (by rw [paired_eq, decide_eq_false (show ¬ (tlvS x).type = 8 from c125), decide_eq_false (show ¬ (tlvS x).type = 9 from c129), decide_eq_false (show ¬ (tlvS x).type = 10 from c139)] <;> simp)]; simp)]), rfl⟩
     ·intro ku92 hu92
      refine Run.block <| Zs fun _ hk123 => Fa 0 E3 f45_0 <| Qq 1 E2 (Z1 E2 g5 (Tlv.sub_type _)) ?_
      refine Qp 2 E2 (Ze E3) <| J.caseD (fun c86 => ?_) (fun c86 => ?_)
      ·refine Mv 3 E3 <| Yf 4 E4 f45_8 <| Yq 5 E3 (Z1 E2 g4 (Tlv.sub_all _)) ?_
       refine J.caseB (fun c89 => ?_) (fun c89 => ?_)
       ·refine Pt 6 E4 <| Mv 7 E3 <| Yf 8 E4 f45_5 <| Yq 9 E3 (Z1 E2 g36 (Tlv.sub_metric _)) ?_
        refine Yp 10 E3 (Zq E3) <| J.caseD (fun c94 => ?_) (fun c94 => ?_)
        ·exact Pt 11 E4 <| Sg 12 E3 <| Zl hk123 <| Zt <| Zs fun _ hk124 => Sg 0 E3 <| Zl hk124 <| Run.ret <| J.ends (res_tmp rfl rfl) Takes.nil ⟨congrArg (Value.int .i64) (by unfold checkF; rw [if_neg (by rw [h1]; simp), if_pos (by rw [chk2_eq, decide_eq_true (show (tlvS x).type = 8 from c86), decide_eq_true (show (tlvS x).metric ≠ 65535 from c94), show (tlvS x).all = true from c89, c81, c82] <;> simp)]), rfl⟩
        ·refine Pt 11 E4 <| Sg 12 E3 <| Zl hk123 <| Zf <| Zs fun _ hk125 => Fa 0 E3 f45_0 <| Qq 1 E2 (Z1 E2 g5 (Tlv.sub_type _)) ?_
         refine Qp 2 E2 (Ze E3) <| J.decT (c86) ?_
         refine Mv 3 E3 <| Yf 4 E4 f45_5 <| Yq 5 E3 (Z1 E2 g36 (Tlv.sub_metric _)) ?_
         refine Yp 6 E3 (Zq E3) <| J.decF (c94) ?_
         refine Pt 7 E4 <| Mv 8 E3 <| Sk 9 E3 <| Sk 10 E3 <| Sq.skip (i := 11) rfl (Want.undef rfl rfl rfl) rfl (ltN rfl) ?_
         refine Sk 12 E3 <| Pf 13 E4 <| Sg 14 E3 <| Zl hk125 <| Zf <| Zs fun _ hk126 => Fa 0 E3 f45_0 <| Qq 1 E2 (Z1 E2 g5 (Tlv.sub_type _)) ?_
         refine Qp 2 E2 (Ze E3) <| J.caseD (fun c114 => ?_) (fun c114 => ?_)
         ·refine Mv 3 E3 <| Ym 4 E4 <| Ym 5 E4 <| Yf 6 E4 f45_6 <| Yq 7 E3 (Z1 E2 g5 (Tlv.sub_hops _)) ?_
          refine Yp 8 E3 (Ze E3) <| J.caseD (fun c120 => ?_) (fun c120 => ?_)
          ·exact Yp 9 E3 (QP.pick_f rfl rfl rfl) <| Pt 10 E4 <| Sg 11 E3 <| Zl hk126 <| Zt <| Zs fun _ hk127 => Sg 0 E3 <| Zl hk127 <| Run.ret <| J.ends (res_tmp rfl rfl) Takes.nil ⟨congrArg (Value.int .i64) (by unfold checkF; rw [if_neg (by rw [h1]; simp), if_neg (by rw [show chk2 (tlvS x) = false from (by rw [chk2_eq, decide_eq_true (show (tlvS x).type = 8 from c86), decide_eq_false (show ¬ (tlvS x).metric ≠ 65535 from c94), show (tlvS x).all = true from c89, c81, c82] <;> simp)]; simp), if_pos (by unfold chk3; rw [decide_eq_true (show (tlvS x).type = 10 from c114), decide_eq_true (show (tlvS x).hops = 0 from c120), c81] <;> simp)]), rfl⟩
          ·exact Yp 9 E3 (QP.pick_f rfl rfl rfl) <| Pt 10 E4 <| Sg 11 E3 <| Zl hk126 <| Zf <| Run.skip <| J.envJ (J.keep Tk1 (hu92 (()) (⟨by rw [chk2_eq, decide_eq_true (show (tlvS x).type = 8 from c86), decide_eq_false (show ¬ (tlvS x).metric ≠ 65535 from c94), show (tlvS x).all = true from c89, c81, c82] <;> simp, by unfold chk3; rw [decide_eq_true (show (tlvS x).type = 10 from c114), decide_eq_false (show ¬ (tlvS x).hops = 0 from c120), c81] <;> simp⟩))) ⟨rfl, trivial⟩
         ·refine Mv 3 E3 <| Sk 4 E3 <| Sk 5 E3 <| Sq.skip (i := 6) rfl (Want.undef rfl rfl rfl) rfl (ltN rfl) ?_
          refine Sq.skip (i := 7) rfl (Want.undef rfl rfl rfl) rfl (ltN rfl) ?_
          refine Sq.skip (i := 8) rfl (Want.undef rfl rfl rfl) rfl (ltN rfl) ?_
          exact Sk 9 E3 <| Pf 10 E4 <| Sg 11 E3 <| Zl hk126 <| Zf <| Run.skip <| J.envJ (J.keep Tk1 (hu92 (()) (⟨by rw [chk2_eq, decide_eq_true (show (tlvS x).type = 8 from c86), decide_eq_false (show ¬ (tlvS x).metric ≠ 65535 from c94), show (tlvS x).all = true from c89, c81, c82] <;> simp, by unfold chk3; rw [decide_eq_false (show ¬ (tlvS x).type = 10 from c114), c81] <;> simp⟩))) ⟨rfl, trivial⟩
       ·refine Pt 6 E4 <| Mv 7 E3 <| Sk 8 E3 <| Sk 9 E3 <| Sk 10 E3 <| Pf 11 E4 <| Sg 12 E3 <| Zl hk123 <| Zf <| Zs fun _ hk128 => Fa 0 E3 f45_0 <| Qq 1 E2 (Z1 E2 g5 (Tlv.sub_type _)) ?_
        refine Qp 2 E2 (Ze E3) <| J.decT (c86) ?_
        refine Mv 3 E3 <| Yf 4 E4 f45_5 <| Yq 5 E3 (Z1 E2 g36 (Tlv.sub_metric _)) ?_
        refine Yp 6 E3 (Zq E3) <| J.caseD (fun c103 => ?_) (fun c103 => ?_)
        ·exact Pt 7 E4 <| Mv 8 E3 <| Ym 9 E4 <| Ym 10 E4 <| Ym 11 E4 <| Yp 12 E3 (QP.pick_f rfl rfl rfl) <| Pt 13 E4 <| Sg 14 E3 <| Zl hk128 <| Zt <| Zs fun _ hk129 => Sg 0 E3 <| Zl hk129 <| Run.ret <| J.ends (res_tmp rfl rfl) Takes.nil ⟨congrArg (Value.int .i64) (by unfold checkF; rw [if_neg (by rw [h1]; simp), if_pos (by rw [chk2_eq, decide_eq_true (show (tlvS x).type = 8 from c86), decide_eq_true (show (tlvS x).metric ≠ 65535 from c103), show (tlvS x).all = false from c89, c81, c82] <;> simp)]), rfl⟩
        ·refine Pt 7 E4 <| Mv 8 E3 <| Sk 9 E3 <| Sk 10 E3 <| Sq.skip (i := 11) rfl (Want.undef rfl rfl rfl) rfl (ltN rfl) ?_
         refine Sk 12 E3 <| Pf 13 E4 <| Sg 14 E3 <| Zl hk128 <| Zf <| Zs fun _ hk130 => Fa 0 E3 f45_0 <| Qq 1 E2 (Z1 E2 g5 (Tlv.sub_type _)) ?_
         refine Qp 2 E2 (Ze E3) <| J.caseD (fun c114 => ?_) (fun c114 => ?_)
         ·refine Mv 3 E3 <| Ym 4 E4 <| Ym 5 E4 <| Yf 6 E4 f45_6 <| Yq 7 E3 (Z1 E2 g5 (Tlv.sub_hops _)) ?_
          refine Yp 8 E3 (Ze E3) <| J.caseD (fun c120 => ?_) (fun c120 => ?_)
          ·exact Yp 9 E3 (QP.pick_f rfl rfl rfl) <| Pt 10 E4 <| Sg 11 E3 <| Zl hk130 <| Zt <| Zs fun _ hk131 => Sg 0 E3 <| Zl hk131 <| Run.ret <| J.ends (res_tmp rfl rfl) Takes.nil ⟨congrArg (Value.int .i64) (by unfold checkF; rw [if_neg (by rw [h1]; simp), if_neg (by rw [show chk2 (tlvS x) = false from (by rw [chk2_eq, decide_eq_true (show (tlvS x).type = 8 from c86), decide_eq_false (show ¬ (tlvS x).metric ≠ 65535 from c103), show (tlvS x).all = false from c89, c81, c82] <;> simp)]; simp), if_pos (by unfold chk3; rw [decide_eq_true (show (tlvS x).type = 10 from c114), decide_eq_true (show (tlvS x).hops = 0 from c120), c81] <;> simp)]), rfl⟩
          ·exact Yp 9 E3 (QP.pick_f rfl rfl rfl) <| Pt 10 E4 <| Sg 11 E3 <| Zl hk130 <| Zf <| Run.skip <| J.envJ (J.keep Tk1 (hu92 (()) (⟨by rw [chk2_eq, decide_eq_true (show (tlvS x).type = 8 from c86), decide_eq_false (show ¬ (tlvS x).metric ≠ 65535 from c103), show (tlvS x).all = false from c89, c81, c82] <;> simp, by unfold chk3; rw [decide_eq_true (show (tlvS x).type = 10 from c114), decide_eq_false (show ¬ (tlvS x).hops = 0 from c120), c81] <;> simp⟩))) ⟨rfl, trivial⟩
         ·refine Mv 3 E3 <| Sk 4 E3 <| Sk 5 E3 <| Sq.skip (i := 6) rfl (Want.undef rfl rfl rfl) rfl (ltN rfl) ?_
          refine Sq.skip (i := 7) rfl (Want.undef rfl rfl rfl) rfl (ltN rfl) ?_
          refine Sq.skip (i := 8) rfl (Want.undef rfl rfl rfl) rfl (ltN rfl) ?_
          exact Sk 9 E3 <| Pf 10 E4 <| Sg 11 E3 <| Zl hk130 <| Zf <| Run.skip <| J.envJ (J.keep Tk1 (hu92 (()) (⟨by rw [chk2_eq, decide_eq_true (show (tlvS x).type = 8 from c86), decide_eq_false (show ¬ (tlvS x).metric ≠ 65535 from c103), show (tlvS x).all = false from c89, c81, c82] <;> simp, by unfold chk3; rw [decide_eq_false (show ¬ (tlvS x).type = 10 from c114), c81] <;> simp⟩))) ⟨rfl, trivial⟩
      ·refine Mv 3 E3 <| Sk 4 E3 <| Sk 5 E3 <| Pf 6 E4 <| Mv 7 E3 <| Sk 8 E3 <| Sk 9 E3 <| Sk 10 E3 <| Pf 11 E4 <| Sg 12 E3 <| Zl hk123 <| Zf <| Zs fun _ hk132 => Fa 0 E3 f45_0 <| Qq 1 E2 (Z1 E2 g5 (Tlv.sub_type _)) ?_
       refine Qp 2 E2 (Ze E3) <| J.decF (c86) ?_
       refine Mv 3 E3 <| Sk 4 E3 <| Sk 5 E3 <| Sk 6 E3 <| Pf 7 E4 <| Mv 8 E3 <| Sk 9 E3 <| Sk 10 E3 <| Sq.skip (i := 11) rfl (Want.undef rfl rfl rfl) rfl (ltN rfl) ?_
       refine Sk 12 E3 <| Pf 13 E4 <| Sg 14 E3 <| Zl hk132 <| Zf <| Zs fun _ hk133 => Fa 0 E3 f45_0 <| Qq 1 E2 (Z1 E2 g5 (Tlv.sub_type _)) ?_
       refine Qp 2 E2 (Ze E3) <| J.caseD (fun c114 => ?_) (fun c114 => ?_)
       ·refine Mv 3 E3 <| Ym 4 E4 <| Ym 5 E4 <| Yf 6 E4 f45_6 <| Yq 7 E3 (Z1 E2 g5 (Tlv.sub_hops _)) ?_
        refine Yp 8 E3 (Ze E3) <| J.caseD (fun c120 => ?_) (fun c120 => ?_)
        ·exact Yp 9 E3 (QP.pick_f rfl rfl rfl) <| Pt 10 E4 <| Sg 11 E3 <| Zl hk133 <| Zt <| Zs fun _ hk134 => Sg 0 E3 <| Zl hk134 <| Run.ret <| J.ends (res_tmp rfl rfl) Takes.nil ⟨congrArg (Value.int .i64) (by unfold checkF; rw [if_neg (by rw [h1]; simp), if_neg (by rw [show chk2 (tlvS x) = false from (by rw [chk2_eq, decide_eq_false (show ¬ (tlvS x).type = 8 from c86), c81, c82] <;> simp)]; simp), if_pos (by unfold chk3; rw [decide_eq_true (show (tlvS x).type = 10 from c114), decide_eq_true (show (tlvS x).hops = 0 from c120), c81] <;> simp)]), rfl⟩
        ·exact Yp 9 E3 (QP.pick_f rfl rfl rfl) <| Pt 10 E4 <| Sg 11 E3 <| Zl hk133 <| Zf <| Run.skip <| J.envJ (J.keep Tk1 (hu92 (()) (⟨by rw [chk2_eq, decide_eq_false (show ¬ (tlvS x).type = 8 from c86), c81, c82] <;> simp, by unfold chk3; rw [decide_eq_true (show (tlvS x).type = 10 from c114), decide_eq_false (show ¬ (tlvS x).hops = 0 from c120), c81] <;> simp⟩))) ⟨rfl, trivial⟩
       ·refine Mv 3 E3 <| Sk 4 E3 <| Sk 5 E3 <| Sq.skip (i := 6) rfl (Want.undef rfl rfl rfl) rfl (ltN rfl) ?_
        refine Sq.skip (i := 7) rfl (Want.undef rfl rfl rfl) rfl (ltN rfl) ?_
        refine Sq.skip (i := 8) rfl (Want.undef rfl rfl rfl) rfl (ltN rfl) ?_
        exact Sk 9 E3 <| Pf 10 E4 <| Sg 11 E3 <| Zl hk133 <| Zf <| Run.skip <| J.envJ (J.keep Tk1 (hu92 (()) (⟨by rw [chk2_eq, decide_eq_false (show ¬ (tlvS x).type = 8 from c86), c81, c82] <;> simp, by unfold chk3; rw [decide_eq_false (show ¬ (tlvS x).type = 10 from c114), c81] <;> simp⟩))) ⟨rfl, trivial⟩
    ·refine Sg 6 E3 <| Sg 7 E3 <| Zl hk5 <| Run.cut1 (fun (u12 : Unit) => chk2 (tlvS x) = false ∧ chk3 (tlvS x) = false) (fun u12 => .cons 1 (fp b1) (.nil)) (fun u12 => [blk b1 (Tlv.enc (tlvS x)) 45]) ?_ ?_
     ·rintro u12 ⟨h2, h3⟩
      refine Zs fun _ hk136 => Fa 0 E3 f45_0 <| Qq 1 E2 (Z1 E2 g5 (Tlv.sub_type _)) ?_
      refine Qp 2 E2 (Ze E3) <| J.caseD (fun c125 => ?_) (fun c125 => ?_)
      ·refine Mv 3 E3 <| Sk 4 E3 <| Sk 5 E3 <| Sk 6 E3 <| Pt 7 E4 <| Mv 8 E3 <| Yf 9 E4 f45_8 <| Yq 10 E3 (Z1 E2 g4 (Tlv.sub_all _)) ?_
       refine J.caseB (fun c133 => ?_) (fun c133 => ?_)
       ·refine Yp 11 E3 (Zu E2) <| Pt 12 E4 <| Mv 13 E3 <| Yf 14 E4 f45_0 <| Yq 15 E3 (Z1 E2 g5 (Tlv.sub_type _)) ?_
        refine Yp 16 E3 (Ze E3) <| J.caseD (fun c139 => ?_) (fun c139 => ?_)
        ·refine Pf 17 E4 <| Sg 18 E3 <| Zl hk136 <| Run.seq fun _ hk137 => Zs fun _ hk138 => Mv 0 E3 <| Mv 1 E3 <| Yf 2 E4 f45_11 <| Yq 3 E3 (Z0 E2 g42 (Tlv.sub_pair _)) ?_
         refine Ye 4 E3 (EF.call rfl ce27 rfl Takes.nil (fun F' hle hr => rcheckPair_spec F' (tlvS x).pair)) ?_
         rintro _ _ ⟨_, ⟨rfl, rfl⟩, rfl⟩
         refine J.app <| Yp 5 E3 (Zq E3) <| J.caseD (fun c146 => ?_) (fun c146 => ?_)
         ·exact Pt 6 E4 <| Zl hk138 <| Zt <| Zs fun _ hk139 => Sg 0 E3 <| Zl hk139 <| Run.ret <| J.ends (res_tmp rfl rfl) Takes.nil ⟨congrArg (Value.int .i64) (by unfold checkF; rw [if_neg (by rw [h1]; simp), if_neg (by rw [h2]; simp), if_neg (by rw [h3]; simp), if_pos (by rw [paired_eq, decide_eq_true (show (tlvS x).type = 8 from c125), show (tlvS x).all = true from c133, decide_eq_true (show (tlvS x).type = 10 from c139)] <;> simp), erno21 c146]), rfl⟩
         ·exact Pt 6 E4 <| Zl hk138 <| Zf <| Run.skip <| hk137 _ _ <| Zs fun _ hk140 => Sg 0 E3 <| Zl hk140 <| Run.ret <| J.ends (res_tmp rfl rfl) Takes.nil ⟨congrArg (Value.int .i64) (by unfold checkF; rw [if_neg (by rw [h1]; simp), if_neg (by rw [h2]; simp), if_neg (by rw [h3]; simp), if_pos (by rw [paired_eq, decide_eq_true (show (tlvS x).type = 8 from c125), show (tlvS x).all = true from c133, decide_eq_true (show (tlvS x).type = 10 from c139)] <;> simp), Classical.not_not.1 c146]), rfl⟩
        ·exact Pf 17 E4 <| Sg 18 E3 <| Zl hk136 <| Run.seq fun _ hk141 => Zs fun _ hk142 => Mv 0 E3 <| Mv 1 E3 <| Sk 2 E3 <| Sk 3 E3 <| Sk 4 E3 <| Sk 5 E3 <| Pf 6 E4 <| Zl hk142 <| Zf <| Run.skip <| hk141 _ _ <| Zs fun _ hk143 => Sg 0 E3 <| Zl hk143 <| Run.ret <| J.ends (res_tmp rfl rfl) Takes.nil ⟨congrArg (Value.int .i64) (by unfold checkF; rw [if_neg (by rw [h1]; simp), if_neg (by rw [h2]; simp), if_neg (by rw [h3]; simp), if_neg (by rw [show pairedB (tlvS x) = false from (by rw [paired_eq, decide_eq_true (show (tlvS x).type = 8 from c125), show (tlvS x).all = true from c133, decide_eq_false (show ¬ (tlvS x).type = 10 from c139)] <;> simp)]; simp)]), rfl⟩
       ·refine Yp 11 E3 (Zu E2) <| Pt 12 E4 <| Mv 13 E3 <| Sk 14 E3 <| Sk 15 E3 <| Sk 16 E3 <| Pt 17 E4 <| Sg 18 E3 <| Zl hk136 <| Run.seq fun _ hk144 => Zs fun _ hk145 => Mv 0 E3 <| Mv 1 E3 <| Yf 2 E4 f45_11 <| Yq 3 E3 (Z0 E2 g42 (Tlv.sub_pair _)) ?_
        refine Ye 4 E3 (EF.call rfl ce27 rfl Takes.nil (fun F' hle hr => rcheckPair_spec F' (tlvS x).pair)) ?_
        rintro _ _ ⟨_, ⟨rfl, rfl⟩, rfl⟩
        refine J.app <| Yp 5 E3 (Zq E3) <| J.caseD (fun c146 => ?_) (fun c146 => ?_)
        ·exact Pt 6 E4 <| Zl hk145 <| Zt <| Zs fun _ hk146 => Sg 0 E3 <| Zl hk146 <| Run.ret <| J.ends (res_tmp rfl rfl) Takes.nil ⟨congrArg (Value.int .i64) (by unfold checkF; rw [if_neg (by rw [h1]; simp), if_neg (by rw [h2]; simp), if_neg (by rw [h3]; simp), if_pos (by rw [paired_eq, decide_eq_true (show (tlvS x).type = 8 from c125), show (tlvS x).all = false from c133] <;> simp), erno21 c146]), rfl⟩
        ·exact Pt 6 E4 <| Zl hk145 <| Zf <| Run.skip <| hk144 _ _ <| Zs fun _ hk147 => Sg 0 E3 <| Zl hk147 <| Run.ret <| J.ends (res_tmp rfl rfl) Takes.nil ⟨congrArg (Value.int .i64) (by unfold checkF; rw [if_neg (by rw [h1]; simp), if_neg (by rw [h2]; simp), if_neg (by rw [h3]; simp), if_pos (by rw [paired_eq, decide_eq_true (show (tlvS x).type = 8 from c125), show (tlvS x).all = false from c133] <;> simp), Classical.not_not.1 c146]), rfl⟩
      ·refine Mv 3 E3 <| Yf 4 E4 f45_0 <| Yq 5 E3 (Z1 E2 g5 (Tlv.sub_type _)) ?_
       refine Yp 6 E3 (Ze E3) <| J.caseD (fun c129 => ?_) (fun c129 => ?_)
       ·refine Pf 7 E4 <| Mv 8 E3 <| Yf 9 E4 f45_8 <| Yq 10 E3 (Z1 E2 g4 (Tlv.sub_all _)) ?_
        refine J.caseB (fun c133 => ?_) (fun c133 => ?_)
        ·refine Yp 11 E3 (Zu E2) <| Pt 12 E4 <| Mv 13 E3 <| Yf 14 E4 f45_0 <| Yq 15 E3 (Z1 E2 g5 (Tlv.sub_type _)) ?_
         refine Yp 16 E3 (Ze E3) <| J.caseD (fun c139 => ?_) (fun c139 => ?_)
         ·refine Pf 17 E4 <| Sg 18 E3 <| Zl hk136 <| Run.seq fun _ hk148 => Zs fun _ hk149 => Mv 0 E3 <| Mv 1 E3 <| Yf 2 E4 f45_11 <| Yq 3 E3 (Z0 E2 g42 (Tlv.sub_pair _)) ?_
          refine Ye 4 E3 (EF.call rfl ce27 rfl Takes.nil (fun F' hle hr => rcheckPair_spec F' (tlvS x).pair)) ?_
          rintro _ _ ⟨_, ⟨rfl, rfl⟩, rfl⟩
          refine J.app <| Yp 5 E3 (Zq E3) <| J.caseD (fun c146 => ?_) (fun c146 => ?_)
          ·exact Pt 6 E4 <| Zl hk149 <| Zt <| Zs fun _ hk150 => Sg 0 E3 <| Zl hk150 <| Run.ret <| J.ends (res_tmp rfl rfl) Takes.nil ⟨congrArg (Value.int .i64) (by unfold checkF; rw [if_neg (by rw [h1]; simp), if_neg (by rw [h2]; simp), if_neg (by rw [h3]; simp), if_pos (by rw [paired_eq, decide_eq_false (show ¬ (tlvS x).type = 8 from c125), decide_eq_true (show (tlvS x).type = 9 from c129), show (tlvS x).all = true from c133, decide_eq_true (show (tlvS x).type = 10 from c139)] <;> simp), erno21 c146]), rfl⟩
          ·exact Pt 6 E4 <| Zl hk149 <| Zf <| Run.skip <| hk148 _ _ <| Zs fun _ hk151 => Sg 0 E3 <| Zl hk151 <| Run.ret <| J.ends (res_tmp rfl rfl) Takes.nil ⟨congrArg (Value.int .i64) (by unfold checkF; rw [if_neg (by rw [h1]; simp), if_neg (by rw [h2]; simp), if_neg (by rw [h3]; simp), if_pos (by rw [paired_eq, decide_eq_false (show ¬ (tlvS x).type = 8 from c125), decide_eq_true (show (tlvS x).type = 9 from c129), show (tlvS x).all = true from c133, decide_eq_true (show (tlvS x).type = 10 from c139)] <;> simp), Classical.not_not.1 c146]), rfl⟩
         ·exact Pf 17 E4 <| Sg 18 E3 <| Zl hk136 <| Run.seq fun _ hk152 => Zs fun _ hk153 => Mv 0 E3 <| Mv 1 E3 <| Sk 2 E3 <| Sk 3 E3 <| Sk 4 E3 <| Sk 5 E3 <| Pf 6 E4 <| Zl hk153 <| Zf <| Run.skip <| hk152 _ _ <| Zs fun _ hk154 => Sg 0 E3 <| Zl hk154 <| Run.ret <| J.ends (res_tmp rfl rfl) Takes.nil ⟨congrArg (Value.int .i64) (by unfold checkF; rw [if_neg (by rw [h1]; simp), if_neg (by rw [h2]; simp), if_neg (by rw [h3]; simp), if_neg (by rw [show pairedB (tlvS x) = false from (by rw [paired_eq, decide_eq_false (show ¬ (tlvS x).type = 8 from c125), decide_eq_true (show (tlvS x).type = 9 from c129), show (tlvS x).all = true from c133, decide_eq_false (show ¬ (tlvS x).type = 10 from c139)] <;> simp)]; simp)]), rfl⟩
        ·refine Yp 11 E3 (Zu E2) <| Pt 12 E4 <| Mv 13 E3 <| Sk 14 E3 <| Sk 15 E3 <| Sk 16 E3 <| Pt 17 E4 <| Sg 18 E3 <| Zl hk136 <| Run.seq fun _ hk155 => Zs fun _ hk156 => Mv 0 E3 <| Mv 1 E3 <| Yf 2 E4 f45_11 <| Yq 3 E3 (Z0 E2 g42 (Tlv.sub_pair _)) ?_
         refine Ye 4 E3 (EF.call rfl ce27 rfl Takes.nil (fun F' hle hr => rcheckPair_spec F' (tlvS x).pair)) ?_
         rintro _ _ ⟨_, ⟨rfl, rfl⟩, rfl⟩
         refine J.app <| Yp 5 E3 (Zq E3) <| J.caseD (fun c146 => ?_) (fun c146 => ?_)
         ·exact Pt 6 E4 <| Zl hk156 <| Zt <| Zs fun _ hk157 => Sg 0 E3 <| Zl hk157 <| Run.ret <| J.ends (res_tmp rfl rfl) Takes.nil ⟨congrArg (Value.int .i64) (by unfold checkF; rw [if_neg (by rw [h1]; simp), if_neg (by rw [h2]; simp), if_neg (by rw [h3]; simp), if_pos (by rw [paired_eq, decide_eq_false (show ¬ (tlvS x).type = 8 from c125), decide_eq_true (show (tlvS x).type = 9 from c129), show (tlvS x).all = false from c133] <;> simp), erno21 c146]), rfl⟩
         ·exact Pt 6 E4 <| Zl hk156 <| Zf <| Run.skip <| hk155 _ _ <| Zs fun _ hk158 => Sg 0 E3 <| Zl hk158 <| Run.ret <| J.ends (res_tmp rfl rfl) Takes.nil ⟨congrArg (Value.int .i64) (by unfold checkF; rw [if_neg (by rw [h1]; simp), if_neg (by rw [h2]; simp), if_neg (by rw [h3]; simp), if_pos (by rw [paired_eq, decide_eq_false (show ¬ (tlvS x).type = 8 from c125), decide_eq_true (show (tlvS x).type = 9 from c129), show (tlvS x).all = false from c133] <;> simp), Classical.not_not.1 c146]), rfl⟩
       ·refine Pf 7 E4 <| Mv 8 E3 <| Sk 9 E3 <| Sk 10 E3 <| Sk 11 E3 <| Pf 12 E4 <| Mv 13 E3 <| Yf 14 E4 f45_0 <| Yq 15 E3 (Z1 E2 g5 (Tlv.sub_type _)) ?_
        refine Yp 16 E3 (Ze E3) <| J.caseD (fun c139 => ?_) (fun c139 => ?_)
        ·refine Pf 17 E4 <| Sg 18 E3 <| Zl hk136 <| Run.seq fun _ hk159 => Zs fun _ hk160 => Mv 0 E3 <| Mv 1 E3 <| Yf 2 E4 f45_11 <| Yq 3 E3 (Z0 E2 g42 (Tlv.sub_pair _)) ?_
         refine Ye 4 E3 (EF.call rfl ce27 rfl Takes.nil (fun F' hle hr => rcheckPair_spec F' (tlvS x).pair)) ?_
         rintro _ _ ⟨_, ⟨rfl, rfl⟩, rfl⟩
         refine J.app <| Yp 5 E3 (Zq E3) <| J.caseD (fun c146 => ?_) (fun c146 => ?_)
         ·exact Pt 6 E4 <| Zl hk160 <| Zt <| Zs fun _ hk161 => Sg 0 E3 <| Zl hk161 <| Run.ret <| J.ends (res_tmp rfl rfl) Takes.nil ⟨congrArg (Value.int .i64) (by unfold checkF; rw [if_neg (by rw [h1]; simp), if_neg (by rw [h2]; simp), if_neg (by rw [h3]; simp), if_pos (by rw [paired_eq, decide_eq_false (show ¬ (tlvS x).type = 8 from c125), decide_eq_false (show ¬ (tlvS x).type = 9 from c129), decide_eq_true (show (tlvS x).type = 10 from c139)] <;> simp), erno21 c146]), rfl⟩
         ·exact Pt 6 E4 <| Zl hk160 <| Zf <| Run.skip <| hk159 _ _ <| Zs fun _ hk162 => Sg 0 E3 <| Zl hk162 <| Run.ret <| J.ends (res_tmp rfl rfl) Takes.nil ⟨congrArg (Value.int .i64) (by unfold checkF; rw [if_neg (by rw [h1]; simp), if_neg (by rw [h2]; simp), if_neg (by rw [h3]; simp), if_pos (by rw [paired_eq, decide_eq_false (show ¬ (tlvS x).type = 8 from c125), decide_eq_false (show ¬ (tlvS x).type = 9 from c129), decide_eq_true (show (tlvS x).type = 10 from c139)] <;> simp), Classical.not_not.1 c146]), rfl⟩
        ·exact Pf 17 E4 <| Sg 18 E3 <| Zl hk136 <| Run.seq fun _ hk163 => Zs fun _ hk164 => Mv 0 E3 <| Mv 1 E3 <| Sk 2 E3 <| Sk 3 E3 <| Sk 4 E3 <| Sk 5 E3 <| Pf 6 E4 <| Zl hk164 <| Zf <| Run.skip <| hk163 _ _ <| Zs fun _ hk165 => Sg 0 E3 <| Zl hk165 <| Run.ret <| J.ends (res_tmp rfl rfl) Takes.nil ⟨congrArg (Value.int .i64) (by unfold checkF; rw [if_neg (by rw [h1]; simp), if_neg (by rw [h2]; simp), if_neg (by rw [h3]; simp), if_neg (by rw [show pairedB (tlvS x) = false from (by rw [paired_eq, decide_eq_false (show ¬ (tlvS x).type = 8 from c125), decide_eq_false (show ¬ (tlvS x).type = 9 from c129), decide_eq_false (show ¬ (tlvS x).type = 10 from c139)] <;> simp)]; simp)]), rfl⟩
     ·intro ku135 hu135
      refine Run.block <| Zs fun _ hk166 => Fa 0 E3 f45_0 <| Qq 1 E2 (Z1 E2 g5 (Tlv.sub_type _)) ?_
      refine Qp 2 E2 (Ze E3) <| J.caseD (fun c86 => ?_) (fun c86 => ?_)
      ·refine Mv 3 E3 <| Yf 4 E4 f45_8 <| Yq 5 E3 (Z1 E2 g4 (Tlv.sub_all _)) ?_
       refine J.caseB (fun c89 => ?_) (fun c89 => ?_)
       ·refine Pt 6 E4 <| Mv 7 E3 <| Yf 8 E4 f45_5 <| Yq 9 E3 (Z1 E2 g36 (Tlv.sub_metric _)) ?_
        refine Yp 10 E3 (Zq E3) <| J.caseD (fun c94 => ?_) (fun c94 => ?_)
        ·exact Pt 11 E4 <| Sg 12 E3 <| Zl hk166 <| Zt <| Zs fun _ hk167 => Sg 0 E3 <| Zl hk167 <| Run.ret <| J.ends (res_tmp rfl rfl) Takes.nil ⟨congrArg (Value.int .i64) (by unfold checkF; rw [if_neg (by rw [h1]; simp), if_pos (by rw [chk2_eq, decide_eq_true (show (tlvS x).type = 8 from c86), decide_eq_true (show (tlvS x).metric ≠ 65535 from c94), show (tlvS x).all = true from c89, c81, c82] <;> simp)]), rfl⟩
        ·refine Pt 11 E4 <| Sg 12 E3 <| Zl hk166 <| Zf <| Zs fun _ hk168 => Fa 0 E3 f45_0 <| Qq 1 E2 (Z1 E2 g5 (Tlv.sub_type _)) ?_
         refine Qp 2 E2 (Ze E3) <| J.decT (c86) ?_
         refine Mv 3 E3 <| Yf 4 E4 f45_5 <| Yq 5 E3 (Z1 E2 g36 (Tlv.sub_metric _)) ?_
         refine Yp 6 E3 (Zq E3) <| J.decF (c94) ?_
         refine Pt 7 E4 <| Mv 8 E3 <| Sk 9 E3 <| Sk 10 E3 <| Sq.skip (i := 11) rfl (Want.undef rfl rfl rfl) rfl (ltN rfl) ?_
         refine Sk 12 E3 <| Pf 13 E4 <| Sg 14 E3 <| Zl hk168 <| Zf <| Zs fun _ hk169 => Fa 0 E3 f45_0 <| Qq 1 E2 (Z1 E2 g5 (Tlv.sub_type _)) ?_
         refine Qp 2 E2 (Ze E3) <| J.caseD (fun c114 => ?_) (fun c114 => ?_)
         ·refine Mv 3 E3 <| Ym 4 E4 <| Ym 5 E4 <| Yf 6 E4 f45_6 <| Yq 7 E3 (Z1 E2 g5 (Tlv.sub_hops _)) ?_
          refine Yp 8 E3 (Ze E3) <| J.caseD (fun c120 => ?_) (fun c120 => ?_)
          ·exact Yp 9 E3 (QP.pick_f rfl rfl rfl) <| Pt 10 E4 <| Sg 11 E3 <| Zl hk169 <| Zt <| Zs fun _ hk170 => Sg 0 E3 <| Zl hk170 <| Run.ret <| J.ends (res_tmp rfl rfl) Takes.nil ⟨congrArg (Value.int .i64) (by unfold checkF; rw [if_neg (by rw [h1]; simp), if_neg (by rw [show chk2 (tlvS x) = false from (by rw [chk2_eq, decide_eq_true (show (tlvS x).type = 8 from c86), decide_eq_false (show ¬ (tlvS x).metric ≠ 65535 from c94), show (tlvS x).all = true from c89, c81, c82] <;> simp)]; simp), if_pos (by unfold chk3; rw [decide_eq_true (show (tlvS x).type = 10 from c114), decide_eq_true (show (tlvS x).hops = 0 from c120), c81] <;> simp)]), rfl⟩
          ·exact Yp 9 E3 (QP.pick_f rfl rfl rfl) <| Pt 10 E4 <| Sg 11 E3 <| Zl hk169 <| Zf <| Run.skip <| J.envJ (J.keep Tk1 (hu135 (()) (⟨by rw [chk2_eq, decide_eq_true (show (tlvS x).type = 8 from c86), decide_eq_false (show ¬ (tlvS x).metric ≠ 65535 from c94), show (tlvS x).all = true from c89, c81, c82] <;> simp, by unfold chk3; rw [decide_eq_true (show (tlvS x).type = 10 from c114), decide_eq_false (show ¬ (tlvS x).hops = 0 from c120), c81] <;> simp⟩))) ⟨rfl, trivial⟩
         ·refine Mv 3 E3 <| Sk 4 E3 <| Sk 5 E3 <| Sq.skip (i := 6) rfl (Want.undef rfl rfl rfl) rfl (ltN rfl) ?_
          refine Sq.skip (i := 7) rfl (Want.undef rfl rfl rfl) rfl (ltN rfl) ?_
          refine Sq.skip (i := 8) rfl (Want.undef rfl rfl rfl) rfl (ltN rfl) ?_
          exact Sk 9 E3 <| Pf 10 E4 <| Sg 11 E3 <| Zl hk169 <| Zf <| Run.skip <| J.envJ (J.keep Tk1 (hu135 (()) (⟨by rw [chk2_eq, decide_eq_true (show (tlvS x).type = 8 from c86), decide_eq_false (show ¬ (tlvS x).metric ≠ 65535 from c94), show (tlvS x).all = true from c89, c81, c82] <;> simp, by unfold chk3; rw [decide_eq_false (show ¬ (tlvS x).type = 10 from c114), c81] <;> simp⟩))) ⟨rfl, trivial⟩
       ·refine Pt 6 E4 <| Mv 7 E3 <| Sk 8 E3 <| Sk 9 E3 <| Sk 10 E3 <| Pf 11 E4 <| Sg 12 E3 <| Zl hk166 <| Zf <| Zs fun _ hk171 => Fa 0 E3 f45_0 <| Qq 1 E2 (Z1 E2 g5 (Tlv.sub_type _)) ?_
        refine Qp 2 E2 (Ze E3) <| J.decT (c86) ?_
        refine Mv 3 E3 <| Yf 4 E4 f45_5 <| Yq 5 E3 (Z1 E2 g36 (Tlv.sub_metric _)) ?_
        refine Yp 6 E3 (Zq E3) <| J.caseD (fun c103 => ?_) (fun c103 => ?_)
        ·refine Pt 7 E4 <| Mv 8 E3 <| Ym 9 E4 <| Ym 10 E4 <| Ym 11 E4 <| Yp 12 E3 (QP.pick_f rfl rfl rfl) <| Pt 13 E4 <| Sg 14 E3 <| Zl hk171 <| Zf <| Zs fun _ hk172 => Fa 0 E3 f45_0 <| Qq 1 E2 (Z1 E2 g5 (Tlv.sub_type _)) ?_
         refine Qp 2 E2 (Ze E3) <| J.caseD (fun c114 => ?_) (fun c114 => ?_)
         ·refine Mv 3 E3 <| Ym 4 E4 <| Ym 5 E4 <| Yf 6 E4 f45_6 <| Yq 7 E3 (Z1 E2 g5 (Tlv.sub_hops _)) ?_
          refine Yp 8 E3 (Ze E3) <| J.caseD (fun c120 => ?_) (fun c120 => ?_)
          ·exact Yp 9 E3 (QP.pick_f rfl rfl rfl) <| Pt 10 E4 <| Sg 11 E3 <| Zl hk172 <| Zt <| Zs fun _ hk173 => Sg 0 E3 <| Zl hk173 <| Run.ret <| J.ends (res_tmp rfl rfl) Takes.nil ⟨congrArg (Value.int .i64) (by unfold checkF; rw [if_neg (by rw [h1]; simp), if_neg (by rw [show chk2 (tlvS x) = false from (by rw [chk2_eq, decide_eq_true (show (tlvS x).type = 8 from c86), decide_eq_true (show (tlvS x).metric ≠ 65535 from c103), show (tlvS x).all = false from c89, c81, c82] <;> simp)]; simp), if_pos (by unfold chk3; rw [decide_eq_true (show (tlvS x).type = 10 from c114), decide_eq_true (show (tlvS x).hops = 0 from c120), c81] <;> simp)]), rfl⟩
          ·exact Yp 9 E3 (QP.pick_f rfl rfl rfl) <| Pt 10 E4 <| Sg 11 E3 <| Zl hk172 <| Zf <| Run.skip <| J.envJ (J.keep Tk1 (hu135 (()) (⟨by rw [chk2_eq, decide_eq_true (show (tlvS x).type = 8 from c86), decide_eq_true (show (tlvS x).metric ≠ 65535 from c103), show (tlvS x).all = false from c89, c81, c82] <;> simp, by unfold chk3; rw [decide_eq_true (show (tlvS x).type = 10 from c114), decide_eq_false (show ¬ (tlvS x).hops = 0 from c120), c81] <;> simp⟩))) ⟨rfl, trivial⟩
         ·refine Mv 3 E3 <| Sk 4 E3 <| Sk 5 E3 <| Sq.skip (i := 6) rfl (Want.undef rfl rfl rfl) rfl (ltN rfl) ?_
          refine Sq.skip (i := 7) rfl (Want.undef rfl rfl rfl) rfl (ltN rfl) ?_
          refine Sq.skip (i := 8) rfl (Want.undef rfl rfl rfl) rfl (ltN rfl) ?_
          exact Sk 9 E3 <| Pf 10 E4 <| Sg 11 E3 <| Zl hk172 <| Zf <| Run.skip <| J.envJ (J.keep Tk1 (hu135 (()) (⟨by rw [chk2_eq, decide_eq_true (show (tlvS x).type = 8 from c86), decide_eq_true (show (tlvS x).metric ≠ 65535 from c103), show (tlvS x).all = false from c89, c81, c82] <;> simp, by unfold chk3; rw [decide_eq_false (show ¬ (tlvS x).type = 10 from c114), c81] <;> simp⟩))) ⟨rfl, trivial⟩
        ·refine Pt 7 E4 <| Mv 8 E3 <| Sk 9 E3 <| Sk 10 E3 <| Sq.skip (i := 11) rfl (Want.undef rfl rfl rfl) rfl (ltN rfl) ?_
         refine Sk 12 E3 <| Pf 13 E4 <| Sg 14 E3 <| Zl hk171 <| Zf <| Zs fun _ hk174 => Fa 0 E3 f45_0 <| Qq 1 E2 (Z1 E2 g5 (Tlv.sub_type _)) ?_
         refine Qp 2 E2 (Ze E3) <| J.caseD (fun c114 => ?_) (fun c114 => ?_)
         ·refine Mv 3 E3 <| Ym 4 E4 <| Ym 5 E4 <| Yf 6 E4 f45_6 <| Yq 7 E3 (Z1 E2 g5 (Tlv.sub_hops _)) ?_
          refine Yp 8 E3 (Ze E3) <| J.caseD (fun c120 => ?_) (fun c120 => ?_)
          ·exact Yp 9 E3 (QP.pick_f rfl rfl rfl) <| Pt 10 E4 <| Sg 11 E3 <| Zl hk174 <| Zt <| Zs fun _ hk175 => Sg 0 E3 <| Zl hk175 <| Run.ret <| J.ends (res_tmp rfl rfl) Takes.nil ⟨congrArg (Value.int .i64) (by unfold checkF; rw [if_neg (by rw [h1]; simp), if_neg (by rw [show chk2 (tlvS x) = false from (by rw [chk2_eq, decide_eq_true (show (tlvS x).type = 8 from c86), decide_eq_false (show ¬ (tlvS x).metric ≠ 65535 from c103), show (tlvS x).all = false from c89, c81, c82] <;> simp)]; simp), if_pos (by unfold chk3; rw [decide_eq_true (show (tlvS x).type = 10 from c114), decide_eq_true (show (tlvS x).hops = 0 from c120), c81] <;> simp)]), rfl⟩
          ·exact Yp 9 E3 (QP.pick_f rfl rfl rfl) <| Pt 10 E4 <| Sg 11 E3 <| Zl hk174 <| Zf <| Run.skip <| J.envJ (J.keep Tk1 (hu135 (()) (⟨by rw [chk2_eq, decide_eq_true (show (tlvS x).type = 8 from c86), decide_eq_false (show ¬ (tlvS x).metric ≠ 65535 from c103), show (tlvS x).all = false from c89, c81, c82] <;> simp, by unfold chk3; rw [decide_eq_true (show (tlvS x).type = 10 from c114), decide_eq_false (show ¬ (tlvS x).hops = 0 from c120), c81] <;> simp⟩))) ⟨rfl, trivial⟩
         ·refine Mv 3 E3 <| Sk 4 E3 <| Sk 5 E3 <| Sq.skip (i := 6) rfl (Want.undef rfl rfl rfl) rfl (ltN rfl) ?_
          refine Sq.skip (i := 7) rfl (Want.undef rfl rfl rfl) rfl (ltN rfl) ?_
          refine Sq.skip (i := 8) rfl (Want.undef rfl rfl rfl) rfl (ltN rfl) ?_
          exact Sk 9 E3 <| Pf 10 E4 <| Sg 11 E3 <| Zl hk174 <| Zf <| Run.skip <| J.envJ (J.keep Tk1 (hu135 (()) (⟨by rw [chk2_eq, decide_eq_true (show (tlvS x).type = 8 from c86), decide_eq_false (show ¬ (tlvS x).metric ≠ 65535 from c103), show (tlvS x).all = false from c89, c81, c82] <;> simp, by unfold chk3; rw [decide_eq_false (show ¬ (tlvS x).type = 10 from c114), c81] <;> simp⟩))) ⟨rfl, trivial⟩
      ·refine Mv 3 E3 <| Sk 4 E3 <| Sk 5 E3 <| Pf 6 E4 <| Mv 7 E3 <| Sk 8 E3 <| Sk 9 E3 <| Sk 10 E3 <| Pf 11 E4 <| Sg 12 E3 <| Zl hk166 <| Zf <| Zs fun _ hk176 => Fa 0 E3 f45_0 <| Qq 1 E2 (Z1 E2 g5 (Tlv.sub_type _)) ?_
       refine Qp 2 E2 (Ze E3) <| J.decF (c86) ?_
       refine Mv 3 E3 <| Sk 4 E3 <| Sk 5 E3 <| Sk 6 E3 <| Pf 7 E4 <| Mv 8 E3 <| Sk 9 E3 <| Sk 10 E3 <| Sq.skip (i := 11) rfl (Want.undef rfl rfl rfl) rfl (ltN rfl) ?_
       refine Sk 12 E3 <| Pf 13 E4 <| Sg 14 E3 <| Zl hk176 <| Zf <| Zs fun _ hk177 => Fa 0 E3 f45_0 <| Qq 1 E2 (Z1 E2 g5 (Tlv.sub_type _)) ?_
       refine Qp 2 E2 (Ze E3) <| J.caseD (fun c114 => ?_) (fun c114 => ?_)
       ·refine Mv 3 E3 <| Ym 4 E4 <| Ym 5 E4 <| Yf 6 E4 f45_6 <| Yq 7 E3 (Z1 E2 g5 (Tlv.sub_hops _)) ?_
        refine Yp 8 E3 (Ze E3) <| J.caseD (fun c120 => ?_) (fun c120 => ?_)
        ·exact Yp 9 E3 (QP.pick_f rfl rfl rfl) <| Pt 10 E4 <| Sg 11 E3 <| Zl hk177 <| Zt <| Zs fun _ hk178 => Sg 0 E3 <| Zl hk178 <| Run.ret <| J.ends (res_tmp rfl rfl) Takes.nil ⟨congrArg (Value.int .i64) (by unfold checkF; rw [if_neg (by rw [h1]; simp), if_neg (by rw [show chk2 (tlvS x) = false from (by rw [chk2_eq, decide_eq_false (show ¬ (tlvS x).type = 8 from c86), c81, c82] <;> simp)]; simp), if_pos (by unfold chk3; rw [decide_eq_true (show (tlvS x).type = 10 from c114), decide_eq_true (show (tlvS x).hops = 0 from c120), c81] <;> simp)]), rfl⟩
        ·exact Yp 9 E3 (QP.pick_f rfl rfl rfl) <| Pt 10 E4 <| Sg 11 E3 <| Zl hk177 <| Zf <| Run.skip <| J.envJ (J.keep Tk1 (hu135 (()) (⟨by rw [chk2_eq, decide_eq_false (show ¬ (tlvS x).type = 8 from c86), c81, c82] <;> simp, by unfold chk3; rw [decide_eq_true (show (tlvS x).type = 10 from c114), decide_eq_false (show ¬ (tlvS x).hops = 0 from c120), c81] <;> simp⟩))) ⟨rfl, trivial⟩
       ·refine Mv 3 E3 <| Sk 4 E3 <| Sk 5 E3 <| Sq.skip (i := 6) rfl (Want.undef rfl rfl rfl) rfl (ltN rfl) ?_
        refine Sq.skip (i := 7) rfl (Want.undef rfl rfl rfl) rfl (ltN rfl) ?_
        refine Sq.skip (i := 8) rfl (Want.undef rfl rfl rfl) rfl (ltN rfl) ?_
        exact Sk 9 E3 <| Pf 10 E4 <| Sg 11 E3 <| Zl hk177 <| Zf <| Run.skip <| J.envJ (J.keep Tk1 (hu135 (()) (⟨by rw [chk2_eq, decide_eq_false (show ¬ (tlvS x).type = 8 from c86), c81, c82] <;> simp, by unfold chk3; rw [decide_eq_false (show ¬ (tlvS x).type = 10 from c114), c81] <;> simp⟩))) ⟨rfl, trivial⟩
  ·intro ku4 hu4
   refine Run.seq fun _ hk179 => Run.regionD (M := [0, 1, 3, 7, 15, 31, 63, 127, 255, 511, 1023, 2047, 4095, 8191, 16383, 32767, 65535, 131071, 262143, 524287, 1048575, 2097151, 4194303, 8388607, 16777215, 33554431, 67108863, 134217727, 134217727, 402653183, 1073741823, 2147483647, 4294967295]) (q := 6979321855) (r := 403702784) Kr <| Dp 0 E2 (Zm E2) <| J.caseB (fun c44 => ?_) (fun c44 => ?_)
   ·refine Dp 1 E2 (Zu E2) <| Dp 2 E2 (Zm E2) <| Dy 3 E3 (Zm E2) <| Dy 4 E3 (QP.gtr rfl rfl rfl) <| J.caseD (fun c48 => ?_) (fun c48 => ?_)
    ·refine Dy 5 E3 (Zm E2) <| Dy 6 E3 (Zm E2) <| Dy 7 E3 (Ze E3) <| J.caseD (fun c51 => ?_) (fun c51 => ?_)
     ·refine Dy 8 E3 (Zm E2) <| Dy 9 E3 (Za E2 f45_0) <| Dz 10 E3 (Z1 E2 g5 (Tlv.sub_type _)) ?_
      refine Dy 11 E3 (Ze E3) <| J.caseD (fun c55 => ?_) (fun c55 => ?_)
      ·refine Dy 12 E3 (QP.pick_t rfl rfl rfl) <| Dy 13 E3 (Zu E2) <| Dy 14 E3 (QP.pick_t rfl rfl rfl) <| Dy 15 E3 (Zm E2) <| Ds 16 E3 <| Ds 17 E3 <| Ds 18 E3 <| Dw.skip (i := 19) rfl Kr (Want.undef rfl rfl rfl) rfl (ltN rfl) ?_
       refine Dw.skip (i := 20) rfl Kr (Want.undef rfl rfl rfl) rfl (ltN rfl) ?_
       refine Dw.skip (i := 21) rfl Kr (Want.undef rfl rfl rfl) rfl (ltN rfl) ?_
       refine Ds 22 E3 <| Ds 23 E3 <| Dy 24 E3 (QP.pick_f rfl rfl rfl) <| Dp 25 E2 (QP.pick_f rfl rfl rfl) <| Dp 26 E2 (Zm E2) <| Dz 27 E3 (Z0 E2 g45 (Tlv.enc_sub _)) ?_
       refine Dz 28 E3 (Z0 E2 g45 (Tlv.enc_sub _)) ?_
       refine De 29 <| One.mk (o := _) (l := [27]) rfl Kr (Want.yes rfl rfl rfl rfl) rfl (ltN rfl) (EF.call rfl ce25 rfl Takes.nil (fun F' hle hr => bare_spec F' (tlvS x))) Kr ?_
       rintro _ _ ⟨_, ⟨rfl, rfl⟩, rfl⟩
       refine ⟨?_, ?_⟩
       ·rw [List.forall_mem_cons]
        refine ⟨?_, fun _ h => (by cases h)⟩
        ·refine Look.app ?_
         exact Look.mk rfl rfl rfl (Z0 E2 g45 (Tlv.enc_sub _))
       refine ?_
       refine J.app <| De 30 <| One.mk (o := _) (l := []) rfl Kr (Want.yes rfl rfl rfl rfl) rfl (ltN rfl) (EF.call rfl ce24 rfl Takes.nil (fun F' hle hr => rsame_spec F' x (⟨(ownF (tlvS x)).1, x.a, x.c, x.l⟩ : TlvX) (hx.mono hle) (hx.mono hle) hxl)) Kr ?_
       rintro _ _ ⟨_, ⟨rfl, rfl⟩, rfl⟩
       refine ⟨fun _ h => (by cases h), ?_⟩
       refine J.app <| J.caseB (fun c74 => ?_) (fun c74 => ?_)
       ·exact Dy 31 E3 (Zu E2) <| Dp 32 E2 (QP.pick_f rfl rfl rfl) <| Dn <| hk179 _ _ <| Zf <| Run.skip <| J.envJ (J.keep Tk1 (hu4 (()) (by unfold chk1; rw [← ht, c44, show timesB (tlvS x) = true from (by rw [timesX]; have h55 : x.t.type = 4 := c55; simp only [ne_eq, Bool.or_eq_true, Bool.and_eq_true, decide_eq_true_eq]; omega), ← eqX_own, c74]; rfl))) ⟨rfl, trivial⟩
       ·exact Dy 31 E3 (Zu E2) <| Dp 32 E2 (QP.pick_f rfl rfl rfl) <| Dn <| hk179 _ _ <| Zt <| Zs fun _ hk180 => Sg 0 E3 <| Zl hk180 <| Run.ret <| J.ends (res_tmp rfl rfl) Takes.nil ⟨congrArg (Value.int .i64) (by unfold checkF; rw [if_pos (by unfold chk1; rw [← ht, c44, show timesB (tlvS x) = true from (by rw [timesX]; have h55 : x.t.type = 4 := c55; simp only [ne_eq, Bool.or_eq_true, Bool.and_eq_true, decide_eq_true_eq]; omega), ← eqX_own, c74]; rfl)]), rfl⟩
      ·refine Dy 12 E3 (QP.pick_t rfl rfl rfl) <| Dy 13 E3 (Zu E2) <| Dy 14 E3 (QP.pick_t rfl rfl rfl) <| Dy 15 E3 (Zm E2) <| Dy 16 E3 (Zm E2) <| Dy 17 E3 (Ze E3) <| J.caseD (fun c61 => ?_) (fun c61 => ?_)
       ·refine Dy 18 E3 (Zm E2) <| Dy 19 E3 (Za E2 f45_0) <| Dz 20 E3 (Z1 E2 g5 (Tlv.sub_type _)) ?_
        refine Dy 21 E3 (Ze E3) <| J.caseD (fun c65 => ?_) (fun c65 => ?_)
        ·refine Dy 22 E3 (QP.pick_t rfl rfl rfl) <| Dy 23 E3 (Zu E2) <| Dy 24 E3 (QP.pick_t rfl rfl rfl) <| Dp 25 E2 (QP.pick_f rfl rfl rfl) <| Dp 26 E2 (Zm E2) <| Dz 27 E3 (Z0 E2 g45 (Tlv.enc_sub _)) ?_
         refine Dz 28 E3 (Z0 E2 g45 (Tlv.enc_sub _)) ?_
         refine De 29 <| One.mk (o := _) (l := [27]) rfl Kr (Want.yes rfl rfl rfl rfl) rfl (ltN rfl) (EF.call rfl ce25 rfl Takes.nil (fun F' hle hr => bare_spec F' (tlvS x))) Kr ?_
         rintro _ _ ⟨_, ⟨rfl, rfl⟩, rfl⟩
         refine ⟨?_, ?_⟩
         ·rw [List.forall_mem_cons]
          refine ⟨?_, fun _ h => (by cases h)⟩
          ·refine Look.app ?_
           exact Look.mk rfl rfl rfl (Z0 E2 g45 (Tlv.enc_sub _))
         refine ?_
         refine J.app <| De 30 <| One.mk (o := _) (l := []) rfl Kr (Want.yes rfl rfl rfl rfl) rfl (ltN rfl) (EF.call rfl ce24 rfl Takes.nil (fun F' hle hr => rsame_spec F' x (⟨(ownF (tlvS x)).1, x.a, x.c, x.l⟩ : TlvX) (hx.mono hle) (hx.mono hle) hxl)) Kr ?_
         rintro _ _ ⟨_, ⟨rfl, rfl⟩, rfl⟩
         refine ⟨fun _ h => (by cases h), ?_⟩
         refine J.app <| J.caseB (fun c74 => ?_) (fun c74 => ?_)
         ·exact Dy 31 E3 (Zu E2) <| Dp 32 E2 (QP.pick_f rfl rfl rfl) <| Dn <| hk179 _ _ <| Zf <| Run.skip <| J.envJ (J.keep Tk1 (hu4 (()) (by unfold chk1; rw [← ht, c44, show timesB (tlvS x) = true from (by rw [timesX]; have h55 : ¬ x.t.type = 4 := c55; have h65 : x.t.type = 5 := c65; simp only [ne_eq, Bool.or_eq_true, Bool.and_eq_true, decide_eq_true_eq]; omega), ← eqX_own, c74]; rfl))) ⟨rfl, trivial⟩
         ·exact Dy 31 E3 (Zu E2) <| Dp 32 E2 (QP.pick_f rfl rfl rfl) <| Dn <| hk179 _ _ <| Zt <| Zs fun _ hk181 => Sg 0 E3 <| Zl hk181 <| Run.ret <| J.ends (res_tmp rfl rfl) Takes.nil ⟨congrArg (Value.int .i64) (by unfold checkF; rw [if_pos (by unfold chk1; rw [← ht, c44, show timesB (tlvS x) = true from (by rw [timesX]; have h55 : ¬ x.t.type = 4 := c55; have h65 : x.t.type = 5 := c65; simp only [ne_eq, Bool.or_eq_true, Bool.and_eq_true, decide_eq_true_eq]; omega), ← eqX_own, c74]; rfl)]), rfl⟩
        ·refine Dy 22 E3 (QP.pick_t rfl rfl rfl) <| Dy 23 E3 (Zu E2) <| Dy 24 E3 (QP.pick_t rfl rfl rfl) <| Dp 25 E2 (QP.pick_f rfl rfl rfl) <| Dp 26 E2 (Zm E2) <| Ds 27 E3 <| Ds 28 E3 <| De 29 <| One.skipD (o := _) rfl Kr (Want.no rfl rfl rfl rfl) rfl (ltN rfl) ?_
         refine De 30 <| One.skipD (o := _) rfl Kr (Want.no rfl rfl rfl rfl) rfl (ltN rfl) ?_
         exact Ds 31 E3 <| Dp 32 E2 (QP.pick_t rfl rfl rfl) <| Dn <| hk179 _ _ <| Zt <| Zs fun _ hk182 => Sg 0 E3 <| Zl hk182 <| Run.ret <| J.ends (res_tmp rfl rfl) Takes.nil ⟨congrArg (Value.int .i64) (by unfold checkF; rw [if_pos (by unfold chk1; rw [← ht, c44, show timesB (tlvS x) = false from Bool.eq_false_iff.2 (by rw [timesX]; have h55 : ¬ x.t.type = 4 := c55; have h65 : ¬ x.t.type = 5 := c65; simp only [ne_eq, Bool.or_eq_true, Bool.and_eq_true, decide_eq_true_eq]; omega)]; rfl)]), rfl⟩
       ·refine Dy 18 E3 (Zm E2) <| Ds 19 E3 <| Ds 20 E3 <| Ds 21 E3 <| Dy 22 E3 (QP.pick_f rfl rfl rfl) <| Dy 23 E3 (Zu E2) <| Dy 24 E3 (QP.pick_t rfl rfl rfl) <| Dp 25 E2 (QP.pick_f rfl rfl rfl) <| Dp 26 E2 (Zm E2) <| Ds 27 E3 <| Ds 28 E3 <| De 29 <| One.skipD (o := _) rfl Kr (Want.no rfl rfl rfl rfl) rfl (ltN rfl) ?_
        refine De 30 <| One.skipD (o := _) rfl Kr (Want.no rfl rfl rfl rfl) rfl (ltN rfl) ?_
        exact Ds 31 E3 <| Dp 32 E2 (QP.pick_t rfl rfl rfl) <| Dn <| hk179 _ _ <| Zt <| Zs fun _ hk183 => Sg 0 E3 <| Zl hk183 <| Run.ret <| J.ends (res_tmp rfl rfl) Takes.nil ⟨congrArg (Value.int .i64) (by unfold checkF; rw [if_pos (by unfold chk1; rw [← ht, c44, show timesB (tlvS x) = false from Bool.eq_false_iff.2 (by rw [timesX]; have h55 : ¬ x.t.type = 4 := c55; simp only [ne_eq, Bool.or_eq_true, Bool.and_eq_true, decide_eq_true_eq]; omega)]; rfl)]), rfl⟩
     ·refine Dy 8 E3 (Zm E2) <| Ds 9 E3 <| Ds 10 E3 <| Ds 11 E3 <| Dy 12 E3 (QP.pick_f rfl rfl rfl) <| Dy 13 E3 (Zu E2) <| Dy 14 E3 (QP.pick_t rfl rfl rfl) <| Dy 15 E3 (Zm E2) <| Dy 16 E3 (Zm E2) <| Dy 17 E3 (Ze E3) <| J.caseD (fun c61 => ?_) (fun c61 => ?_)
      ·refine Dy 18 E3 (Zm E2) <| Dy 19 E3 (Za E2 f45_0) <| Dz 20 E3 (Z1 E2 g5 (Tlv.sub_type _)) ?_
       refine Dy 21 E3 (Ze E3) <| J.caseD (fun c65 => ?_) (fun c65 => ?_)
       ·refine Dy 22 E3 (QP.pick_t rfl rfl rfl) <| Dy 23 E3 (Zu E2) <| Dy 24 E3 (QP.pick_t rfl rfl rfl) <| Dp 25 E2 (QP.pick_f rfl rfl rfl) <| Dp 26 E2 (Zm E2) <| Dz 27 E3 (Z0 E2 g45 (Tlv.enc_sub _)) ?_
        refine Dz 28 E3 (Z0 E2 g45 (Tlv.enc_sub _)) ?_
        refine De 29 <| One.mk (o := _) (l := [27]) rfl Kr (Want.yes rfl rfl rfl rfl) rfl (ltN rfl) (EF.call rfl ce25 rfl Takes.nil (fun F' hle hr => bare_spec F' (tlvS x))) Kr ?_
        rintro _ _ ⟨_, ⟨rfl, rfl⟩, rfl⟩
        refine ⟨?_, ?_⟩
        ·rw [List.forall_mem_cons]
         refine ⟨?_, fun _ h => (by cases h)⟩
         ·refine Look.app ?_
          exact Look.mk rfl rfl rfl (Z0 E2 g45 (Tlv.enc_sub _))
        refine ?_
        refine J.app <| De 30 <| One.mk (o := _) (l := []) rfl Kr (Want.yes rfl rfl rfl rfl) rfl (ltN rfl) (EF.call rfl ce24 rfl Takes.nil (fun F' hle hr => rsame_spec F' x (⟨(ownF (tlvS x)).1, x.a, x.c, x.l⟩ : TlvX) (hx.mono hle) (hx.mono hle) hxl)) Kr ?_
        rintro _ _ ⟨_, ⟨rfl, rfl⟩, rfl⟩
        refine ⟨fun _ h => (by cases h), ?_⟩
        refine J.app <| J.caseB (fun c74 => ?_) (fun c74 => ?_)
        ·exact Dy 31 E3 (Zu E2) <| Dp 32 E2 (QP.pick_f rfl rfl rfl) <| Dn <| hk179 _ _ <| Zf <| Run.skip <| J.envJ (J.keep Tk1 (hu4 (()) (by unfold chk1; rw [← ht, c44, show timesB (tlvS x) = true from (by rw [timesX]; have h65 : x.t.type = 5 := c65; simp only [ne_eq, Bool.or_eq_true, Bool.and_eq_true, decide_eq_true_eq]; omega), ← eqX_own, c74]; rfl))) ⟨rfl, trivial⟩
        ·exact Dy 31 E3 (Zu E2) <| Dp 32 E2 (QP.pick_f rfl rfl rfl) <| Dn <| hk179 _ _ <| Zt <| Zs fun _ hk184 => Sg 0 E3 <| Zl hk184 <| Run.ret <| J.ends (res_tmp rfl rfl) Takes.nil ⟨congrArg (Value.int .i64) (by unfold checkF; rw [if_pos (by unfold chk1; rw [← ht, c44, show timesB (tlvS x) = true from (by rw [timesX]; have h65 : x.t.type = 5 := c65; simp only [ne_eq, Bool.or_eq_true, Bool.and_eq_true, decide_eq_true_eq]; omega), ← eqX_own, c74]; rfl)]), rfl⟩
       ·refine Dy 22 E3 (QP.pick_t rfl rfl rfl) <| Dy 23 E3 (Zu E2) <| Dy 24 E3 (QP.pick_t rfl rfl rfl) <| Dp 25 E2 (QP.pick_f rfl rfl rfl) <| Dp 26 E2 (Zm E2) <| Ds 27 E3 <| Ds 28 E3 <| De 29 <| One.skipD (o := _) rfl Kr (Want.no rfl rfl rfl rfl) rfl (ltN rfl) ?_
        refine De 30 <| One.skipD (o := _) rfl Kr (Want.no rfl rfl rfl rfl) rfl (ltN rfl) ?_
        exact Ds 31 E3 <| Dp 32 E2 (QP.pick_t rfl rfl rfl) <| Dn <| hk179 _ _ <| Zt <| Zs fun _ hk185 => Sg 0 E3 <| Zl hk185 <| Run.ret <| J.ends (res_tmp rfl rfl) Takes.nil ⟨congrArg (Value.int .i64) (by unfold checkF; rw [if_pos (by unfold chk1; rw [← ht, c44, show timesB (tlvS x) = false from Bool.eq_false_iff.2 (by rw [timesX]; have h65 : ¬ x.t.type = 5 := c65; simp only [ne_eq, Bool.or_eq_true, Bool.and_eq_true, decide_eq_true_eq]; omega)]; rfl)]), rfl⟩
      ·refine Dy 18 E3 (Zm E2) <| Ds 19 E3 <| Ds 20 E3 <| Ds 21 E3 <| Dy 22 E3 (QP.pick_f rfl rfl rfl) <| Dy 23 E3 (Zu E2) <| Dy 24 E3 (QP.pick_t rfl rfl rfl) <| Dp 25 E2 (QP.pick_f rfl rfl rfl) <| Dp 26 E2 (Zm E2) <| Ds 27 E3 <| Ds 28 E3 <| De 29 <| One.skipD (o := _) rfl Kr (Want.no rfl rfl rfl rfl) rfl (ltN rfl) ?_
       refine De 30 <| One.skipD (o := _) rfl Kr (Want.no rfl rfl rfl rfl) rfl (ltN rfl) ?_
       exact Ds 31 E3 <| Dp 32 E2 (QP.pick_t rfl rfl rfl) <| Dn <| hk179 _ _ <| Zt <| Zs fun _ hk186 => Sg 0 E3 <| Zl hk186 <| Run.ret <| J.ends (res_tmp rfl rfl) Takes.nil ⟨congrArg (Value.int .i64) (by unfold checkF; rw [if_pos (by unfold chk1; rw [← ht, c44, show timesB (tlvS x) = false from Bool.eq_false_iff.2 (by rw [timesX]; simp only [ne_eq, Bool.or_eq_true, Bool.and_eq_true, decide_eq_true_eq]; omega)]; rfl)]), rfl⟩
    ·refine Dy 5 E3 (Zm E2) <| Ds 6 E3 <| Ds 7 E3 <| Ds 8 E3 <| Dw.skip (i := 9) rfl Kr (Want.undef rfl rfl rfl) rfl (ltN rfl) ?_
     refine Dw.skip (i := 10) rfl Kr (Want.undef rfl rfl rfl) rfl (ltN rfl) ?_
     refine Dw.skip (i := 11) rfl Kr (Want.undef rfl rfl rfl) rfl (ltN rfl) ?_
     refine Ds 12 E3 <| Ds 13 E3 <| Dy 14 E3 (QP.pick_f rfl rfl rfl) <| Dy 15 E3 (Zm E2) <| Ds 16 E3 <| Ds 17 E3 <| Ds 18 E3 <| Dw.skip (i := 19) rfl Kr (Want.undef rfl rfl rfl) rfl (ltN rfl) ?_
     refine Dw.skip (i := 20) rfl Kr (Want.undef rfl rfl rfl) rfl (ltN rfl) ?_
     refine Dw.skip (i := 21) rfl Kr (Want.undef rfl rfl rfl) rfl (ltN rfl) ?_
     refine Ds 22 E3 <| Ds 23 E3 <| Dy 24 E3 (QP.pick_f rfl rfl rfl) <| Dp 25 E2 (QP.pick_f rfl rfl rfl) <| Dp 26 E2 (Zm E2) <| Dz 27 E3 (Z0 E2 g45 (Tlv.enc_sub _)) ?_
     refine Dz 28 E3 (Z0 E2 g45 (Tlv.enc_sub _)) ?_
     refine De 29 <| One.mk (o := _) (l := [27]) rfl Kr (Want.yes rfl rfl rfl rfl) rfl (ltN rfl) (EF.call rfl ce25 rfl Takes.nil (fun F' hle hr => bare_spec F' (tlvS x))) Kr ?_
     rintro _ _ ⟨_, ⟨rfl, rfl⟩, rfl⟩
     refine ⟨?_, ?_⟩
     ·rw [List.forall_mem_cons]
      refine ⟨?_, fun _ h => (by cases h)⟩
      ·refine Look.app ?_
       exact Look.mk rfl rfl rfl (Z0 E2 g45 (Tlv.enc_sub _))
     refine ?_
     refine J.app <| De 30 <| One.mk (o := _) (l := []) rfl Kr (Want.yes rfl rfl rfl rfl) rfl (ltN rfl) (EF.call rfl ce24 rfl Takes.nil (fun F' hle hr => rsame_spec F' x (⟨(ownF (tlvS x)).1, x.a, x.c, x.l⟩ : TlvX) (hx.mono hle) (hx.mono hle) hxl)) Kr ?_
     rintro _ _ ⟨_, ⟨rfl, rfl⟩, rfl⟩
     refine ⟨fun _ h => (by cases h), ?_⟩
     refine J.app <| J.caseB (fun c74 => ?_) (fun c74 => ?_)
     ·exact Dy 31 E3 (Zu E2) <| Dp 32 E2 (QP.pick_f rfl rfl rfl) <| Dn <| hk179 _ _ <| Zf <| Run.skip <| J.envJ (J.keep Tk1 (hu4 (()) (by unfold chk1; rw [← ht, c44, show timesB (tlvS x) = true from (by rw [timesX]; simp only [ne_eq, Bool.or_eq_true, Bool.and_eq_true, decide_eq_true_eq]; omega), ← eqX_own, c74]; rfl))) ⟨rfl, trivial⟩
     ·exact Dy 31 E3 (Zu E2) <| Dp 32 E2 (QP.pick_f rfl rfl rfl) <| Dn <| hk179 _ _ <| Zt <| Zs fun _ hk187 => Sg 0 E3 <| Zl hk187 <| Run.ret <| J.ends (res_tmp rfl rfl) Takes.nil ⟨congrArg (Value.int .i64) (by unfold checkF; rw [if_pos (by unfold chk1; rw [← ht, c44, show timesB (tlvS x) = true from (by rw [timesX]; simp only [ne_eq, Bool.or_eq_true, Bool.and_eq_true, decide_eq_true_eq]; omega), ← eqX_own, c74]; rfl)]), rfl⟩
   ·refine Dp 1 E2 (Zu E2) <| Dp 2 E2 (Zm E2) <| Ds 3 E3 <| Ds 4 E3 <| Ds 5 E3 <| Dw.skip (i := 6) rfl Kr (Want.undef rfl rfl rfl) rfl (ltN rfl) ?_
    refine Dw.skip (i := 7) rfl Kr (Want.undef rfl rfl rfl) rfl (ltN rfl) ?_
    refine Dw.skip (i := 8) rfl Kr (Want.undef rfl rfl rfl) rfl (ltN rfl) ?_
    refine Dw.skip (i := 9) rfl Kr (Want.undef rfl rfl rfl) rfl (ltN rfl) ?_
    refine Dw.skip (i := 10) rfl Kr (Want.undef rfl rfl rfl) rfl (ltN rfl) ?_
    refine Dw.skip (i := 11) rfl Kr (Want.undef rfl rfl rfl) rfl (ltN rfl) ?_
    refine Dw.skip (i := 12) rfl Kr (Want.undef rfl rfl rfl) rfl (ltN rfl) ?_
    refine Dw.skip (i := 13) rfl Kr (Want.undef rfl rfl rfl) rfl (ltN rfl) ?_
    refine Ds 14 E3 <| Ds 15 E3 <| Dw.skip (i := 16) rfl Kr (Want.undef rfl rfl rfl) rfl (ltN rfl) ?_
    refine Dw.skip (i := 17) rfl Kr (Want.undef rfl rfl rfl) rfl (ltN rfl) ?_
    refine Dw.skip (i := 18) rfl Kr (Want.undef rfl rfl rfl) rfl (ltN rfl) ?_
    refine Dw.skip (i := 19) rfl Kr (Want.undef rfl rfl rfl) rfl (ltN rfl) ?_
    refine Dw.skip (i := 20) rfl Kr (Want.undef rfl rfl rfl) rfl (ltN rfl) ?_
    refine Dw.skip (i := 21) rfl Kr (Want.undef rfl rfl rfl) rfl (ltN rfl) ?_
    refine Dw.skip (i := 22) rfl Kr (Want.undef rfl rfl rfl) rfl (ltN rfl) ?_
    refine Dw.skip (i := 23) rfl Kr (Want.undef rfl rfl rfl) rfl (ltN rfl) ?_
    refine Ds 24 E3 <| Dp 25 E2 (QP.pick_t rfl rfl rfl) <| Dp 26 E2 (Zm E2) <| Ds 27 E3 <| Ds 28 E3 <| De 29 <| One.skipD (o := _) rfl Kr (Want.no rfl rfl rfl rfl) rfl (ltN rfl) ?_
    refine De 30 <| One.skipD (o := _) rfl Kr (Want.no rfl rfl rfl rfl) rfl (ltN rfl) ?_
    exact Ds 31 E3 <| Dp 32 E2 (QP.pick_t rfl rfl rfl) <| Dn <| hk179 _ _ <| Zt <| Zs fun _ hk188 => Sg 0 E3 <| Zl hk188 <| Run.ret <| J.ends (res_tmp rfl rfl) Takes.nil ⟨congrArg (Value.int .i64) (by unfold checkF; rw [if_pos (by unfold chk1; rw [← ht, c44]; rfl)]), rfl⟩
 ·intro ku3 hu3
  refine Run.region <| Fa 0 E3 f45_0 <| Qq 1 E2 (Z1 E2 g5 (Tlv.sub_type _)) ?_
  refine Qp 2 E2 (Ze E3) <| J.caseD (fun c13 => ?_) (fun c13 => ?_)
  ·exact Mv 3 E3 <| Sk 4 E3 <| Sk 5 E3 <| Sk 6 E3 <| Pt 7 E4 <| Mv 8 E3 <| Sk 9 E3 <| Sk 10 E3 <| Sk 11 E3 <| Pt 12 E4 <| Mv 13 E3 <| Sk 14 E3 <| Sk 15 E3 <| Sk 16 E3 <| Pt 17 E4 <| Mv 18 E3 <| Sk 19 E3 <| Sk 20 E3 <| Sk 21 E3 <| Pt 22 E4 <| Mv 23 E3 <| Sk 24 E3 <| Sk 25 E3 <| Sk 26 E3 <| Pt 27 E4 <| Mv 28 E3 <| Sk 29 E3 <| Sk 30 E3 <| Sk 31 E3 <| Pt 32 E4 <| Sg 33 E3 <| Sq.nil <| J.envJ (J.keep Tk1 (hu3 (true) ((own_yes (by have h9 : (tlvS x).type = 2 := c13; omega)).symm))) ⟨rfl, rfl, rfl, trivial⟩
  ·refine Mv 3 E3 <| Yf 4 E4 f45_0 <| Yq 5 E3 (Z1 E2 g5 (Tlv.sub_type _)) ?_
   refine Yp 6 E3 (Ze E3) <| J.caseD (fun c17 => ?_) (fun c17 => ?_)
   ·exact Pf 7 E4 <| Mv 8 E3 <| Sk 9 E3 <| Sk 10 E3 <| Sk 11 E3 <| Pt 12 E4 <| Mv 13 E3 <| Sk 14 E3 <| Sk 15 E3 <| Sk 16 E3 <| Pt 17 E4 <| Mv 18 E3 <| Sk 19 E3 <| Sk 20 E3 <| Sk 21 E3 <| Pt 22 E4 <| Mv 23 E3 <| Sk 24 E3 <| Sk 25 E3 <| Sk 26 E3 <| Pt 27 E4 <| Mv 28 E3 <| Sk 29 E3 <| Sk 30 E3 <| Sk 31 E3 <| Pt 32 E4 <| Sg 33 E3 <| Sq.nil <| J.envJ (J.keep Tk1 (hu3 (true) ((own_yes (by have h9 : (tlvS x).type = 3 := c17; omega)).symm))) ⟨rfl, rfl, rfl, trivial⟩
   ·refine Pf 7 E4 <| Mv 8 E3 <| Yf 9 E4 f45_0 <| Yq 10 E3 (Z1 E2 g5 (Tlv.sub_type _)) ?_
    refine Yp 11 E3 (Ze E3) <| J.caseD (fun c22 => ?_) (fun c22 => ?_)
    ·exact Pf 12 E4 <| Mv 13 E3 <| Sk 14 E3 <| Sk 15 E3 <| Sk 16 E3 <| Pt 17 E4 <| Mv 18 E3 <| Sk 19 E3 <| Sk 20 E3 <| Sk 21 E3 <| Pt 22 E4 <| Mv 23 E3 <| Sk 24 E3 <| Sk 25 E3 <| Sk 26 E3 <| Pt 27 E4 <| Mv 28 E3 <| Sk 29 E3 <| Sk 30 E3 <| Sk 31 E3 <| Pt 32 E4 <| Sg 33 E3 <| Sq.nil <| J.envJ (J.keep Tk1 (hu3 (true) ((own_yes (by have h9 : (tlvS x).type = 4 := c22; omega)).symm))) ⟨rfl, rfl, rfl, trivial⟩
    ·refine Pf 12 E4 <| Mv 13 E3 <| Yf 14 E4 f45_0 <| Yq 15 E3 (Z1 E2 g5 (Tlv.sub_type _)) ?_
     refine Yp 16 E3 (Ze E3) <| J.caseD (fun c27 => ?_) (fun c27 => ?_)
     ·exact Pf 17 E4 <| Mv 18 E3 <| Sk 19 E3 <| Sk 20 E3 <| Sk 21 E3 <| Pt 22 E4 <| Mv 23 E3 <| Sk 24 E3 <| Sk 25 E3 <| Sk 26 E3 <| Pt 27 E4 <| Mv 28 E3 <| Sk 29 E3 <| Sk 30 E3 <| Sk 31 E3 <| Pt 32 E4 <| Sg 33 E3 <| Sq.nil <| J.envJ (J.keep Tk1 (hu3 (true) ((own_yes (by have h9 : (tlvS x).type = 5 := c27; omega)).symm))) ⟨rfl, rfl, rfl, trivial⟩
     ·refine Pf 17 E4 <| Mv 18 E3 <| Yf 19 E4 f45_0 <| Yq 20 E3 (Z1 E2 g5 (Tlv.sub_type _)) ?_
      refine Yp 21 E3 (Ze E3) <| J.caseD (fun c32 => ?_) (fun c32 => ?_)
      ·exact Pf 22 E4 <| Mv 23 E3 <| Sk 24 E3 <| Sk 25 E3 <| Sk 26 E3 <| Pt 27 E4 <| Mv 28 E3 <| Sk 29 E3 <| Sk 30 E3 <| Sk 31 E3 <| Pt 32 E4 <| Sg 33 E3 <| Sq.nil <| J.envJ (J.keep Tk1 (hu3 (true) ((own_yes (by have h9 : (tlvS x).type = 8 := c32; omega)).symm))) ⟨rfl, rfl, rfl, trivial⟩
      ·refine Pf 22 E4 <| Mv 23 E3 <| Yf 24 E4 f45_0 <| Yq 25 E3 (Z1 E2 g5 (Tlv.sub_type _)) ?_
       refine Yp 26 E3 (Ze E3) <| J.caseD (fun c37 => ?_) (fun c37 => ?_)
       ·exact Pf 27 E4 <| Mv 28 E3 <| Sk 29 E3 <| Sk 30 E3 <| Sk 31 E3 <| Pt 32 E4 <| Sg 33 E3 <| Sq.nil <| J.envJ (J.keep Tk1 (hu3 (true) ((own_yes (by have h9 : (tlvS x).type = 9 := c37; omega)).symm))) ⟨rfl, rfl, rfl, trivial⟩
       ·refine Pf 27 E4 <| Mv 28 E3 <| Yf 29 E4 f45_0 <| Yq 30 E3 (Z1 E2 g5 (Tlv.sub_type _)) ?_
        refine Yp 31 E3 (Ze E3) <| J.caseD (fun c42 => ?_) (fun c42 => ?_)
        ·exact Pf 32 E4 <| Sg 33 E3 <| Sq.nil <| J.envJ (J.keep Tk1 (hu3 (true) ((own_yes (by have h9 : (tlvS x).type = 10 := c42; omega)).symm))) ⟨rfl, rfl, rfl, trivial⟩
        ·exact Pf 32 E4 <| Sg 33 E3 <| Sq.nil <| J.envJ (J.keep Tk1 (hu3 (false) ((own_no c13 c17 c22 c27 c32 c37 c42).symm))) ⟨rfl, rfl, rfl, trivial⟩
end Slb
