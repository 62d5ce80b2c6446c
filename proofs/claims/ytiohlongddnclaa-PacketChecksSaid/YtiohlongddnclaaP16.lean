/- P16: a part of the proof that a law of this package holds for every input; no condition. -/
import Derived.Test.YtiohlongddnclaaM2
import Derived.Test.YtiohlongddnclaaP15
namespace Slb
open Go Go.Proofs
set_option maxRecDepth 20000
def bareF (t : Tlv) : Tlv := { (ownF t).1 with stamps := t.stamps }
theorem pair8 {t : Tlv} (h : t.type = 8 ∨ t.type = 9) : pairedB t = !t.all := by unfold pairedB; rw [if_pos h]
theorem pair10 {t : Tlv} (h : t.type = 10) : pairedB t = true := by unfold pairedB; rw [if_neg (by omega)]; exact decide_eq_true h
theorem pairNo {t : Tlv} (h : ¬ (t.type = 8 ∨ t.type = 9)) (h2 : ¬ t.type = 10) : pairedB t = false := by unfold pairedB; rw [if_neg h]; exact decide_eq_false h2

set_option maxHeartbeats 4000000 in
theorem bare_spec (F : Fr) (t : Tlv) : Spec Try.prog 26 #[.agg (Tlv.enc t).toArray] [] F (fun v S => v = .agg (Tlv.enc (bareF t)).toArray ∧ S = []) := by
 refine Spec.intro (N := 107) (args := [.agg (Tlv.enc t).toArray]) Try.func26 rfl rfl (by simp) ?_
 refine Run.seq fun k1 hk1 => Run.region ?_
 show Sq _ _ _ [0, 1] _ _ _ _
 refine Ef 0 rfl rfl (EF.boxA rfl rfl) ?_
 rintro _ _ ⟨b1, rfl, rfl⟩
 refine Ef 1 rfl rfl (EF.allocA (l := Tlv.enc Tlv.zero) rfl zero41) ?_
 rintro _ _ ⟨b2, rfl, rfl⟩
 refine Sq.nil <| hk1 _ _ <| Run.seq fun k2 hk2 => Run.region ?_
 show Sq _ _ _ [0, 1, 2, 3, 4, 5, 6] _ _ _ _
 refine Fa 0 rfl rfl rfl f41_0 <| Qq 1 rfl rfl (QR.load1 rfl rfl g5 (Tlv.sub_type _)) ?_
 refine Fa 2 rfl rfl rfl f41_12 <| Qq 3 rfl rfl (QR.load1 rfl rfl g39 (Tlv.sub_stamps _)) ?_
 refine Qp 4 rfl rfl (QP.build (l := Tlv.enc ({ Tlv.zero with type := t.type, stamps := t.stamps } : Tlv)) rfl st41 rfl (by exact ⟨rfl, ⟨rfl, trivial⟩⟩) rfl) <| Ef 5 rfl rfl (EF.allocA (l := Tlv.enc Tlv.zero) rfl zero41) ?_
 rintro _ _ ⟨b3, rfl, rfl⟩
 refine Ac 6 rfl (EF.storeA rfl rfl rfl z41 (SetL.all (Tlv.enc_len _) (Tlv.enc_len _)) (Tlv.enc_cell _)) ?_
 rintro _ _ rfl
 refine Sq.nil <| hk2 _ _ <| Run.cut1 (fun (y : Tlv) => y = bareF t) (fun y => .cons 2 (fp b2) (.cons 3 (fp b3) (.nil))) (fun y => [blk b2 (Tlv.enc Tlv.zero) 41, blk b3 (Tlv.enc y) 41]) ?_ ?_
 ·rintro y hy
  refine Run.seq fun k4 hk4 => Run.region ?_
  show Sq _ _ _ [0, 1] _ _ _ _
  refine Qq 0 rfl rfl (QR.load rfl rfl g41 (Tlv.enc_sub _)) ?_
  refine Ac 1 rfl (EF.storeA rfl rfl rfl z41 (SetL.all (Tlv.enc_len _) (Tlv.enc_len _)) (Tlv.enc_cell _)) ?_
  rintro _ _ rfl
  refine Sq.nil <| hk4 _ _ <| Run.ret ?_
  rw [← hy]
  exact J.ends (res_cell rfl rfl g41 (Tlv.enc_sub _)) Takes.nil ⟨rfl, rfl⟩
 ·intro ku3 hu3
  refine Run.seq fun k5 hk5 => Run.region ?_
  show Sq _ _ _ [0, 1] _ _ _ _
  refine Fa 0 rfl rfl rfl f41_0 <| Qq 1 rfl rfl (QR.load1 rfl rfl g5 (Tlv.sub_type _)) ?_
  refine Sq.nil <| hk5 _ _ <| Run.block <| Run.seq fun k6 hk6 => Run.region ?_
  show Sq _ _ _ [0, 1] _ _ _ _
  refine Qp 0 rfl rfl (QP.eql rfl rfl rfl) <| J.caseD (fun c12 => ?_) (fun c12 => ?_)
  ·refine Sg 1 rfl rfl rfl <| Sq.nil <| hk6 _ _ <| Run.cond_t rfl <| Run.seq fun k7 hk7 => Run.region ?_
   show Sq _ _ _ [0, 1, 2, 3] _ _ _ _
   refine Fa 0 rfl rfl rfl f41_1 <| Qq 1 rfl rfl (QR.load1 rfl rfl g32 (Tlv.sub_nonce _)) ?_
   refine Fa 2 rfl rfl rfl f41_1 <| Ac 3 rfl (EF.store rfl rfl rfl z32 (Tlv.set_nonce _ _) (cell_one rfl)) ?_
   rintro _ _ rfl
   refine Sq.nil <| hk7 _ _ <| Run.region ?_
   show Sq _ _ _ [0, 1, 2, 3] _ _ _ _
   refine Fa 0 rfl rfl rfl f41_2 <| Qq 1 rfl rfl (QR.load1 rfl rfl g32 (Tlv.sub_interval _)) ?_
   refine Fa 2 rfl rfl rfl f41_2 <| Ac 3 rfl (EF.store rfl rfl rfl z32 (Tlv.set_interval _ _) (cell_one rfl)) ?_
   rintro _ _ rfl
   refine Sq.nil ?_
   exact J.envJ (J.keep Tk2 (hu3 (({ ({ Tlv.zero with type := t.type, stamps := t.stamps } : Tlv) with nonce := t.nonce, interval := t.interval } : Tlv)) (by have hp : pairedB t = false := pairNo (by have h9 := c12; omega) (by have h9 := c12; omega); unfold bareF ownF; rw [if_pos c12]; unfold ownB; rw [hp]; rfl))) ⟨rfl, rfl, trivial⟩
  ·refine Sg 1 rfl rfl rfl <| Sq.nil <| hk6 _ _ <| Run.cond_f rfl <| Run.seq fun k8 hk8 => Run.region ?_
   show Sq _ _ _ [0, 1] _ _ _ _
   refine Qp 0 rfl rfl (QP.eql rfl rfl rfl) <| J.caseD (fun c20 => ?_) (fun c20 => ?_)
   ·refine Sg 1 rfl rfl rfl <| Sq.nil <| hk8 _ _ <| Run.cond_t rfl <| Run.region ?_
    show Sq _ _ _ [0, 1, 2, 3] _ _ _ _
    refine Fa 0 rfl rfl rfl f41_1 <| Qq 1 rfl rfl (QR.load1 rfl rfl g32 (Tlv.sub_nonce _)) ?_
    refine Fa 2 rfl rfl rfl f41_1 <| Ac 3 rfl (EF.store rfl rfl rfl z32 (Tlv.set_nonce _ _) (cell_one rfl)) ?_
    rintro _ _ rfl
    refine Sq.nil ?_
    exact J.envJ (J.keep Tk2 (hu3 (({ ({ Tlv.zero with type := t.type, stamps := t.stamps } : Tlv) with nonce := t.nonce } : Tlv)) (by have hp : pairedB t = false := pairNo (by have h9 := c20; omega) (by have h9 := c20; omega); unfold bareF ownF; rw [if_neg c12, if_pos c20]; unfold ownB; rw [hp]; rfl))) ⟨rfl, rfl, trivial⟩
   ·refine Sg 1 rfl rfl rfl <| Sq.nil <| hk8 _ _ <| Run.cond_f rfl <| Run.seq fun k9 hk9 => Run.region ?_
    show Sq _ _ _ [0, 1] _ _ _ _
    refine Qp 0 rfl rfl (QP.eql rfl rfl rfl) <| J.caseD (fun c25 => ?_) (fun c25 => ?_)
    ·refine Sg 1 rfl rfl rfl <| Sq.nil <| hk9 _ _ <| Run.cond_t rfl <| Run.seq fun k10 hk10 => Run.region ?_
     show Sq _ _ _ [0, 1, 2, 3] _ _ _ _
     refine Fa 0 rfl rfl rfl f41_3 <| Qq 1 rfl rfl (QR.load1 rfl rfl g32 (Tlv.sub_seqno _)) ?_
     refine Fa 2 rfl rfl rfl f41_3 <| Ac 3 rfl (EF.store rfl rfl rfl z32 (Tlv.set_seqno _ _) (cell_one rfl)) ?_
     rintro _ _ rfl
     refine Sq.nil <| hk10 _ _ <| Run.seq fun k11 hk11 => Run.region ?_
     show Sq _ _ _ [0, 1, 2, 3] _ _ _ _
     refine Fa 0 rfl rfl rfl f41_2 <| Qq 1 rfl rfl (QR.load1 rfl rfl g32 (Tlv.sub_interval _)) ?_
     refine Fa 2 rfl rfl rfl f41_2 <| Ac 3 rfl (EF.store rfl rfl rfl z32 (Tlv.set_interval _ _) (cell_one rfl)) ?_
     rintro _ _ rfl
     refine Sq.nil <| hk11 _ _ <| Run.region ?_
     show Sq _ _ _ [0, 1, 2, 3] _ _ _ _
     refine Fa 0 rfl rfl rfl f41_7 <| Qq 1 rfl rfl (QR.load1 rfl rfl g4 (Tlv.sub_unicast _)) ?_
     refine Fa 2 rfl rfl rfl f41_7 <| Ac 3 rfl (EF.store rfl rfl rfl z4 (Tlv.set_unicast _ _) (cell_one rfl)) ?_
     rintro _ _ rfl
     refine Sq.nil ?_
     exact J.envJ (J.keep Tk2 (hu3 (({ ({ Tlv.zero with type := t.type, stamps := t.stamps } : Tlv) with seqno := t.seqno, interval := t.interval, unicast := t.unicast } : Tlv)) (by have hp : pairedB t = false := pairNo (by have h9 := c25; omega) (by have h9 := c25; omega); unfold bareF ownF; rw [if_neg c12, if_neg c20, if_pos c25]; unfold ownB; rw [hp]; rfl))) ⟨rfl, rfl, trivial⟩
    ·refine Sg 1 rfl rfl rfl <| Sq.nil <| hk9 _ _ <| Run.cond_f rfl <| Run.seq fun k12 hk12 => Run.region ?_
     show Sq _ _ _ [0, 1] _ _ _ _
     refine Qp 0 rfl rfl (QP.eql rfl rfl rfl) <| J.caseD (fun c36 => ?_) (fun c36 => ?_)
     ·refine Sg 1 rfl rfl rfl <| Sq.nil <| hk12 _ _ <| Run.cond_t rfl <| Run.seq fun k13 hk13 => Run.region ?_
      show Sq _ _ _ [0, 1, 2, 3] _ _ _ _
      refine Fa 0 rfl rfl rfl f41_4 <| Qq 1 rfl rfl (QR.load1 rfl rfl g32 (Tlv.sub_rxcost _)) ?_
      refine Fa 2 rfl rfl rfl f41_4 <| Ac 3 rfl (EF.store rfl rfl rfl z32 (Tlv.set_rxcost _ _) (cell_one rfl)) ?_
      rintro _ _ rfl
      refine Sq.nil <| hk13 _ _ <| Run.seq fun k14 hk14 => Run.region ?_
      show Sq _ _ _ [0, 1, 2, 3] _ _ _ _
      refine Fa 0 rfl rfl rfl f41_2 <| Qq 1 rfl rfl (QR.load1 rfl rfl g32 (Tlv.sub_interval _)) ?_
      refine Fa 2 rfl rfl rfl f41_2 <| Ac 3 rfl (EF.store rfl rfl rfl z32 (Tlv.set_interval _ _) (cell_one rfl)) ?_
      rintro _ _ rfl
      refine Sq.nil <| hk14 _ _ <| Run.seq fun k15 hk15 => Run.region ?_
      show Sq _ _ _ [0, 1, 2, 3] _ _ _ _
      refine Fa 0 rfl rfl rfl f41_8 <| Qq 1 rfl rfl (QR.load1 rfl rfl g4 (Tlv.sub_all _)) ?_
      refine Fa 2 rfl rfl rfl f41_8 <| Ac 3 rfl (EF.store rfl rfl rfl z4 (Tlv.set_all _ _) (cell_one rfl)) ?_
      rintro _ _ rfl
      refine Sq.nil <| hk15 _ _ <| Run.seq fun k16 hk16 => Run.region ?_
      show Sq _ _ _ [0, 1, 2] _ _ _ _
      refine Fa 0 rfl rfl rfl f41_8 <| Qq 1 rfl rfl (QR.load1 rfl rfl g4 (Tlv.sub_all _)) ?_
      refine J.caseB (fun c47 => ?_) (fun c47 => ?_)
      ·refine Qp 2 rfl rfl (QP.not rfl rfl) <| Sq.nil <| hk16 _ _ <| Run.cond_f rfl <| Run.skip ?_
       exact J.envJ (J.keep Tk2 (hu3 (({ ({ Tlv.zero with type := t.type, stamps := t.stamps } : Tlv) with rxcost := t.rxcost, interval := t.interval, all := t.all } : Tlv)) (by have hp : pairedB t = false := pairNo (by have h9 := c36; omega) (by have h9 := c36; omega); unfold bareF ownF; rw [if_neg c12, if_neg c20, if_neg c25, if_pos c36, if_neg (by rw [c47]; simp)]; unfold ownB; rw [hp]; rfl))) ⟨rfl, rfl, trivial⟩
      ·refine Qp 2 rfl rfl (QP.not rfl rfl) <| Sq.nil <| hk16 _ _ <| Run.cond_t rfl <| Run.region ?_
       show Sq _ _ _ [0, 1, 2, 3] _ _ _ _
       refine Fa 0 rfl rfl rfl f41_10 <| Qq 1 rfl rfl (QR.load rfl rfl g23 (Tlv.sub_addr _)) ?_
       refine Fa 2 rfl rfl rfl f41_10 <| Ac 3 rfl (EF.storeA rfl rfl rfl z23 (Tlv.set_addr _ _) (Bs.cell _)) ?_
       rintro _ _ rfl
       refine Sq.nil ?_
       exact J.envJ (J.keep Tk2 (hu3 (({ ({ Tlv.zero with type := t.type, stamps := t.stamps } : Tlv) with rxcost := t.rxcost, interval := t.interval, all := t.all, addr := t.addr } : Tlv)) (by have hp : pairedB t = false := pairNo (by have h9 := c36; omega) (by have h9 := c36; omega); unfold bareF ownF; rw [if_neg c12, if_neg c20, if_neg c25, if_pos c36, if_pos c47]; unfold ownB; rw [hp]; rfl))) ⟨rfl, rfl, trivial⟩
     ·refine Sg 1 rfl rfl rfl <| Sq.nil <| hk12 _ _ <| Run.cond_f rfl <| Run.seq fun k17 hk17 => Run.region ?_
      show Sq _ _ _ [0, 1] _ _ _ _
      refine Qp 0 rfl rfl (QP.eql rfl rfl rfl) <| J.caseD (fun c53 => ?_) (fun c53 => ?_)
      ·refine Sg 1 rfl rfl rfl <| Sq.nil <| hk17 _ _ <| Run.cond_t rfl <| Run.seq fun k18 hk18 => Run.region ?_
       show Sq _ _ _ [0, 1, 2, 3] _ _ _ _
       refine Fa 0 rfl rfl rfl f41_2 <| Qq 1 rfl rfl (QR.load1 rfl rfl g32 (Tlv.sub_interval _)) ?_
       refine Fa 2 rfl rfl rfl f41_2 <| Ac 3 rfl (EF.store rfl rfl rfl z32 (Tlv.set_interval _ _) (cell_one rfl)) ?_
       rintro _ _ rfl
       refine Sq.nil <| hk18 _ _ <| Run.seq fun k19 hk19 => Run.region ?_
       show Sq _ _ _ [0, 1, 2, 3] _ _ _ _
       refine Fa 0 rfl rfl rfl f41_3 <| Qq 1 rfl rfl (QR.load1 rfl rfl g32 (Tlv.sub_seqno _)) ?_
       refine Fa 2 rfl rfl rfl f41_3 <| Ac 3 rfl (EF.store rfl rfl rfl z32 (Tlv.set_seqno _ _) (cell_one rfl)) ?_
       rintro _ _ rfl
       refine Sq.nil <| hk19 _ _ <| Run.seq fun k20 hk20 => Run.region ?_
       show Sq _ _ _ [0, 1, 2, 3] _ _ _ _
       refine Fa 0 rfl rfl rfl f41_5 <| Qq 1 rfl rfl (QR.load1 rfl rfl g32 (Tlv.sub_metric _)) ?_
       refine Fa 2 rfl rfl rfl f41_5 <| Ac 3 rfl (EF.store rfl rfl rfl z32 (Tlv.set_metric _ _) (cell_one rfl)) ?_
       rintro _ _ rfl
       refine Sq.nil <| hk20 _ _ <| Run.seq fun k21 hk21 => Run.region ?_
       show Sq _ _ _ [0, 1, 2, 3] _ _ _ _
       refine Fa 0 rfl rfl rfl f41_8 <| Qq 1 rfl rfl (QR.load1 rfl rfl g4 (Tlv.sub_all _)) ?_
       refine Fa 2 rfl rfl rfl f41_8 <| Ac 3 rfl (EF.store rfl rfl rfl z4 (Tlv.set_all _ _) (cell_one rfl)) ?_
       rintro _ _ rfl
       refine Sq.nil <| hk21 _ _ <| Run.seq fun k22 hk22 => Run.seq fun k23 hk23 => Run.region ?_
       show Sq _ _ _ [0, 1, 2] _ _ _ _
       refine Fa 0 rfl rfl rfl f41_8 <| Qq 1 rfl rfl (QR.load1 rfl rfl g4 (Tlv.sub_all _)) ?_
       refine J.caseB (fun c67 => ?_) (fun c67 => ?_)
       ·refine Qp 2 rfl rfl (QP.not rfl rfl) <| Sq.nil <| hk23 _ _ <| Run.cond_f rfl <| Run.skip <| hk22 _ _ <| Run.seq fun k24 hk24 => Run.region ?_
        show Sq _ _ _ [0, 1, 2] _ _ _ _
        refine Fa 0 rfl rfl rfl f41_5 <| Qq 1 rfl rfl (QR.load1 rfl rfl g32 (Tlv.sub_metric _)) ?_
        refine Qp 2 rfl rfl (QP.neq rfl rfl rfl) <| J.caseD (fun c74 => ?_) (fun c74 => ?_)
        ·refine Sq.nil <| hk24 _ _ <| Run.cond_t rfl <| Run.seq fun k25 hk25 => Run.region ?_
         show Sq _ _ _ [0, 1, 2, 3] _ _ _ _
         refine Fa 0 rfl rfl rfl f41_9 <| Qq 1 rfl rfl (QR.load rfl rfl g34 (Tlv.sub_id_ _)) ?_
         refine Fa 2 rfl rfl rfl f41_9 <| Ac 3 rfl (EF.storeA rfl rfl rfl z34 (Tlv.set_id_ _ _) (Bs.cell _)) ?_
         rintro _ _ rfl
         refine Sq.nil <| hk25 _ _ <| Run.region ?_
         show Sq _ _ _ [0, 1, 2, 3] _ _ _ _
         refine Fa 0 rfl rfl rfl f41_10 <| Qq 1 rfl rfl (QR.load rfl rfl g23 (Tlv.sub_addr _)) ?_
         refine Fa 2 rfl rfl rfl f41_10 <| Ac 3 rfl (EF.storeA rfl rfl rfl z23 (Tlv.set_addr _ _) (Bs.cell _)) ?_
         rintro _ _ rfl
         refine Sq.nil ?_
         exact J.envJ (J.keep Tk2 (hu3 (({ ({ Tlv.zero with type := t.type, stamps := t.stamps } : Tlv) with interval := t.interval, seqno := t.seqno, metric := t.metric, all := t.all, id_ := t.id_, addr := t.addr } : Tlv)) (by have hp : pairedB t = false := (pair8 (.inl c53)).trans (by rw [c67]; rfl); unfold bareF ownF; rw [if_neg c12, if_neg c20, if_neg c25, if_neg c36, if_pos c53, if_pos c74]; unfold ownB; rw [hp]; rfl))) ⟨rfl, rfl, trivial⟩
        ·refine Sq.nil <| hk24 _ _ <| Run.cond_f rfl <| Run.skip ?_
         exact J.envJ (J.keep Tk2 (hu3 (({ ({ Tlv.zero with type := t.type, stamps := t.stamps } : Tlv) with interval := t.interval, seqno := t.seqno, metric := t.metric, all := t.all } : Tlv)) (by have hp : pairedB t = false := (pair8 (.inl c53)).trans (by rw [c67]; rfl); unfold bareF ownF; rw [if_neg c12, if_neg c20, if_neg c25, if_neg c36, if_pos c53, if_neg c74]; unfold ownB; rw [hp]; rfl))) ⟨rfl, rfl, trivial⟩
       ·refine Qp 2 rfl rfl (QP.not rfl rfl) <| Sq.nil <| hk23 _ _ <| Run.cond_t rfl <| Run.region ?_
        show Sq _ _ _ [0, 1, 2, 3] _ _ _ _
        refine Fa 0 rfl rfl rfl f41_11 <| Qq 1 rfl rfl (QR.load rfl rfl g38 (Tlv.sub_pair _)) ?_
        refine Fa 2 rfl rfl rfl f41_11 <| Ac 3 rfl (EF.storeA rfl rfl rfl z38 (Tlv.set_pair _ _) (Pair.enc_cell _)) ?_
        rintro _ _ rfl
        refine Sq.nil <| hk22 _ _ <| Run.seq fun k26 hk26 => Run.region ?_
        show Sq _ _ _ [0, 1, 2] _ _ _ _
        refine Fa 0 rfl rfl rfl f41_5 <| Qq 1 rfl rfl (QR.load1 rfl rfl g32 (Tlv.sub_metric _)) ?_
        refine Qp 2 rfl rfl (QP.neq rfl rfl rfl) <| J.caseD (fun c74 => ?_) (fun c74 => ?_)
        ·refine Sq.nil <| hk26 _ _ <| Run.cond_t rfl <| Run.seq fun k27 hk27 => Run.region ?_
         show Sq _ _ _ [0, 1, 2, 3] _ _ _ _
         refine Fa 0 rfl rfl rfl f41_9 <| Qq 1 rfl rfl (QR.load rfl rfl g34 (Tlv.sub_id_ _)) ?_
         refine Fa 2 rfl rfl rfl f41_9 <| Ac 3 rfl (EF.storeA rfl rfl rfl z34 (Tlv.set_id_ _ _) (Bs.cell _)) ?_
         rintro _ _ rfl
         refine Sq.nil <| hk27 _ _ <| Run.region ?_
         show Sq _ _ _ [0, 1, 2, 3] _ _ _ _
         refine Fa 0 rfl rfl rfl f41_10 <| Qq 1 rfl rfl (QR.load rfl rfl g23 (Tlv.sub_addr _)) ?_
         refine Fa 2 rfl rfl rfl f41_10 <| Ac 3 rfl (EF.storeA rfl rfl rfl z23 (Tlv.set_addr _ _) (Bs.cell _)) ?_
         rintro _ _ rfl
         refine Sq.nil ?_
         exact J.envJ (J.keep Tk2 (hu3 (({ ({ Tlv.zero with type := t.type, stamps := t.stamps } : Tlv) with interval := t.interval, seqno := t.seqno, metric := t.metric, all := t.all, pair := t.pair, id_ := t.id_, addr := t.addr } : Tlv)) (by have hp : pairedB t = true := (pair8 (.inl c53)).trans (by rw [c67]; rfl); unfold bareF ownF; rw [if_neg c12, if_neg c20, if_neg c25, if_neg c36, if_pos c53, if_pos c74]; unfold ownB; rw [hp]; rfl))) ⟨rfl, rfl, trivial⟩
        ·refine Sq.nil <| hk26 _ _ <| Run.cond_f rfl <| Run.skip ?_
         exact J.envJ (J.keep Tk2 (hu3 (({ ({ Tlv.zero with type := t.type, stamps := t.stamps } : Tlv) with interval := t.interval, seqno := t.seqno, metric := t.metric, all := t.all, pair := t.pair } : Tlv)) (by have hp : pairedB t = true := (pair8 (.inl c53)).trans (by rw [c67]; rfl); unfold bareF ownF; rw [if_neg c12, if_neg c20, if_neg c25, if_neg c36, if_pos c53, if_neg c74]; unfold ownB; rw [hp]; rfl))) ⟨rfl, rfl, trivial⟩
      ·refine Sg 1 rfl rfl rfl <| Sq.nil <| hk17 _ _ <| Run.cond_f rfl <| Run.seq fun k28 hk28 => Run.region ?_
       show Sq _ _ _ [0, 1] _ _ _ _
       refine Qp 0 rfl rfl (QP.eql rfl rfl rfl) <| J.caseD (fun c82 => ?_) (fun c82 => ?_)
       ·refine Sg 1 rfl rfl rfl <| Sq.nil <| hk28 _ _ <| Run.cond_t rfl <| Run.seq fun k29 hk29 => Run.region ?_
        show Sq _ _ _ [0, 1, 2, 3] _ _ _ _
        refine Fa 0 rfl rfl rfl f41_8 <| Qq 1 rfl rfl (QR.load1 rfl rfl g4 (Tlv.sub_all _)) ?_
        refine Fa 2 rfl rfl rfl f41_8 <| Ac 3 rfl (EF.store rfl rfl rfl z4 (Tlv.set_all _ _) (cell_one rfl)) ?_
        rintro _ _ rfl
        refine Sq.nil <| hk29 _ _ <| Run.seq fun k30 hk30 => Run.region ?_
        show Sq _ _ _ [0, 1, 2] _ _ _ _
        refine Fa 0 rfl rfl rfl f41_8 <| Qq 1 rfl rfl (QR.load1 rfl rfl g4 (Tlv.sub_all _)) ?_
        refine J.caseB (fun c87 => ?_) (fun c87 => ?_)
        ·refine Qp 2 rfl rfl (QP.not rfl rfl) <| Sq.nil <| hk30 _ _ <| Run.cond_f rfl <| Run.skip ?_
         exact J.envJ (J.keep Tk2 (hu3 (({ ({ Tlv.zero with type := t.type, stamps := t.stamps } : Tlv) with all := t.all } : Tlv)) (by have hp : pairedB t = false := (pair8 (.inr c82)).trans (by rw [c87]; rfl); unfold bareF ownF; rw [if_neg c12, if_neg c20, if_neg c25, if_neg c36, if_neg c53, if_pos c82]; unfold ownB; rw [hp]; rfl))) ⟨rfl, rfl, trivial⟩
        ·refine Qp 2 rfl rfl (QP.not rfl rfl) <| Sq.nil <| hk30 _ _ <| Run.cond_t rfl <| Run.region ?_
         show Sq _ _ _ [0, 1, 2, 3] _ _ _ _
         refine Fa 0 rfl rfl rfl f41_11 <| Qq 1 rfl rfl (QR.load rfl rfl g38 (Tlv.sub_pair _)) ?_
         refine Fa 2 rfl rfl rfl f41_11 <| Ac 3 rfl (EF.storeA rfl rfl rfl z38 (Tlv.set_pair _ _) (Pair.enc_cell _)) ?_
         rintro _ _ rfl
         refine Sq.nil ?_
         exact J.envJ (J.keep Tk2 (hu3 (({ ({ Tlv.zero with type := t.type, stamps := t.stamps } : Tlv) with all := t.all, pair := t.pair } : Tlv)) (by have hp : pairedB t = true := (pair8 (.inr c82)).trans (by rw [c87]; rfl); unfold bareF ownF; rw [if_neg c12, if_neg c20, if_neg c25, if_neg c36, if_neg c53, if_pos c82]; unfold ownB; rw [hp]; rfl))) ⟨rfl, rfl, trivial⟩
       ·refine Sg 1 rfl rfl rfl <| Sq.nil <| hk28 _ _ <| Run.cond_f rfl <| Run.seq fun k31 hk31 => Run.region ?_
        show Sq _ _ _ [0, 1] _ _ _ _
        refine Qp 0 rfl rfl (QP.eql rfl rfl rfl) <| J.caseD (fun c93 => ?_) (fun c93 => ?_)
        ·refine Sg 1 rfl rfl rfl <| Sq.nil <| hk31 _ _ <| Run.cond_t rfl <| Run.seq fun k32 hk32 => Run.region ?_
         show Sq _ _ _ [0, 1, 2, 3] _ _ _ _
         refine Fa 0 rfl rfl rfl f41_3 <| Qq 1 rfl rfl (QR.load1 rfl rfl g32 (Tlv.sub_seqno _)) ?_
         refine Fa 2 rfl rfl rfl f41_3 <| Ac 3 rfl (EF.store rfl rfl rfl z32 (Tlv.set_seqno _ _) (cell_one rfl)) ?_
         rintro _ _ rfl
         refine Sq.nil <| hk32 _ _ <| Run.seq fun k33 hk33 => Run.region ?_
         show Sq _ _ _ [0, 1, 2, 3] _ _ _ _
         refine Fa 0 rfl rfl rfl f41_6 <| Qq 1 rfl rfl (QR.load1 rfl rfl g5 (Tlv.sub_hops _)) ?_
         refine Fa 2 rfl rfl rfl f41_6 <| Ac 3 rfl (EF.store rfl rfl rfl z5 (Tlv.set_hops _ _) (cell_one rfl)) ?_
         rintro _ _ rfl
         refine Sq.nil <| hk33 _ _ <| Run.seq fun k34 hk34 => Run.region ?_
         show Sq _ _ _ [0, 1, 2, 3] _ _ _ _
         refine Fa 0 rfl rfl rfl f41_9 <| Qq 1 rfl rfl (QR.load rfl rfl g34 (Tlv.sub_id_ _)) ?_
         refine Fa 2 rfl rfl rfl f41_9 <| Ac 3 rfl (EF.storeA rfl rfl rfl z34 (Tlv.set_id_ _ _) (Bs.cell _)) ?_
         rintro _ _ rfl
         refine Sq.nil <| hk34 _ _ <| Run.region ?_
         show Sq _ _ _ [0, 1, 2, 3] _ _ _ _
         refine Fa 0 rfl rfl rfl f41_11 <| Qq 1 rfl rfl (QR.load rfl rfl g38 (Tlv.sub_pair _)) ?_
         refine Fa 2 rfl rfl rfl f41_11 <| Ac 3 rfl (EF.storeA rfl rfl rfl z38 (Tlv.set_pair _ _) (Pair.enc_cell _)) ?_
         rintro _ _ rfl
         refine Sq.nil ?_
         exact J.envJ (J.keep Tk2 (hu3 (({ ({ Tlv.zero with type := t.type, stamps := t.stamps } : Tlv) with seqno := t.seqno, hops := t.hops, id_ := t.id_, pair := t.pair } : Tlv)) (by have hp : pairedB t = true := pair10 c93; unfold bareF ownF; rw [if_neg c12, if_neg c20, if_neg c25, if_neg c36, if_neg c53, if_neg c82, if_pos c93]; unfold ownB; rw [hp]; rfl))) ⟨rfl, rfl, trivial⟩
        ·refine Sg 1 rfl rfl rfl <| Sq.nil <| hk31 _ _ <| Run.cond_f rfl <| Run.skip ?_
         exact J.envJ (J.keep Tk2 (hu3 (({ Tlv.zero with type := t.type, stamps := t.stamps } : Tlv)) (by have hp : pairedB t = false := pairNo (fun h => h.elim c53 c82) c93; unfold bareF ownF; rw [if_neg c12, if_neg c20, if_neg c25, if_neg c36, if_neg c53, if_neg c82, if_neg c93]; unfold ownB; rw [hp]; rfl))) ⟨rfl, rfl, trivial⟩

theorem own_yes {t : Tlv} (h : t.type = 2 ∨ t.type = 3 ∨ t.type = 4 ∨ t.type = 5 ∨ t.type = 8 ∨ t.type = 9 ∨ t.type = 10) : (ownF t).2 = true := by
  unfold ownF
  rcases h with h | h | h | h | h | h | h <;> rw [h] <;> simp
theorem own_no {t : Tlv} (h2 : ¬ t.type = 2) (h3 : ¬ t.type = 3) (h4 : ¬ t.type = 4) (h5 : ¬ t.type = 5) (h8 : ¬ t.type = 8) (h9 : ¬ t.type = 9) (h10 : ¬ t.type = 10) : (ownF t).2 = false := by
  unfold ownF
  rw [if_neg h2, if_neg h3, if_neg h4, if_neg h5, if_neg h8, if_neg h9, if_neg h10]
theorem timesX (x : TlvX) : timesB (tlvS x) = (decide (x.l.length = 0) || (decide (x.l.length = 1) && decide (x.t.type = 4) || decide (x.l.length = 2) && decide (x.t.type = 5))) := rfl
theorem eqX_own (x : TlvX) (y : Tlv) : eqX x ⟨y, x.a, x.c, x.l⟩ = sameB (tlvS x) y := by
  unfold eqX
  rw [decide_eq_true rfl]
  rfl
theorem chk2_eq (t : Tlv) : chk2 t = ((decide (t.type = 8) && decide (t.metric ≠ 65535)) && (t.all || (decide (t.id_ = Bs.zero 8) || decide (t.id_ = onesB)))) := by
  unfold chk2 namedB
  congr 2
  simp
theorem paired_eq (t : Tlv) : pairedB t = (((decide (t.type = 8) || decide (t.type = 9)) && !t.all) || decide (t.type = 10)) := by
  unfold pairedB
  by_cases h : t.type = 8 ∨ t.type = 9
  · rw [if_pos h, decide_eq_false (show ¬ t.type = 10 by omega)]
    rcases h with h | h <;> simp [h]
  · rw [if_neg h, decide_eq_false (show ¬ t.type = 8 from fun h2 => h (.inl h2)), decide_eq_false (show ¬ t.type = 9 from fun h2 => h (.inr h2))]
    simp
theorem erno21 {b : Bool} (h : ¬ ernoB b = 0) : ernoB b = 21 := by cases b <;> simp_all [ernoB]

set_option maxHeartbeats 4000000 in
theorem rchk_spec (F : Fr) (x : TlvX) (hx : TlvIn F x) (hxl : x.l.length ≤ 4294967296)  : Spec Try.prog 13 #[.agg (Tlv.enc (tlvS x)).toArray] [] F (fun v S => v = .int .i64 (checkF (tlvS x)) ∧ S = []) := by
 refine Spec.intro (N := 148) (args := [.agg (Tlv.enc (tlvS x)).toArray]) Try.func13 rfl rfl (by simp) ?_
 refine Run.seq fun k1 hk1 => Run.region ?_
 show Sq _ _ _ [0, 1] _ _ _ _
 refine Ef 0 rfl rfl (EF.boxA rfl rfl) ?_
 rintro _ _ ⟨b1, rfl, rfl⟩
 refine Sg 1 rfl rfl rfl <| Sq.nil <| hk1 _ _ <| Run.seq fun k2 hk2 => Run.region ?_
 show Sq _ _ _ [0, 1, 2, 3] _ _ _ _
 refine Fa 0 rfl rfl rfl f41_12 <| Qq 1 rfl rfl (QR.load1 (v := .slice x.a x.l.length x.c) rfl rfl g39 (Tlv.sub_stamps _)) ?_
 refine Qp 2 rfl rfl (QP.len rfl rfl rfl Try.underlying39) <| Sg 3 rfl rfl rfl <| Sq.nil <| hk2 _ _ <| Run.cut1 (fun (told : Bool) => told = (ownF (tlvS x)).2) (fun told => .cons 1 (fp b1) (.cons 3 (.int .i64 x.l.length) (.cons 4 (.bool told) (.nil)))) (fun told => [blk b1 (Tlv.enc (tlvS x)) 41]) ?_ ?_
 ·rintro told ht
  refine Run.cut1 (fun (u5 : Unit) => chk1 (tlvS x) = false) (fun u5 => .cons 1 (fp b1) (.nil)) (fun u5 => [blk b1 (Tlv.enc (tlvS x)) 41]) ?_ ?_
  ·rintro u5 h1
   refine Run.seq fun k5 hk5 => Run.region ?_
   show Sq _ _ _ [0, 1, 2, 3, 4, 5, 6, 7] _ _ _ _
   refine Fa 0 rfl rfl rfl f41_9 <| Qq 1 rfl rfl (QR.load rfl rfl g34 (Tlv.sub_id_ _)) ?_
   refine Ef 2 rfl rfl (EF.call rfl ce27 rfl Takes.nil (fun F' hle hr => special_spec F' (tlvS x).id_)) ?_
   rintro _ _ ⟨_, ⟨rfl, rfl⟩, rfl⟩
   refine J.app ?_
   refine Mv 3 rfl rfl rfl <| Qp 4 rfl rfl (QP.extract rfl rfl rfl) <| J.caseB (fun c81 => ?_) (fun c81 => ?_)
   ·refine Qp 5 rfl rfl (QP.extract rfl rfl rfl) <| J.caseB (fun c82 => ?_) (fun c82 => ?_)
    ·refine Sg 6 rfl rfl rfl <| Sg 7 rfl rfl rfl <| Sq.nil <| hk5 _ _ <| Run.cut1 (fun (u12 : Unit) => chk2 (tlvS x) = false ∧ chk3 (tlvS x) = false) (fun u12 => .cons 1 (fp b1) (.nil)) (fun u12 => [blk b1 (Tlv.enc (tlvS x)) 41]) ?_ ?_
     ·rintro u12 ⟨h2, h3⟩
      refine Run.seq fun k7 hk7 => Run.region ?_
      show Sq _ _ _ [0, 1, 2, 3, 4, 5, 6, 7, 8, 9, 10, 11, 12, 13, 14, 15, 16, 17, 18] _ _ _ _
      refine Fa 0 rfl rfl rfl f41_0 <| Qq 1 rfl rfl (QR.load1 rfl rfl g5 (Tlv.sub_type _)) ?_
      refine Qp 2 rfl rfl (QP.eql rfl rfl rfl) <| J.caseD (fun c125 => ?_) (fun c125 => ?_)
      ·refine Mv 3 rfl rfl rfl <| Sk 4 rfl rfl rfl <| Sk 5 rfl rfl rfl <| Sk 6 rfl rfl rfl <| Pt 7 rfl rfl rfl rfl <| Mv 8 rfl rfl rfl <| Yf 9 rfl rfl rfl rfl f41_8 <| Yq 10 rfl rfl rfl (QR.load1 rfl rfl g4 (Tlv.sub_all _)) ?_
       refine J.caseB (fun c133 => ?_) (fun c133 => ?_)
       ·refine Yp 11 rfl rfl rfl (QP.not rfl rfl) <| Pt 12 rfl rfl rfl rfl <| Mv 13 rfl rfl rfl <| Yf 14 rfl rfl rfl rfl f41_0 <| Yq 15 rfl rfl rfl (QR.load1 rfl rfl g5 (Tlv.sub_type _)) ?_
        refine Yp 16 rfl rfl rfl (QP.eql rfl rfl rfl) <| J.caseD (fun c139 => ?_) (fun c139 => ?_)
        ·refine Pf 17 rfl rfl rfl rfl <| Sg 18 rfl rfl rfl <| Sq.nil <| hk7 _ _ <| Run.seq fun k8 hk8 => Run.seq fun k9 hk9 => Run.region ?_
         show Sq _ _ _ [0, 1, 2, 3, 4, 5, 6] _ _ _ _
         refine Mv 0 rfl rfl rfl <| Mv 1 rfl rfl rfl <| Yf 2 rfl rfl rfl rfl f41_11 <| Yq 3 rfl rfl rfl (QR.load rfl rfl g38 (Tlv.sub_pair _)) ?_
         refine Ye 4 rfl rfl rfl (EF.call rfl ce28 rfl Takes.nil (fun F' hle hr => rcheckPair_spec F' (tlvS x).pair)) ?_
         rintro _ _ ⟨_, ⟨rfl, rfl⟩, rfl⟩
         refine J.app ?_
         refine Yp 5 rfl rfl rfl (QP.neq rfl rfl rfl) <| J.caseD (fun c146 => ?_) (fun c146 => ?_)
         ·refine Pt 6 rfl rfl rfl rfl <| Sq.nil <| hk9 _ _ <| Run.cond_t rfl <| Run.seq fun k10 hk10 => Run.region ?_
          show Sq _ _ _ [0] _ _ _ _
          refine Sg 0 rfl rfl rfl <| Sq.nil <| hk10 _ _ <| Run.ret ?_
          exact J.ends (res_tmp rfl rfl) Takes.nil ⟨congrArg (Value.int .i64) (by unfold checkF; rw [if_neg (by rw [h1]; simp), if_neg (by rw [h2]; simp), if_neg (by rw [h3]; simp), if_pos (by rw [paired_eq, decide_eq_true (show (tlvS x).type = 8 from c125), show (tlvS x).all = true from c133, decide_eq_true (show (tlvS x).type = 10 from c139)] <;> simp), erno21 c146]), rfl⟩
         ·refine Pt 6 rfl rfl rfl rfl <| Sq.nil <| hk9 _ _ <| Run.cond_f rfl <| Run.skip <| hk8 _ _ <| Run.seq fun k11 hk11 => Run.region ?_
          show Sq _ _ _ [0] _ _ _ _
          refine Sg 0 rfl rfl rfl <| Sq.nil <| hk11 _ _ <| Run.ret ?_
          exact J.ends (res_tmp rfl rfl) Takes.nil ⟨congrArg (Value.int .i64) (by unfold checkF; rw [if_neg (by rw [h1]; simp), if_neg (by rw [h2]; simp), if_neg (by rw [h3]; simp), if_pos (by rw [paired_eq, decide_eq_true (show (tlvS x).type = 8 from c125), show (tlvS x).all = true from c133, decide_eq_true (show (tlvS x).type = 10 from c139)] <;> simp), Classical.not_not.1 c146]), rfl⟩
        ·refine Pf 17 rfl rfl rfl rfl <| Sg 18 rfl rfl rfl <| Sq.nil <| hk7 _ _ <| Run.seq fun k12 hk12 => Run.seq fun k13 hk13 => Run.region ?_
         show Sq _ _ _ [0, 1, 2, 3, 4, 5, 6] _ _ _ _
         refine Mv 0 rfl rfl rfl <| Mv 1 rfl rfl rfl <| Sk 2 rfl rfl rfl <| Sk 3 rfl rfl rfl <| Sk 4 rfl rfl rfl <| Sk 5 rfl rfl rfl <| Pf 6 rfl rfl rfl rfl <| Sq.nil <| hk13 _ _ <| Run.cond_f rfl <| Run.skip <| hk12 _ _ <| Run.seq fun k14 hk14 => Run.region ?_
         show Sq _ _ _ [0] _ _ _ _
         refine Sg 0 rfl rfl rfl <| Sq.nil <| hk14 _ _ <| Run.ret ?_
         exact J.ends (res_tmp rfl rfl) Takes.nil ⟨congrArg (Value.int .i64) (by unfold checkF; rw [if_neg (by rw [h1]; simp), if_neg (by rw [h2]; simp), if_neg (by rw [h3]; simp), if_neg (by rw [show pairedB (tlvS x) = false from (by rw [paired_eq, decide_eq_true (show (tlvS x).type = 8 from c125), show (tlvS x).all = true from c133, decide_eq_false (show ¬ (tlvS x).type = 10 from c139)] <;> simp)]; simp)]), rfl⟩
       ·refine Yp 11 rfl rfl rfl (QP.not rfl rfl) <| Pt 12 rfl rfl rfl rfl <| Mv 13 rfl rfl rfl <| Sk 14 rfl rfl rfl <| Sk 15 rfl rfl rfl <| Sk 16 rfl rfl rfl <| Pt 17 rfl rfl rfl rfl <| Sg 18 rfl rfl rfl <| Sq.nil <| hk7 _ _ <| Run.seq fun k15 hk15 => Run.seq fun k16 hk16 => Run.region ?_
        show Sq _ _ _ [0, 1, 2, 3, 4, 5, 6] _ _ _ _
        refine Mv 0 rfl rfl rfl <| Mv 1 rfl rfl rfl <| Yf 2 rfl rfl rfl rfl f41_11 <| Yq 3 rfl rfl rfl (QR.load rfl rfl g38 (Tlv.sub_pair _)) ?_
        refine Ye 4 rfl rfl rfl (EF.call rfl ce28 rfl Takes.nil (fun F' hle hr => rcheckPair_spec F' (tlvS x).pair)) ?_
        rintro _ _ ⟨_, ⟨rfl, rfl⟩, rfl⟩
        refine J.app ?_
        refine Yp 5 rfl rfl rfl (QP.neq rfl rfl rfl) <| J.caseD (fun c146 => ?_) (fun c146 => ?_)
        ·refine Pt 6 rfl rfl rfl rfl <| Sq.nil <| hk16 _ _ <| Run.cond_t rfl <| Run.seq fun k17 hk17 => Run.region ?_
         show Sq _ _ _ [0] _ _ _ _
         refine Sg 0 rfl rfl rfl <| Sq.nil <| hk17 _ _ <| Run.ret ?_
         exact J.ends (res_tmp rfl rfl) Takes.nil ⟨congrArg (Value.int .i64) (by unfold checkF; rw [if_neg (by rw [h1]; simp), if_neg (by rw [h2]; simp), if_neg (by rw [h3]; simp), if_pos (by rw [paired_eq, decide_eq_true (show (tlvS x).type = 8 from c125), show (tlvS x).all = false from c133] <;> simp), erno21 c146]), rfl⟩
        ·refine Pt 6 rfl rfl rfl rfl <| Sq.nil <| hk16 _ _ <| Run.cond_f rfl <| Run.skip <| hk15 _ _ <| Run.seq fun k18 hk18 => Run.region ?_
         show Sq _ _ _ [0] _ _ _ _
         refine Sg 0 rfl rfl rfl <| Sq.nil <| hk18 _ _ <| Run.ret ?_
         exact J.ends (res_tmp rfl rfl) Takes.nil ⟨congrArg (Value.int .i64) (by unfold checkF; rw [if_neg (by rw [h1]; simp), if_neg (by rw [h2]; simp), if_neg (by rw [h3]; simp), if_pos (by rw [paired_eq, decide_eq_true (show (tlvS x).type = 8 from c125), show (tlvS x).all = false from c133] <;> simp), Classical.not_not.1 c146]), rfl⟩
      ·refine Mv 3 rfl rfl rfl <| Yf 4 rfl rfl rfl rfl f41_0 <| Yq 5 rfl rfl rfl (QR.load1 rfl rfl g5 (Tlv.sub_type _)) ?_
       refine Yp 6 rfl rfl rfl (QP.eql rfl rfl rfl) <| J.caseD (fun c129 => ?_) (fun c129 => ?_)
       ·refine Pf 7 rfl rfl rfl rfl <| Mv 8 rfl rfl rfl <| Yf 9 rfl rfl rfl rfl f41_8 <| Yq 10 rfl rfl rfl (QR.load1 rfl rfl g4 (Tlv.sub_all _)) ?_
        refine J.caseB (fun c133 => ?_) (fun c133 => ?_)
        ·refine Yp 11 rfl rfl rfl (QP.not rfl rfl) <| Pt 12 rfl rfl rfl rfl <| Mv 13 rfl rfl rfl <| Yf 14 rfl rfl rfl rfl f41_0 <| Yq 15 rfl rfl rfl (QR.load1 rfl rfl g5 (Tlv.sub_type _)) ?_
         refine Yp 16 rfl rfl rfl (QP.eql rfl rfl rfl) <| J.caseD (fun c139 => ?_) (fun c139 => ?_)
         ·refine Pf 17 rfl rfl rfl rfl <| Sg 18 rfl rfl rfl <| Sq.nil <| hk7 _ _ <| Run.seq fun k19 hk19 => Run.seq fun k20 hk20 => Run.region ?_
          show Sq _ _ _ [0, 1, 2, 3, 4, 5, 6] _ _ _ _
          refine Mv 0 rfl rfl rfl <| Mv 1 rfl rfl rfl <| Yf 2 rfl rfl rfl rfl f41_11 <| Yq 3 rfl rfl rfl (QR.load rfl rfl g38 (Tlv.sub_pair _)) ?_
          refine Ye 4 rfl rfl rfl (EF.call rfl ce28 rfl Takes.nil (fun F' hle hr => rcheckPair_spec F' (tlvS x).pair)) ?_
          rintro _ _ ⟨_, ⟨rfl, rfl⟩, rfl⟩
          refine J.app ?_
          refine Yp 5 rfl rfl rfl (QP.neq rfl rfl rfl) <| J.caseD (fun c146 => ?_) (fun c146 => ?_)
          ·refine Pt 6 rfl rfl rfl rfl <| Sq.nil <| hk20 _ _ <| Run.cond_t rfl <| Run.seq fun k21 hk21 => Run.region ?_
           show Sq _ _ _ [0] _ _ _ _
           refine Sg 0 rfl rfl rfl <| Sq.nil <| hk21 _ _ <| Run.ret ?_
           exact J.ends (res_tmp rfl rfl) Takes.nil ⟨congrArg (Value.int .i64) (by unfold checkF; rw [if_neg (by rw [h1]; simp), if_neg (by rw [h2]; simp), if_neg (by rw [h3]; simp), if_pos (by rw [paired_eq, decide_eq_false (show ¬ (tlvS x).type = 8 from c125), decide_eq_true (show (tlvS x).type = 9 from c129), show (tlvS x).all = true from c133, decide_eq_true (show (tlvS x).type = 10 from c139)] <;> simp), erno21 c146]), rfl⟩
          ·refine Pt 6 rfl rfl rfl rfl <| Sq.nil <| hk20 _ _ <| Run.cond_f rfl <| Run.skip <| hk19 _ _ <| Run.seq fun k22 hk22 => Run.region ?_
           show Sq _ _ _ [0] _ _ _ _
           refine Sg 0 rfl rfl rfl <| Sq.nil <| hk22 _ _ <| Run.ret ?_
           exact J.ends (res_tmp rfl rfl) Takes.nil ⟨congrArg (Value.int .i64) (by unfold checkF; rw [if_neg (by rw [h1]; simp), if_neg (by rw [h2]; simp), if_neg (by rw [h3]; simp), if_pos (by rw [paired_eq, decide_eq_false (show ¬ (tlvS x).type = 8 from c125), decide_eq_true (show (tlvS x).type = 9 from c129), show (tlvS x).all = true from c133, decide_eq_true (show (tlvS x).type = 10 from c139)] <;> simp), Classical.not_not.1 c146]), rfl⟩
         ·refine Pf 17 rfl rfl rfl rfl <| Sg 18 rfl rfl rfl <| Sq.nil <| hk7 _ _ <| Run.seq fun k23 hk23 => Run.seq fun k24 hk24 => Run.region ?_
          show Sq _ _ _ [0, 1, 2, 3, 4, 5, 6] _ _ _ _
          refine Mv 0 rfl rfl rfl <| Mv 1 rfl rfl rfl <| Sk 2 rfl rfl rfl <| Sk 3 rfl rfl rfl <| Sk 4 rfl rfl rfl <| Sk 5 rfl rfl rfl <| Pf 6 rfl rfl rfl rfl <| Sq.nil <| hk24 _ _ <| Run.cond_f rfl <| Run.skip <| hk23 _ _ <| Run.seq fun k25 hk25 => Run.region ?_
          show Sq _ _ _ [0] _ _ _ _
          refine Sg 0 rfl rfl rfl <| Sq.nil <| hk25 _ _ <| Run.ret ?_
          exact J.ends (res_tmp rfl rfl) Takes.nil ⟨congrArg (Value.int .i64) (by unfold checkF; rw [if_neg (by rw [h1]; simp), if_neg (by rw [h2]; simp), if_neg (by rw [h3]; simp), if_neg (by rw [show pairedB (tlvS x) = false from (by rw [paired_eq, decide_eq_false (show ¬ (tlvS x).type = 8 from c125), decide_eq_true (show (tlvS x).type = 9 from c129), show (tlvS x).all = true from c133, decide_eq_false (show ¬ (tlvS x).type = 10 from c139)] <;> simp)]; simp)]), rfl⟩
        ·refine Yp 11 rfl rfl rfl (QP.not rfl rfl) <| Pt 12 rfl rfl rfl rfl <| Mv 13 rfl rfl rfl <| Sk 14 rfl rfl rfl <| Sk 15 rfl rfl rfl <| Sk 16 rfl rfl rfl <| Pt 17 rfl rfl rfl rfl <| Sg 18 rfl rfl rfl <| Sq.nil <| hk7 _ _ <| Run.seq fun k26 hk26 => Run.seq fun k27 hk27 => Run.region ?_
         show Sq _ _ _ [0, 1, 2, 3, 4, 5, 6] _ _ _ _
         refine Mv 0 rfl rfl rfl <| Mv 1 rfl rfl rfl <| Yf 2 rfl rfl rfl rfl f41_11 <| Yq 3 rfl rfl rfl (QR.load rfl rfl g38 (Tlv.sub_pair _)) ?_
         refine Ye 4 rfl rfl rfl (EF.call rfl ce28 rfl Takes.nil (fun F' hle hr => rcheckPair_spec F' (tlvS x).pair)) ?_
         rintro _ _ ⟨_, ⟨rfl, rfl⟩, rfl⟩
         refine J.app ?_
         refine Yp 5 rfl rfl rfl (QP.neq rfl rfl rfl) <| J.caseD (fun c146 => ?_) (fun c146 => ?_)
         ·refine Pt 6 rfl rfl rfl rfl <| Sq.nil <| hk27 _ _ <| Run.cond_t rfl <| Run.seq fun k28 hk28 => Run.region ?_
          show Sq _ _ _ [0] _ _ _ _
          refine Sg 0 rfl rfl rfl <| Sq.nil <| hk28 _ _ <| Run.ret ?_
          exact J.ends (res_tmp rfl rfl) Takes.nil ⟨congrArg (Value.int .i64) (by unfold checkF; rw [if_neg (by rw [h1]; simp), if_neg (by rw [h2]; simp), if_neg (by rw [h3]; simp), if_pos (by rw [paired_eq, decide_eq_false (show ¬ (tlvS x).type = 8 from c125), decide_eq_true (show (tlvS x).type = 9 from c129), show (tlvS x).all = false from c133] <;> simp), erno21 c146]), rfl⟩
         ·refine Pt 6 rfl rfl rfl rfl <| Sq.nil <| hk27 _ _ <| Run.cond_f rfl <| Run.skip <| hk26 _ _ <| Run.seq fun k29 hk29 => Run.region ?_
          show Sq _ _ _ [0] _ _ _ _
          refine Sg 0 rfl rfl rfl <| Sq.nil <| hk29 _ _ <| Run.ret ?_
          exact J.ends (res_tmp rfl rfl) Takes.nil ⟨congrArg (Value.int .i64) (by unfold checkF; rw [if_neg (by rw [h1]; simp), if_neg (by rw [h2]; simp), if_neg (by rw [h3]; simp), if_pos (by rw [paired_eq, decide_eq_false (show ¬ (tlvS x).type = 8 from c125), decide_eq_true (show (tlvS x).type = 9 from c129), show (tlvS x).all = false from c133] <;> simp), Classical.not_not.1 c146]), rfl⟩
       ·refine Pf 7 rfl rfl rfl rfl <| Mv 8 rfl rfl rfl <| Sk 9 rfl rfl rfl <| Sk 10 rfl rfl rfl <| Sk 11 rfl rfl rfl <| Pf 12 rfl rfl rfl rfl <| Mv 13 rfl rfl rfl <| Yf 14 rfl rfl rfl rfl f41_0 <| Yq 15 rfl rfl rfl (QR.load1 rfl rfl g5 (Tlv.sub_type _)) ?_
        refine Yp 16 rfl rfl rfl (QP.eql rfl rfl rfl) <| J.caseD (fun c139 => ?_) (fun c139 => ?_)
        ·refine Pf 17 rfl rfl rfl rfl <| Sg 18 rfl rfl rfl <| Sq.nil <| hk7 _ _ <| Run.seq fun k30 hk30 => Run.seq fun k31 hk31 => Run.region ?_
         show Sq _ _ _ [0, 1, 2, 3, 4, 5, 6] _ _ _ _
         refine Mv 0 rfl rfl rfl <| Mv 1 rfl rfl rfl <| Yf 2 rfl rfl rfl rfl f41_11 <| Yq 3 rfl rfl rfl (QR.load rfl rfl g38 (Tlv.sub_pair _)) ?_
         refine Ye 4 rfl rfl rfl (EF.call rfl ce28 rfl Takes.nil (fun F' hle hr => rcheckPair_spec F' (tlvS x).pair)) ?_
         rintro _ _ ⟨_, ⟨rfl, rfl⟩, rfl⟩
         refine J.app ?_
         refine Yp 5 rfl rfl rfl (QP.neq rfl rfl rfl) <| J.caseD (fun c146 => ?_) (fun c146 => ?_)
         ·refine Pt 6 rfl rfl rfl rfl <| Sq.nil <| hk31 _ _ <| Run.cond_t rfl <| Run.seq fun k32 hk32 => Run.region ?_
          show Sq _ _ _ [0] _ _ _ _
          refine Sg 0 rfl rfl rfl <| Sq.nil <| hk32 _ _ <| Run.ret ?_
          exact J.ends (res_tmp rfl rfl) Takes.nil ⟨congrArg (Value.int .i64) (by unfold checkF; rw [if_neg (by rw [h1]; simp), if_neg (by rw [h2]; simp), if_neg (by rw [h3]; simp), if_pos (by rw [paired_eq, decide_eq_false (show ¬ (tlvS x).type = 8 from c125), decide_eq_false (show ¬ (tlvS x).type = 9 from c129), decide_eq_true (show (tlvS x).type = 10 from c139)] <;> simp), erno21 c146]), rfl⟩
         ·refine Pt 6 rfl rfl rfl rfl <| Sq.nil <| hk31 _ _ <| Run.cond_f rfl <| Run.skip <| hk30 _ _ <| Run.seq fun k33 hk33 => Run.region ?_
          show Sq _ _ _ [0] _ _ _ _
          refine Sg 0 rfl rfl rfl <| Sq.nil <| hk33 _ _ <| Run.ret ?_
          exact J.ends (res_tmp rfl rfl) Takes.nil ⟨congrArg (Value.int .i64) (by unfold checkF; rw [if_neg (by rw [h1]; simp), if_neg (by rw [h2]; simp), if_neg (by rw [h3]; simp), if_pos (by rw [paired_eq, decide_eq_false (show ¬ (tlvS x).type = 8 from c125), decide_eq_false (show ¬ (tlvS x).type = 9 from c129), decide_eq_true (show (tlvS x).type = 10 from c139)] <;> simp), Classical.not_not.1 c146]), rfl⟩
        ·refine Pf 17 rfl rfl rfl rfl <| Sg 18 rfl rfl rfl <| Sq.nil <| hk7 _ _ <| Run.seq fun k34 hk34 => Run.seq fun k35 hk35 => Run.region ?_
         show Sq _ _ _ [0, 1, 2, 3, 4, 5, 6] _ _ _ _
         refine Mv 0 rfl rfl rfl <| Mv 1 rfl rfl rfl <| Sk 2 rfl rfl rfl <| Sk 3 rfl rfl rfl <| Sk 4 rfl rfl rfl <| Sk 5 rfl rfl rfl <| Pf 6 rfl rfl rfl rfl <| Sq.nil <| hk35 _ _ <| Run.cond_f rfl <| Run.skip <| hk34 _ _ <| Run.seq fun k36 hk36 => Run.region ?_
         show Sq _ _ _ [0] _ _ _ _
         refine Sg 0 rfl rfl rfl <| Sq.nil <| hk36 _ _ <| Run.ret ?_
         exact J.ends (res_tmp rfl rfl) Takes.nil ⟨congrArg (Value.int .i64) (by unfold checkF; rw [if_neg (by rw [h1]; simp), if_neg (by rw [h2]; simp), if_neg (by rw [h3]; simp), if_neg (by rw [show pairedB (tlvS x) = false from (by rw [paired_eq, decide_eq_false (show ¬ (tlvS x).type = 8 from c125), decide_eq_false (show ¬ (tlvS x).type = 9 from c129), decide_eq_false (show ¬ (tlvS x).type = 10 from c139)] <;> simp)]; simp)]), rfl⟩
     ·intro ku6 hu6
      refine Run.block <| Run.seq fun k37 hk37 => Run.region ?_
      show Sq _ _ _ [0, 1, 2, 3, 4, 5, 6, 7, 8, 9, 10, 11, 12] _ _ _ _
      refine Fa 0 rfl rfl rfl f41_0 <| Qq 1 rfl rfl (QR.load1 rfl rfl g5 (Tlv.sub_type _)) ?_
      refine Qp 2 rfl rfl (QP.eql rfl rfl rfl) <| J.caseD (fun c86 => ?_) (fun c86 => ?_)
      ·refine Mv 3 rfl rfl rfl <| Yf 4 rfl rfl rfl rfl f41_8 <| Yq 5 rfl rfl rfl (QR.load1 rfl rfl g4 (Tlv.sub_all _)) ?_
       refine J.caseB (fun c89 => ?_) (fun c89 => ?_)
       ·refine Pt 6 rfl rfl rfl rfl <| Mv 7 rfl rfl rfl <| Yf 8 rfl rfl rfl rfl f41_5 <| Yq 9 rfl rfl rfl (QR.load1 rfl rfl g32 (Tlv.sub_metric _)) ?_
        refine Yp 10 rfl rfl rfl (QP.neq rfl rfl rfl) <| J.caseD (fun c94 => ?_) (fun c94 => ?_)
        ·refine Pt 11 rfl rfl rfl rfl <| Sg 12 rfl rfl rfl <| Sq.nil <| hk37 _ _ <| Run.cond_t rfl <| Run.seq fun k38 hk38 => Run.region ?_
         show Sq _ _ _ [0] _ _ _ _
         refine Sg 0 rfl rfl rfl <| Sq.nil <| hk38 _ _ <| Run.ret ?_
         exact J.ends (res_tmp rfl rfl) Takes.nil ⟨congrArg (Value.int .i64) (by unfold checkF; rw [if_neg (by rw [h1]; simp), if_pos (by rw [chk2_eq, decide_eq_true (show (tlvS x).type = 8 from c86), decide_eq_true (show (tlvS x).metric ≠ 65535 from c94), show (tlvS x).all = true from c89, c81, c82] <;> simp)]), rfl⟩
        ·refine Pt 11 rfl rfl rfl rfl <| Sg 12 rfl rfl rfl <| Sq.nil <| hk37 _ _ <| Run.cond_f rfl <| Run.seq fun k39 hk39 => Run.region ?_
         show Sq _ _ _ [0, 1, 2, 3, 4, 5, 6, 7, 8, 9, 10, 11, 12, 13, 14] _ _ _ _
         refine Fa 0 rfl rfl rfl f41_0 <| Qq 1 rfl rfl (QR.load1 rfl rfl g5 (Tlv.sub_type _)) ?_
         refine Qp 2 rfl rfl (QP.eql rfl rfl rfl) <| J.decT (c86) ?_
         refine Mv 3 rfl rfl rfl <| Yf 4 rfl rfl rfl rfl f41_5 <| Yq 5 rfl rfl rfl (QR.load1 rfl rfl g32 (Tlv.sub_metric _)) ?_
         refine Yp 6 rfl rfl rfl (QP.neq rfl rfl rfl) <| J.decF (c94) ?_
         refine Pt 7 rfl rfl rfl rfl <| Mv 8 rfl rfl rfl <| Sk 9 rfl rfl rfl <| Sk 10 rfl rfl rfl <| Sq.skip (i := 11) rfl (Want.undef rfl rfl rfl) rfl (ltN rfl) ?_
         refine Sk 12 rfl rfl rfl <| Pf 13 rfl rfl rfl rfl <| Sg 14 rfl rfl rfl <| Sq.nil <| hk39 _ _ <| Run.cond_f rfl <| Run.seq fun k40 hk40 => Run.region ?_
         show Sq _ _ _ [0, 1, 2, 3, 4, 5, 6, 7, 8, 9, 10, 11] _ _ _ _
         refine Fa 0 rfl rfl rfl f41_0 <| Qq 1 rfl rfl (QR.load1 rfl rfl g5 (Tlv.sub_type _)) ?_
         refine Qp 2 rfl rfl (QP.eql rfl rfl rfl) <| J.caseD (fun c114 => ?_) (fun c114 => ?_)
         ·refine Mv 3 rfl rfl rfl <| Ym 4 rfl rfl rfl rfl <| Ym 5 rfl rfl rfl rfl <| Sk 6 rfl rfl rfl <| Sk 7 rfl rfl rfl <| Sk 8 rfl rfl rfl <| Yp 9 rfl rfl rfl (QP.pick_t rfl rfl rfl) <| Pt 10 rfl rfl rfl rfl <| Sg 11 rfl rfl rfl <| Sq.nil <| hk40 _ _ <| Run.cond_t rfl <| Run.seq fun k41 hk41 => Run.region ?_
          show Sq _ _ _ [0] _ _ _ _
          refine Sg 0 rfl rfl rfl <| Sq.nil <| hk41 _ _ <| Run.ret ?_
          exact J.ends (res_tmp rfl rfl) Takes.nil ⟨congrArg (Value.int .i64) (by unfold checkF; rw [if_neg (by rw [h1]; simp), if_neg (by rw [show chk2 (tlvS x) = false from (by rw [chk2_eq, decide_eq_true (show (tlvS x).type = 8 from c86), decide_eq_false (show ¬ (tlvS x).metric ≠ 65535 from c94), show (tlvS x).all = true from c89, c81, c82] <;> simp)]; simp), if_pos (by unfold chk3; rw [decide_eq_true (show (tlvS x).type = 10 from c114), c81] <;> simp)]), rfl⟩
         ·refine Mv 3 rfl rfl rfl <| Sk 4 rfl rfl rfl <| Sk 5 rfl rfl rfl <| Sq.skip (i := 6) rfl (Want.undef rfl rfl rfl) rfl (ltN rfl) ?_
          refine Sq.skip (i := 7) rfl (Want.undef rfl rfl rfl) rfl (ltN rfl) ?_
          refine Sq.skip (i := 8) rfl (Want.undef rfl rfl rfl) rfl (ltN rfl) ?_
          refine Sk 9 rfl rfl rfl <| Pf 10 rfl rfl rfl rfl <| Sg 11 rfl rfl rfl <| Sq.nil <| hk40 _ _ <| Run.cond_f rfl <| Run.skip ?_
          exact J.envJ (J.keep Tk1 (hu6 (()) (⟨by rw [chk2_eq, decide_eq_true (show (tlvS x).type = 8 from c86), decide_eq_false (show ¬ (tlvS x).metric ≠ 65535 from c94), show (tlvS x).all = true from c89, c81, c82] <;> simp, by unfold chk3; rw [decide_eq_false (show ¬ (tlvS x).type = 10 from c114), c81] <;> simp⟩))) ⟨rfl, trivial⟩
       ·refine Pt 6 rfl rfl rfl rfl <| Mv 7 rfl rfl rfl <| Sk 8 rfl rfl rfl <| Sk 9 rfl rfl rfl <| Sk 10 rfl rfl rfl <| Pf 11 rfl rfl rfl rfl <| Sg 12 rfl rfl rfl <| Sq.nil <| hk37 _ _ <| Run.cond_f rfl <| Run.seq fun k42 hk42 => Run.region ?_
        show Sq _ _ _ [0, 1, 2, 3, 4, 5, 6, 7, 8, 9, 10, 11, 12, 13, 14] _ _ _ _
        refine Fa 0 rfl rfl rfl f41_0 <| Qq 1 rfl rfl (QR.load1 rfl rfl g5 (Tlv.sub_type _)) ?_
        refine Qp 2 rfl rfl (QP.eql rfl rfl rfl) <| J.decT (c86) ?_
        refine Mv 3 rfl rfl rfl <| Yf 4 rfl rfl rfl rfl f41_5 <| Yq 5 rfl rfl rfl (QR.load1 rfl rfl g32 (Tlv.sub_metric _)) ?_
        refine Yp 6 rfl rfl rfl (QP.neq rfl rfl rfl) <| J.caseD (fun c103 => ?_) (fun c103 => ?_)
        ·refine Pt 7 rfl rfl rfl rfl <| Mv 8 rfl rfl rfl <| Ym 9 rfl rfl rfl rfl <| Ym 10 rfl rfl rfl rfl <| Sk 11 rfl rfl rfl <| Yp 12 rfl rfl rfl (QP.pick_t rfl rfl rfl) <| Pt 13 rfl rfl rfl rfl <| Sg 14 rfl rfl rfl <| Sq.nil <| hk42 _ _ <| Run.cond_t rfl <| Run.seq fun k43 hk43 => Run.region ?_
         show Sq _ _ _ [0] _ _ _ _
         refine Sg 0 rfl rfl rfl <| Sq.nil <| hk43 _ _ <| Run.ret ?_
         exact J.ends (res_tmp rfl rfl) Takes.nil ⟨congrArg (Value.int .i64) (by unfold checkF; rw [if_neg (by rw [h1]; simp), if_pos (by rw [chk2_eq, decide_eq_true (show (tlvS x).type = 8 from c86), decide_eq_true (show (tlvS x).metric ≠ 65535 from c103), show (tlvS x).all = false from c89, c81, c82] <;> simp)]), rfl⟩
        ·refine Pt 7 rfl rfl rfl rfl <| Mv 8 rfl rfl rfl <| Sk 9 rfl rfl rfl <| Sk 10 rfl rfl rfl <| Sq.skip (i := 11) rfl (Want.undef rfl rfl rfl) rfl (ltN rfl) ?_
         refine Sk 12 rfl rfl rfl <| Pf 13 rfl rfl rfl rfl <| Sg 14 rfl rfl rfl <| Sq.nil <| hk42 _ _ <| Run.cond_f rfl <| Run.seq fun k44 hk44 => Run.region ?_
         show Sq _ _ _ [0, 1, 2, 3, 4, 5, 6, 7, 8, 9, 10, 11] _ _ _ _
         refine Fa 0 rfl rfl rfl f41_0 <| Qq 1 rfl rfl (QR.load1 rfl rfl g5 (Tlv.sub_type _)) ?_
         refine Qp 2 rfl rfl (QP.eql rfl rfl rfl) <| J.caseD (fun c114 => ?_) (fun c114 => ?_)
         ·refine Mv 3 rfl rfl rfl <| Ym 4 rfl rfl rfl rfl <| Ym 5 rfl rfl rfl rfl <| Sk 6 rfl rfl rfl <| Sk 7 rfl rfl rfl <| Sk 8 rfl rfl rfl <| Yp 9 rfl rfl rfl (QP.pick_t rfl rfl rfl) <| Pt 10 rfl rfl rfl rfl <| Sg 11 rfl rfl rfl <| Sq.nil <| hk44 _ _ <| Run.cond_t rfl <| Run.seq fun k45 hk45 => Run.region ?_
          show Sq _ _ _ [0] _ _ _ _
          refine Sg 0 rfl rfl rfl <| Sq.nil <| hk45 _ _ <| Run.ret ?_
          exact J.ends (res_tmp rfl rfl) Takes.nil ⟨congrArg (Value.int .i64) (by unfold checkF; rw [if_neg (by rw [h1]; simp), if_neg (by rw [show chk2 (tlvS x) = false from (by rw [chk2_eq, decide_eq_true (show (tlvS x).type = 8 from c86), decide_eq_false (show ¬ (tlvS x).metric ≠ 65535 from c103), show (tlvS x).all = false from c89, c81, c82] <;> simp)]; simp), if_pos (by unfold chk3; rw [decide_eq_true (show (tlvS x).type = 10 from c114), c81] <;> simp)]), rfl⟩
         ·refine Mv 3 rfl rfl rfl <| Sk 4 rfl rfl rfl <| Sk 5 rfl rfl rfl <| Sq.skip (i := 6) rfl (Want.undef rfl rfl rfl) rfl (ltN rfl) ?_
          refine Sq.skip (i := 7) rfl (Want.undef rfl rfl rfl) rfl (ltN rfl) ?_
          refine Sq.skip (i := 8) rfl (Want.undef rfl rfl rfl) rfl (ltN rfl) ?_
          refine Sk 9 rfl rfl rfl <| Pf 10 rfl rfl rfl rfl <| Sg 11 rfl rfl rfl <| Sq.nil <| hk44 _ _ <| Run.cond_f rfl <| Run.skip ?_
          exact J.envJ (J.keep Tk1 (hu6 (()) (⟨by rw [chk2_eq, decide_eq_true (show (tlvS x).type = 8 from c86), decide_eq_false (show ¬ (tlvS x).metric ≠ 65535 from c103), show (tlvS x).all = false from c89, c81, c82] <;> simp, by unfold chk3; rw [decide_eq_false (show ¬ (tlvS x).type = 10 from c114), c81] <;> simp⟩))) ⟨rfl, trivial⟩
      ·refine Mv 3 rfl rfl rfl <| Sk 4 rfl rfl rfl <| Sk 5 rfl rfl rfl <| Pf 6 rfl rfl rfl rfl <| Mv 7 rfl rfl rfl <| Sk 8 rfl rfl rfl <| Sk 9 rfl rfl rfl <| Sk 10 rfl rfl rfl <| Pf 11 rfl rfl rfl rfl <| Sg 12 rfl rfl rfl <| Sq.nil <| hk37 _ _ <| Run.cond_f rfl <| Run.seq fun k46 hk46 => Run.region ?_
       show Sq _ _ _ [0, 1, 2, 3, 4, 5, 6, 7, 8, 9, 10, 11, 12, 13, 14] _ _ _ _
       refine Fa 0 rfl rfl rfl f41_0 <| Qq 1 rfl rfl (QR.load1 rfl rfl g5 (Tlv.sub_type _)) ?_
       refine Qp 2 rfl rfl (QP.eql rfl rfl rfl) <| J.decF (c86) ?_
       refine Mv 3 rfl rfl rfl <| Sk 4 rfl rfl rfl <| Sk 5 rfl rfl rfl <| Sk 6 rfl rfl rfl <| Pf 7 rfl rfl rfl rfl <| Mv 8 rfl rfl rfl <| Sk 9 rfl rfl rfl <| Sk 10 rfl rfl rfl <| Sq.skip (i := 11) rfl (Want.undef rfl rfl rfl) rfl (ltN rfl) ?_
       refine Sk 12 rfl rfl rfl <| Pf 13 rfl rfl rfl rfl <| Sg 14 rfl rfl rfl <| Sq.nil <| hk46 _ _ <| Run.cond_f rfl <| Run.seq fun k47 hk47 => Run.region ?_
       show Sq _ _ _ [0, 1, 2, 3, 4, 5, 6, 7, 8, 9, 10, 11] _ _ _ _
       refine Fa 0 rfl rfl rfl f41_0 <| Qq 1 rfl rfl (QR.load1 rfl rfl g5 (Tlv.sub_type _)) ?_
       refine Qp 2 rfl rfl (QP.eql rfl rfl rfl) <| J.caseD (fun c114 => ?_) (fun c114 => ?_)
       ·refine Mv 3 rfl rfl rfl <| Ym 4 rfl rfl rfl rfl <| Ym 5 rfl rfl rfl rfl <| Sk 6 rfl rfl rfl <| Sk 7 rfl rfl rfl <| Sk 8 rfl rfl rfl <| Yp 9 rfl rfl rfl (QP.pick_t rfl rfl rfl) <| Pt 10 rfl rfl rfl rfl <| Sg 11 rfl rfl rfl <| Sq.nil <| hk47 _ _ <| Run.cond_t rfl <| Run.seq fun k48 hk48 => Run.region ?_
        show Sq _ _ _ [0] _ _ _ _
        refine Sg 0 rfl rfl rfl <| Sq.nil <| hk48 _ _ <| Run.ret ?_
        exact J.ends (res_tmp rfl rfl) Takes.nil ⟨congrArg (Value.int .i64) (by unfold checkF; rw [if_neg (by rw [h1]; simp), if_neg (by rw [show chk2 (tlvS x) = false from (by rw [chk2_eq, decide_eq_false (show ¬ (tlvS x).type = 8 from c86), c81, c82] <;> simp)]; simp), if_pos (by unfold chk3; rw [decide_eq_true (show (tlvS x).type = 10 from c114), c81] <;> simp)]), rfl⟩
       ·refine Mv 3 rfl rfl rfl <| Sk 4 rfl rfl rfl <| Sk 5 rfl rfl rfl <| Sq.skip (i := 6) rfl (Want.undef rfl rfl rfl) rfl (ltN rfl) ?_
        refine Sq.skip (i := 7) rfl (Want.undef rfl rfl rfl) rfl (ltN rfl) ?_
        refine Sq.skip (i := 8) rfl (Want.undef rfl rfl rfl) rfl (ltN rfl) ?_
        refine Sk 9 rfl rfl rfl <| Pf 10 rfl rfl rfl rfl <| Sg 11 rfl rfl rfl <| Sq.nil <| hk47 _ _ <| Run.cond_f rfl <| Run.skip ?_
        exact J.envJ (J.keep Tk1 (hu6 (()) (⟨by rw [chk2_eq, decide_eq_false (show ¬ (tlvS x).type = 8 from c86), c81, c82] <;> simp, by unfold chk3; rw [decide_eq_false (show ¬ (tlvS x).type = 10 from c114), c81] <;> simp⟩))) ⟨rfl, trivial⟩
    ·refine Sg 6 rfl rfl rfl <| Sg 7 rfl rfl rfl <| Sq.nil <| hk5 _ _ <| Run.cut1 (fun (u12 : Unit) => chk2 (tlvS x) = false ∧ chk3 (tlvS x) = false) (fun u12 => .cons 1 (fp b1) (.nil)) (fun u12 => [blk b1 (Tlv.enc (tlvS x)) 41]) ?_ ?_
     ·rintro u12 ⟨h2, h3⟩
      refine Run.seq fun k50 hk50 => Run.region ?_
      show Sq _ _ _ [0, 1, 2, 3, 4, 5, 6, 7, 8, 9, 10, 11, 12, 13, 14, 15, 16, 17, 18] _ _ _ _
      refine Fa 0 rfl rfl rfl f41_0 <| Qq 1 rfl rfl (QR.load1 rfl rfl g5 (Tlv.sub_type _)) ?_
      refine Qp 2 rfl rfl (QP.eql rfl rfl rfl) <| J.caseD (fun c125 => ?_) (fun c125 => ?_)
      ·refine Mv 3 rfl rfl rfl <| Sk 4 rfl rfl rfl <| Sk 5 rfl rfl rfl <| Sk 6 rfl rfl rfl <| Pt 7 rfl rfl rfl rfl <| Mv 8 rfl rfl rfl <| Yf 9 rfl rfl rfl rfl f41_8 <| Yq 10 rfl rfl rfl (QR.load1 rfl rfl g4 (Tlv.sub_all _)) ?_
       refine J.caseB (fun c133 => ?_) (fun c133 => ?_)
       ·refine Yp 11 rfl rfl rfl (QP.not rfl rfl) <| Pt 12 rfl rfl rfl rfl <| Mv 13 rfl rfl rfl <| Yf 14 rfl rfl rfl rfl f41_0 <| Yq 15 rfl rfl rfl (QR.load1 rfl rfl g5 (Tlv.sub_type _)) ?_
        refine Yp 16 rfl rfl rfl (QP.eql rfl rfl rfl) <| J.caseD (fun c139 => ?_) (fun c139 => ?_)
        ·refine Pf 17 rfl rfl rfl rfl <| Sg 18 rfl rfl rfl <| Sq.nil <| hk50 _ _ <| Run.seq fun k51 hk51 => Run.seq fun k52 hk52 => Run.region ?_
         show Sq _ _ _ [0, 1, 2, 3, 4, 5, 6] _ _ _ _
         refine Mv 0 rfl rfl rfl <| Mv 1 rfl rfl rfl <| Yf 2 rfl rfl rfl rfl f41_11 <| Yq 3 rfl rfl rfl (QR.load rfl rfl g38 (Tlv.sub_pair _)) ?_
         refine Ye 4 rfl rfl rfl (EF.call rfl ce28 rfl Takes.nil (fun F' hle hr => rcheckPair_spec F' (tlvS x).pair)) ?_
         rintro _ _ ⟨_, ⟨rfl, rfl⟩, rfl⟩
         refine J.app ?_
         refine Yp 5 rfl rfl rfl (QP.neq rfl rfl rfl) <| J.caseD (fun c146 => ?_) (fun c146 => ?_)
         ·refine Pt 6 rfl rfl rfl rfl <| Sq.nil <| hk52 _ _ <| Run.cond_t rfl <| Run.seq fun k53 hk53 => Run.region ?_
          show Sq _ _ _ [0] _ _ _ _
          refine Sg 0 rfl rfl rfl <| Sq.nil <| hk53 _ _ <| Run.ret ?_
          exact J.ends (res_tmp rfl rfl) Takes.nil ⟨congrArg (Value.int .i64) (by unfold checkF; rw [if_neg (by rw [h1]; simp), if_neg (by rw [h2]; simp), if_neg (by rw [h3]; simp), if_pos (by rw [paired_eq, decide_eq_true (show (tlvS x).type = 8 from c125), show (tlvS x).all = true from c133, decide_eq_true (show (tlvS x).type = 10 from c139)] <;> simp), erno21 c146]), rfl⟩
         ·refine Pt 6 rfl rfl rfl rfl <| Sq.nil <| hk52 _ _ <| Run.cond_f rfl <| Run.skip <| hk51 _ _ <| Run.seq fun k54 hk54 => Run.region ?_
          show Sq _ _ _ [0] _ _ _ _
          refine Sg 0 rfl rfl rfl <| Sq.nil <| hk54 _ _ <| Run.ret ?_
          exact J.ends (res_tmp rfl rfl) Takes.nil ⟨congrArg (Value.int .i64) (by unfold checkF; rw [if_neg (by rw [h1]; simp), if_neg (by rw [h2]; simp), if_neg (by rw [h3]; simp), if_pos (by rw [paired_eq, decide_eq_true (show (tlvS x).type = 8 from c125), show (tlvS x).all = true from c133, decide_eq_true (show (tlvS x).type = 10 from c139)] <;> simp), Classical.not_not.1 c146]), rfl⟩
        ·refine Pf 17 rfl rfl rfl rfl <| Sg 18 rfl rfl rfl <| Sq.nil <| hk50 _ _ <| Run.seq fun k55 hk55 => Run.seq fun k56 hk56 => Run.region ?_
         show Sq _ _ _ [0, 1, 2, 3, 4, 5, 6] _ _ _ _
         refine Mv 0 rfl rfl rfl <| Mv 1 rfl rfl rfl <| Sk 2 rfl rfl rfl <| Sk 3 rfl rfl rfl <| Sk 4 rfl rfl rfl <| Sk 5 rfl rfl rfl <| Pf 6 rfl rfl rfl rfl <| Sq.nil <| hk56 _ _ <| Run.cond_f rfl <| Run.skip <| hk55 _ _ <| Run.seq fun k57 hk57 => Run.region ?_
         show Sq _ _ _ [0] _ _ _ _
         refine Sg 0 rfl rfl rfl <| Sq.nil <| hk57 _ _ <| Run.ret ?_
         exact J.ends (res_tmp rfl rfl) Takes.nil ⟨congrArg (Value.int .i64) (by unfold checkF; rw [if_neg (by rw [h1]; simp), if_neg (by rw [h2]; simp), if_neg (by rw [h3]; simp), if_neg (by rw [show pairedB (tlvS x) = false from (by rw [paired_eq, decide_eq_true (show (tlvS x).type = 8 from c125), show (tlvS x).all = true from c133, decide_eq_false (show ¬ (tlvS x).type = 10 from c139)] <;> simp)]; simp)]), rfl⟩
       ·refine Yp 11 rfl rfl rfl (QP.not rfl rfl) <| Pt 12 rfl rfl rfl rfl <| Mv 13 rfl rfl rfl <| Sk 14 rfl rfl rfl <| Sk 15 rfl rfl rfl <| Sk 16 rfl rfl rfl <| Pt 17 rfl rfl rfl rfl <| Sg 18 rfl rfl rfl <| Sq.nil <| hk50 _ _ <| Run.seq fun k58 hk58 => Run.seq fun k59 hk59 => Run.region ?_
        show Sq _ _ _ [0, 1, 2, 3, 4, 5, 6] _ _ _ _
        refine Mv 0 rfl rfl rfl <| Mv 1 rfl rfl rfl <| Yf 2 rfl rfl rfl rfl f41_11 <| Yq 3 rfl rfl rfl (QR.load rfl rfl g38 (Tlv.sub_pair _)) ?_
        refine Ye 4 rfl rfl rfl (EF.call rfl ce28 rfl Takes.nil (fun F' hle hr => rcheckPair_spec F' (tlvS x).pair)) ?_
        rintro _ _ ⟨_, ⟨rfl, rfl⟩, rfl⟩
        refine J.app ?_
        refine Yp 5 rfl rfl rfl (QP.neq rfl rfl rfl) <| J.caseD (fun c146 => ?_) (fun c146 => ?_)
        ·refine Pt 6 rfl rfl rfl rfl <| Sq.nil <| hk59 _ _ <| Run.cond_t rfl <| Run.seq fun k60 hk60 => Run.region ?_
         show Sq _ _ _ [0] _ _ _ _
         refine Sg 0 rfl rfl rfl <| Sq.nil <| hk60 _ _ <| Run.ret ?_
         exact J.ends (res_tmp rfl rfl) Takes.nil ⟨congrArg (Value.int .i64) (by unfold checkF; rw [if_neg (by rw [h1]; simp), if_neg (by rw [h2]; simp), if_neg (by rw [h3]; simp), if_pos (by rw [paired_eq, decide_eq_true (show (tlvS x).type = 8 from c125), show (tlvS x).all = false from c133] <;> simp), erno21 c146]), rfl⟩
        ·refine Pt 6 rfl rfl rfl rfl <| Sq.nil <| hk59 _ _ <| Run.cond_f rfl <| Run.skip <| hk58 _ _ <| Run.seq fun k61 hk61 => Run.region ?_
         show Sq _ _ _ [0] _ _ _ _
         refine Sg 0 rfl rfl rfl <| Sq.nil <| hk61 _ _ <| Run.ret ?_
         exact J.ends (res_tmp rfl rfl) Takes.nil ⟨congrArg (Value.int .i64) (by unfold checkF; rw [if_neg (by rw [h1]; simp), if_neg (by rw [h2]; simp), if_neg (by rw [h3]; simp), if_pos (by rw [paired_eq, decide_eq_true (show (tlvS x).type = 8 from c125), show (tlvS x).all = false from c133] <;> simp), Classical.not_not.1 c146]), rfl⟩
      ·refine Mv 3 rfl rfl rfl <| Yf 4 rfl rfl rfl rfl f41_0 <| Yq 5 rfl rfl rfl (QR.load1 rfl rfl g5 (Tlv.sub_type _)) ?_
       refine Yp 6 rfl rfl rfl (QP.eql rfl rfl rfl) <| J.caseD (fun c129 => ?_) (fun c129 => ?_)
       ·refine Pf 7 rfl rfl rfl rfl <| Mv 8 rfl rfl rfl <| Yf 9 rfl rfl rfl rfl f41_8 <| Yq 10 rfl rfl rfl (QR.load1 rfl rfl g4 (Tlv.sub_all _)) ?_
        refine J.caseB (fun c133 => ?_) (fun c133 => ?_)
        ·refine Yp 11 rfl rfl rfl (QP.not rfl rfl) <| Pt 12 rfl rfl rfl rfl <| Mv 13 rfl rfl rfl <| Yf 14 rfl rfl rfl rfl f41_0 <| Yq 15 rfl rfl rfl (QR.load1 rfl rfl g5 (Tlv.sub_type _)) ?_
         refine Yp 16 rfl rfl rfl (QP.eql rfl rfl rfl) <| J.caseD (fun c139 => ?_) (fun c139 => ?_)
         ·refine Pf 17 rfl rfl rfl rfl <| Sg 18 rfl rfl rfl <| Sq.nil <| hk50 _ _ <| Run.seq fun k62 hk62 => Run.seq fun k63 hk63 => Run.region ?_
          show Sq _ _ _ [0, 1, 2, 3, 4, 5, 6] _ _ _ _
          refine Mv 0 rfl rfl rfl <| Mv 1 rfl rfl rfl <| Yf 2 rfl rfl rfl rfl f41_11 <| Yq 3 rfl rfl rfl (QR.load rfl rfl g38 (Tlv.sub_pair _)) ?_
          refine Ye 4 rfl rfl rfl (EF.call rfl ce28 rfl Takes.nil (fun F' hle hr => rcheckPair_spec F' (tlvS x).pair)) ?_
          rintro _ _ ⟨_, ⟨rfl, rfl⟩, rfl⟩
          refine J.app ?_
          refine Yp 5 rfl rfl rfl (QP.neq rfl rfl rfl) <| J.caseD (fun c146 => ?_) (fun c146 => ?_)
          ·refine Pt 6 rfl rfl rfl rfl <| Sq.nil <| hk63 _ _ <| Run.cond_t rfl <| Run.seq fun k64 hk64 => Run.region ?_
           show Sq _ _ _ [0] _ _ _ _
           refine Sg 0 rfl rfl rfl <| Sq.nil <| hk64 _ _ <| Run.ret ?_
           exact J.ends (res_tmp rfl rfl) Takes.nil ⟨congrArg (Value.int .i64) (by unfold checkF; rw [if_neg (by rw [h1]; simp), if_neg (by rw [h2]; simp), if_neg (by rw [h3]; simp), if_pos (by rw [paired_eq, decide_eq_false (show ¬ (tlvS x).type = 8 from c125), decide_eq_true (show (tlvS x).type = 9 from c129), show (tlvS x).all = true from c133, decide_eq_true (show (tlvS x).type = 10 from c139)] <;> simp), erno21 c146]), rfl⟩
          ·refine Pt 6 rfl rfl rfl rfl <| Sq.nil <| hk63 _ _ <| Run.cond_f rfl <| Run.skip <| hk62 _ _ <| Run.seq fun k65 hk65 => Run.region ?_
           show Sq _ _ _ [0] _ _ _ _
           refine Sg 0 rfl rfl rfl <| Sq.nil <| hk65 _ _ <| Run.ret ?_
           exact J.ends (res_tmp rfl rfl) Takes.nil ⟨congrArg (Value.int .i64) (by unfold checkF; rw [if_neg (by rw [h1]; simp), if_neg (by rw [h2]; simp), if_neg (by rw [h3]; simp), if_pos (by rw [paired_eq, decide_eq_false (show ¬ (tlvS x).type = 8 from c125), decide_eq_true (show (tlvS x).type = 9 from c129), show (tlvS x).all = true from c133, decide_eq_true (show (tlvS x).type = 10 from c139)] <;> simp), Classical.not_not.1 c146]), rfl⟩
         ·refine Pf 17 rfl rfl rfl rfl <| Sg 18 rfl rfl rfl <| Sq.nil <| hk50 _ _ <| Run.seq fun k66 hk66 => Run.seq fun k67 hk67 => Run.region ?_
          show Sq _ _ _ [0, 1, 2, 3, 4, 5, 6] _ _ _ _
          refine Mv 0 rfl rfl rfl <| Mv 1 rfl rfl rfl <| Sk 2 rfl rfl rfl <| Sk 3 rfl rfl rfl <| Sk 4 rfl rfl rfl <| Sk 5 rfl rfl rfl <| Pf 6 rfl rfl rfl rfl <| Sq.nil <| hk67 _ _ <| Run.cond_f rfl <| Run.skip <| hk66 _ _ <| Run.seq fun k68 hk68 => Run.region ?_
          show Sq _ _ _ [0] _ _ _ _
          refine Sg 0 rfl rfl rfl <| Sq.nil <| hk68 _ _ <| Run.ret ?_
          exact J.ends (res_tmp rfl rfl) Takes.nil ⟨congrArg (Value.int .i64) (by unfold checkF; rw [if_neg (by rw [h1]; simp), if_neg (by rw [h2]; simp), if_neg (by rw [h3]; simp), if_neg (by rw [show pairedB (tlvS x) = false from (by rw [paired_eq, decide_eq_false (show ¬ (tlvS x).type = 8 from c125), decide_eq_true (show (tlvS x).type = 9 from c129), show (tlvS x).all = true from c133, decide_eq_false (show ¬ (tlvS x).type = 10 from c139)] <;> simp)]; simp)]), rfl⟩
        ·refine Yp 11 rfl rfl rfl (QP.not rfl rfl) <| Pt 12 rfl rfl rfl rfl <| Mv 13 rfl rfl rfl <| Sk 14 rfl rfl rfl <| Sk 15 rfl rfl rfl <| Sk 16 rfl rfl rfl <| Pt 17 rfl rfl rfl rfl <| Sg 18 rfl rfl rfl <| Sq.nil <| hk50 _ _ <| Run.seq fun k69 hk69 => Run.seq fun k70 hk70 => Run.region ?_
         show Sq _ _ _ [0, 1, 2, 3, 4, 5, 6] _ _ _ _
         refine Mv 0 rfl rfl rfl <| Mv 1 rfl rfl rfl <| Yf 2 rfl rfl rfl rfl f41_11 <| Yq 3 rfl rfl rfl (QR.load rfl rfl g38 (Tlv.sub_pair _)) ?_
         refine Ye 4 rfl rfl rfl (EF.call rfl ce28 rfl Takes.nil (fun F' hle hr => rcheckPair_spec F' (tlvS x).pair)) ?_
         rintro _ _ ⟨_, ⟨rfl, rfl⟩, rfl⟩
         refine J.app ?_
         refine Yp 5 rfl rfl rfl (QP.neq rfl rfl rfl) <| J.caseD (fun c146 => ?_) (fun c146 => ?_)
         ·refine Pt 6 rfl rfl rfl rfl <| Sq.nil <| hk70 _ _ <| Run.cond_t rfl <| Run.seq fun k71 hk71 => Run.region ?_
          show Sq _ _ _ [0] _ _ _ _
          refine Sg 0 rfl rfl rfl <| Sq.nil <| hk71 _ _ <| Run.ret ?_
          exact J.ends (res_tmp rfl rfl) Takes.nil ⟨congrArg (Value.int .i64) (by unfold checkF; rw [if_neg (by rw [h1]; simp), if_neg (by rw [h2]; simp), if_neg (by rw [h3]; simp), if_pos (by rw [paired_eq, decide_eq_false (show ¬ (tlvS x).type = 8 from c125), decide_eq_true (show (tlvS x).type = 9 from c129), show (tlvS x).all = false from c133] <;> simp), erno21 c146]), rfl⟩
         ·refine Pt 6 rfl rfl rfl rfl <| Sq.nil <| hk70 _ _ <| Run.cond_f rfl <| Run.skip <| hk69 _ _ <| Run.seq fun k72 hk72 => Run.region ?_
          show Sq _ _ _ [0] _ _ _ _
          refine Sg 0 rfl rfl rfl <| Sq.nil <| hk72 _ _ <| Run.ret ?_
          exact J.ends (res_tmp rfl rfl) Takes.nil ⟨congrArg (Value.int .i64) (by unfold checkF; rw [if_neg (by rw [h1]; simp), if_neg (by rw [h2]; simp), if_neg (by rw [h3]; simp), if_pos (by rw [paired_eq, decide_eq_false (show ¬ (tlvS x).type = 8 from c125), decide_eq_true (show (tlvS x).type = 9 from c129), show (tlvS x).all = false from c133] <;> simp), Classical.not_not.1 c146]), rfl⟩
       ·refine Pf 7 rfl rfl rfl rfl <| Mv 8 rfl rfl rfl <| Sk 9 rfl rfl rfl <| Sk 10 rfl rfl rfl <| Sk 11 rfl rfl rfl <| Pf 12 rfl rfl rfl rfl <| Mv 13 rfl rfl rfl <| Yf 14 rfl rfl rfl rfl f41_0 <| Yq 15 rfl rfl rfl (QR.load1 rfl rfl g5 (Tlv.sub_type _)) ?_
        refine Yp 16 rfl rfl rfl (QP.eql rfl rfl rfl) <| J.caseD (fun c139 => ?_) (fun c139 => ?_)
        ·refine Pf 17 rfl rfl rfl rfl <| Sg 18 rfl rfl rfl <| Sq.nil <| hk50 _ _ <| Run.seq fun k73 hk73 => Run.seq fun k74 hk74 => Run.region ?_
         show Sq _ _ _ [0, 1, 2, 3, 4, 5, 6] _ _ _ _
         refine Mv 0 rfl rfl rfl <| Mv 1 rfl rfl rfl <| Yf 2 rfl rfl rfl rfl f41_11 <| Yq 3 rfl rfl rfl (QR.load rfl rfl g38 (Tlv.sub_pair _)) ?_
         refine Ye 4 rfl rfl rfl (EF.call rfl ce28 rfl Takes.nil (fun F' hle hr => rcheckPair_spec F' (tlvS x).pair)) ?_
         rintro _ _ ⟨_, ⟨rfl, rfl⟩, rfl⟩
         refine J.app ?_
         refine Yp 5 rfl rfl rfl (QP.neq rfl rfl rfl) <| J.caseD (fun c146 => ?_) (fun c146 => ?_)
         ·refine Pt 6 rfl rfl rfl rfl <| Sq.nil <| hk74 _ _ <| Run.cond_t rfl <| Run.seq fun k75 hk75 => Run.region ?_
          show Sq _ _ _ [0] _ _ _ _
          refine Sg 0 rfl rfl rfl <| Sq.nil <| hk75 _ _ <| Run.ret ?_
          exact J.ends (res_tmp rfl rfl) Takes.nil ⟨congrArg (Value.int .i64) (by unfold checkF; rw [if_neg (by rw [h1]; simp), if_neg (by rw [h2]; simp), if_neg (by rw [h3]; simp), if_pos (by rw [paired_eq, decide_eq_false (show ¬ (tlvS x).type = 8 from c125), decide_eq_false (show ¬ (tlvS x).type = 9 from c129), decide_eq_true (show (tlvS x).type = 10 from c139)] <;> simp), erno21 c146]), rfl⟩
         ·refine Pt 6 rfl rfl rfl rfl <| Sq.nil <| hk74 _ _ <| Run.cond_f rfl <| Run.skip <| hk73 _ _ <| Run.seq fun k76 hk76 => Run.region ?_
          show Sq _ _ _ [0] _ _ _ _
          refine Sg 0 rfl rfl rfl <| Sq.nil <| hk76 _ _ <| Run.ret ?_
          exact J.ends (res_tmp rfl rfl) Takes.nil ⟨congrArg (Value.int .i64) (by unfold checkF; rw [if_neg (by rw [h1]; simp), if_neg (by rw [h2]; simp), if_neg (by rw [h3]; simp), if_pos (by rw [paired_eq, decide_eq_false (show ¬ (tlvS x).type = 8 from c125), decide_eq_false (show ¬ (tlvS x).type = 9 from c129), decide_eq_true (show (tlvS x).type = 10 from c139)] <;> simp), Classical.not_not.1 c146]), rfl⟩
        ·refine Pf 17 rfl rfl rfl rfl <| Sg 18 rfl rfl rfl <| Sq.nil <| hk50 _ _ <| Run.seq fun k77 hk77 => Run.seq fun k78 hk78 => Run.region ?_
         show Sq _ _ _ [0, 1, 2, 3, 4, 5, 6] _ _ _ _
         refine Mv 0 rfl rfl rfl <| Mv 1 rfl rfl rfl <| Sk 2 rfl rfl rfl <| Sk 3 rfl rfl rfl <| Sk 4 rfl rfl rfl <| Sk 5 rfl rfl rfl <| Pf 6 rfl rfl rfl rfl <| Sq.nil <| hk78 _ _ <| Run.cond_f rfl <| Run.skip <| hk77 _ _ <| Run.seq fun k79 hk79 => Run.region ?_
         show Sq _ _ _ [0] _ _ _ _
         refine Sg 0 rfl rfl rfl <| Sq.nil <| hk79 _ _ <| Run.ret ?_
         exact J.ends (res_tmp rfl rfl) Takes.nil ⟨congrArg (Value.int .i64) (by unfold checkF; rw [if_neg (by rw [h1]; simp), if_neg (by rw [h2]; simp), if_neg (by rw [h3]; simp), if_neg (by rw [show pairedB (tlvS x) = false from (by rw [paired_eq, decide_eq_false (show ¬ (tlvS x).type = 8 from c125), decide_eq_false (show ¬ (tlvS x).type = 9 from c129), decide_eq_false (show ¬ (tlvS x).type = 10 from c139)] <;> simp)]; simp)]), rfl⟩
     ·intro ku49 hu49
      refine Run.block <| Run.seq fun k80 hk80 => Run.region ?_
      show Sq _ _ _ [0, 1, 2, 3, 4, 5, 6, 7, 8, 9, 10, 11, 12] _ _ _ _
      refine Fa 0 rfl rfl rfl f41_0 <| Qq 1 rfl rfl (QR.load1 rfl rfl g5 (Tlv.sub_type _)) ?_
      refine Qp 2 rfl rfl (QP.eql rfl rfl rfl) <| J.caseD (fun c86 => ?_) (fun c86 => ?_)
      ·refine Mv 3 rfl rfl rfl <| Yf 4 rfl rfl rfl rfl f41_8 <| Yq 5 rfl rfl rfl (QR.load1 rfl rfl g4 (Tlv.sub_all _)) ?_
       refine J.caseB (fun c89 => ?_) (fun c89 => ?_)
       ·refine Pt 6 rfl rfl rfl rfl <| Mv 7 rfl rfl rfl <| Yf 8 rfl rfl rfl rfl f41_5 <| Yq 9 rfl rfl rfl (QR.load1 rfl rfl g32 (Tlv.sub_metric _)) ?_
        refine Yp 10 rfl rfl rfl (QP.neq rfl rfl rfl) <| J.caseD (fun c94 => ?_) (fun c94 => ?_)
        ·refine Pt 11 rfl rfl rfl rfl <| Sg 12 rfl rfl rfl <| Sq.nil <| hk80 _ _ <| Run.cond_t rfl <| Run.seq fun k81 hk81 => Run.region ?_
         show Sq _ _ _ [0] _ _ _ _
         refine Sg 0 rfl rfl rfl <| Sq.nil <| hk81 _ _ <| Run.ret ?_
         exact J.ends (res_tmp rfl rfl) Takes.nil ⟨congrArg (Value.int .i64) (by unfold checkF; rw [if_neg (by rw [h1]; simp), if_pos (by rw [chk2_eq, decide_eq_true (show (tlvS x).type = 8 from c86), decide_eq_true (show (tlvS x).metric ≠ 65535 from c94), show (tlvS x).all = true from c89, c81, c82] <;> simp)]), rfl⟩
        ·refine Pt 11 rfl rfl rfl rfl <| Sg 12 rfl rfl rfl <| Sq.nil <| hk80 _ _ <| Run.cond_f rfl <| Run.seq fun k82 hk82 => Run.region ?_
         show Sq _ _ _ [0, 1, 2, 3, 4, 5, 6, 7, 8, 9, 10, 11, 12, 13, 14] _ _ _ _
         refine Fa 0 rfl rfl rfl f41_0 <| Qq 1 rfl rfl (QR.load1 rfl rfl g5 (Tlv.sub_type _)) ?_
         refine Qp 2 rfl rfl (QP.eql rfl rfl rfl) <| J.decT (c86) ?_
         refine Mv 3 rfl rfl rfl <| Yf 4 rfl rfl rfl rfl f41_5 <| Yq 5 rfl rfl rfl (QR.load1 rfl rfl g32 (Tlv.sub_metric _)) ?_
         refine Yp 6 rfl rfl rfl (QP.neq rfl rfl rfl) <| J.decF (c94) ?_
         refine Pt 7 rfl rfl rfl rfl <| Mv 8 rfl rfl rfl <| Sk 9 rfl rfl rfl <| Sk 10 rfl rfl rfl <| Sq.skip (i := 11) rfl (Want.undef rfl rfl rfl) rfl (ltN rfl) ?_
         refine Sk 12 rfl rfl rfl <| Pf 13 rfl rfl rfl rfl <| Sg 14 rfl rfl rfl <| Sq.nil <| hk82 _ _ <| Run.cond_f rfl <| Run.seq fun k83 hk83 => Run.region ?_
         show Sq _ _ _ [0, 1, 2, 3, 4, 5, 6, 7, 8, 9, 10, 11] _ _ _ _
         refine Fa 0 rfl rfl rfl f41_0 <| Qq 1 rfl rfl (QR.load1 rfl rfl g5 (Tlv.sub_type _)) ?_
         refine Qp 2 rfl rfl (QP.eql rfl rfl rfl) <| J.caseD (fun c114 => ?_) (fun c114 => ?_)
         ·refine Mv 3 rfl rfl rfl <| Ym 4 rfl rfl rfl rfl <| Ym 5 rfl rfl rfl rfl <| Sk 6 rfl rfl rfl <| Sk 7 rfl rfl rfl <| Sk 8 rfl rfl rfl <| Yp 9 rfl rfl rfl (QP.pick_t rfl rfl rfl) <| Pt 10 rfl rfl rfl rfl <| Sg 11 rfl rfl rfl <| Sq.nil <| hk83 _ _ <| Run.cond_t rfl <| Run.seq fun k84 hk84 => Run.region ?_
          show Sq _ _ _ [0] _ _ _ _
          refine Sg 0 rfl rfl rfl <| Sq.nil <| hk84 _ _ <| Run.ret ?_
          exact J.ends (res_tmp rfl rfl) Takes.nil ⟨congrArg (Value.int .i64) (by unfold checkF; rw [if_neg (by rw [h1]; simp), if_neg (by rw [show chk2 (tlvS x) = false from (by rw [chk2_eq, decide_eq_true (show (tlvS x).type = 8 from c86), decide_eq_false (show ¬ (tlvS x).metric ≠ 65535 from c94), show (tlvS x).all = true from c89, c81, c82] <;> simp)]; simp), if_pos (by unfold chk3; rw [decide_eq_true (show (tlvS x).type = 10 from c114), c81] <;> simp)]), rfl⟩
         ·refine Mv 3 rfl rfl rfl <| Sk 4 rfl rfl rfl <| Sk 5 rfl rfl rfl <| Sq.skip (i := 6) rfl (Want.undef rfl rfl rfl) rfl (ltN rfl) ?_
          refine Sq.skip (i := 7) rfl (Want.undef rfl rfl rfl) rfl (ltN rfl) ?_
          refine Sq.skip (i := 8) rfl (Want.undef rfl rfl rfl) rfl (ltN rfl) ?_
          refine Sk 9 rfl rfl rfl <| Pf 10 rfl rfl rfl rfl <| Sg 11 rfl rfl rfl <| Sq.nil <| hk83 _ _ <| Run.cond_f rfl <| Run.skip ?_
          exact J.envJ (J.keep Tk1 (hu49 (()) (⟨by rw [chk2_eq, decide_eq_true (show (tlvS x).type = 8 from c86), decide_eq_false (show ¬ (tlvS x).metric ≠ 65535 from c94), show (tlvS x).all = true from c89, c81, c82] <;> simp, by unfold chk3; rw [decide_eq_false (show ¬ (tlvS x).type = 10 from c114), c81] <;> simp⟩))) ⟨rfl, trivial⟩
       ·refine Pt 6 rfl rfl rfl rfl <| Mv 7 rfl rfl rfl <| Sk 8 rfl rfl rfl <| Sk 9 rfl rfl rfl <| Sk 10 rfl rfl rfl <| Pf 11 rfl rfl rfl rfl <| Sg 12 rfl rfl rfl <| Sq.nil <| hk80 _ _ <| Run.cond_f rfl <| Run.seq fun k85 hk85 => Run.region ?_
        show Sq _ _ _ [0, 1, 2, 3, 4, 5, 6, 7, 8, 9, 10, 11, 12, 13, 14] _ _ _ _
        refine Fa 0 rfl rfl rfl f41_0 <| Qq 1 rfl rfl (QR.load1 rfl rfl g5 (Tlv.sub_type _)) ?_
        refine Qp 2 rfl rfl (QP.eql rfl rfl rfl) <| J.decT (c86) ?_
        refine Mv 3 rfl rfl rfl <| Yf 4 rfl rfl rfl rfl f41_5 <| Yq 5 rfl rfl rfl (QR.load1 rfl rfl g32 (Tlv.sub_metric _)) ?_
        refine Yp 6 rfl rfl rfl (QP.neq rfl rfl rfl) <| J.caseD (fun c103 => ?_) (fun c103 => ?_)
        ·refine Pt 7 rfl rfl rfl rfl <| Mv 8 rfl rfl rfl <| Ym 9 rfl rfl rfl rfl <| Ym 10 rfl rfl rfl rfl <| Sk 11 rfl rfl rfl <| Yp 12 rfl rfl rfl (QP.pick_t rfl rfl rfl) <| Pt 13 rfl rfl rfl rfl <| Sg 14 rfl rfl rfl <| Sq.nil <| hk85 _ _ <| Run.cond_t rfl <| Run.seq fun k86 hk86 => Run.region ?_
         show Sq _ _ _ [0] _ _ _ _
         refine Sg 0 rfl rfl rfl <| Sq.nil <| hk86 _ _ <| Run.ret ?_
         exact J.ends (res_tmp rfl rfl) Takes.nil ⟨congrArg (Value.int .i64) (by unfold checkF; rw [if_neg (by rw [h1]; simp), if_pos (by rw [chk2_eq, decide_eq_true (show (tlvS x).type = 8 from c86), decide_eq_true (show (tlvS x).metric ≠ 65535 from c103), show (tlvS x).all = false from c89, c81, c82] <;> simp)]), rfl⟩
        ·refine Pt 7 rfl rfl rfl rfl <| Mv 8 rfl rfl rfl <| Sk 9 rfl rfl rfl <| Sk 10 rfl rfl rfl <| Sq.skip (i := 11) rfl (Want.undef rfl rfl rfl) rfl (ltN rfl) ?_
         refine Sk 12 rfl rfl rfl <| Pf 13 rfl rfl rfl rfl <| Sg 14 rfl rfl rfl <| Sq.nil <| hk85 _ _ <| Run.cond_f rfl <| Run.seq fun k87 hk87 => Run.region ?_
         show Sq _ _ _ [0, 1, 2, 3, 4, 5, 6, 7, 8, 9, 10, 11] _ _ _ _
         refine Fa 0 rfl rfl rfl f41_0 <| Qq 1 rfl rfl (QR.load1 rfl rfl g5 (Tlv.sub_type _)) ?_
         refine Qp 2 rfl rfl (QP.eql rfl rfl rfl) <| J.caseD (fun c114 => ?_) (fun c114 => ?_)
         ·refine Mv 3 rfl rfl rfl <| Ym 4 rfl rfl rfl rfl <| Ym 5 rfl rfl rfl rfl <| Sk 6 rfl rfl rfl <| Sk 7 rfl rfl rfl <| Sk 8 rfl rfl rfl <| Yp 9 rfl rfl rfl (QP.pick_t rfl rfl rfl) <| Pt 10 rfl rfl rfl rfl <| Sg 11 rfl rfl rfl <| Sq.nil <| hk87 _ _ <| Run.cond_t rfl <| Run.seq fun k88 hk88 => Run.region ?_
          show Sq _ _ _ [0] _ _ _ _
          refine Sg 0 rfl rfl rfl <| Sq.nil <| hk88 _ _ <| Run.ret ?_
          exact J.ends (res_tmp rfl rfl) Takes.nil ⟨congrArg (Value.int .i64) (by unfold checkF; rw [if_neg (by rw [h1]; simp), if_neg (by rw [show chk2 (tlvS x) = false from (by rw [chk2_eq, decide_eq_true (show (tlvS x).type = 8 from c86), decide_eq_false (show ¬ (tlvS x).metric ≠ 65535 from c103), show (tlvS x).all = false from c89, c81, c82] <;> simp)]; simp), if_pos (by unfold chk3; rw [decide_eq_true (show (tlvS x).type = 10 from c114), c81] <;> simp)]), rfl⟩
         ·refine Mv 3 rfl rfl rfl <| Sk 4 rfl rfl rfl <| Sk 5 rfl rfl rfl <| Sq.skip (i := 6) rfl (Want.undef rfl rfl rfl) rfl (ltN rfl) ?_
          refine Sq.skip (i := 7) rfl (Want.undef rfl rfl rfl) rfl (ltN rfl) ?_
          refine Sq.skip (i := 8) rfl (Want.undef rfl rfl rfl) rfl (ltN rfl) ?_
          refine Sk 9 rfl rfl rfl <| Pf 10 rfl rfl rfl rfl <| Sg 11 rfl rfl rfl <| Sq.nil <| hk87 _ _ <| Run.cond_f rfl <| Run.skip ?_
          exact J.envJ (J.keep Tk1 (hu49 (()) (⟨by rw [chk2_eq, decide_eq_true (show (tlvS x).type = 8 from c86), decide_eq_false (show ¬ (tlvS x).metric ≠ 65535 from c103), show (tlvS x).all = false from c89, c81, c82] <;> simp, by unfold chk3; rw [decide_eq_false (show ¬ (tlvS x).type = 10 from c114), c81] <;> simp⟩))) ⟨rfl, trivial⟩
      ·refine Mv 3 rfl rfl rfl <| Sk 4 rfl rfl rfl <| Sk 5 rfl rfl rfl <| Pf 6 rfl rfl rfl rfl <| Mv 7 rfl rfl rfl <| Sk 8 rfl rfl rfl <| Sk 9 rfl rfl rfl <| Sk 10 rfl rfl rfl <| Pf 11 rfl rfl rfl rfl <| Sg 12 rfl rfl rfl <| Sq.nil <| hk80 _ _ <| Run.cond_f rfl <| Run.seq fun k89 hk89 => Run.region ?_
       show Sq _ _ _ [0, 1, 2, 3, 4, 5, 6, 7, 8, 9, 10, 11, 12, 13, 14] _ _ _ _
       refine Fa 0 rfl rfl rfl f41_0 <| Qq 1 rfl rfl (QR.load1 rfl rfl g5 (Tlv.sub_type _)) ?_
       refine Qp 2 rfl rfl (QP.eql rfl rfl rfl) <| J.decF (c86) ?_
       refine Mv 3 rfl rfl rfl <| Sk 4 rfl rfl rfl <| Sk 5 rfl rfl rfl <| Sk 6 rfl rfl rfl <| Pf 7 rfl rfl rfl rfl <| Mv 8 rfl rfl rfl <| Sk 9 rfl rfl rfl <| Sk 10 rfl rfl rfl <| Sq.skip (i := 11) rfl (Want.undef rfl rfl rfl) rfl (ltN rfl) ?_
       refine Sk 12 rfl rfl rfl <| Pf 13 rfl rfl rfl rfl <| Sg 14 rfl rfl rfl <| Sq.nil <| hk89 _ _ <| Run.cond_f rfl <| Run.seq fun k90 hk90 => Run.region ?_
       show Sq _ _ _ [0, 1, 2, 3, 4, 5, 6, 7, 8, 9, 10, 11] _ _ _ _
       refine Fa 0 rfl rfl rfl f41_0 <| Qq 1 rfl rfl (QR.load1 rfl rfl g5 (Tlv.sub_type _)) ?_
       refine Qp 2 rfl rfl (QP.eql rfl rfl rfl) <| J.caseD (fun c114 => ?_) (fun c114 => ?_)
       ·refine Mv 3 rfl rfl rfl <| Ym 4 rfl rfl rfl rfl <| Ym 5 rfl rfl rfl rfl <| Sk 6 rfl rfl rfl <| Sk 7 rfl rfl rfl <| Sk 8 rfl rfl rfl <| Yp 9 rfl rfl rfl (QP.pick_t rfl rfl rfl) <| Pt 10 rfl rfl rfl rfl <| Sg 11 rfl rfl rfl <| Sq.nil <| hk90 _ _ <| Run.cond_t rfl <| Run.seq fun k91 hk91 => Run.region ?_
        show Sq _ _ _ [0] _ _ _ _
        refine Sg 0 rfl rfl rfl <| Sq.nil <| hk91 _ _ <| Run.ret ?_
        exact J.ends (res_tmp rfl rfl) Takes.nil ⟨congrArg (Value.int .i64) (by unfold checkF; rw [if_neg (by rw [h1]; simp), if_neg (by rw [show chk2 (tlvS x) = false from (by rw [chk2_eq, decide_eq_false (show ¬ (tlvS x).type = 8 from c86), c81, c82] <;> simp)]; simp), if_pos (by unfold chk3; rw [decide_eq_true (show (tlvS x).type = 10 from c114), c81] <;> simp)]), rfl⟩
       ·refine Mv 3 rfl rfl rfl <| Sk 4 rfl rfl rfl <| Sk 5 rfl rfl rfl <| Sq.skip (i := 6) rfl (Want.undef rfl rfl rfl) rfl (ltN rfl) ?_
        refine Sq.skip (i := 7) rfl (Want.undef rfl rfl rfl) rfl (ltN rfl) ?_
        refine Sq.skip (i := 8) rfl (Want.undef rfl rfl rfl) rfl (ltN rfl) ?_
        refine Sk 9 rfl rfl rfl <| Pf 10 rfl rfl rfl rfl <| Sg 11 rfl rfl rfl <| Sq.nil <| hk90 _ _ <| Run.cond_f rfl <| Run.skip ?_
        exact J.envJ (J.keep Tk1 (hu49 (()) (⟨by rw [chk2_eq, decide_eq_false (show ¬ (tlvS x).type = 8 from c86), c81, c82] <;> simp, by unfold chk3; rw [decide_eq_false (show ¬ (tlvS x).type = 10 from c114), c81] <;> simp⟩))) ⟨rfl, trivial⟩
   ·refine Qp 5 rfl rfl (QP.extract rfl rfl rfl) <| J.caseB (fun c82 => ?_) (fun c82 => ?_)
    ·refine Sg 6 rfl rfl rfl <| Sg 7 rfl rfl rfl <| Sq.nil <| hk5 _ _ <| Run.cut1 (fun (u12 : Unit) => chk2 (tlvS x) = false ∧ chk3 (tlvS x) = false) (fun u12 => .cons 1 (fp b1) (.nil)) (fun u12 => [blk b1 (Tlv.enc (tlvS x)) 41]) ?_ ?_
     ·rintro u12 ⟨h2, h3⟩
      refine Run.seq fun k93 hk93 => Run.region ?_
      show Sq _ _ _ [0, 1, 2, 3, 4, 5, 6, 7, 8, 9, 10, 11, 12, 13, 14, 15, 16, 17, 18] _ _ _ _
      refine Fa 0 rfl rfl rfl f41_0 <| Qq 1 rfl rfl (QR.load1 rfl rfl g5 (Tlv.sub_type _)) ?_
      refine Qp 2 rfl rfl (QP.eql rfl rfl rfl) <| J.caseD (fun c125 => ?_) (fun c125 => ?_)
      ·refine Mv 3 rfl rfl rfl <| Sk 4 rfl rfl rfl <| Sk 5 rfl rfl rfl <| Sk 6 rfl rfl rfl <| Pt 7 rfl rfl rfl rfl <| Mv 8 rfl rfl rfl <| Yf 9 rfl rfl rfl rfl f41_8 <| Yq 10 rfl rfl rfl (QR.load1 rfl rfl g4 (Tlv.sub_all _)) ?_
       refine J.caseB (fun c133 => ?_) (fun c133 => ?_)
       ·refine Yp 11 rfl rfl rfl (QP.not rfl rfl) <| Pt 12 rfl rfl rfl rfl <| Mv 13 rfl rfl rfl <| Yf 14 rfl rfl rfl rfl f41_0 <| Yq 15 rfl rfl rfl (QR.load1 rfl rfl g5 (Tlv.sub_type _)) ?_
        refine Yp 16 rfl rfl rfl (QP.eql rfl rfl rfl) <| J.caseD (fun c139 => ?_) (fun c139 => ?_)
        ·refine Pf 17 rfl rfl rfl rfl <| Sg 18 rfl rfl rfl <| Sq.nil <| hk93 _ _ <| Run.seq fun k94 hk94 => Run.seq fun k95 hk95 => Run.region ?_
         show Sq _ _ _ [0, 1, 2, 3, 4, 5, 6] _ _ _ _
         refine Mv 0 rfl rfl rfl <| Mv 1 rfl rfl rfl <| Yf 2 rfl rfl rfl rfl f41_11 <| Yq 3 rfl rfl rfl (QR.load rfl rfl g38 (Tlv.sub_pair _)) ?_
         refine Ye 4 rfl rfl rfl (EF.call rfl ce28 rfl Takes.nil (fun F' hle hr => rcheckPair_spec F' (tlvS x).pair)) ?_
         rintro _ _ ⟨_, ⟨rfl, rfl⟩, rfl⟩
         refine J.app ?_
         refine Yp 5 rfl rfl rfl (QP.neq rfl rfl rfl) <| J.caseD (fun c146 => ?_) (fun c146 => ?_)
         ·refine Pt 6 rfl rfl rfl rfl <| Sq.nil <| hk95 _ _ <| Run.cond_t rfl <| Run.seq fun k96 hk96 => Run.region ?_
          show Sq _ _ _ [0] _ _ _ _
          refine Sg 0 rfl rfl rfl <| Sq.nil <| hk96 _ _ <| Run.ret ?_
          exact J.ends (res_tmp rfl rfl) Takes.nil ⟨congrArg (Value.int .i64) (by unfold checkF; rw [if_neg (by rw [h1]; simp), if_neg (by rw [h2]; simp), if_neg (by rw [h3]; simp), if_pos (by rw [paired_eq, decide_eq_true (show (tlvS x).type = 8 from c125), show (tlvS x).all = true from c133, decide_eq_true (show (tlvS x).type = 10 from c139)] <;> simp), erno21 c146]), rfl⟩
         ·refine Pt 6 rfl rfl rfl rfl <| Sq.nil <| hk95 _ _ <| Run.cond_f rfl <| Run.skip <| hk94 _ _ <| Run.seq fun k97 hk97 => Run.region ?_
          show Sq _ _ _ [0] _ _ _ _
          refine Sg 0 rfl rfl rfl <| Sq.nil <| hk97 _ _ <| Run.ret ?_
          exact J.ends (res_tmp rfl rfl) Takes.nil ⟨congrArg (Value.int .i64) (by unfold checkF; rw [if_neg (by rw [h1]; simp), if_neg (by rw [h2]; simp), if_neg (by rw [h3]; simp), if_pos (by rw [paired_eq, decide_eq_true (show (tlvS x).type = 8 from c125), show (tlvS x).all = true from c133, decide_eq_true (show (tlvS x).type = 10 from c139)] <;> simp), Classical.not_not.1 c146]), rfl⟩
        ·refine Pf 17 rfl rfl rfl rfl <| Sg 18 rfl rfl rfl <| Sq.nil <| hk93 _ _ <| Run.seq fun k98 hk98 => Run.seq fun k99 hk99 => Run.region ?_
         show Sq _ _ _ [0, 1, 2, 3, 4, 5, 6] _ _ _ _
         refine Mv 0 rfl rfl rfl <| Mv 1 rfl rfl rfl <| Sk 2 rfl rfl rfl <| Sk 3 rfl rfl rfl <| Sk 4 rfl rfl rfl <| Sk 5 rfl rfl rfl <| Pf 6 rfl rfl rfl rfl <| Sq.nil <| hk99 _ _ <| Run.cond_f rfl <| Run.skip <| hk98 _ _ <| Run.seq fun k100 hk100 => Run.region ?_
         show Sq _ _ _ [0] _ _ _ _
         refine Sg 0 rfl rfl rfl <| Sq.nil <| hk100 _ _ <| Run.ret ?_
         exact J.ends (res_tmp rfl rfl) Takes.nil ⟨congrArg (Value.int .i64) (by unfold checkF; rw [if_neg (by rw [h1]; simp), if_neg (by rw [h2]; simp), if_neg (by rw [h3]; simp), if_neg (by rw [show pairedB (tlvS x) = false from (by rw [paired_eq, decide_eq_true (show (tlvS x).type = 8 from c125), show (tlvS x).all = true from c133, decide_eq_false (show ¬ (tlvS x).type = 10 from c139)] <;> simp)]; simp)]), rfl⟩
       ·refine Yp 11 rfl rfl rfl (QP.not rfl rfl) <| Pt 12 rfl rfl rfl rfl <| Mv 13 rfl rfl rfl <| Sk 14 rfl rfl rfl <| Sk 15 rfl rfl rfl <| Sk 16 rfl rfl rfl <| Pt 17 rfl rfl rfl rfl <| Sg 18 rfl rfl rfl <| Sq.nil <| hk93 _ _ <| Run.seq fun k101 hk101 => Run.seq fun k102 hk102 => Run.region ?_
        show Sq _ _ _ [0, 1, 2, 3, 4, 5, 6] _ _ _ _
        refine Mv 0 rfl rfl rfl <| Mv 1 rfl rfl rfl <| Yf 2 rfl rfl rfl rfl f41_11 <| Yq 3 rfl rfl rfl (QR.load rfl rfl g38 (Tlv.sub_pair _)) ?_
        refine Ye 4 rfl rfl rfl (EF.call rfl ce28 rfl Takes.nil (fun F' hle hr => rcheckPair_spec F' (tlvS x).pair)) ?_
        rintro _ _ ⟨_, ⟨rfl, rfl⟩, rfl⟩
        refine J.app ?_
        refine Yp 5 rfl rfl rfl (QP.neq rfl rfl rfl) <| J.caseD (fun c146 => ?_) (fun c146 => ?_)
        ·refine Pt 6 rfl rfl rfl rfl <| Sq.nil <| hk102 _ _ <| Run.cond_t rfl <| Run.seq fun k103 hk103 => Run.region ?_
         show Sq _ _ _ [0] _ _ _ _
         refine Sg 0 rfl rfl rfl <| Sq.nil <| hk103 _ _ <| Run.ret ?_
         exact J.ends (res_tmp rfl rfl) Takes.nil ⟨congrArg (Value.int .i64) (by unfold checkF; rw [if_neg (by rw [h1]; simp), if_neg (by rw [h2]; simp), if_neg (by rw [h3]; simp), if_pos (by rw [paired_eq, decide_eq_true (show (tlvS x).type = 8 from c125), show (tlvS x).all = false from c133] <;> simp), erno21 c146]), rfl⟩
        ·refine Pt 6 rfl rfl rfl rfl <| Sq.nil <| hk102 _ _ <| Run.cond_f rfl <| Run.skip <| hk101 _ _ <| Run.seq fun k104 hk104 => Run.region ?_
         show Sq _ _ _ [0] _ _ _ _
         refine Sg 0 rfl rfl rfl <| Sq.nil <| hk104 _ _ <| Run.ret ?_
         exact J.ends (res_tmp rfl rfl) Takes.nil ⟨congrArg (Value.int .i64) (by unfold checkF; rw [if_neg (by rw [h1]; simp), if_neg (by rw [h2]; simp), if_neg (by rw [h3]; simp), if_pos (by rw [paired_eq, decide_eq_true (show (tlvS x).type = 8 from c125), show (tlvS x).all = false from c133] <;> simp), Classical.not_not.1 c146]), rfl⟩
      ·refine Mv 3 rfl rfl rfl <| Yf 4 rfl rfl rfl rfl f41_0 <| Yq 5 rfl rfl rfl (QR.load1 rfl rfl g5 (Tlv.sub_type _)) ?_
       refine Yp 6 rfl rfl rfl (QP.eql rfl rfl rfl) <| J.caseD (fun c129 => ?_) (fun c129 => ?_)
       ·refine Pf 7 rfl rfl rfl rfl <| Mv 8 rfl rfl rfl <| Yf 9 rfl rfl rfl rfl f41_8 <| Yq 10 rfl rfl rfl (QR.load1 rfl rfl g4 (Tlv.sub_all _)) ?_
        refine J.caseB (fun c133 => ?_) (fun c133 => ?_)
        ·refine Yp 11 rfl rfl rfl (QP.not rfl rfl) <| Pt 12 rfl rfl rfl rfl <| Mv 13 rfl rfl rfl <| Yf 14 rfl rfl rfl rfl f41_0 <| Yq 15 rfl rfl rfl (QR.load1 rfl rfl g5 (Tlv.sub_type _)) ?_
         refine Yp 16 rfl rfl rfl (QP.eql rfl rfl rfl) <| J.caseD (fun c139 => ?_) (fun c139 => ?_)
         ·refine Pf 17 rfl rfl rfl rfl <| Sg 18 rfl rfl rfl <| Sq.nil <| hk93 _ _ <| Run.seq fun k105 hk105 => Run.seq fun k106 hk106 => Run.region ?_
          show Sq _ _ _ [0, 1, 2, 3, 4, 5, 6] _ _ _ _
          refine Mv 0 rfl rfl rfl <| Mv 1 rfl rfl rfl <| Yf 2 rfl rfl rfl rfl f41_11 <| Yq 3 rfl rfl rfl (QR.load rfl rfl g38 (Tlv.sub_pair _)) ?_
          refine Ye 4 rfl rfl rfl (EF.call rfl ce28 rfl Takes.nil (fun F' hle hr => rcheckPair_spec F' (tlvS x).pair)) ?_
          rintro _ _ ⟨_, ⟨rfl, rfl⟩, rfl⟩
          refine J.app ?_
          refine Yp 5 rfl rfl rfl (QP.neq rfl rfl rfl) <| J.caseD (fun c146 => ?_) (fun c146 => ?_)
          ·refine Pt 6 rfl rfl rfl rfl <| Sq.nil <| hk106 _ _ <| Run.cond_t rfl <| Run.seq fun k107 hk107 => Run.region ?_
           show Sq _ _ _ [0] _ _ _ _
           refine Sg 0 rfl rfl rfl <| Sq.nil <| hk107 _ _ <| Run.ret ?_
           exact J.ends (res_tmp rfl rfl) Takes.nil ⟨congrArg (Value.int .i64) (by unfold checkF; rw [if_neg (by rw [h1]; simp), if_neg (by rw [h2]; simp), if_neg (by rw [h3]; simp), if_pos (by rw [paired_eq, decide_eq_false (show ¬ (tlvS x).type = 8 from c125), decide_eq_true (show (tlvS x).type = 9 from c129), show (tlvS x).all = true from c133, decide_eq_true (show (tlvS x).type = 10 from c139)] <;> simp), erno21 c146]), rfl⟩
          ·refine Pt 6 rfl rfl rfl rfl <| Sq.nil <| hk106 _ _ <| Run.cond_f rfl <| Run.skip <| hk105 _ _ <| Run.seq fun k108 hk108 => Run.region ?_
           show Sq _ _ _ [0] _ _ _ _
           refine Sg 0 rfl rfl rfl <| Sq.nil <| hk108 _ _ <| Run.ret ?_
           exact J.ends (res_tmp rfl rfl) Takes.nil ⟨congrArg (Value.int .i64) (by unfold checkF; rw [if_neg (by rw [h1]; simp), if_neg (by rw [h2]; simp), if_neg (by rw [h3]; simp), if_pos (by rw [paired_eq, decide_eq_false (show ¬ (tlvS x).type = 8 from c125), decide_eq_true (show (tlvS x).type = 9 from c129), show (tlvS x).all = true from c133, decide_eq_true (show (tlvS x).type = 10 from c139)] <;> simp), Classical.not_not.1 c146]), rfl⟩
         ·refine Pf 17 rfl rfl rfl rfl <| Sg 18 rfl rfl rfl <| Sq.nil <| hk93 _ _ <| Run.seq fun k109 hk109 => Run.seq fun k110 hk110 => Run.region ?_
          show Sq _ _ _ [0, 1, 2, 3, 4, 5, 6] _ _ _ _
          refine Mv 0 rfl rfl rfl <| Mv 1 rfl rfl rfl <| Sk 2 rfl rfl rfl <| Sk 3 rfl rfl rfl <| Sk 4 rfl rfl rfl <| Sk 5 rfl rfl rfl <| Pf 6 rfl rfl rfl rfl <| Sq.nil <| hk110 _ _ <| Run.cond_f rfl <| Run.skip <| hk109 _ _ <| Run.seq fun k111 hk111 => Run.region ?_
          show Sq _ _ _ [0] _ _ _ _
          refine Sg 0 rfl rfl rfl <| Sq.nil <| hk111 _ _ <| Run.ret ?_
          exact J.ends (res_tmp rfl rfl) Takes.nil ⟨congrArg (Value.int .i64) (by unfold checkF; rw [if_neg (by rw [h1]; simp), if_neg (by rw [h2]; simp), if_neg (by rw [h3]; simp), if_neg (by rw [show pairedB (tlvS x) = false from (by rw [paired_eq, decide_eq_false (show ¬ (tlvS x).type = 8 from c125), decide_eq_true (show (tlvS x).type = 9 from c129), show (tlvS x).all = true from c133, decide_eq_false (show ¬ (tlvS x).type = 10 from c139)] <;> simp)]; simp)]), rfl⟩
        ·refine Yp 11 rfl rfl rfl (QP.not rfl rfl) <| Pt 12 rfl rfl rfl rfl <| Mv 13 rfl rfl rfl <| Sk 14 rfl rfl rfl <| Sk 15 rfl rfl rfl <| Sk 16 rfl rfl rfl <| Pt 17 rfl rfl rfl rfl <| Sg 18 rfl rfl rfl <| Sq.nil <| hk93 _ _ <| Run.seq fun k112 hk112 => Run.seq fun k113 hk113 => Run.region ?_
         show Sq _ _ _ [0, 1, 2, 3, 4, 5, 6] _ _ _ _
         refine Mv 0 rfl rfl rfl <| Mv 1 rfl rfl rfl <| Yf 2 rfl rfl rfl rfl f41_11 <| Yq 3 rfl rfl rfl (QR.load rfl rfl g38 (Tlv.sub_pair _)) ?_
         refine Ye 4 rfl rfl rfl (EF.call rfl ce28 rfl Takes.nil (fun F' hle hr => rcheckPair_spec F' (tlvS x).pair)) ?_
         rintro _ _ ⟨_, ⟨rfl, rfl⟩, rfl⟩
         refine J.app ?_
         refine Yp 5 rfl rfl rfl (QP.neq rfl rfl rfl) <| J.caseD (fun c146 => ?_) (fun c146 => ?_)
         ·refine Pt 6 rfl rfl rfl rfl <| Sq.nil <| hk113 _ _ <| Run.cond_t rfl <| Run.seq fun k114 hk114 => Run.region ?_
          show Sq _ _ _ [0] _ _ _ _
          refine Sg 0 rfl rfl rfl <| Sq.nil <| hk114 _ _ <| Run.ret ?_
          exact J.ends (res_tmp rfl rfl) Takes.nil ⟨congrArg (Value.int .i64) (by unfold checkF; rw [if_neg (by rw [h1]; simp), if_neg (by rw [h2]; simp), if_neg (by rw [h3]; simp), if_pos (by rw [paired_eq, decide_eq_false (show ¬ (tlvS x).type = 8 from c125), decide_eq_true (show (tlvS x).type = 9 from c129), show (tlvS x).all = false from c133] <;> simp), erno21 c146]), rfl⟩
         ·refine Pt 6 rfl rfl rfl rfl <| Sq.nil <| hk113 _ _ <| Run.cond_f rfl <| Run.skip <| hk112 _ _ <| Run.seq fun k115 hk115 => Run.region ?_
          show Sq _ _ _ [0] _ _ _ _
          refine Sg 0 rfl rfl rfl <| Sq.nil <| hk115 _ _ <| Run.ret ?_
          exact J.ends (res_tmp rfl rfl) Takes.nil ⟨congrArg (Value.int .i64) (by unfold checkF; rw [if_neg (by rw [h1]; simp), if_neg (by rw [h2]; simp), if_neg (by rw [h3]; simp), if_pos (by rw [paired_eq, decide_eq_false (show ¬ (tlvS x).type = 8 from c125), decide_eq_true (show (tlvS x).type = 9 from c129), show (tlvS x).all = false from c133] <;> simp), Classical.not_not.1 c146]), rfl⟩
       ·refine Pf 7 rfl rfl rfl rfl <| Mv 8 rfl rfl rfl <| Sk 9 rfl rfl rfl <| Sk 10 rfl rfl rfl <| Sk 11 rfl rfl rfl <| Pf 12 rfl rfl rfl rfl <| Mv 13 rfl rfl rfl <| Yf 14 rfl rfl rfl rfl f41_0 <| Yq 15 rfl rfl rfl (QR.load1 rfl rfl g5 (Tlv.sub_type _)) ?_
        refine Yp 16 rfl rfl rfl (QP.eql rfl rfl rfl) <| J.caseD (fun c139 => ?_) (fun c139 => ?_)
        ·refine Pf 17 rfl rfl rfl rfl <| Sg 18 rfl rfl rfl <| Sq.nil <| hk93 _ _ <| Run.seq fun k116 hk116 => Run.seq fun k117 hk117 => Run.region ?_
         show Sq _ _ _ [0, 1, 2, 3, 4, 5, 6] _ _ _ _
         refine Mv 0 rfl rfl rfl <| Mv 1 rfl rfl rfl <| Yf 2 rfl rfl rfl rfl f41_11 <| Yq 3 rfl rfl rfl (QR.load rfl rfl g38 (Tlv.sub_pair _)) ?_
         refine Ye 4 rfl rfl rfl (EF.call rfl ce28 rfl Takes.nil (fun F' hle hr => rcheckPair_spec F' (tlvS x).pair)) ?_
         rintro _ _ ⟨_, ⟨rfl, rfl⟩, rfl⟩
         refine J.app ?_
         refine Yp 5 rfl rfl rfl (QP.neq rfl rfl rfl) <| J.caseD (fun c146 => ?_) (fun c146 => ?_)
         ·refine Pt 6 rfl rfl rfl rfl <| Sq.nil <| hk117 _ _ <| Run.cond_t rfl <| Run.seq fun k118 hk118 => Run.region ?_
          show Sq _ _ _ [0] _ _ _ _
          refine Sg 0 rfl rfl rfl <| Sq.nil <| hk118 _ _ <| Run.ret ?_
          exact J.ends (res_tmp rfl rfl) Takes.nil ⟨congrArg (Value.int .i64) (by unfold checkF; rw [if_neg (by rw [h1]; simp), if_neg (by rw [h2]; simp), if_neg (by rw [h3]; simp), if_pos (by rw [paired_eq, decide_eq_false (show ¬ (tlvS x).type = 8 from c125), decide_eq_false (show ¬ (tlvS x).type = 9 from c129), decide_eq_true (show (tlvS x).type = 10 from c139)] <;> simp), erno21 c146]), rfl⟩
         ·refine Pt 6 rfl rfl rfl rfl <| Sq.nil <| hk117 _ _ <| Run.cond_f rfl <| Run.skip <| hk116 _ _ <| Run.seq fun k119 hk119 => Run.region ?_
          show Sq _ _ _ [0] _ _ _ _
          refine Sg 0 rfl rfl rfl <| Sq.nil <| hk119 _ _ <| Run.ret ?_
          exact J.ends (res_tmp rfl rfl) Takes.nil ⟨congrArg (Value.int .i64) (by unfold checkF; rw [if_neg (by rw [h1]; simp), if_neg (by rw [h2]; simp), if_neg (by rw [h3]; simp), if_pos (by rw [paired_eq, decide_eq_false (show ¬ (tlvS x).type = 8 from c125), decide_eq_false (show ¬ (tlvS x).type = 9 from c129), decide_eq_true (show (tlvS x).type = 10 from c139)] <;> simp), Classical.not_not.1 c146]), rfl⟩
        ·refine Pf 17 rfl rfl rfl rfl <| Sg 18 rfl rfl rfl <| Sq.nil <| hk93 _ _ <| Run.seq fun k120 hk120 => Run.seq fun k121 hk121 => Run.region ?_
         show Sq _ _ _ [0, 1, 2, 3, 4, 5, 6] _ _ _ _
         refine Mv 0 rfl rfl rfl <| Mv 1 rfl rfl rfl <| Sk 2 rfl rfl rfl <| Sk 3 rfl rfl rfl <| Sk 4 rfl rfl rfl <| Sk 5 rfl rfl rfl <| Pf 6 rfl rfl rfl rfl <| Sq.nil <| hk121 _ _ <| Run.cond_f rfl <| Run.skip <| hk120 _ _ <| Run.seq fun k122 hk122 => Run.region ?_
         show Sq _ _ _ [0] _ _ _ _
         refine Sg 0 rfl rfl rfl <| Sq.nil <| hk122 _ _ <| Run.ret ?_
         exact J.ends (res_tmp rfl rfl) Takes.nil ⟨congrArg (Value.int .i64) (by unfold checkF; rw [if_neg (by rw [h1]; simp), if_neg (by rw [h2]; simp), if_neg (by rw [h3]; simp), if_neg (by rw [show pairedB (tlvS x) = false from (by rw [paired_eq, decide_eq_false (show ¬ (tlvS x).type = 8 from c125), decide_eq_false (show ¬ (tlvS x).type = 9 from c129), decide_eq_false (show ¬ (tlvS x).type = 10 from c139)] <;> simp)]; simp)]), rfl⟩
     ·intro ku92 hu92
      refine Run.block <| Run.seq fun k123 hk123 => Run.region ?_
      show Sq _ _ _ [0, 1, 2, 3, 4, 5, 6, 7, 8, 9, 10, 11, 12] _ _ _ _
      refine Fa 0 rfl rfl rfl f41_0 <| Qq 1 rfl rfl (QR.load1 rfl rfl g5 (Tlv.sub_type _)) ?_
      refine Qp 2 rfl rfl (QP.eql rfl rfl rfl) <| J.caseD (fun c86 => ?_) (fun c86 => ?_)
      ·refine Mv 3 rfl rfl rfl <| Yf 4 rfl rfl rfl rfl f41_8 <| Yq 5 rfl rfl rfl (QR.load1 rfl rfl g4 (Tlv.sub_all _)) ?_
       refine J.caseB (fun c89 => ?_) (fun c89 => ?_)
       ·refine Pt 6 rfl rfl rfl rfl <| Mv 7 rfl rfl rfl <| Yf 8 rfl rfl rfl rfl f41_5 <| Yq 9 rfl rfl rfl (QR.load1 rfl rfl g32 (Tlv.sub_metric _)) ?_
        refine Yp 10 rfl rfl rfl (QP.neq rfl rfl rfl) <| J.caseD (fun c94 => ?_) (fun c94 => ?_)
        ·refine Pt 11 rfl rfl rfl rfl <| Sg 12 rfl rfl rfl <| Sq.nil <| hk123 _ _ <| Run.cond_t rfl <| Run.seq fun k124 hk124 => Run.region ?_
         show Sq _ _ _ [0] _ _ _ _
         refine Sg 0 rfl rfl rfl <| Sq.nil <| hk124 _ _ <| Run.ret ?_
         exact J.ends (res_tmp rfl rfl) Takes.nil ⟨congrArg (Value.int .i64) (by unfold checkF; rw [if_neg (by rw [h1]; simp), if_pos (by rw [chk2_eq, decide_eq_true (show (tlvS x).type = 8 from c86), decide_eq_true (show (tlvS x).metric ≠ 65535 from c94), show (tlvS x).all = true from c89, c81, c82] <;> simp)]), rfl⟩
        ·refine Pt 11 rfl rfl rfl rfl <| Sg 12 rfl rfl rfl <| Sq.nil <| hk123 _ _ <| Run.cond_f rfl <| Run.seq fun k125 hk125 => Run.region ?_
         show Sq _ _ _ [0, 1, 2, 3, 4, 5, 6, 7, 8, 9, 10, 11, 12, 13, 14] _ _ _ _
         refine Fa 0 rfl rfl rfl f41_0 <| Qq 1 rfl rfl (QR.load1 rfl rfl g5 (Tlv.sub_type _)) ?_
         refine Qp 2 rfl rfl (QP.eql rfl rfl rfl) <| J.decT (c86) ?_
         refine Mv 3 rfl rfl rfl <| Yf 4 rfl rfl rfl rfl f41_5 <| Yq 5 rfl rfl rfl (QR.load1 rfl rfl g32 (Tlv.sub_metric _)) ?_
         refine Yp 6 rfl rfl rfl (QP.neq rfl rfl rfl) <| J.decF (c94) ?_
         refine Pt 7 rfl rfl rfl rfl <| Mv 8 rfl rfl rfl <| Sk 9 rfl rfl rfl <| Sk 10 rfl rfl rfl <| Sq.skip (i := 11) rfl (Want.undef rfl rfl rfl) rfl (ltN rfl) ?_
         refine Sk 12 rfl rfl rfl <| Pf 13 rfl rfl rfl rfl <| Sg 14 rfl rfl rfl <| Sq.nil <| hk125 _ _ <| Run.cond_f rfl <| Run.seq fun k126 hk126 => Run.region ?_
         show Sq _ _ _ [0, 1, 2, 3, 4, 5, 6, 7, 8, 9, 10, 11] _ _ _ _
         refine Fa 0 rfl rfl rfl f41_0 <| Qq 1 rfl rfl (QR.load1 rfl rfl g5 (Tlv.sub_type _)) ?_
         refine Qp 2 rfl rfl (QP.eql rfl rfl rfl) <| J.caseD (fun c114 => ?_) (fun c114 => ?_)
         ·refine Mv 3 rfl rfl rfl <| Ym 4 rfl rfl rfl rfl <| Ym 5 rfl rfl rfl rfl <| Yf 6 rfl rfl rfl rfl f41_6 <| Yq 7 rfl rfl rfl (QR.load1 rfl rfl g5 (Tlv.sub_hops _)) ?_
          refine Yp 8 rfl rfl rfl (QP.eql rfl rfl rfl) <| J.caseD (fun c120 => ?_) (fun c120 => ?_)
          ·refine Yp 9 rfl rfl rfl (QP.pick_f rfl rfl rfl) <| Pt 10 rfl rfl rfl rfl <| Sg 11 rfl rfl rfl <| Sq.nil <| hk126 _ _ <| Run.cond_t rfl <| Run.seq fun k127 hk127 => Run.region ?_
           show Sq _ _ _ [0] _ _ _ _
           refine Sg 0 rfl rfl rfl <| Sq.nil <| hk127 _ _ <| Run.ret ?_
           exact J.ends (res_tmp rfl rfl) Takes.nil ⟨congrArg (Value.int .i64) (by unfold checkF; rw [if_neg (by rw [h1]; simp), if_neg (by rw [show chk2 (tlvS x) = false from (by rw [chk2_eq, decide_eq_true (show (tlvS x).type = 8 from c86), decide_eq_false (show ¬ (tlvS x).metric ≠ 65535 from c94), show (tlvS x).all = true from c89, c81, c82] <;> simp)]; simp), if_pos (by unfold chk3; rw [decide_eq_true (show (tlvS x).type = 10 from c114), decide_eq_true (show (tlvS x).hops = 0 from c120), c81] <;> simp)]), rfl⟩
          ·refine Yp 9 rfl rfl rfl (QP.pick_f rfl rfl rfl) <| Pt 10 rfl rfl rfl rfl <| Sg 11 rfl rfl rfl <| Sq.nil <| hk126 _ _ <| Run.cond_f rfl <| Run.skip ?_
           exact J.envJ (J.keep Tk1 (hu92 (()) (⟨by rw [chk2_eq, decide_eq_true (show (tlvS x).type = 8 from c86), decide_eq_false (show ¬ (tlvS x).metric ≠ 65535 from c94), show (tlvS x).all = true from c89, c81, c82] <;> simp, by unfold chk3; rw [decide_eq_true (show (tlvS x).type = 10 from c114), decide_eq_false (show ¬ (tlvS x).hops = 0 from c120), c81] <;> simp⟩))) ⟨rfl, trivial⟩
         ·refine Mv 3 rfl rfl rfl <| Sk 4 rfl rfl rfl <| Sk 5 rfl rfl rfl <| Sq.skip (i := 6) rfl (Want.undef rfl rfl rfl) rfl (ltN rfl) ?_
          refine Sq.skip (i := 7) rfl (Want.undef rfl rfl rfl) rfl (ltN rfl) ?_
          refine Sq.skip (i := 8) rfl (Want.undef rfl rfl rfl) rfl (ltN rfl) ?_
          refine Sk 9 rfl rfl rfl <| Pf 10 rfl rfl rfl rfl <| Sg 11 rfl rfl rfl <| Sq.nil <| hk126 _ _ <| Run.cond_f rfl <| Run.skip ?_
          exact J.envJ (J.keep Tk1 (hu92 (()) (⟨by rw [chk2_eq, decide_eq_true (show (tlvS x).type = 8 from c86), decide_eq_false (show ¬ (tlvS x).metric ≠ 65535 from c94), show (tlvS x).all = true from c89, c81, c82] <;> simp, by unfold chk3; rw [decide_eq_false (show ¬ (tlvS x).type = 10 from c114), c81] <;> simp⟩))) ⟨rfl, trivial⟩
       ·refine Pt 6 rfl rfl rfl rfl <| Mv 7 rfl rfl rfl <| Sk 8 rfl rfl rfl <| Sk 9 rfl rfl rfl <| Sk 10 rfl rfl rfl <| Pf 11 rfl rfl rfl rfl <| Sg 12 rfl rfl rfl <| Sq.nil <| hk123 _ _ <| Run.cond_f rfl <| Run.seq fun k128 hk128 => Run.region ?_
        show Sq _ _ _ [0, 1, 2, 3, 4, 5, 6, 7, 8, 9, 10, 11, 12, 13, 14] _ _ _ _
        refine Fa 0 rfl rfl rfl f41_0 <| Qq 1 rfl rfl (QR.load1 rfl rfl g5 (Tlv.sub_type _)) ?_
        refine Qp 2 rfl rfl (QP.eql rfl rfl rfl) <| J.decT (c86) ?_
        refine Mv 3 rfl rfl rfl <| Yf 4 rfl rfl rfl rfl f41_5 <| Yq 5 rfl rfl rfl (QR.load1 rfl rfl g32 (Tlv.sub_metric _)) ?_
        refine Yp 6 rfl rfl rfl (QP.neq rfl rfl rfl) <| J.caseD (fun c103 => ?_) (fun c103 => ?_)
        ·refine Pt 7 rfl rfl rfl rfl <| Mv 8 rfl rfl rfl <| Ym 9 rfl rfl rfl rfl <| Ym 10 rfl rfl rfl rfl <| Ym 11 rfl rfl rfl rfl <| Yp 12 rfl rfl rfl (QP.pick_f rfl rfl rfl) <| Pt 13 rfl rfl rfl rfl <| Sg 14 rfl rfl rfl <| Sq.nil <| hk128 _ _ <| Run.cond_t rfl <| Run.seq fun k129 hk129 => Run.region ?_
         show Sq _ _ _ [0] _ _ _ _
         refine Sg 0 rfl rfl rfl <| Sq.nil <| hk129 _ _ <| Run.ret ?_
         exact J.ends (res_tmp rfl rfl) Takes.nil ⟨congrArg (Value.int .i64) (by unfold checkF; rw [if_neg (by rw [h1]; simp), if_pos (by rw [chk2_eq, decide_eq_true (show (tlvS x).type = 8 from c86), decide_eq_true (show (tlvS x).metric ≠ 65535 from c103), show (tlvS x).all = false from c89, c81, c82] <;> simp)]), rfl⟩
        ·refine Pt 7 rfl rfl rfl rfl <| Mv 8 rfl rfl rfl <| Sk 9 rfl rfl rfl <| Sk 10 rfl rfl rfl <| Sq.skip (i := 11) rfl (Want.undef rfl rfl rfl) rfl (ltN rfl) ?_
         refine Sk 12 rfl rfl rfl <| Pf 13 rfl rfl rfl rfl <| Sg 14 rfl rfl rfl <| Sq.nil <| hk128 _ _ <| Run.cond_f rfl <| Run.seq fun k130 hk130 => Run.region ?_
         show Sq _ _ _ [0, 1, 2, 3, 4, 5, 6, 7, 8, 9, 10, 11] _ _ _ _
         refine Fa 0 rfl rfl rfl f41_0 <| Qq 1 rfl rfl (QR.load1 rfl rfl g5 (Tlv.sub_type _)) ?_
         refine Qp 2 rfl rfl (QP.eql rfl rfl rfl) <| J.caseD (fun c114 => ?_) (fun c114 => ?_)
         ·refine Mv 3 rfl rfl rfl <| Ym 4 rfl rfl rfl rfl <| Ym 5 rfl rfl rfl rfl <| Yf 6 rfl rfl rfl rfl f41_6 <| Yq 7 rfl rfl rfl (QR.load1 rfl rfl g5 (Tlv.sub_hops _)) ?_
          refine Yp 8 rfl rfl rfl (QP.eql rfl rfl rfl) <| J.caseD (fun c120 => ?_) (fun c120 => ?_)
          ·refine Yp 9 rfl rfl rfl (QP.pick_f rfl rfl rfl) <| Pt 10 rfl rfl rfl rfl <| Sg 11 rfl rfl rfl <| Sq.nil <| hk130 _ _ <| Run.cond_t rfl <| Run.seq fun k131 hk131 => Run.region ?_
           show Sq _ _ _ [0] _ _ _ _
           refine Sg 0 rfl rfl rfl <| Sq.nil <| hk131 _ _ <| Run.ret ?_
           exact J.ends (res_tmp rfl rfl) Takes.nil ⟨congrArg (Value.int .i64) (by unfold checkF; rw [if_neg (by rw [h1]; simp), if_neg (by rw [show chk2 (tlvS x) = false from (by rw [chk2_eq, decide_eq_true (show (tlvS x).type = 8 from c86), decide_eq_false (show ¬ (tlvS x).metric ≠ 65535 from c103), show (tlvS x).all = false from c89, c81, c82] <;> simp)]; simp), if_pos (by unfold chk3; rw [decide_eq_true (show (tlvS x).type = 10 from c114), decide_eq_true (show (tlvS x).hops = 0 from c120), c81] <;> simp)]), rfl⟩
          ·refine Yp 9 rfl rfl rfl (QP.pick_f rfl rfl rfl) <| Pt 10 rfl rfl rfl rfl <| Sg 11 rfl rfl rfl <| Sq.nil <| hk130 _ _ <| Run.cond_f rfl <| Run.skip ?_
           exact J.envJ (J.keep Tk1 (hu92 (()) (⟨by rw [chk2_eq, decide_eq_true (show (tlvS x).type = 8 from c86), decide_eq_false (show ¬ (tlvS x).metric ≠ 65535 from c103), show (tlvS x).all = false from c89, c81, c82] <;> simp, by unfold chk3; rw [decide_eq_true (show (tlvS x).type = 10 from c114), decide_eq_false (show ¬ (tlvS x).hops = 0 from c120), c81] <;> simp⟩))) ⟨rfl, trivial⟩
         ·refine Mv 3 rfl rfl rfl <| Sk 4 rfl rfl rfl <| Sk 5 rfl rfl rfl <| Sq.skip (i := 6) rfl (Want.undef rfl rfl rfl) rfl (ltN rfl) ?_
          refine Sq.skip (i := 7) rfl (Want.undef rfl rfl rfl) rfl (ltN rfl) ?_
          refine Sq.skip (i := 8) rfl (Want.undef rfl rfl rfl) rfl (ltN rfl) ?_
          refine Sk 9 rfl rfl rfl <| Pf 10 rfl rfl rfl rfl <| Sg 11 rfl rfl rfl <| Sq.nil <| hk130 _ _ <| Run.cond_f rfl <| Run.skip ?_
          exact J.envJ (J.keep Tk1 (hu92 (()) (⟨by rw [chk2_eq, decide_eq_true (show (tlvS x).type = 8 from c86), decide_eq_false (show ¬ (tlvS x).metric ≠ 65535 from c103), show (tlvS x).all = false from c89, c81, c82] <;> simp, by unfold chk3; rw [decide_eq_false (show ¬ (tlvS x).type = 10 from c114), c81] <;> simp⟩))) ⟨rfl, trivial⟩
      ·refine Mv 3 rfl rfl rfl <| Sk 4 rfl rfl rfl <| Sk 5 rfl rfl rfl <| Pf 6 rfl rfl rfl rfl <| Mv 7 rfl rfl rfl <| Sk 8 rfl rfl rfl <| Sk 9 rfl rfl rfl <| Sk 10 rfl rfl rfl <| Pf 11 rfl rfl rfl rfl <| Sg 12 rfl rfl rfl <| Sq.nil <| hk123 _ _ <| Run.cond_f rfl <| Run.seq fun k132 hk132 => Run.region ?_
       show Sq _ _ _ [0, 1, 2, 3, 4, 5, 6, 7, 8, 9, 10, 11, 12, 13, 14] _ _ _ _
       refine Fa 0 rfl rfl rfl f41_0 <| Qq 1 rfl rfl (QR.load1 rfl rfl g5 (Tlv.sub_type _)) ?_
       refine Qp 2 rfl rfl (QP.eql rfl rfl rfl) <| J.decF (c86) ?_
       refine Mv 3 rfl rfl rfl <| Sk 4 rfl rfl rfl <| Sk 5 rfl rfl rfl <| Sk 6 rfl rfl rfl <| Pf 7 rfl rfl rfl rfl <| Mv 8 rfl rfl rfl <| Sk 9 rfl rfl rfl <| Sk 10 rfl rfl rfl <| Sq.skip (i := 11) rfl (Want.undef rfl rfl rfl) rfl (ltN rfl) ?_
       refine Sk 12 rfl rfl rfl <| Pf 13 rfl rfl rfl rfl <| Sg 14 rfl rfl rfl <| Sq.nil <| hk132 _ _ <| Run.cond_f rfl <| Run.seq fun k133 hk133 => Run.region ?_
       show Sq _ _ _ [0, 1, 2, 3, 4, 5, 6, 7, 8, 9, 10, 11] _ _ _ _
       refine Fa 0 rfl rfl rfl f41_0 <| Qq 1 rfl rfl (QR.load1 rfl rfl g5 (Tlv.sub_type _)) ?_
       refine Qp 2 rfl rfl (QP.eql rfl rfl rfl) <| J.caseD (fun c114 => ?_) (fun c114 => ?_)
       ·refine Mv 3 rfl rfl rfl <| Ym 4 rfl rfl rfl rfl <| Ym 5 rfl rfl rfl rfl <| Yf 6 rfl rfl rfl rfl f41_6 <| Yq 7 rfl rfl rfl (QR.load1 rfl rfl g5 (Tlv.sub_hops _)) ?_
        refine Yp 8 rfl rfl rfl (QP.eql rfl rfl rfl) <| J.caseD (fun c120 => ?_) (fun c120 => ?_)
        ·refine Yp 9 rfl rfl rfl (QP.pick_f rfl rfl rfl) <| Pt 10 rfl rfl rfl rfl <| Sg 11 rfl rfl rfl <| Sq.nil <| hk133 _ _ <| Run.cond_t rfl <| Run.seq fun k134 hk134 => Run.region ?_
         show Sq _ _ _ [0] _ _ _ _
         refine Sg 0 rfl rfl rfl <| Sq.nil <| hk134 _ _ <| Run.ret ?_
         exact J.ends (res_tmp rfl rfl) Takes.nil ⟨congrArg (Value.int .i64) (by unfold checkF; rw [if_neg (by rw [h1]; simp), if_neg (by rw [show chk2 (tlvS x) = false from (by rw [chk2_eq, decide_eq_false (show ¬ (tlvS x).type = 8 from c86), c81, c82] <;> simp)]; simp), if_pos (by unfold chk3; rw [decide_eq_true (show (tlvS x).type = 10 from c114), decide_eq_true (show (tlvS x).hops = 0 from c120), c81] <;> simp)]), rfl⟩
        ·refine Yp 9 rfl rfl rfl (QP.pick_f rfl rfl rfl) <| Pt 10 rfl rfl rfl rfl <| Sg 11 rfl rfl rfl <| Sq.nil <| hk133 _ _ <| Run.cond_f rfl <| Run.skip ?_
         exact J.envJ (J.keep Tk1 (hu92 (()) (⟨by rw [chk2_eq, decide_eq_false (show ¬ (tlvS x).type = 8 from c86), c81, c82] <;> simp, by unfold chk3; rw [decide_eq_true (show (tlvS x).type = 10 from c114), decide_eq_false (show ¬ (tlvS x).hops = 0 from c120), c81] <;> simp⟩))) ⟨rfl, trivial⟩
       ·refine Mv 3 rfl rfl rfl <| Sk 4 rfl rfl rfl <| Sk 5 rfl rfl rfl <| Sq.skip (i := 6) rfl (Want.undef rfl rfl rfl) rfl (ltN rfl) ?_
        refine Sq.skip (i := 7) rfl (Want.undef rfl rfl rfl) rfl (ltN rfl) ?_
        refine Sq.skip (i := 8) rfl (Want.undef rfl rfl rfl) rfl (ltN rfl) ?_
        refine Sk 9 rfl rfl rfl <| Pf 10 rfl rfl rfl rfl <| Sg 11 rfl rfl rfl <| Sq.nil <| hk133 _ _ <| Run.cond_f rfl <| Run.skip ?_
        exact J.envJ (J.keep Tk1 (hu92 (()) (⟨by rw [chk2_eq, decide_eq_false (show ¬ (tlvS x).type = 8 from c86), c81, c82] <;> simp, by unfold chk3; rw [decide_eq_false (show ¬ (tlvS x).type = 10 from c114), c81] <;> simp⟩))) ⟨rfl, trivial⟩
    ·refine Sg 6 rfl rfl rfl <| Sg 7 rfl rfl rfl <| Sq.nil <| hk5 _ _ <| Run.cut1 (fun (u12 : Unit) => chk2 (tlvS x) = false ∧ chk3 (tlvS x) = false) (fun u12 => .cons 1 (fp b1) (.nil)) (fun u12 => [blk b1 (Tlv.enc (tlvS x)) 41]) ?_ ?_
     ·rintro u12 ⟨h2, h3⟩
      refine Run.seq fun k136 hk136 => Run.region ?_
      show Sq _ _ _ [0, 1, 2, 3, 4, 5, 6, 7, 8, 9, 10, 11, 12, 13, 14, 15, 16, 17, 18] _ _ _ _
      refine Fa 0 rfl rfl rfl f41_0 <| Qq 1 rfl rfl (QR.load1 rfl rfl g5 (Tlv.sub_type _)) ?_
      refine Qp 2 rfl rfl (QP.eql rfl rfl rfl) <| J.caseD (fun c125 => ?_) (fun c125 => ?_)
      ·refine Mv 3 rfl rfl rfl <| Sk 4 rfl rfl rfl <| Sk 5 rfl rfl rfl <| Sk 6 rfl rfl rfl <| Pt 7 rfl rfl rfl rfl <| Mv 8 rfl rfl rfl <| Yf 9 rfl rfl rfl rfl f41_8 <| Yq 10 rfl rfl rfl (QR.load1 rfl rfl g4 (Tlv.sub_all _)) ?_
       refine J.caseB (fun c133 => ?_) (fun c133 => ?_)
       ·refine Yp 11 rfl rfl rfl (QP.not rfl rfl) <| Pt 12 rfl rfl rfl rfl <| Mv 13 rfl rfl rfl <| Yf 14 rfl rfl rfl rfl f41_0 <| Yq 15 rfl rfl rfl (QR.load1 rfl rfl g5 (Tlv.sub_type _)) ?_
        refine Yp 16 rfl rfl rfl (QP.eql rfl rfl rfl) <| J.caseD (fun c139 => ?_) (fun c139 => ?_)
        ·refine Pf 17 rfl rfl rfl rfl <| Sg 18 rfl rfl rfl <| Sq.nil <| hk136 _ _ <| Run.seq fun k137 hk137 => Run.seq fun k138 hk138 => Run.region ?_
         show Sq _ _ _ [0, 1, 2, 3, 4, 5, 6] _ _ _ _
         refine Mv 0 rfl rfl rfl <| Mv 1 rfl rfl rfl <| Yf 2 rfl rfl rfl rfl f41_11 <| Yq 3 rfl rfl rfl (QR.load rfl rfl g38 (Tlv.sub_pair _)) ?_
         refine Ye 4 rfl rfl rfl (EF.call rfl ce28 rfl Takes.nil (fun F' hle hr => rcheckPair_spec F' (tlvS x).pair)) ?_
         rintro _ _ ⟨_, ⟨rfl, rfl⟩, rfl⟩
         refine J.app ?_
         refine Yp 5 rfl rfl rfl (QP.neq rfl rfl rfl) <| J.caseD (fun c146 => ?_) (fun c146 => ?_)
         ·refine Pt 6 rfl rfl rfl rfl <| Sq.nil <| hk138 _ _ <| Run.cond_t rfl <| Run.seq fun k139 hk139 => Run.region ?_
          show Sq _ _ _ [0] _ _ _ _
          refine Sg 0 rfl rfl rfl <| Sq.nil <| hk139 _ _ <| Run.ret ?_
          exact J.ends (res_tmp rfl rfl) Takes.nil ⟨congrArg (Value.int .i64) (by unfold checkF; rw [if_neg (by rw [h1]; simp), if_neg (by rw [h2]; simp), if_neg (by rw [h3]; simp), if_pos (by rw [paired_eq, decide_eq_true (show (tlvS x).type = 8 from c125), show (tlvS x).all = true from c133, decide_eq_true (show (tlvS x).type = 10 from c139)] <;> simp), erno21 c146]), rfl⟩
         ·refine Pt 6 rfl rfl rfl rfl <| Sq.nil <| hk138 _ _ <| Run.cond_f rfl <| Run.skip <| hk137 _ _ <| Run.seq fun k140 hk140 => Run.region ?_
          show Sq _ _ _ [0] _ _ _ _
          refine Sg 0 rfl rfl rfl <| Sq.nil <| hk140 _ _ <| Run.ret ?_
          exact J.ends (res_tmp rfl rfl) Takes.nil ⟨congrArg (Value.int .i64) (by unfold checkF; rw [if_neg (by rw [h1]; simp), if_neg (by rw [h2]; simp), if_neg (by rw [h3]; simp), if_pos (by rw [paired_eq, decide_eq_true (show (tlvS x).type = 8 from c125), show (tlvS x).all = true from c133, decide_eq_true (show (tlvS x).type = 10 from c139)] <;> simp), Classical.not_not.1 c146]), rfl⟩
        ·refine Pf 17 rfl rfl rfl rfl <| Sg 18 rfl rfl rfl <| Sq.nil <| hk136 _ _ <| Run.seq fun k141 hk141 => Run.seq fun k142 hk142 => Run.region ?_
         show Sq _ _ _ [0, 1, 2, 3, 4, 5, 6] _ _ _ _
         refine Mv 0 rfl rfl rfl <| Mv 1 rfl rfl rfl <| Sk 2 rfl rfl rfl <| Sk 3 rfl rfl rfl <| Sk 4 rfl rfl rfl <| Sk 5 rfl rfl rfl <| Pf 6 rfl rfl rfl rfl <| Sq.nil <| hk142 _ _ <| Run.cond_f rfl <| Run.skip <| hk141 _ _ <| Run.seq fun k143 hk143 => Run.region ?_
         show Sq _ _ _ [0] _ _ _ _
         refine Sg 0 rfl rfl rfl <| Sq.nil <| hk143 _ _ <| Run.ret ?_
         exact J.ends (res_tmp rfl rfl) Takes.nil ⟨congrArg (Value.int .i64) (by unfold checkF; rw [if_neg (by rw [h1]; simp), if_neg (by rw [h2]; simp), if_neg (by rw [h3]; simp), if_neg (by rw [show pairedB (tlvS x) = false from (by rw [paired_eq, decide_eq_true (show (tlvS x).type = 8 from c125), show (tlvS x).all = true from c133, decide_eq_false (show ¬ (tlvS x).type = 10 from c139)] <;> simp)]; simp)]), rfl⟩
       ·refine Yp 11 rfl rfl rfl (QP.not rfl rfl) <| Pt 12 rfl rfl rfl rfl <| Mv 13 rfl rfl rfl <| Sk 14 rfl rfl rfl <| Sk 15 rfl rfl rfl <| Sk 16 rfl rfl rfl <| Pt 17 rfl rfl rfl rfl <| Sg 18 rfl rfl rfl <| Sq.nil <| hk136 _ _ <| Run.seq fun k144 hk144 => Run.seq fun k145 hk145 => Run.region ?_
        show Sq _ _ _ [0, 1, 2, 3, 4, 5, 6] _ _ _ _
        refine Mv 0 rfl rfl rfl <| Mv 1 rfl rfl rfl <| Yf 2 rfl rfl rfl rfl f41_11 <| Yq 3 rfl rfl rfl (QR.load rfl rfl g38 (Tlv.sub_pair _)) ?_
        refine Ye 4 rfl rfl rfl (EF.call rfl ce28 rfl Takes.nil (fun F' hle hr => rcheckPair_spec F' (tlvS x).pair)) ?_
        rintro _ _ ⟨_, ⟨rfl, rfl⟩, rfl⟩
        refine J.app ?_
        refine Yp 5 rfl rfl rfl (QP.neq rfl rfl rfl) <| J.caseD (fun c146 => ?_) (fun c146 => ?_)
        ·refine Pt 6 rfl rfl rfl rfl <| Sq.nil <| hk145 _ _ <| Run.cond_t rfl <| Run.seq fun k146 hk146 => Run.region ?_
         show Sq _ _ _ [0] _ _ _ _
         refine Sg 0 rfl rfl rfl <| Sq.nil <| hk146 _ _ <| Run.ret ?_
         exact J.ends (res_tmp rfl rfl) Takes.nil ⟨congrArg (Value.int .i64) (by unfold checkF; rw [if_neg (by rw [h1]; simp), if_neg (by rw [h2]; simp), if_neg (by rw [h3]; simp), if_pos (by rw [paired_eq, decide_eq_true (show (tlvS x).type = 8 from c125), show (tlvS x).all = false from c133] <;> simp), erno21 c146]), rfl⟩
        ·refine Pt 6 rfl rfl rfl rfl <| Sq.nil <| hk145 _ _ <| Run.cond_f rfl <| Run.skip <| hk144 _ _ <| Run.seq fun k147 hk147 => Run.region ?_
         show Sq _ _ _ [0] _ _ _ _
         refine Sg 0 rfl rfl rfl <| Sq.nil <| hk147 _ _ <| Run.ret ?_
         exact J.ends (res_tmp rfl rfl) Takes.nil ⟨congrArg (Value.int .i64) (by unfold checkF; rw [if_neg (by rw [h1]; simp), if_neg (by rw [h2]; simp), if_neg (by rw [h3]; simp), if_pos (by rw [paired_eq, decide_eq_true (show (tlvS x).type = 8 from c125), show (tlvS x).all = false from c133] <;> simp), Classical.not_not.1 c146]), rfl⟩
      ·refine Mv 3 rfl rfl rfl <| Yf 4 rfl rfl rfl rfl f41_0 <| Yq 5 rfl rfl rfl (QR.load1 rfl rfl g5 (Tlv.sub_type _)) ?_
       refine Yp 6 rfl rfl rfl (QP.eql rfl rfl rfl) <| J.caseD (fun c129 => ?_) (fun c129 => ?_)
       ·refine Pf 7 rfl rfl rfl rfl <| Mv 8 rfl rfl rfl <| Yf 9 rfl rfl rfl rfl f41_8 <| Yq 10 rfl rfl rfl (QR.load1 rfl rfl g4 (Tlv.sub_all _)) ?_
        refine J.caseB (fun c133 => ?_) (fun c133 => ?_)
        ·refine Yp 11 rfl rfl rfl (QP.not rfl rfl) <| Pt 12 rfl rfl rfl rfl <| Mv 13 rfl rfl rfl <| Yf 14 rfl rfl rfl rfl f41_0 <| Yq 15 rfl rfl rfl (QR.load1 rfl rfl g5 (Tlv.sub_type _)) ?_
         refine Yp 16 rfl rfl rfl (QP.eql rfl rfl rfl) <| J.caseD (fun c139 => ?_) (fun c139 => ?_)
         ·refine Pf 17 rfl rfl rfl rfl <| Sg 18 rfl rfl rfl <| Sq.nil <| hk136 _ _ <| Run.seq fun k148 hk148 => Run.seq fun k149 hk149 => Run.region ?_
          show Sq _ _ _ [0, 1, 2, 3, 4, 5, 6] _ _ _ _
          refine Mv 0 rfl rfl rfl <| Mv 1 rfl rfl rfl <| Yf 2 rfl rfl rfl rfl f41_11 <| Yq 3 rfl rfl rfl (QR.load rfl rfl g38 (Tlv.sub_pair _)) ?_
          refine Ye 4 rfl rfl rfl (EF.call rfl ce28 rfl Takes.nil (fun F' hle hr => rcheckPair_spec F' (tlvS x).pair)) ?_
          rintro _ _ ⟨_, ⟨rfl, rfl⟩, rfl⟩
          refine J.app ?_
          refine Yp 5 rfl rfl rfl (QP.neq rfl rfl rfl) <| J.caseD (fun c146 => ?_) (fun c146 => ?_)
          ·refine Pt 6 rfl rfl rfl rfl <| Sq.nil <| hk149 _ _ <| Run.cond_t rfl <| Run.seq fun k150 hk150 => Run.region ?_
           show Sq _ _ _ [0] _ _ _ _
           refine Sg 0 rfl rfl rfl <| Sq.nil <| hk150 _ _ <| Run.ret ?_
           exact J.ends (res_tmp rfl rfl) Takes.nil ⟨congrArg (Value.int .i64) (by unfold checkF; rw [if_neg (by rw [h1]; simp), if_neg (by rw [h2]; simp), if_neg (by rw [h3]; simp), if_pos (by rw [paired_eq, decide_eq_false (show ¬ (tlvS x).type = 8 from c125), decide_eq_true (show (tlvS x).type = 9 from c129), show (tlvS x).all = true from c133, decide_eq_true (show (tlvS x).type = 10 from c139)] <;> simp), erno21 c146]), rfl⟩
          ·refine Pt 6 rfl rfl rfl rfl <| Sq.nil <| hk149 _ _ <| Run.cond_f rfl <| Run.skip <| hk148 _ _ <| Run.seq fun k151 hk151 => Run.region ?_
           show Sq _ _ _ [0] _ _ _ _
           refine Sg 0 rfl rfl rfl <| Sq.nil <| hk151 _ _ <| Run.ret ?_
           exact J.ends (res_tmp rfl rfl) Takes.nil ⟨congrArg (Value.int .i64) (by unfold checkF; rw [if_neg (by rw [h1]; simp), if_neg (by rw [h2]; simp), if_neg (by rw [h3]; simp), if_pos (by rw [paired_eq, decide_eq_false (show ¬ (tlvS x).type = 8 from c125), decide_eq_true (show (tlvS x).type = 9 from c129), show (tlvS x).all = true from c133, decide_eq_true (show (tlvS x).type = 10 from c139)] <;> simp), Classical.not_not.1 c146]), rfl⟩
         ·refine Pf 17 rfl rfl rfl rfl <| Sg 18 rfl rfl rfl <| Sq.nil <| hk136 _ _ <| Run.seq fun k152 hk152 => Run.seq fun k153 hk153 => Run.region ?_
          show Sq _ _ _ [0, 1, 2, 3, 4, 5, 6] _ _ _ _
          refine Mv 0 rfl rfl rfl <| Mv 1 rfl rfl rfl <| Sk 2 rfl rfl rfl <| Sk 3 rfl rfl rfl <| Sk 4 rfl rfl rfl <| Sk 5 rfl rfl rfl <| Pf 6 rfl rfl rfl rfl <| Sq.nil <| hk153 _ _ <| Run.cond_f rfl <| Run.skip <| hk152 _ _ <| Run.seq fun k154 hk154 => Run.region ?_
          show Sq _ _ _ [0] _ _ _ _
          refine Sg 0 rfl rfl rfl <| Sq.nil <| hk154 _ _ <| Run.ret ?_
          exact J.ends (res_tmp rfl rfl) Takes.nil ⟨congrArg (Value.int .i64) (by unfold checkF; rw [if_neg (by rw [h1]; simp), if_neg (by rw [h2]; simp), if_neg (by rw [h3]; simp), if_neg (by rw [show pairedB (tlvS x) = false from (by rw [paired_eq, decide_eq_false (show ¬ (tlvS x).type = 8 from c125), decide_eq_true (show (tlvS x).type = 9 from c129), show (tlvS x).all = true from c133, decide_eq_false (show ¬ (tlvS x).type = 10 from c139)] <;> simp)]; simp)]), rfl⟩
        ·refine Yp 11 rfl rfl rfl (QP.not rfl rfl) <| Pt 12 rfl rfl rfl rfl <| Mv 13 rfl rfl rfl <| Sk 14 rfl rfl rfl <| Sk 15 rfl rfl rfl <| Sk 16 rfl rfl rfl <| Pt 17 rfl rfl rfl rfl <| Sg 18 rfl rfl rfl <| Sq.nil <| hk136 _ _ <| Run.seq fun k155 hk155 => Run.seq fun k156 hk156 => Run.region ?_
         show Sq _ _ _ [0, 1, 2, 3, 4, 5, 6] _ _ _ _
         refine Mv 0 rfl rfl rfl <| Mv 1 rfl rfl rfl <| Yf 2 rfl rfl rfl rfl f41_11 <| Yq 3 rfl rfl rfl (QR.load rfl rfl g38 (Tlv.sub_pair _)) ?_
         refine Ye 4 rfl rfl rfl (EF.call rfl ce28 rfl Takes.nil (fun F' hle hr => rcheckPair_spec F' (tlvS x).pair)) ?_
         rintro _ _ ⟨_, ⟨rfl, rfl⟩, rfl⟩
         refine J.app ?_
         refine Yp 5 rfl rfl rfl (QP.neq rfl rfl rfl) <| J.caseD (fun c146 => ?_) (fun c146 => ?_)
         ·refine Pt 6 rfl rfl rfl rfl <| Sq.nil <| hk156 _ _ <| Run.cond_t rfl <| Run.seq fun k157 hk157 => Run.region ?_
          show Sq _ _ _ [0] _ _ _ _
          refine Sg 0 rfl rfl rfl <| Sq.nil <| hk157 _ _ <| Run.ret ?_
          exact J.ends (res_tmp rfl rfl) Takes.nil ⟨congrArg (Value.int .i64) (by unfold checkF; rw [if_neg (by rw [h1]; simp), if_neg (by rw [h2]; simp), if_neg (by rw [h3]; simp), if_pos (by rw [paired_eq, decide_eq_false (show ¬ (tlvS x).type = 8 from c125), decide_eq_true (show (tlvS x).type = 9 from c129), show (tlvS x).all = false from c133] <;> simp), erno21 c146]), rfl⟩
         ·refine Pt 6 rfl rfl rfl rfl <| Sq.nil <| hk156 _ _ <| Run.cond_f rfl <| Run.skip <| hk155 _ _ <| Run.seq fun k158 hk158 => Run.region ?_
          show Sq _ _ _ [0] _ _ _ _
          refine Sg 0 rfl rfl rfl <| Sq.nil <| hk158 _ _ <| Run.ret ?_
          exact J.ends (res_tmp rfl rfl) Takes.nil ⟨congrArg (Value.int .i64) (by unfold checkF; rw [if_neg (by rw [h1]; simp), if_neg (by rw [h2]; simp), if_neg (by rw [h3]; simp), if_pos (by rw [paired_eq, decide_eq_false (show ¬ (tlvS x).type = 8 from c125), decide_eq_true (show (tlvS x).type = 9 from c129), show (tlvS x).all = false from c133] <;> simp), Classical.not_not.1 c146]), rfl⟩
       ·refine Pf 7 rfl rfl rfl rfl <| Mv 8 rfl rfl rfl <| Sk 9 rfl rfl rfl <| Sk 10 rfl rfl rfl <| Sk 11 rfl rfl rfl <| Pf 12 rfl rfl rfl rfl <| Mv 13 rfl rfl rfl <| Yf 14 rfl rfl rfl rfl f41_0 <| Yq 15 rfl rfl rfl (QR.load1 rfl rfl g5 (Tlv.sub_type _)) ?_
        refine Yp 16 rfl rfl rfl (QP.eql rfl rfl rfl) <| J.caseD (fun c139 => ?_) (fun c139 => ?_)
        ·refine Pf 17 rfl rfl rfl rfl <| Sg 18 rfl rfl rfl <| Sq.nil <| hk136 _ _ <| Run.seq fun k159 hk159 => Run.seq fun k160 hk160 => Run.region ?_
         show Sq _ _ _ [0, 1, 2, 3, 4, 5, 6] _ _ _ _
         refine Mv 0 rfl rfl rfl <| Mv 1 rfl rfl rfl <| Yf 2 rfl rfl rfl rfl f41_11 <| Yq 3 rfl rfl rfl (QR.load rfl rfl g38 (Tlv.sub_pair _)) ?_
         refine Ye 4 rfl rfl rfl (EF.call rfl ce28 rfl Takes.nil (fun F' hle hr => rcheckPair_spec F' (tlvS x).pair)) ?_
         rintro _ _ ⟨_, ⟨rfl, rfl⟩, rfl⟩
         refine J.app ?_
         refine Yp 5 rfl rfl rfl (QP.neq rfl rfl rfl) <| J.caseD (fun c146 => ?_) (fun c146 => ?_)
         ·refine Pt 6 rfl rfl rfl rfl <| Sq.nil <| hk160 _ _ <| Run.cond_t rfl <| Run.seq fun k161 hk161 => Run.region ?_
          show Sq _ _ _ [0] _ _ _ _
          refine Sg 0 rfl rfl rfl <| Sq.nil <| hk161 _ _ <| Run.ret ?_
          exact J.ends (res_tmp rfl rfl) Takes.nil ⟨congrArg (Value.int .i64) (by unfold checkF; rw [if_neg (by rw [h1]; simp), if_neg (by rw [h2]; simp), if_neg (by rw [h3]; simp), if_pos (by rw [paired_eq, decide_eq_false (show ¬ (tlvS x).type = 8 from c125), decide_eq_false (show ¬ (tlvS x).type = 9 from c129), decide_eq_true (show (tlvS x).type = 10 from c139)] <;> simp), erno21 c146]), rfl⟩
         ·refine Pt 6 rfl rfl rfl rfl <| Sq.nil <| hk160 _ _ <| Run.cond_f rfl <| Run.skip <| hk159 _ _ <| Run.seq fun k162 hk162 => Run.region ?_
          show Sq _ _ _ [0] _ _ _ _
          refine Sg 0 rfl rfl rfl <| Sq.nil <| hk162 _ _ <| Run.ret ?_
          exact J.ends (res_tmp rfl rfl) Takes.nil ⟨congrArg (Value.int .i64) (by unfold checkF; rw [if_neg (by rw [h1]; simp), if_neg (by rw [h2]; simp), if_neg (by rw [h3]; simp), if_pos (by rw [paired_eq, decide_eq_false (show ¬ (tlvS x).type = 8 from c125), decide_eq_false (show ¬ (tlvS x).type = 9 from c129), decide_eq_true (show (tlvS x).type = 10 from c139)] <;> simp), Classical.not_not.1 c146]), rfl⟩
        ·refine Pf 17 rfl rfl rfl rfl <| Sg 18 rfl rfl rfl <| Sq.nil <| hk136 _ _ <| Run.seq fun k163 hk163 => Run.seq fun k164 hk164 => Run.region ?_
         show Sq _ _ _ [0, 1, 2, 3, 4, 5, 6] _ _ _ _
         refine Mv 0 rfl rfl rfl <| Mv 1 rfl rfl rfl <| Sk 2 rfl rfl rfl <| Sk 3 rfl rfl rfl <| Sk 4 rfl rfl rfl <| Sk 5 rfl rfl rfl <| Pf 6 rfl rfl rfl rfl <| Sq.nil <| hk164 _ _ <| Run.cond_f rfl <| Run.skip <| hk163 _ _ <| Run.seq fun k165 hk165 => Run.region ?_
         show Sq _ _ _ [0] _ _ _ _
         refine Sg 0 rfl rfl rfl <| Sq.nil <| hk165 _ _ <| Run.ret ?_
         exact J.ends (res_tmp rfl rfl) Takes.nil ⟨congrArg (Value.int .i64) (by unfold checkF; rw [if_neg (by rw [h1]; simp), if_neg (by rw [h2]; simp), if_neg (by rw [h3]; simp), if_neg (by rw [show pairedB (tlvS x) = false from (by rw [paired_eq, decide_eq_false (show ¬ (tlvS x).type = 8 from c125), decide_eq_false (show ¬ (tlvS x).type = 9 from c129), decide_eq_false (show ¬ (tlvS x).type = 10 from c139)] <;> simp)]; simp)]), rfl⟩
     ·intro ku135 hu135
      refine Run.block <| Run.seq fun k166 hk166 => Run.region ?_
      show Sq _ _ _ [0, 1, 2, 3, 4, 5, 6, 7, 8, 9, 10, 11, 12] _ _ _ _
      refine Fa 0 rfl rfl rfl f41_0 <| Qq 1 rfl rfl (QR.load1 rfl rfl g5 (Tlv.sub_type _)) ?_
      refine Qp 2 rfl rfl (QP.eql rfl rfl rfl) <| J.caseD (fun c86 => ?_) (fun c86 => ?_)
      ·refine Mv 3 rfl rfl rfl <| Yf 4 rfl rfl rfl rfl f41_8 <| Yq 5 rfl rfl rfl (QR.load1 rfl rfl g4 (Tlv.sub_all _)) ?_
       refine J.caseB (fun c89 => ?_) (fun c89 => ?_)
       ·refine Pt 6 rfl rfl rfl rfl <| Mv 7 rfl rfl rfl <| Yf 8 rfl rfl rfl rfl f41_5 <| Yq 9 rfl rfl rfl (QR.load1 rfl rfl g32 (Tlv.sub_metric _)) ?_
        refine Yp 10 rfl rfl rfl (QP.neq rfl rfl rfl) <| J.caseD (fun c94 => ?_) (fun c94 => ?_)
        ·refine Pt 11 rfl rfl rfl rfl <| Sg 12 rfl rfl rfl <| Sq.nil <| hk166 _ _ <| Run.cond_t rfl <| Run.seq fun k167 hk167 => Run.region ?_
         show Sq _ _ _ [0] _ _ _ _
         refine Sg 0 rfl rfl rfl <| Sq.nil <| hk167 _ _ <| Run.ret ?_
         exact J.ends (res_tmp rfl rfl) Takes.nil ⟨congrArg (Value.int .i64) (by unfold checkF; rw [if_neg (by rw [h1]; simp), if_pos (by rw [chk2_eq, decide_eq_true (show (tlvS x).type = 8 from c86), decide_eq_true (show (tlvS x).metric ≠ 65535 from c94), show (tlvS x).all = true from c89, c81, c82] <;> simp)]), rfl⟩
        ·refine Pt 11 rfl rfl rfl rfl <| Sg 12 rfl rfl rfl <| Sq.nil <| hk166 _ _ <| Run.cond_f rfl <| Run.seq fun k168 hk168 => Run.region ?_
         show Sq _ _ _ [0, 1, 2, 3, 4, 5, 6, 7, 8, 9, 10, 11, 12, 13, 14] _ _ _ _
         refine Fa 0 rfl rfl rfl f41_0 <| Qq 1 rfl rfl (QR.load1 rfl rfl g5 (Tlv.sub_type _)) ?_
         refine Qp 2 rfl rfl (QP.eql rfl rfl rfl) <| J.decT (c86) ?_
         refine Mv 3 rfl rfl rfl <| Yf 4 rfl rfl rfl rfl f41_5 <| Yq 5 rfl rfl rfl (QR.load1 rfl rfl g32 (Tlv.sub_metric _)) ?_
         refine Yp 6 rfl rfl rfl (QP.neq rfl rfl rfl) <| J.decF (c94) ?_
         refine Pt 7 rfl rfl rfl rfl <| Mv 8 rfl rfl rfl <| Sk 9 rfl rfl rfl <| Sk 10 rfl rfl rfl <| Sq.skip (i := 11) rfl (Want.undef rfl rfl rfl) rfl (ltN rfl) ?_
         refine Sk 12 rfl rfl rfl <| Pf 13 rfl rfl rfl rfl <| Sg 14 rfl rfl rfl <| Sq.nil <| hk168 _ _ <| Run.cond_f rfl <| Run.seq fun k169 hk169 => Run.region ?_
         show Sq _ _ _ [0, 1, 2, 3, 4, 5, 6, 7, 8, 9, 10, 11] _ _ _ _
         refine Fa 0 rfl rfl rfl f41_0 <| Qq 1 rfl rfl (QR.load1 rfl rfl g5 (Tlv.sub_type _)) ?_
         refine Qp 2 rfl rfl (QP.eql rfl rfl rfl) <| J.caseD (fun c114 => ?_) (fun c114 => ?_)
         ·refine Mv 3 rfl rfl rfl <| Ym 4 rfl rfl rfl rfl <| Ym 5 rfl rfl rfl rfl <| Yf 6 rfl rfl rfl rfl f41_6 <| Yq 7 rfl rfl rfl (QR.load1 rfl rfl g5 (Tlv.sub_hops _)) ?_
          refine Yp 8 rfl rfl rfl (QP.eql rfl rfl rfl) <| J.caseD (fun c120 => ?_) (fun c120 => ?_)
          ·refine Yp 9 rfl rfl rfl (QP.pick_f rfl rfl rfl) <| Pt 10 rfl rfl rfl rfl <| Sg 11 rfl rfl rfl <| Sq.nil <| hk169 _ _ <| Run.cond_t rfl <| Run.seq fun k170 hk170 => Run.region ?_
           show Sq _ _ _ [0] _ _ _ _
           refine Sg 0 rfl rfl rfl <| Sq.nil <| hk170 _ _ <| Run.ret ?_
           exact J.ends (res_tmp rfl rfl) Takes.nil ⟨congrArg (Value.int .i64) (by unfold checkF; rw [if_neg (by rw [h1]; simp), if_neg (by rw [show chk2 (tlvS x) = false from (by rw [chk2_eq, decide_eq_true (show (tlvS x).type = 8 from c86), decide_eq_false (show ¬ (tlvS x).metric ≠ 65535 from c94), show (tlvS x).all = true from c89, c81, c82] <;> simp)]; simp), if_pos (by unfold chk3; rw [decide_eq_true (show (tlvS x).type = 10 from c114), decide_eq_true (show (tlvS x).hops = 0 from c120), c81] <;> simp)]), rfl⟩
          ·refine Yp 9 rfl rfl rfl (QP.pick_f rfl rfl rfl) <| Pt 10 rfl rfl rfl rfl <| Sg 11 rfl rfl rfl <| Sq.nil <| hk169 _ _ <| Run.cond_f rfl <| Run.skip ?_
           exact J.envJ (J.keep Tk1 (hu135 (()) (⟨by rw [chk2_eq, decide_eq_true (show (tlvS x).type = 8 from c86), decide_eq_false (show ¬ (tlvS x).metric ≠ 65535 from c94), show (tlvS x).all = true from c89, c81, c82] <;> simp, by unfold chk3; rw [decide_eq_true (show (tlvS x).type = 10 from c114), decide_eq_false (show ¬ (tlvS x).hops = 0 from c120), c81] <;> simp⟩))) ⟨rfl, trivial⟩
         ·refine Mv 3 rfl rfl rfl <| Sk 4 rfl rfl rfl <| Sk 5 rfl rfl rfl <| Sq.skip (i := 6) rfl (Want.undef rfl rfl rfl) rfl (ltN rfl) ?_
          refine Sq.skip (i := 7) rfl (Want.undef rfl rfl rfl) rfl (ltN rfl) ?_
          refine Sq.skip (i := 8) rfl (Want.undef rfl rfl rfl) rfl (ltN rfl) ?_
          refine Sk 9 rfl rfl rfl <| Pf 10 rfl rfl rfl rfl <| Sg 11 rfl rfl rfl <| Sq.nil <| hk169 _ _ <| Run.cond_f rfl <| Run.skip ?_
          exact J.envJ (J.keep Tk1 (hu135 (()) (⟨by rw [chk2_eq, decide_eq_true (show (tlvS x).type = 8 from c86), decide_eq_false (show ¬ (tlvS x).metric ≠ 65535 from c94), show (tlvS x).all = true from c89, c81, c82] <;> simp, by unfold chk3; rw [decide_eq_false (show ¬ (tlvS x).type = 10 from c114), c81] <;> simp⟩))) ⟨rfl, trivial⟩
       ·refine Pt 6 rfl rfl rfl rfl <| Mv 7 rfl rfl rfl <| Sk 8 rfl rfl rfl <| Sk 9 rfl rfl rfl <| Sk 10 rfl rfl rfl <| Pf 11 rfl rfl rfl rfl <| Sg 12 rfl rfl rfl <| Sq.nil <| hk166 _ _ <| Run.cond_f rfl <| Run.seq fun k171 hk171 => Run.region ?_
        show Sq _ _ _ [0, 1, 2, 3, 4, 5, 6, 7, 8, 9, 10, 11, 12, 13, 14] _ _ _ _
        refine Fa 0 rfl rfl rfl f41_0 <| Qq 1 rfl rfl (QR.load1 rfl rfl g5 (Tlv.sub_type _)) ?_
        refine Qp 2 rfl rfl (QP.eql rfl rfl rfl) <| J.decT (c86) ?_
        refine Mv 3 rfl rfl rfl <| Yf 4 rfl rfl rfl rfl f41_5 <| Yq 5 rfl rfl rfl (QR.load1 rfl rfl g32 (Tlv.sub_metric _)) ?_
        refine Yp 6 rfl rfl rfl (QP.neq rfl rfl rfl) <| J.caseD (fun c103 => ?_) (fun c103 => ?_)
        ·refine Pt 7 rfl rfl rfl rfl <| Mv 8 rfl rfl rfl <| Ym 9 rfl rfl rfl rfl <| Ym 10 rfl rfl rfl rfl <| Ym 11 rfl rfl rfl rfl <| Yp 12 rfl rfl rfl (QP.pick_f rfl rfl rfl) <| Pt 13 rfl rfl rfl rfl <| Sg 14 rfl rfl rfl <| Sq.nil <| hk171 _ _ <| Run.cond_f rfl <| Run.seq fun k172 hk172 => Run.region ?_
         show Sq _ _ _ [0, 1, 2, 3, 4, 5, 6, 7, 8, 9, 10, 11] _ _ _ _
         refine Fa 0 rfl rfl rfl f41_0 <| Qq 1 rfl rfl (QR.load1 rfl rfl g5 (Tlv.sub_type _)) ?_
         refine Qp 2 rfl rfl (QP.eql rfl rfl rfl) <| J.caseD (fun c114 => ?_) (fun c114 => ?_)
         ·refine Mv 3 rfl rfl rfl <| Ym 4 rfl rfl rfl rfl <| Ym 5 rfl rfl rfl rfl <| Yf 6 rfl rfl rfl rfl f41_6 <| Yq 7 rfl rfl rfl (QR.load1 rfl rfl g5 (Tlv.sub_hops _)) ?_
          refine Yp 8 rfl rfl rfl (QP.eql rfl rfl rfl) <| J.caseD (fun c120 => ?_) (fun c120 => ?_)
          ·refine Yp 9 rfl rfl rfl (QP.pick_f rfl rfl rfl) <| Pt 10 rfl rfl rfl rfl <| Sg 11 rfl rfl rfl <| Sq.nil <| hk172 _ _ <| Run.cond_t rfl <| Run.seq fun k173 hk173 => Run.region ?_
           show Sq _ _ _ [0] _ _ _ _
           refine Sg 0 rfl rfl rfl <| Sq.nil <| hk173 _ _ <| Run.ret ?_
           exact J.ends (res_tmp rfl rfl) Takes.nil ⟨congrArg (Value.int .i64) (by unfold checkF; rw [if_neg (by rw [h1]; simp), if_neg (by rw [show chk2 (tlvS x) = false from (by rw [chk2_eq, decide_eq_true (show (tlvS x).type = 8 from c86), decide_eq_true (show (tlvS x).metric ≠ 65535 from c103), show (tlvS x).all = false from c89, c81, c82] <;> simp)]; simp), if_pos (by unfold chk3; rw [decide_eq_true (show (tlvS x).type = 10 from c114), decide_eq_true (show (tlvS x).hops = 0 from c120), c81] <;> simp)]), rfl⟩
          ·refine Yp 9 rfl rfl rfl (QP.pick_f rfl rfl rfl) <| Pt 10 rfl rfl rfl rfl <| Sg 11 rfl rfl rfl <| Sq.nil <| hk172 _ _ <| Run.cond_f rfl <| Run.skip ?_
           exact J.envJ (J.keep Tk1 (hu135 (()) (⟨by rw [chk2_eq, decide_eq_true (show (tlvS x).type = 8 from c86), decide_eq_true (show (tlvS x).metric ≠ 65535 from c103), show (tlvS x).all = false from c89, c81, c82] <;> simp, by unfold chk3; rw [decide_eq_true (show (tlvS x).type = 10 from c114), decide_eq_false (show ¬ (tlvS x).hops = 0 from c120), c81] <;> simp⟩))) ⟨rfl, trivial⟩
         ·refine Mv 3 rfl rfl rfl <| Sk 4 rfl rfl rfl <| Sk 5 rfl rfl rfl <| Sq.skip (i := 6) rfl (Want.undef rfl rfl rfl) rfl (ltN rfl) ?_
          refine Sq.skip (i := 7) rfl (Want.undef rfl rfl rfl) rfl (ltN rfl) ?_
          refine Sq.skip (i := 8) rfl (Want.undef rfl rfl rfl) rfl (ltN rfl) ?_
          refine Sk 9 rfl rfl rfl <| Pf 10 rfl rfl rfl rfl <| Sg 11 rfl rfl rfl <| Sq.nil <| hk172 _ _ <| Run.cond_f rfl <| Run.skip ?_
          exact J.envJ (J.keep Tk1 (hu135 (()) (⟨by rw [chk2_eq, decide_eq_true (show (tlvS x).type = 8 from c86), decide_eq_true (show (tlvS x).metric ≠ 65535 from c103), show (tlvS x).all = false from c89, c81, c82] <;> simp, by unfold chk3; rw [decide_eq_false (show ¬ (tlvS x).type = 10 from c114), c81] <;> simp⟩))) ⟨rfl, trivial⟩
        ·refine Pt 7 rfl rfl rfl rfl <| Mv 8 rfl rfl rfl <| Sk 9 rfl rfl rfl <| Sk 10 rfl rfl rfl <| Sq.skip (i := 11) rfl (Want.undef rfl rfl rfl) rfl (ltN rfl) ?_
         refine Sk 12 rfl rfl rfl <| Pf 13 rfl rfl rfl rfl <| Sg 14 rfl rfl rfl <| Sq.nil <| hk171 _ _ <| Run.cond_f rfl <| Run.seq fun k174 hk174 => Run.region ?_
         show Sq _ _ _ [0, 1, 2, 3, 4, 5, 6, 7, 8, 9, 10, 11] _ _ _ _
         refine Fa 0 rfl rfl rfl f41_0 <| Qq 1 rfl rfl (QR.load1 rfl rfl g5 (Tlv.sub_type _)) ?_
         refine Qp 2 rfl rfl (QP.eql rfl rfl rfl) <| J.caseD (fun c114 => ?_) (fun c114 => ?_)
         ·refine Mv 3 rfl rfl rfl <| Ym 4 rfl rfl rfl rfl <| Ym 5 rfl rfl rfl rfl <| Yf 6 rfl rfl rfl rfl f41_6 <| Yq 7 rfl rfl rfl (QR.load1 rfl rfl g5 (Tlv.sub_hops _)) ?_
          refine Yp 8 rfl rfl rfl (QP.eql rfl rfl rfl) <| J.caseD (fun c120 => ?_) (fun c120 => ?_)
          ·refine Yp 9 rfl rfl rfl (QP.pick_f rfl rfl rfl) <| Pt 10 rfl rfl rfl rfl <| Sg 11 rfl rfl rfl <| Sq.nil <| hk174 _ _ <| Run.cond_t rfl <| Run.seq fun k175 hk175 => Run.region ?_
           show Sq _ _ _ [0] _ _ _ _
           refine Sg 0 rfl rfl rfl <| Sq.nil <| hk175 _ _ <| Run.ret ?_
           exact J.ends (res_tmp rfl rfl) Takes.nil ⟨congrArg (Value.int .i64) (by unfold checkF; rw [if_neg (by rw [h1]; simp), if_neg (by rw [show chk2 (tlvS x) = false from (by rw [chk2_eq, decide_eq_true (show (tlvS x).type = 8 from c86), decide_eq_false (show ¬ (tlvS x).metric ≠ 65535 from c103), show (tlvS x).all = false from c89, c81, c82] <;> simp)]; simp), if_pos (by unfold chk3; rw [decide_eq_true (show (tlvS x).type = 10 from c114), decide_eq_true (show (tlvS x).hops = 0 from c120), c81] <;> simp)]), rfl⟩
          ·refine Yp 9 rfl rfl rfl (QP.pick_f rfl rfl rfl) <| Pt 10 rfl rfl rfl rfl <| Sg 11 rfl rfl rfl <| Sq.nil <| hk174 _ _ <| Run.cond_f rfl <| Run.skip ?_
           exact J.envJ (J.keep Tk1 (hu135 (()) (⟨by rw [chk2_eq, decide_eq_true (show (tlvS x).type = 8 from c86), decide_eq_false (show ¬ (tlvS x).metric ≠ 65535 from c103), show (tlvS x).all = false from c89, c81, c82] <;> simp, by unfold chk3; rw [decide_eq_true (show (tlvS x).type = 10 from c114), decide_eq_false (show ¬ (tlvS x).hops = 0 from c120), c81] <;> simp⟩))) ⟨rfl, trivial⟩
         ·refine Mv 3 rfl rfl rfl <| Sk 4 rfl rfl rfl <| Sk 5 rfl rfl rfl <| Sq.skip (i := 6) rfl (Want.undef rfl rfl rfl) rfl (ltN rfl) ?_
          refine Sq.skip (i := 7) rfl (Want.undef rfl rfl rfl) rfl (ltN rfl) ?_
          refine Sq.skip (i := 8) rfl (Want.undef rfl rfl rfl) rfl (ltN rfl) ?_
          refine Sk 9 rfl rfl rfl <| Pf 10 rfl rfl rfl rfl <| Sg 11 rfl rfl rfl <| Sq.nil <| hk174 _ _ <| Run.cond_f rfl <| Run.skip ?_
          exact J.envJ (J.keep Tk1 (hu135 (()) (⟨by rw [chk2_eq, decide_eq_true (show (tlvS x).type = 8 from c86), decide_eq_false (show ¬ (tlvS x).metric ≠ 65535 from c103), show (tlvS x).all = false from c89, c81, c82] <;> simp, by unfold chk3; rw [decide_eq_false (show ¬ (tlvS x).type = 10 from c114), c81] <;> simp⟩))) ⟨rfl, trivial⟩
      ·refine Mv 3 rfl rfl rfl <| Sk 4 rfl rfl rfl <| Sk 5 rfl rfl rfl <| Pf 6 rfl rfl rfl rfl <| Mv 7 rfl rfl rfl <| Sk 8 rfl rfl rfl <| Sk 9 rfl rfl rfl <| Sk 10 rfl rfl rfl <| Pf 11 rfl rfl rfl rfl <| Sg 12 rfl rfl rfl <| Sq.nil <| hk166 _ _ <| Run.cond_f rfl <| Run.seq fun k176 hk176 => Run.region ?_
       show Sq _ _ _ [0, 1, 2, 3, 4, 5, 6, 7, 8, 9, 10, 11, 12, 13, 14] _ _ _ _
       refine Fa 0 rfl rfl rfl f41_0 <| Qq 1 rfl rfl (QR.load1 rfl rfl g5 (Tlv.sub_type _)) ?_
       refine Qp 2 rfl rfl (QP.eql rfl rfl rfl) <| J.decF (c86) ?_
       refine Mv 3 rfl rfl rfl <| Sk 4 rfl rfl rfl <| Sk 5 rfl rfl rfl <| Sk 6 rfl rfl rfl <| Pf 7 rfl rfl rfl rfl <| Mv 8 rfl rfl rfl <| Sk 9 rfl rfl rfl <| Sk 10 rfl rfl rfl <| Sq.skip (i := 11) rfl (Want.undef rfl rfl rfl) rfl (ltN rfl) ?_
       refine Sk 12 rfl rfl rfl <| Pf 13 rfl rfl rfl rfl <| Sg 14 rfl rfl rfl <| Sq.nil <| hk176 _ _ <| Run.cond_f rfl <| Run.seq fun k177 hk177 => Run.region ?_
       show Sq _ _ _ [0, 1, 2, 3, 4, 5, 6, 7, 8, 9, 10, 11] _ _ _ _
       refine Fa 0 rfl rfl rfl f41_0 <| Qq 1 rfl rfl (QR.load1 rfl rfl g5 (Tlv.sub_type _)) ?_
       refine Qp 2 rfl rfl (QP.eql rfl rfl rfl) <| J.caseD (fun c114 => ?_) (fun c114 => ?_)
       ·refine Mv 3 rfl rfl rfl <| Ym 4 rfl rfl rfl rfl <| Ym 5 rfl rfl rfl rfl <| Yf 6 rfl rfl rfl rfl f41_6 <| Yq 7 rfl rfl rfl (QR.load1 rfl rfl g5 (Tlv.sub_hops _)) ?_
        refine Yp 8 rfl rfl rfl (QP.eql rfl rfl rfl) <| J.caseD (fun c120 => ?_) (fun c120 => ?_)
        ·refine Yp 9 rfl rfl rfl (QP.pick_f rfl rfl rfl) <| Pt 10 rfl rfl rfl rfl <| Sg 11 rfl rfl rfl <| Sq.nil <| hk177 _ _ <| Run.cond_t rfl <| Run.seq fun k178 hk178 => Run.region ?_
         show Sq _ _ _ [0] _ _ _ _
         refine Sg 0 rfl rfl rfl <| Sq.nil <| hk178 _ _ <| Run.ret ?_
         exact J.ends (res_tmp rfl rfl) Takes.nil ⟨congrArg (Value.int .i64) (by unfold checkF; rw [if_neg (by rw [h1]; simp), if_neg (by rw [show chk2 (tlvS x) = false from (by rw [chk2_eq, decide_eq_false (show ¬ (tlvS x).type = 8 from c86), c81, c82] <;> simp)]; simp), if_pos (by unfold chk3; rw [decide_eq_true (show (tlvS x).type = 10 from c114), decide_eq_true (show (tlvS x).hops = 0 from c120), c81] <;> simp)]), rfl⟩
        ·refine Yp 9 rfl rfl rfl (QP.pick_f rfl rfl rfl) <| Pt 10 rfl rfl rfl rfl <| Sg 11 rfl rfl rfl <| Sq.nil <| hk177 _ _ <| Run.cond_f rfl <| Run.skip ?_
         exact J.envJ (J.keep Tk1 (hu135 (()) (⟨by rw [chk2_eq, decide_eq_false (show ¬ (tlvS x).type = 8 from c86), c81, c82] <;> simp, by unfold chk3; rw [decide_eq_true (show (tlvS x).type = 10 from c114), decide_eq_false (show ¬ (tlvS x).hops = 0 from c120), c81] <;> simp⟩))) ⟨rfl, trivial⟩
       ·refine Mv 3 rfl rfl rfl <| Sk 4 rfl rfl rfl <| Sk 5 rfl rfl rfl <| Sq.skip (i := 6) rfl (Want.undef rfl rfl rfl) rfl (ltN rfl) ?_
        refine Sq.skip (i := 7) rfl (Want.undef rfl rfl rfl) rfl (ltN rfl) ?_
        refine Sq.skip (i := 8) rfl (Want.undef rfl rfl rfl) rfl (ltN rfl) ?_
        refine Sk 9 rfl rfl rfl <| Pf 10 rfl rfl rfl rfl <| Sg 11 rfl rfl rfl <| Sq.nil <| hk177 _ _ <| Run.cond_f rfl <| Run.skip ?_
        exact J.envJ (J.keep Tk1 (hu135 (()) (⟨by rw [chk2_eq, decide_eq_false (show ¬ (tlvS x).type = 8 from c86), c81, c82] <;> simp, by unfold chk3; rw [decide_eq_false (show ¬ (tlvS x).type = 10 from c114), c81] <;> simp⟩))) ⟨rfl, trivial⟩
  ·intro ku4 hu4
   refine Run.seq fun k179 hk179 => Run.regionD (M := [0, 1, 3, 7, 15, 31, 63, 127, 255, 511, 1023, 2047, 4095, 8191, 16383, 32767, 65535, 131071, 262143, 524287, 1048575, 2097151, 4194303, 8388607, 16777215, 33554431, 67108863, 134217727, 134217727, 402653183, 1073741823, 2147483647, 4294967295]) (q := 6979321855) (r := 403702784) Kr <| Dp 0 rfl rfl (QP.move rfl rfl) <| J.caseB (fun c44 => ?_) (fun c44 => ?_)
   ·refine Dp 1 rfl rfl (QP.not rfl rfl) <| Dp 2 rfl rfl (QP.move rfl rfl) <| Dy 3 rfl rfl rfl (QP.move rfl rfl) <| Dy 4 rfl rfl rfl (QP.gtr rfl rfl rfl) <| J.caseD (fun c48 => ?_) (fun c48 => ?_)
    ·refine Dy 5 rfl rfl rfl (QP.move rfl rfl) <| Dy 6 rfl rfl rfl (QP.move rfl rfl) <| Dy 7 rfl rfl rfl (QP.eql rfl rfl rfl) <| J.caseD (fun c51 => ?_) (fun c51 => ?_)
     ·refine Dy 8 rfl rfl rfl (QP.move rfl rfl) <| Dy 9 rfl rfl rfl (QP.fieldAddr rfl rfl f41_0) <| Dz 10 rfl rfl rfl (QR.load1 rfl rfl g5 (Tlv.sub_type _)) ?_
      refine Dy 11 rfl rfl rfl (QP.eql rfl rfl rfl) <| J.caseD (fun c55 => ?_) (fun c55 => ?_)
      ·refine Dy 12 rfl rfl rfl (QP.pick_t rfl rfl rfl) <| Dy 13 rfl rfl rfl (QP.not rfl rfl) <| Dy 14 rfl rfl rfl (QP.pick_t rfl rfl rfl) <| Dy 15 rfl rfl rfl (QP.move rfl rfl) <| Ds 16 rfl rfl rfl <| Ds 17 rfl rfl rfl <| Ds 18 rfl rfl rfl <| Dw.skip (i := 19) rfl Kr (Want.undef rfl rfl rfl) rfl (ltN rfl) ?_
       refine Dw.skip (i := 20) rfl Kr (Want.undef rfl rfl rfl) rfl (ltN rfl) ?_
       refine Dw.skip (i := 21) rfl Kr (Want.undef rfl rfl rfl) rfl (ltN rfl) ?_
       refine Ds 22 rfl rfl rfl <| Ds 23 rfl rfl rfl <| Dy 24 rfl rfl rfl (QP.pick_f rfl rfl rfl) <| Dp 25 rfl rfl (QP.pick_f rfl rfl rfl) <| Dp 26 rfl rfl (QP.move rfl rfl) <| Dz 27 rfl rfl rfl (QR.load rfl rfl g41 (Tlv.enc_sub _)) ?_
       refine Dz 28 rfl rfl rfl (QR.load rfl rfl g41 (Tlv.enc_sub _)) ?_
       refine De 29 <| One.mk (o := _) (l := [27]) rfl Kr (Want.yes rfl rfl rfl rfl) rfl (ltN rfl) (EF.call rfl ce26 rfl Takes.nil (fun F' hle hr => bare_spec F' (tlvS x))) Kr ?_
       rintro _ _ ⟨_, ⟨rfl, rfl⟩, rfl⟩
       refine ⟨?_, ?_⟩
       ·rw [List.forall_mem_cons]
        refine ⟨?_, fun _ h => (by cases h)⟩
        ·refine Look.app ?_
         exact Look.mk rfl rfl rfl (QR.load rfl rfl g41 (Tlv.enc_sub _))
       refine ?_
       refine J.app ?_
       refine De 30 <| One.mk (o := _) (l := []) rfl Kr (Want.yes rfl rfl rfl rfl) rfl (ltN rfl) (EF.call rfl ce15 rfl Takes.nil (fun F' hle hr => rsame_spec F' x (⟨(ownF (tlvS x)).1, x.a, x.c, x.l⟩ : TlvX) (hx.mono hle) (hx.mono hle) hxl)) Kr ?_
       rintro _ _ ⟨_, ⟨rfl, rfl⟩, rfl⟩
       refine ⟨fun _ h => (by cases h), ?_⟩
       refine J.app ?_
       refine J.caseB (fun c74 => ?_) (fun c74 => ?_)
       ·refine Dy 31 rfl rfl rfl (QP.not rfl rfl) <| Dp 32 rfl rfl (QP.pick_f rfl rfl rfl) <| Dn <| hk179 _ _ <| Run.cond_f rfl <| Run.skip ?_
        exact J.envJ (J.keep Tk1 (hu4 (()) (by unfold chk1; rw [← ht, c44, show timesB (tlvS x) = true from (by rw [timesX]; have h55 : x.t.type = 4 := c55; simp only [ne_eq, Bool.or_eq_true, Bool.and_eq_true, decide_eq_true_eq]; omega), ← eqX_own, c74]; rfl))) ⟨rfl, trivial⟩
       ·refine Dy 31 rfl rfl rfl (QP.not rfl rfl) <| Dp 32 rfl rfl (QP.pick_f rfl rfl rfl) <| Dn <| hk179 _ _ <| Run.cond_t rfl <| Run.seq fun k180 hk180 => Run.region ?_
        show Sq _ _ _ [0] _ _ _ _
        refine Sg 0 rfl rfl rfl <| Sq.nil <| hk180 _ _ <| Run.ret ?_
        exact J.ends (res_tmp rfl rfl) Takes.nil ⟨congrArg (Value.int .i64) (by unfold checkF; rw [if_pos (by unfold chk1; rw [← ht, c44, show timesB (tlvS x) = true from (by rw [timesX]; have h55 : x.t.type = 4 := c55; simp only [ne_eq, Bool.or_eq_true, Bool.and_eq_true, decide_eq_true_eq]; omega), ← eqX_own, c74]; rfl)]), rfl⟩
      ·refine Dy 12 rfl rfl rfl (QP.pick_t rfl rfl rfl) <| Dy 13 rfl rfl rfl (QP.not rfl rfl) <| Dy 14 rfl rfl rfl (QP.pick_t rfl rfl rfl) <| Dy 15 rfl rfl rfl (QP.move rfl rfl) <| Dy 16 rfl rfl rfl (QP.move rfl rfl) <| Dy 17 rfl rfl rfl (QP.eql rfl rfl rfl) <| J.caseD (fun c61 => ?_) (fun c61 => ?_)
       ·refine Dy 18 rfl rfl rfl (QP.move rfl rfl) <| Dy 19 rfl rfl rfl (QP.fieldAddr rfl rfl f41_0) <| Dz 20 rfl rfl rfl (QR.load1 rfl rfl g5 (Tlv.sub_type _)) ?_
        refine Dy 21 rfl rfl rfl (QP.eql rfl rfl rfl) <| J.caseD (fun c65 => ?_) (fun c65 => ?_)
        ·refine Dy 22 rfl rfl rfl (QP.pick_t rfl rfl rfl) <| Dy 23 rfl rfl rfl (QP.not rfl rfl) <| Dy 24 rfl rfl rfl (QP.pick_t rfl rfl rfl) <| Dp 25 rfl rfl (QP.pick_f rfl rfl rfl) <| Dp 26 rfl rfl (QP.move rfl rfl) <| Dz 27 rfl rfl rfl (QR.load rfl rfl g41 (Tlv.enc_sub _)) ?_
         refine Dz 28 rfl rfl rfl (QR.load rfl rfl g41 (Tlv.enc_sub _)) ?_
         refine De 29 <| One.mk (o := _) (l := [27]) rfl Kr (Want.yes rfl rfl rfl rfl) rfl (ltN rfl) (EF.call rfl ce26 rfl Takes.nil (fun F' hle hr => bare_spec F' (tlvS x))) Kr ?_
         rintro _ _ ⟨_, ⟨rfl, rfl⟩, rfl⟩
         refine ⟨?_, ?_⟩
         ·rw [List.forall_mem_cons]
          refine ⟨?_, fun _ h => (by cases h)⟩
          ·refine Look.app ?_
           exact Look.mk rfl rfl rfl (QR.load rfl rfl g41 (Tlv.enc_sub _))
         refine ?_
         refine J.app ?_
         refine De 30 <| One.mk (o := _) (l := []) rfl Kr (Want.yes rfl rfl rfl rfl) rfl (ltN rfl) (EF.call rfl ce15 rfl Takes.nil (fun F' hle hr => rsame_spec F' x (⟨(ownF (tlvS x)).1, x.a, x.c, x.l⟩ : TlvX) (hx.mono hle) (hx.mono hle) hxl)) Kr ?_
         rintro _ _ ⟨_, ⟨rfl, rfl⟩, rfl⟩
         refine ⟨fun _ h => (by cases h), ?_⟩
         refine J.app ?_
         refine J.caseB (fun c74 => ?_) (fun c74 => ?_)
         ·refine Dy 31 rfl rfl rfl (QP.not rfl rfl) <| Dp 32 rfl rfl (QP.pick_f rfl rfl rfl) <| Dn <| hk179 _ _ <| Run.cond_f rfl <| Run.skip ?_
          exact J.envJ (J.keep Tk1 (hu4 (()) (by unfold chk1; rw [← ht, c44, show timesB (tlvS x) = true from (by rw [timesX]; have h55 : ¬ x.t.type = 4 := c55; have h65 : x.t.type = 5 := c65; simp only [ne_eq, Bool.or_eq_true, Bool.and_eq_true, decide_eq_true_eq]; omega), ← eqX_own, c74]; rfl))) ⟨rfl, trivial⟩
         ·refine Dy 31 rfl rfl rfl (QP.not rfl rfl) <| Dp 32 rfl rfl (QP.pick_f rfl rfl rfl) <| Dn <| hk179 _ _ <| Run.cond_t rfl <| Run.seq fun k181 hk181 => Run.region ?_
          show Sq _ _ _ [0] _ _ _ _
          refine Sg 0 rfl rfl rfl <| Sq.nil <| hk181 _ _ <| Run.ret ?_
          exact J.ends (res_tmp rfl rfl) Takes.nil ⟨congrArg (Value.int .i64) (by unfold checkF; rw [if_pos (by unfold chk1; rw [← ht, c44, show timesB (tlvS x) = true from (by rw [timesX]; have h55 : ¬ x.t.type = 4 := c55; have h65 : x.t.type = 5 := c65; simp only [ne_eq, Bool.or_eq_true, Bool.and_eq_true, decide_eq_true_eq]; omega), ← eqX_own, c74]; rfl)]), rfl⟩
        ·refine Dy 22 rfl rfl rfl (QP.pick_t rfl rfl rfl) <| Dy 23 rfl rfl rfl (QP.not rfl rfl) <| Dy 24 rfl rfl rfl (QP.pick_t rfl rfl rfl) <| Dp 25 rfl rfl (QP.pick_f rfl rfl rfl) <| Dp 26 rfl rfl (QP.move rfl rfl) <| Ds 27 rfl rfl rfl <| Ds 28 rfl rfl rfl <| De 29 <| One.skipD (o := _) rfl Kr (Want.no rfl rfl rfl rfl) rfl (ltN rfl) ?_
         refine De 30 <| One.skipD (o := _) rfl Kr (Want.no rfl rfl rfl rfl) rfl (ltN rfl) ?_
         refine Ds 31 rfl rfl rfl <| Dp 32 rfl rfl (QP.pick_t rfl rfl rfl) <| Dn <| hk179 _ _ <| Run.cond_t rfl <| Run.seq fun k182 hk182 => Run.region ?_
         show Sq _ _ _ [0] _ _ _ _
         refine Sg 0 rfl rfl rfl <| Sq.nil <| hk182 _ _ <| Run.ret ?_
         exact J.ends (res_tmp rfl rfl) Takes.nil ⟨congrArg (Value.int .i64) (by unfold checkF; rw [if_pos (by unfold chk1; rw [← ht, c44, show timesB (tlvS x) = false from Bool.eq_false_iff.2 (by rw [timesX]; have h55 : ¬ x.t.type = 4 := c55; have h65 : ¬ x.t.type = 5 := c65; simp only [ne_eq, Bool.or_eq_true, Bool.and_eq_true, decide_eq_true_eq]; omega)]; rfl)]), rfl⟩
       ·refine Dy 18 rfl rfl rfl (QP.move rfl rfl) <| Ds 19 rfl rfl rfl <| Ds 20 rfl rfl rfl <| Ds 21 rfl rfl rfl <| Dy 22 rfl rfl rfl (QP.pick_f rfl rfl rfl) <| Dy 23 rfl rfl rfl (QP.not rfl rfl) <| Dy 24 rfl rfl rfl (QP.pick_t rfl rfl rfl) <| Dp 25 rfl rfl (QP.pick_f rfl rfl rfl) <| Dp 26 rfl rfl (QP.move rfl rfl) <| Ds 27 rfl rfl rfl <| Ds 28 rfl rfl rfl <| De 29 <| One.skipD (o := _) rfl Kr (Want.no rfl rfl rfl rfl) rfl (ltN rfl) ?_
        refine De 30 <| One.skipD (o := _) rfl Kr (Want.no rfl rfl rfl rfl) rfl (ltN rfl) ?_
        refine Ds 31 rfl rfl rfl <| Dp 32 rfl rfl (QP.pick_t rfl rfl rfl) <| Dn <| hk179 _ _ <| Run.cond_t rfl <| Run.seq fun k183 hk183 => Run.region ?_
        show Sq _ _ _ [0] _ _ _ _
        refine Sg 0 rfl rfl rfl <| Sq.nil <| hk183 _ _ <| Run.ret ?_
        exact J.ends (res_tmp rfl rfl) Takes.nil ⟨congrArg (Value.int .i64) (by unfold checkF; rw [if_pos (by unfold chk1; rw [← ht, c44, show timesB (tlvS x) = false from Bool.eq_false_iff.2 (by rw [timesX]; have h55 : ¬ x.t.type = 4 := c55; simp only [ne_eq, Bool.or_eq_true, Bool.and_eq_true, decide_eq_true_eq]; omega)]; rfl)]), rfl⟩
     ·refine Dy 8 rfl rfl rfl (QP.move rfl rfl) <| Ds 9 rfl rfl rfl <| Ds 10 rfl rfl rfl <| Ds 11 rfl rfl rfl <| Dy 12 rfl rfl rfl (QP.pick_f rfl rfl rfl) <| Dy 13 rfl rfl rfl (QP.not rfl rfl) <| Dy 14 rfl rfl rfl (QP.pick_t rfl rfl rfl) <| Dy 15 rfl rfl rfl (QP.move rfl rfl) <| Dy 16 rfl rfl rfl (QP.move rfl rfl) <| Dy 17 rfl rfl rfl (QP.eql rfl rfl rfl) <| J.caseD (fun c61 => ?_) (fun c61 => ?_)
      ·refine Dy 18 rfl rfl rfl (QP.move rfl rfl) <| Dy 19 rfl rfl rfl (QP.fieldAddr rfl rfl f41_0) <| Dz 20 rfl rfl rfl (QR.load1 rfl rfl g5 (Tlv.sub_type _)) ?_
       refine Dy 21 rfl rfl rfl (QP.eql rfl rfl rfl) <| J.caseD (fun c65 => ?_) (fun c65 => ?_)
       ·refine Dy 22 rfl rfl rfl (QP.pick_t rfl rfl rfl) <| Dy 23 rfl rfl rfl (QP.not rfl rfl) <| Dy 24 rfl rfl rfl (QP.pick_t rfl rfl rfl) <| Dp 25 rfl rfl (QP.pick_f rfl rfl rfl) <| Dp 26 rfl rfl (QP.move rfl rfl) <| Dz 27 rfl rfl rfl (QR.load rfl rfl g41 (Tlv.enc_sub _)) ?_
        refine Dz 28 rfl rfl rfl (QR.load rfl rfl g41 (Tlv.enc_sub _)) ?_
        refine De 29 <| One.mk (o := _) (l := [27]) rfl Kr (Want.yes rfl rfl rfl rfl) rfl (ltN rfl) (EF.call rfl ce26 rfl Takes.nil (fun F' hle hr => bare_spec F' (tlvS x))) Kr ?_
        rintro _ _ ⟨_, ⟨rfl, rfl⟩, rfl⟩
        refine ⟨?_, ?_⟩
        ·rw [List.forall_mem_cons]
         refine ⟨?_, fun _ h => (by cases h)⟩
         ·refine Look.app ?_
          exact Look.mk rfl rfl rfl (QR.load rfl rfl g41 (Tlv.enc_sub _))
        refine ?_
        refine J.app ?_
        refine De 30 <| One.mk (o := _) (l := []) rfl Kr (Want.yes rfl rfl rfl rfl) rfl (ltN rfl) (EF.call rfl ce15 rfl Takes.nil (fun F' hle hr => rsame_spec F' x (⟨(ownF (tlvS x)).1, x.a, x.c, x.l⟩ : TlvX) (hx.mono hle) (hx.mono hle) hxl)) Kr ?_
        rintro _ _ ⟨_, ⟨rfl, rfl⟩, rfl⟩
        refine ⟨fun _ h => (by cases h), ?_⟩
        refine J.app ?_
        refine J.caseB (fun c74 => ?_) (fun c74 => ?_)
        ·refine Dy 31 rfl rfl rfl (QP.not rfl rfl) <| Dp 32 rfl rfl (QP.pick_f rfl rfl rfl) <| Dn <| hk179 _ _ <| Run.cond_f rfl <| Run.skip ?_
         exact J.envJ (J.keep Tk1 (hu4 (()) (by unfold chk1; rw [← ht, c44, show timesB (tlvS x) = true from (by rw [timesX]; have h65 : x.t.type = 5 := c65; simp only [ne_eq, Bool.or_eq_true, Bool.and_eq_true, decide_eq_true_eq]; omega), ← eqX_own, c74]; rfl))) ⟨rfl, trivial⟩
        ·refine Dy 31 rfl rfl rfl (QP.not rfl rfl) <| Dp 32 rfl rfl (QP.pick_f rfl rfl rfl) <| Dn <| hk179 _ _ <| Run.cond_t rfl <| Run.seq fun k184 hk184 => Run.region ?_
         show Sq _ _ _ [0] _ _ _ _
         refine Sg 0 rfl rfl rfl <| Sq.nil <| hk184 _ _ <| Run.ret ?_
         exact J.ends (res_tmp rfl rfl) Takes.nil ⟨congrArg (Value.int .i64) (by unfold checkF; rw [if_pos (by unfold chk1; rw [← ht, c44, show timesB (tlvS x) = true from (by rw [timesX]; have h65 : x.t.type = 5 := c65; simp only [ne_eq, Bool.or_eq_true, Bool.and_eq_true, decide_eq_true_eq]; omega), ← eqX_own, c74]; rfl)]), rfl⟩
       ·refine Dy 22 rfl rfl rfl (QP.pick_t rfl rfl rfl) <| Dy 23 rfl rfl rfl (QP.not rfl rfl) <| Dy 24 rfl rfl rfl (QP.pick_t rfl rfl rfl) <| Dp 25 rfl rfl (QP.pick_f rfl rfl rfl) <| Dp 26 rfl rfl (QP.move rfl rfl) <| Ds 27 rfl rfl rfl <| Ds 28 rfl rfl rfl <| De 29 <| One.skipD (o := _) rfl Kr (Want.no rfl rfl rfl rfl) rfl (ltN rfl) ?_
        refine De 30 <| One.skipD (o := _) rfl Kr (Want.no rfl rfl rfl rfl) rfl (ltN rfl) ?_
        refine Ds 31 rfl rfl rfl <| Dp 32 rfl rfl (QP.pick_t rfl rfl rfl) <| Dn <| hk179 _ _ <| Run.cond_t rfl <| Run.seq fun k185 hk185 => Run.region ?_
        show Sq _ _ _ [0] _ _ _ _
        refine Sg 0 rfl rfl rfl <| Sq.nil <| hk185 _ _ <| Run.ret ?_
        exact J.ends (res_tmp rfl rfl) Takes.nil ⟨congrArg (Value.int .i64) (by unfold checkF; rw [if_pos (by unfold chk1; rw [← ht, c44, show timesB (tlvS x) = false from Bool.eq_false_iff.2 (by rw [timesX]; have h65 : ¬ x.t.type = 5 := c65; simp only [ne_eq, Bool.or_eq_true, Bool.and_eq_true, decide_eq_true_eq]; omega)]; rfl)]), rfl⟩
      ·refine Dy 18 rfl rfl rfl (QP.move rfl rfl) <| Ds 19 rfl rfl rfl <| Ds 20 rfl rfl rfl <| Ds 21 rfl rfl rfl <| Dy 22 rfl rfl rfl (QP.pick_f rfl rfl rfl) <| Dy 23 rfl rfl rfl (QP.not rfl rfl) <| Dy 24 rfl rfl rfl (QP.pick_t rfl rfl rfl) <| Dp 25 rfl rfl (QP.pick_f rfl rfl rfl) <| Dp 26 rfl rfl (QP.move rfl rfl) <| Ds 27 rfl rfl rfl <| Ds 28 rfl rfl rfl <| De 29 <| One.skipD (o := _) rfl Kr (Want.no rfl rfl rfl rfl) rfl (ltN rfl) ?_
       refine De 30 <| One.skipD (o := _) rfl Kr (Want.no rfl rfl rfl rfl) rfl (ltN rfl) ?_
       refine Ds 31 rfl rfl rfl <| Dp 32 rfl rfl (QP.pick_t rfl rfl rfl) <| Dn <| hk179 _ _ <| Run.cond_t rfl <| Run.seq fun k186 hk186 => Run.region ?_
       show Sq _ _ _ [0] _ _ _ _
       refine Sg 0 rfl rfl rfl <| Sq.nil <| hk186 _ _ <| Run.ret ?_
       exact J.ends (res_tmp rfl rfl) Takes.nil ⟨congrArg (Value.int .i64) (by unfold checkF; rw [if_pos (by unfold chk1; rw [← ht, c44, show timesB (tlvS x) = false from Bool.eq_false_iff.2 (by rw [timesX]; simp only [ne_eq, Bool.or_eq_true, Bool.and_eq_true, decide_eq_true_eq]; omega)]; rfl)]), rfl⟩
    ·refine Dy 5 rfl rfl rfl (QP.move rfl rfl) <| Ds 6 rfl rfl rfl <| Ds 7 rfl rfl rfl <| Ds 8 rfl rfl rfl <| Dw.skip (i := 9) rfl Kr (Want.undef rfl rfl rfl) rfl (ltN rfl) ?_
     refine Dw.skip (i := 10) rfl Kr (Want.undef rfl rfl rfl) rfl (ltN rfl) ?_
     refine Dw.skip (i := 11) rfl Kr (Want.undef rfl rfl rfl) rfl (ltN rfl) ?_
     refine Ds 12 rfl rfl rfl <| Ds 13 rfl rfl rfl <| Dy 14 rfl rfl rfl (QP.pick_f rfl rfl rfl) <| Dy 15 rfl rfl rfl (QP.move rfl rfl) <| Ds 16 rfl rfl rfl <| Ds 17 rfl rfl rfl <| Ds 18 rfl rfl rfl <| Dw.skip (i := 19) rfl Kr (Want.undef rfl rfl rfl) rfl (ltN rfl) ?_
     refine Dw.skip (i := 20) rfl Kr (Want.undef rfl rfl rfl) rfl (ltN rfl) ?_
     refine Dw.skip (i := 21) rfl Kr (Want.undef rfl rfl rfl) rfl (ltN rfl) ?_
     refine Ds 22 rfl rfl rfl <| Ds 23 rfl rfl rfl <| Dy 24 rfl rfl rfl (QP.pick_f rfl rfl rfl) <| Dp 25 rfl rfl (QP.pick_f rfl rfl rfl) <| Dp 26 rfl rfl (QP.move rfl rfl) <| Dz 27 rfl rfl rfl (QR.load rfl rfl g41 (Tlv.enc_sub _)) ?_
     refine Dz 28 rfl rfl rfl (QR.load rfl rfl g41 (Tlv.enc_sub _)) ?_
     refine De 29 <| One.mk (o := _) (l := [27]) rfl Kr (Want.yes rfl rfl rfl rfl) rfl (ltN rfl) (EF.call rfl ce26 rfl Takes.nil (fun F' hle hr => bare_spec F' (tlvS x))) Kr ?_
     rintro _ _ ⟨_, ⟨rfl, rfl⟩, rfl⟩
     refine ⟨?_, ?_⟩
     ·rw [List.forall_mem_cons]
      refine ⟨?_, fun _ h => (by cases h)⟩
      ·refine Look.app ?_
       exact Look.mk rfl rfl rfl (QR.load rfl rfl g41 (Tlv.enc_sub _))
     refine ?_
     refine J.app ?_
     refine De 30 <| One.mk (o := _) (l := []) rfl Kr (Want.yes rfl rfl rfl rfl) rfl (ltN rfl) (EF.call rfl ce15 rfl Takes.nil (fun F' hle hr => rsame_spec F' x (⟨(ownF (tlvS x)).1, x.a, x.c, x.l⟩ : TlvX) (hx.mono hle) (hx.mono hle) hxl)) Kr ?_
     rintro _ _ ⟨_, ⟨rfl, rfl⟩, rfl⟩
     refine ⟨fun _ h => (by cases h), ?_⟩
     refine J.app ?_
     refine J.caseB (fun c74 => ?_) (fun c74 => ?_)
     ·refine Dy 31 rfl rfl rfl (QP.not rfl rfl) <| Dp 32 rfl rfl (QP.pick_f rfl rfl rfl) <| Dn <| hk179 _ _ <| Run.cond_f rfl <| Run.skip ?_
      exact J.envJ (J.keep Tk1 (hu4 (()) (by unfold chk1; rw [← ht, c44, show timesB (tlvS x) = true from (by rw [timesX]; simp only [ne_eq, Bool.or_eq_true, Bool.and_eq_true, decide_eq_true_eq]; omega), ← eqX_own, c74]; rfl))) ⟨rfl, trivial⟩
     ·refine Dy 31 rfl rfl rfl (QP.not rfl rfl) <| Dp 32 rfl rfl (QP.pick_f rfl rfl rfl) <| Dn <| hk179 _ _ <| Run.cond_t rfl <| Run.seq fun k187 hk187 => Run.region ?_
      show Sq _ _ _ [0] _ _ _ _
      refine Sg 0 rfl rfl rfl <| Sq.nil <| hk187 _ _ <| Run.ret ?_
      exact J.ends (res_tmp rfl rfl) Takes.nil ⟨congrArg (Value.int .i64) (by unfold checkF; rw [if_pos (by unfold chk1; rw [← ht, c44, show timesB (tlvS x) = true from (by rw [timesX]; simp only [ne_eq, Bool.or_eq_true, Bool.and_eq_true, decide_eq_true_eq]; omega), ← eqX_own, c74]; rfl)]), rfl⟩
   ·refine Dp 1 rfl rfl (QP.not rfl rfl) <| Dp 2 rfl rfl (QP.move rfl rfl) <| Ds 3 rfl rfl rfl <| Ds 4 rfl rfl rfl <| Ds 5 rfl rfl rfl <| Dw.skip (i := 6) rfl Kr (Want.undef rfl rfl rfl) rfl (ltN rfl) ?_
    refine Dw.skip (i := 7) rfl Kr (Want.undef rfl rfl rfl) rfl (ltN rfl) ?_
    refine Dw.skip (i := 8) rfl Kr (Want.undef rfl rfl rfl) rfl (ltN rfl) ?_
    refine Dw.skip (i := 9) rfl Kr (Want.undef rfl rfl rfl) rfl (ltN rfl) ?_
    refine Dw.skip (i := 10) rfl Kr (Want.undef rfl rfl rfl) rfl (ltN rfl) ?_
    refine Dw.skip (i := 11) rfl Kr (Want.undef rfl rfl rfl) rfl (ltN rfl) ?_
    refine Dw.skip (i := 12) rfl Kr (Want.undef rfl rfl rfl) rfl (ltN rfl) ?_
    refine Dw.skip (i := 13) rfl Kr (Want.undef rfl rfl rfl) rfl (ltN rfl) ?_
    refine Ds 14 rfl rfl rfl <| Ds 15 rfl rfl rfl <| Dw.skip (i := 16) rfl Kr (Want.undef rfl rfl rfl) rfl (ltN rfl) ?_
    refine Dw.skip (i := 17) rfl Kr (Want.undef rfl rfl rfl) rfl (ltN rfl) ?_
    refine Dw.skip (i := 18) rfl Kr (Want.undef rfl rfl rfl) rfl (ltN rfl) ?_
    refine Dw.skip (i := 19) rfl Kr (Want.undef rfl rfl rfl) rfl (ltN rfl) ?_
    refine Dw.skip (i := 20) rfl Kr (Want.undef rfl rfl rfl) rfl (ltN rfl) ?_
    refine Dw.skip (i := 21) rfl Kr (Want.undef rfl rfl rfl) rfl (ltN rfl) ?_
    refine Dw.skip (i := 22) rfl Kr (Want.undef rfl rfl rfl) rfl (ltN rfl) ?_
    refine Dw.skip (i := 23) rfl Kr (Want.undef rfl rfl rfl) rfl (ltN rfl) ?_
    refine Ds 24 rfl rfl rfl <| Dp 25 rfl rfl (QP.pick_t rfl rfl rfl) <| Dp 26 rfl rfl (QP.move rfl rfl) <| Ds 27 rfl rfl rfl <| Ds 28 rfl rfl rfl <| De 29 <| One.skipD (o := _) rfl Kr (Want.no rfl rfl rfl rfl) rfl (ltN rfl) ?_
    refine De 30 <| One.skipD (o := _) rfl Kr (Want.no rfl rfl rfl rfl) rfl (ltN rfl) ?_
    refine Ds 31 rfl rfl rfl <| Dp 32 rfl rfl (QP.pick_t rfl rfl rfl) <| Dn <| hk179 _ _ <| Run.cond_t rfl <| Run.seq fun k188 hk188 => Run.region ?_
    show Sq _ _ _ [0] _ _ _ _
    refine Sg 0 rfl rfl rfl <| Sq.nil <| hk188 _ _ <| Run.ret ?_
    exact J.ends (res_tmp rfl rfl) Takes.nil ⟨congrArg (Value.int .i64) (by unfold checkF; rw [if_pos (by unfold chk1; rw [← ht, c44]; rfl)]), rfl⟩
 ·intro ku3 hu3
  refine Run.region ?_
  show Sq _ _ _ [0, 1, 2, 3, 4, 5, 6, 7, 8, 9, 10, 11, 12, 13, 14, 15, 16, 17, 18, 19, 20, 21, 22, 23, 24, 25, 26, 27, 28, 29, 30, 31, 32, 33] _ _ _ _
  refine Fa 0 rfl rfl rfl f41_0 <| Qq 1 rfl rfl (QR.load1 rfl rfl g5 (Tlv.sub_type _)) ?_
  refine Qp 2 rfl rfl (QP.eql rfl rfl rfl) <| J.caseD (fun c13 => ?_) (fun c13 => ?_)
  ·refine Mv 3 rfl rfl rfl <| Sk 4 rfl rfl rfl <| Sk 5 rfl rfl rfl <| Sk 6 rfl rfl rfl <| Pt 7 rfl rfl rfl rfl <| Mv 8 rfl rfl rfl <| Sk 9 rfl rfl rfl <| Sk 10 rfl rfl rfl <| Sk 11 rfl rfl rfl <| Pt 12 rfl rfl rfl rfl <| Mv 13 rfl rfl rfl <| Sk 14 rfl rfl rfl <| Sk 15 rfl rfl rfl <| Sk 16 rfl rfl rfl <| Pt 17 rfl rfl rfl rfl <| Mv 18 rfl rfl rfl <| Sk 19 rfl rfl rfl <| Sk 20 rfl rfl rfl <| Sk 21 rfl rfl rfl <| Pt 22 rfl rfl rfl rfl <| Mv 23 rfl rfl rfl <| Sk 24 rfl rfl rfl <| Sk 25 rfl rfl rfl <| Sk 26 rfl rfl rfl <| Pt 27 rfl rfl rfl rfl <| Mv 28 rfl rfl rfl <| Sk 29 rfl rfl rfl <| Sk 30 rfl rfl rfl <| Sk 31 rfl rfl rfl <| Pt 32 rfl rfl rfl rfl <| Sg 33 rfl rfl rfl <| Sq.nil ?_
   exact J.envJ (J.keep Tk1 (hu3 (true) ((own_yes (by have h9 : (tlvS x).type = 2 := c13; omega)).symm))) ⟨rfl, rfl, rfl, trivial⟩
  ·refine Mv 3 rfl rfl rfl <| Yf 4 rfl rfl rfl rfl f41_0 <| Yq 5 rfl rfl rfl (QR.load1 rfl rfl g5 (Tlv.sub_type _)) ?_
   refine Yp 6 rfl rfl rfl (QP.eql rfl rfl rfl) <| J.caseD (fun c17 => ?_) (fun c17 => ?_)
   ·refine Pf 7 rfl rfl rfl rfl <| Mv 8 rfl rfl rfl <| Sk 9 rfl rfl rfl <| Sk 10 rfl rfl rfl <| Sk 11 rfl rfl rfl <| Pt 12 rfl rfl rfl rfl <| Mv 13 rfl rfl rfl <| Sk 14 rfl rfl rfl <| Sk 15 rfl rfl rfl <| Sk 16 rfl rfl rfl <| Pt 17 rfl rfl rfl rfl <| Mv 18 rfl rfl rfl <| Sk 19 rfl rfl rfl <| Sk 20 rfl rfl rfl <| Sk 21 rfl rfl rfl <| Pt 22 rfl rfl rfl rfl <| Mv 23 rfl rfl rfl <| Sk 24 rfl rfl rfl <| Sk 25 rfl rfl rfl <| Sk 26 rfl rfl rfl <| Pt 27 rfl rfl rfl rfl <| Mv 28 rfl rfl rfl <| Sk 29 rfl rfl rfl <| Sk 30 rfl rfl rfl <| Sk 31 rfl rfl rfl <| Pt 32 rfl rfl rfl rfl <| Sg 33 rfl rfl rfl <| Sq.nil ?_
    exact J.envJ (J.keep Tk1 (hu3 (true) ((own_yes (by have h9 : (tlvS x).type = 3 := c17; omega)).symm))) ⟨rfl, rfl, rfl, trivial⟩
   ·refine Pf 7 rfl rfl rfl rfl <| Mv 8 rfl rfl rfl <| Yf 9 rfl rfl rfl rfl f41_0 <| Yq 10 rfl rfl rfl (QR.load1 rfl rfl g5 (Tlv.sub_type _)) ?_
    refine Yp 11 rfl rfl rfl (QP.eql rfl rfl rfl) <| J.caseD (fun c22 => ?_) (fun c22 => ?_)
    ·refine Pf 12 rfl rfl rfl rfl <| Mv 13 rfl rfl rfl <| Sk 14 rfl rfl rfl <| Sk 15 rfl rfl rfl <| Sk 16 rfl rfl rfl <| Pt 17 rfl rfl rfl rfl <| Mv 18 rfl rfl rfl <| Sk 19 rfl rfl rfl <| Sk 20 rfl rfl rfl <| Sk 21 rfl rfl rfl <| Pt 22 rfl rfl rfl rfl <| Mv 23 rfl rfl rfl <| Sk 24 rfl rfl rfl <| Sk 25 rfl rfl rfl <| Sk 26 rfl rfl rfl <| Pt 27 rfl rfl rfl rfl <| Mv 28 rfl rfl rfl <| Sk 29 rfl rfl rfl <| Sk 30 rfl rfl rfl <| Sk 31 rfl rfl rfl <| Pt 32 rfl rfl rfl rfl <| Sg 33 rfl rfl rfl <| Sq.nil ?_
     exact J.envJ (J.keep Tk1 (hu3 (true) ((own_yes (by have h9 : (tlvS x).type = 4 := c22; omega)).symm))) ⟨rfl, rfl, rfl, trivial⟩
    ·refine Pf 12 rfl rfl rfl rfl <| Mv 13 rfl rfl rfl <| Yf 14 rfl rfl rfl rfl f41_0 <| Yq 15 rfl rfl rfl (QR.load1 rfl rfl g5 (Tlv.sub_type _)) ?_
     refine Yp 16 rfl rfl rfl (QP.eql rfl rfl rfl) <| J.caseD (fun c27 => ?_) (fun c27 => ?_)
     ·refine Pf 17 rfl rfl rfl rfl <| Mv 18 rfl rfl rfl <| Sk 19 rfl rfl rfl <| Sk 20 rfl rfl rfl <| Sk 21 rfl rfl rfl <| Pt 22 rfl rfl rfl rfl <| Mv 23 rfl rfl rfl <| Sk 24 rfl rfl rfl <| Sk 25 rfl rfl rfl <| Sk 26 rfl rfl rfl <| Pt 27 rfl rfl rfl rfl <| Mv 28 rfl rfl rfl <| Sk 29 rfl rfl rfl <| Sk 30 rfl rfl rfl <| Sk 31 rfl rfl rfl <| Pt 32 rfl rfl rfl rfl <| Sg 33 rfl rfl rfl <| Sq.nil ?_
      exact J.envJ (J.keep Tk1 (hu3 (true) ((own_yes (by have h9 : (tlvS x).type = 5 := c27; omega)).symm))) ⟨rfl, rfl, rfl, trivial⟩
     ·refine Pf 17 rfl rfl rfl rfl <| Mv 18 rfl rfl rfl <| Yf 19 rfl rfl rfl rfl f41_0 <| Yq 20 rfl rfl rfl (QR.load1 rfl rfl g5 (Tlv.sub_type _)) ?_
      refine Yp 21 rfl rfl rfl (QP.eql rfl rfl rfl) <| J.caseD (fun c32 => ?_) (fun c32 => ?_)
      ·refine Pf 22 rfl rfl rfl rfl <| Mv 23 rfl rfl rfl <| Sk 24 rfl rfl rfl <| Sk 25 rfl rfl rfl <| Sk 26 rfl rfl rfl <| Pt 27 rfl rfl rfl rfl <| Mv 28 rfl rfl rfl <| Sk 29 rfl rfl rfl <| Sk 30 rfl rfl rfl <| Sk 31 rfl rfl rfl <| Pt 32 rfl rfl rfl rfl <| Sg 33 rfl rfl rfl <| Sq.nil ?_
       exact J.envJ (J.keep Tk1 (hu3 (true) ((own_yes (by have h9 : (tlvS x).type = 8 := c32; omega)).symm))) ⟨rfl, rfl, rfl, trivial⟩
      ·refine Pf 22 rfl rfl rfl rfl <| Mv 23 rfl rfl rfl <| Yf 24 rfl rfl rfl rfl f41_0 <| Yq 25 rfl rfl rfl (QR.load1 rfl rfl g5 (Tlv.sub_type _)) ?_
       refine Yp 26 rfl rfl rfl (QP.eql rfl rfl rfl) <| J.caseD (fun c37 => ?_) (fun c37 => ?_)
       ·refine Pf 27 rfl rfl rfl rfl <| Mv 28 rfl rfl rfl <| Sk 29 rfl rfl rfl <| Sk 30 rfl rfl rfl <| Sk 31 rfl rfl rfl <| Pt 32 rfl rfl rfl rfl <| Sg 33 rfl rfl rfl <| Sq.nil ?_
        exact J.envJ (J.keep Tk1 (hu3 (true) ((own_yes (by have h9 : (tlvS x).type = 9 := c37; omega)).symm))) ⟨rfl, rfl, rfl, trivial⟩
       ·refine Pf 27 rfl rfl rfl rfl <| Mv 28 rfl rfl rfl <| Yf 29 rfl rfl rfl rfl f41_0 <| Yq 30 rfl rfl rfl (QR.load1 rfl rfl g5 (Tlv.sub_type _)) ?_
        refine Yp 31 rfl rfl rfl (QP.eql rfl rfl rfl) <| J.caseD (fun c42 => ?_) (fun c42 => ?_)
        ·refine Pf 32 rfl rfl rfl rfl <| Sg 33 rfl rfl rfl <| Sq.nil ?_
         exact J.envJ (J.keep Tk1 (hu3 (true) ((own_yes (by have h9 : (tlvS x).type = 10 := c42; omega)).symm))) ⟨rfl, rfl, rfl, trivial⟩
        ·refine Pf 32 rfl rfl rfl rfl <| Sg 33 rfl rfl rfl <| Sq.nil ?_
         exact J.envJ (J.keep Tk1 (hu3 (false) ((own_no c13 c17 c22 c27 c32 c37 c42).symm))) ⟨rfl, rfl, rfl, trivial⟩
end Slb
