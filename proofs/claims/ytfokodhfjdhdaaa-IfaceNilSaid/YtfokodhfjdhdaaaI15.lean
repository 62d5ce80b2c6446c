/- I15: a part of the proof that a law of this package holds for every input; no condition. -/
import Derived.Test.YtfokodhfjdhdaaaM2
import Derived.Test.YtfokodhfjdhdaaaI14
namespace Slb
open Go Go.Proofs
set_option maxRecDepth 20000
def chk1 (t : Tlv) : Bool := !(ownF t).2 || (!timesB t || !sameB t (ownF t).1)
def chk2 (t : Tlv) : Bool := (decide (t.type = 8) && decide (t.metric ≠ 65535)) && (t.all || !namedB t.id_)
def chk3 (t : Tlv) : Bool := decide (t.type = 10) && (decide (t.hops = 0) || decide (t.id_ = Bs.zero 8))
/-- Whether a packet may say it. -/
def checkF (t : Tlv) : Int := if chk1 t = true then 2 else if chk2 t = true then 2 else if chk3 t = true then 2 else if pairedB t = true then ernoB (checkPairB t.pair) else 0
/-- What a Tlv's times are read from. -/
def TlvIn (F : Fr) (x : TlvX) : Prop := ArgSl F x.a 1 u32E x.l
theorem TlvIn.mono {F F' : Fr} {x : TlvX} (h : TlvIn F x) (hle : PH.le F.h F'.h) : TlvIn F' x := ArgSl.mono h hle
def eqX (x y : TlvX) : Bool := decide (x.l = y.l) && sameB x.t y.t
theorem eqX_iff {x y : TlvX} : eqX x y = true ↔ tlvM x = tlvM y := by
  unfold eqX tlvM
  rw [Bool.and_eq_true, decide_eq_true_eq, sameB_iff, Prod.mk.injEq]
  exact And.comm

set_option maxHeartbeats 1000000 in
theorem check_tlv (F : Fr) (t : Tlv) : Spec Try.prog 54 #[.agg (Tlv.enc t).toArray] [] F (fun v S => v = .int .i64 (checkF t) ∧ S = []) := by
 refine Spec.intro (N := 66) (args := [.agg (Tlv.enc t).toArray]) Try.func54 rfl rfl (by simp) ?_
 refine Run.seq fun k1 hk1 => Run.region ?_
 show Sq _ _ _ [0, 1] _ _ _ _
 refine Ef 0 rfl rfl (EF.boxA rfl rfl) ?_
 rintro _ _ ⟨b1, rfl, rfl⟩
 refine Sg 1 rfl rfl rfl <| Sq.nil <| hk1 _ _ <| Run.seq fun k2 hk2 => Run.region ?_
 show Sq _ _ _ [0, 1, 2, 3, 4, 5, 6, 7] _ _ _ _
 refine Qq 0 rfl rfl (QR.load rfl rfl g46 (Tlv.enc_sub _)) ?_
 refine Ef 1 rfl rfl (EF.call rfl ce69 rfl Takes.nil (fun F' hle hr => own_spec F' t)) ?_
 rintro _ _ ⟨_, ⟨rfl, rfl⟩, rfl⟩
 refine J.app ?_
 refine Mv 2 rfl rfl rfl <| Qp 3 rfl rfl (QP.extract rfl rfl rfl) <| Qp 4 rfl rfl (QP.extract rfl rfl rfl) <| J.caseB (fun c10 => ?_) (fun c10 => ?_)
 ·refine Ef 5 rfl rfl (EF.allocA (l := Tlv.enc Tlv.zero) rfl zero46) ?_
  rintro _ _ ⟨b3, rfl, rfl⟩
  refine Ac 6 rfl (EF.storeA rfl rfl rfl z46 (SetL.all (Tlv.enc_len _) (Tlv.enc_len _)) (Tlv.enc_cell _)) ?_
  rintro _ _ rfl
  refine Sg 7 rfl rfl rfl <| Sq.nil <| hk2 _ _ <| Run.seq fun k3 hk3 => Run.region ?_
  show Sq _ _ _ [0, 1, 2, 3, 4, 5, 6, 7, 8] _ _ _ _
  refine Fa 0 rfl rfl rfl f46_0 <| Qq 1 rfl rfl (QR.load1 rfl rfl g5 (Tlv.sub_type _)) ?_
  refine Qp 2 rfl rfl (QP.eql rfl rfl rfl) <| J.caseD (fun c13 => ?_) (fun c13 => ?_)
  ·refine Mv 3 rfl rfl rfl <| Yf 4 rfl rfl rfl rfl f46_5 <| Yq 5 rfl rfl rfl (QR.load1 rfl rfl g37 (Tlv.sub_metric _)) ?_
   refine Yp 6 rfl rfl rfl (QP.neq rfl rfl rfl) <| J.caseD (fun c17 => ?_) (fun c17 => ?_)
   ·refine Pt 7 rfl rfl rfl rfl <| Sg 8 rfl rfl rfl <| Sq.nil <| hk3 _ _ <| Run.seq fun k4 hk4 => Run.block <| Run.seq fun k5 hk5 => Run.region ?_
    show Sq _ _ _ [0, 1, 2, 3, 4, 5, 6, 7, 8, 9, 10, 11, 12, 13] _ _ _ _
    refine Mv 0 rfl rfl rfl <| Qp 1 rfl rfl (QP.not rfl rfl) <| Mv 2 rfl rfl rfl <| Yq 3 rfl rfl rfl (QR.load rfl rfl g46 (Tlv.enc_sub _)) ?_
    refine Ye 4 rfl rfl rfl (EF.call rfl ce70 rfl Takes.nil (fun F' hle hr => times_spec F' t)) ?_
    rintro _ _ ⟨_, ⟨rfl, rfl⟩, rfl⟩
    refine J.app ?_
    refine J.caseB (fun c24 => ?_) (fun c24 => ?_)
    ·refine Yp 5 rfl rfl rfl (QP.not rfl rfl) <| Pf 6 rfl rfl rfl rfl <| Mv 7 rfl rfl rfl <| Yq 8 rfl rfl rfl (QR.load rfl rfl g46 (Tlv.enc_sub _)) ?_
     refine Yq 9 rfl rfl rfl (QR.load rfl rfl g46 (Tlv.enc_sub _)) ?_
     refine Ye 10 rfl rfl rfl (EF.call rfl ce71 rfl Takes.nil (fun F' hle hr => same_spec F' t (ownF t).1)) ?_
     rintro _ _ ⟨_, ⟨rfl, rfl⟩, rfl⟩
     refine J.app ?_
     refine J.caseB (fun c30 => ?_) (fun c30 => ?_)
     ·refine Yp 11 rfl rfl rfl (QP.not rfl rfl) <| Pf 12 rfl rfl rfl rfl <| Sg 13 rfl rfl rfl <| Sq.nil <| hk5 _ _ <| Run.cond_f rfl <| Run.seq fun k6 hk6 => Run.region ?_
      show Sq _ _ _ [0, 1, 2, 3, 4, 5, 6, 7, 8, 9, 10, 11] _ _ _ _
      refine Mv 0 rfl rfl rfl <| Mv 1 rfl rfl rfl <| Yf 2 rfl rfl rfl rfl f46_8 <| Yq 3 rfl rfl rfl (QR.load1 rfl rfl g4 (Tlv.sub_all _)) ?_
      refine J.caseB (fun c37 => ?_) (fun c37 => ?_)
      ·refine Ym 4 rfl rfl rfl rfl <| Sk 5 rfl rfl rfl <| Sk 6 rfl rfl rfl <| Sk 7 rfl rfl rfl <| Sk 8 rfl rfl rfl <| Yp 9 rfl rfl rfl (QP.pick_t rfl rfl rfl) <| Pt 10 rfl rfl rfl rfl <| Sg 11 rfl rfl rfl <| Sq.nil <| hk6 _ _ <| Run.cond_t rfl <| Run.seq fun k7 hk7 => Run.region ?_
       show Sq _ _ _ [0] _ _ _ _
       refine Sg 0 rfl rfl rfl <| Sq.nil <| hk7 _ _ <| Run.ret ?_
       exact J.ends (res_tmp rfl rfl) Takes.nil ⟨congrArg (Value.int .i64) (by unfold checkF; rw [if_neg (by unfold chk1; rw [c10, c24, c30]; simp), if_pos (by unfold chk2; rw [decide_eq_true (show t.type = 8 from c13), decide_eq_true (show t.metric ≠ 65535 from c17), c37]; rfl)]), rfl⟩
      ·refine Ym 4 rfl rfl rfl rfl <| Yf 5 rfl rfl rfl rfl f46_9 <| Yq 6 rfl rfl rfl (QR.load rfl rfl g39 (Tlv.sub_id_ _)) ?_
       refine Ye 7 rfl rfl rfl (EF.call rfl ce72 rfl Takes.nil (fun F' hle hr => named_spec F' t.id_)) ?_
       rintro _ _ ⟨_, ⟨rfl, rfl⟩, rfl⟩
       refine J.app ?_
       refine J.caseB (fun c41 => ?_) (fun c41 => ?_)
       ·refine Yp 8 rfl rfl rfl (QP.not rfl rfl) <| Yp 9 rfl rfl rfl (QP.pick_f rfl rfl rfl) <| Pt 10 rfl rfl rfl rfl <| Sg 11 rfl rfl rfl <| Sq.nil <| hk6 _ _ <| Run.cond_f rfl <| Run.seq fun k8 hk8 => Run.region ?_
        show Sq _ _ _ [0, 1, 2, 3, 4, 5, 6, 7, 8, 9, 10, 11, 12, 13, 14] _ _ _ _
        refine Fa 0 rfl rfl rfl f46_0 <| Qq 1 rfl rfl (QR.load1 rfl rfl g5 (Tlv.sub_type _)) ?_
        refine Qp 2 rfl rfl (QP.eql rfl rfl rfl) <| J.caseD (fun c48 => ?_) (fun c48 => ?_)
        ·refine Mv 3 rfl rfl rfl <| Yf 4 rfl rfl rfl rfl f46_6 <| Yq 5 rfl rfl rfl (QR.load1 rfl rfl g5 (Tlv.sub_hops _)) ?_
         refine Yp 6 rfl rfl rfl (QP.eql rfl rfl rfl) <| J.caseD (fun c52 => ?_) (fun c52 => ?_)
         ·refine Ym 7 rfl rfl rfl rfl <| Sk 8 rfl rfl rfl <| Sk 9 rfl rfl rfl <| Sk 10 rfl rfl rfl <| Sk 11 rfl rfl rfl <| Yp 12 rfl rfl rfl (QP.pick_t rfl rfl rfl) <| Pt 13 rfl rfl rfl rfl <| Sg 14 rfl rfl rfl <| Sq.nil <| hk8 _ _ <| Run.cond_t rfl <| Run.seq fun k9 hk9 => Run.region ?_
          show Sq _ _ _ [0] _ _ _ _
          refine Sg 0 rfl rfl rfl <| Sq.nil <| hk9 _ _ <| Run.ret ?_
          exact J.ends (res_tmp rfl rfl) Takes.nil ⟨congrArg (Value.int .i64) (by unfold checkF; rw [if_neg (by unfold chk1; rw [c10, c24, c30]; simp), if_neg (by unfold chk2; rw [decide_eq_true (show t.type = 8 from c13), decide_eq_true (show t.metric ≠ 65535 from c17), c37, c41]; simp), if_pos (by unfold chk3; rw [decide_eq_true (show t.type = 10 from c48), decide_eq_true (show t.hops = 0 from c52)]; rfl)]), rfl⟩
         ·refine Ym 7 rfl rfl rfl rfl <| Yf 8 rfl rfl rfl rfl f46_9 <| Yq 9 rfl rfl rfl (QR.load rfl rfl g39 (Tlv.sub_id_ _)) ?_
          refine Yp 10 rfl rfl rfl (QP.const (.agg (Bs.enc (⟨[0, 0, 0, 0, 0, 0, 0, 0], rfl⟩ : Bs 8)).toArray) (fun _ _ => by kernel_rfl)) <| Yp 11 rfl rfl rfl (QP.eql_agg eq39 rfl rfl rfl) <| J.caseD (fun c57 => ?_) (fun c57 => ?_)
          ·refine Yp 12 rfl rfl rfl (QP.pick_f rfl rfl rfl) <| Pt 13 rfl rfl rfl rfl <| Sg 14 rfl rfl rfl <| Sq.nil <| hk8 _ _ <| Run.cond_t rfl <| Run.seq fun k10 hk10 => Run.region ?_
           show Sq _ _ _ [0] _ _ _ _
           refine Sg 0 rfl rfl rfl <| Sq.nil <| hk10 _ _ <| Run.ret ?_
           exact J.ends (res_tmp rfl rfl) Takes.nil ⟨congrArg (Value.int .i64) (by unfold checkF; rw [if_neg (by unfold chk1; rw [c10, c24, c30]; simp), if_neg (by unfold chk2; rw [decide_eq_true (show t.type = 8 from c13), decide_eq_true (show t.metric ≠ 65535 from c17), c37, c41]; simp), if_pos (by unfold chk3; rw [decide_eq_true (show t.type = 10 from c48), decide_eq_false (show ¬ t.hops = 0 from c52), decide_eq_true (show t.id_ = Bs.zero 8 from c57)]; rfl)]), rfl⟩
          ·refine Yp 12 rfl rfl rfl (QP.pick_f rfl rfl rfl) <| Pt 13 rfl rfl rfl rfl <| Sg 14 rfl rfl rfl <| Sq.nil <| hk8 _ _ <| Run.cond_f rfl <| Run.seq fun k11 hk11 => Run.region ?_
           show Sq _ _ _ [0, 1, 2] _ _ _ _
           refine Qq 0 rfl rfl (QR.load rfl rfl g46 (Tlv.enc_sub _)) ?_
           refine Ef 1 rfl rfl (EF.call rfl ce73 rfl Takes.nil (fun F' hle hr => paired_spec F' t)) ?_
           rintro _ _ ⟨_, ⟨rfl, rfl⟩, rfl⟩
           refine J.app ?_
           refine J.caseB (fun c62 => ?_) (fun c62 => ?_)
           ·refine Sg 2 rfl rfl rfl <| Sq.nil <| hk11 _ _ <| Run.cond_t rfl <| Run.seq fun k12 hk12 => Run.region ?_
            show Sq _ _ _ [0, 1, 2, 3] _ _ _ _
            refine Fa 0 rfl rfl rfl f46_11 <| Qq 1 rfl rfl (QR.load rfl rfl g43 (Tlv.sub_pair _)) ?_
            refine Ef 2 rfl rfl (EF.call rfl ce74 rfl Takes.nil (fun F' hle hr => checkPair_spec F' t.pair)) ?_
            rintro _ _ ⟨_, ⟨rfl, rfl⟩, rfl⟩
            refine J.app ?_
            refine Sg 3 rfl rfl rfl <| Sq.nil <| hk12 _ _ <| Run.ret ?_
            exact J.ends (res_tmp rfl rfl) Takes.nil ⟨congrArg (Value.int .i64) (by unfold checkF; rw [if_neg (by unfold chk1; rw [c10, c24, c30]; simp), if_neg (by unfold chk2; rw [decide_eq_true (show t.type = 8 from c13), decide_eq_true (show t.metric ≠ 65535 from c17), c37, c41]; simp), if_neg (by unfold chk3; rw [decide_eq_true (show t.type = 10 from c48), decide_eq_false (show ¬ t.hops = 0 from c52), decide_eq_false (show ¬ t.id_ = Bs.zero 8 from c57)]; simp), if_pos c62]), rfl⟩
           ·refine Sg 2 rfl rfl rfl <| Sq.nil <| hk11 _ _ <| Run.cond_f rfl <| Run.skip <| hk4 _ _ <| Run.seq fun k13 hk13 => Run.region ?_
            show Sq _ _ _ [0] _ _ _ _
            refine Sg 0 rfl rfl rfl <| Sq.nil <| hk13 _ _ <| Run.ret ?_
            exact J.ends (res_tmp rfl rfl) Takes.nil ⟨congrArg (Value.int .i64) (by unfold checkF; rw [if_neg (by unfold chk1; rw [c10, c24, c30]; simp), if_neg (by unfold chk2; rw [decide_eq_true (show t.type = 8 from c13), decide_eq_true (show t.metric ≠ 65535 from c17), c37, c41]; simp), if_neg (by unfold chk3; rw [decide_eq_true (show t.type = 10 from c48), decide_eq_false (show ¬ t.hops = 0 from c52), decide_eq_false (show ¬ t.id_ = Bs.zero 8 from c57)]; simp), if_neg (by rw [c62]; simp)]), rfl⟩
        ·refine Mv 3 rfl rfl rfl <| Sk 4 rfl rfl rfl <| Sk 5 rfl rfl rfl <| Sk 6 rfl rfl rfl <| Sk 7 rfl rfl rfl <| Sq.skip (i := 8) rfl (Want.undef rfl rfl rfl) rfl (ltN rfl) ?_
         refine Sq.skip (i := 9) rfl (Want.undef rfl rfl rfl) rfl (ltN rfl) ?_
         refine Sq.skip (i := 10) rfl (Want.undef rfl rfl rfl) rfl (ltN rfl) ?_
         refine Sq.skip (i := 11) rfl (Want.undef rfl rfl rfl) rfl (ltN rfl) ?_
         refine Sk 12 rfl rfl rfl <| Pf 13 rfl rfl rfl rfl <| Sg 14 rfl rfl rfl <| Sq.nil <| hk8 _ _ <| Run.cond_f rfl <| Run.seq fun k14 hk14 => Run.region ?_
         show Sq _ _ _ [0, 1, 2] _ _ _ _
         refine Qq 0 rfl rfl (QR.load rfl rfl g46 (Tlv.enc_sub _)) ?_
         refine Ef 1 rfl rfl (EF.call rfl ce73 rfl Takes.nil (fun F' hle hr => paired_spec F' t)) ?_
         rintro _ _ ⟨_, ⟨rfl, rfl⟩, rfl⟩
         refine J.app ?_
         refine J.caseB (fun c62 => ?_) (fun c62 => ?_)
         ·refine Sg 2 rfl rfl rfl <| Sq.nil <| hk14 _ _ <| Run.cond_t rfl <| Run.seq fun k15 hk15 => Run.region ?_
          show Sq _ _ _ [0, 1, 2, 3] _ _ _ _
          refine Fa 0 rfl rfl rfl f46_11 <| Qq 1 rfl rfl (QR.load rfl rfl g43 (Tlv.sub_pair _)) ?_
          refine Ef 2 rfl rfl (EF.call rfl ce74 rfl Takes.nil (fun F' hle hr => checkPair_spec F' t.pair)) ?_
          rintro _ _ ⟨_, ⟨rfl, rfl⟩, rfl⟩
          refine J.app ?_
          refine Sg 3 rfl rfl rfl <| Sq.nil <| hk15 _ _ <| Run.ret ?_
          exact J.ends (res_tmp rfl rfl) Takes.nil ⟨congrArg (Value.int .i64) (by unfold checkF; rw [if_neg (by unfold chk1; rw [c10, c24, c30]; simp), if_neg (by unfold chk2; rw [decide_eq_true (show t.type = 8 from c13), decide_eq_true (show t.metric ≠ 65535 from c17), c37, c41]; simp), if_neg (by unfold chk3; rw [decide_eq_false (show ¬ t.type = 10 from c48)]; simp), if_pos c62]), rfl⟩
         ·refine Sg 2 rfl rfl rfl <| Sq.nil <| hk14 _ _ <| Run.cond_f rfl <| Run.skip <| hk4 _ _ <| Run.seq fun k16 hk16 => Run.region ?_
          show Sq _ _ _ [0] _ _ _ _
          refine Sg 0 rfl rfl rfl <| Sq.nil <| hk16 _ _ <| Run.ret ?_
          exact J.ends (res_tmp rfl rfl) Takes.nil ⟨congrArg (Value.int .i64) (by unfold checkF; rw [if_neg (by unfold chk1; rw [c10, c24, c30]; simp), if_neg (by unfold chk2; rw [decide_eq_true (show t.type = 8 from c13), decide_eq_true (show t.metric ≠ 65535 from c17), c37, c41]; simp), if_neg (by unfold chk3; rw [decide_eq_false (show ¬ t.type = 10 from c48)]; simp), if_neg (by rw [c62]; simp)]), rfl⟩
       ·refine Yp 8 rfl rfl rfl (QP.not rfl rfl) <| Yp 9 rfl rfl rfl (QP.pick_f rfl rfl rfl) <| Pt 10 rfl rfl rfl rfl <| Sg 11 rfl rfl rfl <| Sq.nil <| hk6 _ _ <| Run.cond_t rfl <| Run.seq fun k17 hk17 => Run.region ?_
        show Sq _ _ _ [0] _ _ _ _
        refine Sg 0 rfl rfl rfl <| Sq.nil <| hk17 _ _ <| Run.ret ?_
        exact J.ends (res_tmp rfl rfl) Takes.nil ⟨congrArg (Value.int .i64) (by unfold checkF; rw [if_neg (by unfold chk1; rw [c10, c24, c30]; simp), if_pos (by unfold chk2; rw [decide_eq_true (show t.type = 8 from c13), decide_eq_true (show t.metric ≠ 65535 from c17), c37, c41]; rfl)]), rfl⟩
     ·refine Yp 11 rfl rfl rfl (QP.not rfl rfl) <| Pf 12 rfl rfl rfl rfl <| Sg 13 rfl rfl rfl <| Sq.nil <| hk5 _ _ <| Run.cond_t rfl <| Run.seq fun k18 hk18 => Run.region ?_
      show Sq _ _ _ [0] _ _ _ _
      refine Sg 0 rfl rfl rfl <| Sq.nil <| hk18 _ _ <| Run.ret ?_
      exact J.ends (res_tmp rfl rfl) Takes.nil ⟨congrArg (Value.int .i64) (by unfold checkF; rw [if_pos (by unfold chk1; rw [c10, c24, c30]; rfl)]), rfl⟩
    ·refine Yp 5 rfl rfl rfl (QP.not rfl rfl) <| Pf 6 rfl rfl rfl rfl <| Mv 7 rfl rfl rfl <| Sk 8 rfl rfl rfl <| Sk 9 rfl rfl rfl <| Sk 10 rfl rfl rfl <| Sk 11 rfl rfl rfl <| Pt 12 rfl rfl rfl rfl <| Sg 13 rfl rfl rfl <| Sq.nil <| hk5 _ _ <| Run.cond_t rfl <| Run.seq fun k19 hk19 => Run.region ?_
     show Sq _ _ _ [0] _ _ _ _
     refine Sg 0 rfl rfl rfl <| Sq.nil <| hk19 _ _ <| Run.ret ?_
     exact J.ends (res_tmp rfl rfl) Takes.nil ⟨congrArg (Value.int .i64) (by unfold checkF; rw [if_pos (by unfold chk1; rw [c10, c24]; rfl)]), rfl⟩
   ·refine Pt 7 rfl rfl rfl rfl <| Sg 8 rfl rfl rfl <| Sq.nil <| hk3 _ _ <| Run.seq fun k20 hk20 => Run.block <| Run.seq fun k21 hk21 => Run.region ?_
    show Sq _ _ _ [0, 1, 2, 3, 4, 5, 6, 7, 8, 9, 10, 11, 12, 13] _ _ _ _
    refine Mv 0 rfl rfl rfl <| Qp 1 rfl rfl (QP.not rfl rfl) <| Mv 2 rfl rfl rfl <| Yq 3 rfl rfl rfl (QR.load rfl rfl g46 (Tlv.enc_sub _)) ?_
    refine Ye 4 rfl rfl rfl (EF.call rfl ce70 rfl Takes.nil (fun F' hle hr => times_spec F' t)) ?_
    rintro _ _ ⟨_, ⟨rfl, rfl⟩, rfl⟩
    refine J.app ?_
    refine J.caseB (fun c24 => ?_) (fun c24 => ?_)
    ·refine Yp 5 rfl rfl rfl (QP.not rfl rfl) <| Pf 6 rfl rfl rfl rfl <| Mv 7 rfl rfl rfl <| Yq 8 rfl rfl rfl (QR.load rfl rfl g46 (Tlv.enc_sub _)) ?_
     refine Yq 9 rfl rfl rfl (QR.load rfl rfl g46 (Tlv.enc_sub _)) ?_
     refine Ye 10 rfl rfl rfl (EF.call rfl ce71 rfl Takes.nil (fun F' hle hr => same_spec F' t (ownF t).1)) ?_
     rintro _ _ ⟨_, ⟨rfl, rfl⟩, rfl⟩
     refine J.app ?_
     refine J.caseB (fun c30 => ?_) (fun c30 => ?_)
     ·refine Yp 11 rfl rfl rfl (QP.not rfl rfl) <| Pf 12 rfl rfl rfl rfl <| Sg 13 rfl rfl rfl <| Sq.nil <| hk21 _ _ <| Run.cond_f rfl <| Run.seq fun k22 hk22 => Run.region ?_
      show Sq _ _ _ [0, 1, 2, 3, 4, 5, 6, 7, 8, 9, 10, 11] _ _ _ _
      refine Mv 0 rfl rfl rfl <| Mv 1 rfl rfl rfl <| Sk 2 rfl rfl rfl <| Sk 3 rfl rfl rfl <| Sk 4 rfl rfl rfl <| Sq.skip (i := 5) rfl (Want.undef rfl rfl rfl) rfl (ltN rfl) ?_
      refine Sq.skip (i := 6) rfl (Want.undef rfl rfl rfl) rfl (ltN rfl) ?_
      refine Sq.skip (i := 7) rfl (Want.undef rfl rfl rfl) rfl (ltN rfl) ?_
      refine Sq.skip (i := 8) rfl (Want.undef rfl rfl rfl) rfl (ltN rfl) ?_
      refine Sk 9 rfl rfl rfl <| Pf 10 rfl rfl rfl rfl <| Sg 11 rfl rfl rfl <| Sq.nil <| hk22 _ _ <| Run.cond_f rfl <| Run.seq fun k23 hk23 => Run.region ?_
      show Sq _ _ _ [0, 1, 2, 3, 4, 5, 6, 7, 8, 9, 10, 11, 12, 13, 14] _ _ _ _
      refine Fa 0 rfl rfl rfl f46_0 <| Qq 1 rfl rfl (QR.load1 rfl rfl g5 (Tlv.sub_type _)) ?_
      refine Qp 2 rfl rfl (QP.eql rfl rfl rfl) <| J.caseD (fun c48 => ?_) (fun c48 => ?_)
      ·refine Mv 3 rfl rfl rfl <| Yf 4 rfl rfl rfl rfl f46_6 <| Yq 5 rfl rfl rfl (QR.load1 rfl rfl g5 (Tlv.sub_hops _)) ?_
       refine Yp 6 rfl rfl rfl (QP.eql rfl rfl rfl) <| J.caseD (fun c52 => ?_) (fun c52 => ?_)
       ·refine Ym 7 rfl rfl rfl rfl <| Sk 8 rfl rfl rfl <| Sk 9 rfl rfl rfl <| Sk 10 rfl rfl rfl <| Sk 11 rfl rfl rfl <| Yp 12 rfl rfl rfl (QP.pick_t rfl rfl rfl) <| Pt 13 rfl rfl rfl rfl <| Sg 14 rfl rfl rfl <| Sq.nil <| hk23 _ _ <| Run.cond_t rfl <| Run.seq fun k24 hk24 => Run.region ?_
        show Sq _ _ _ [0] _ _ _ _
        refine Sg 0 rfl rfl rfl <| Sq.nil <| hk24 _ _ <| Run.ret ?_
        exact J.ends (res_tmp rfl rfl) Takes.nil ⟨congrArg (Value.int .i64) (by unfold checkF; rw [if_neg (by unfold chk1; rw [c10, c24, c30]; simp), if_neg (by unfold chk2; rw [decide_eq_true (show t.type = 8 from c13), decide_eq_false (show ¬ t.metric ≠ 65535 from c17)]; simp), if_pos (by unfold chk3; rw [decide_eq_true (show t.type = 10 from c48), decide_eq_true (show t.hops = 0 from c52)]; rfl)]), rfl⟩
       ·refine Ym 7 rfl rfl rfl rfl <| Yf 8 rfl rfl rfl rfl f46_9 <| Yq 9 rfl rfl rfl (QR.load rfl rfl g39 (Tlv.sub_id_ _)) ?_
        refine Yp 10 rfl rfl rfl (QP.const (.agg (Bs.enc (⟨[0, 0, 0, 0, 0, 0, 0, 0], rfl⟩ : Bs 8)).toArray) (fun _ _ => by kernel_rfl)) <| Yp 11 rfl rfl rfl (QP.eql_agg eq39 rfl rfl rfl) <| J.caseD (fun c57 => ?_) (fun c57 => ?_)
        ·refine Yp 12 rfl rfl rfl (QP.pick_f rfl rfl rfl) <| Pt 13 rfl rfl rfl rfl <| Sg 14 rfl rfl rfl <| Sq.nil <| hk23 _ _ <| Run.cond_t rfl <| Run.seq fun k25 hk25 => Run.region ?_
         show Sq _ _ _ [0] _ _ _ _
         refine Sg 0 rfl rfl rfl <| Sq.nil <| hk25 _ _ <| Run.ret ?_
         exact J.ends (res_tmp rfl rfl) Takes.nil ⟨congrArg (Value.int .i64) (by unfold checkF; rw [if_neg (by unfold chk1; rw [c10, c24, c30]; simp), if_neg (by unfold chk2; rw [decide_eq_true (show t.type = 8 from c13), decide_eq_false (show ¬ t.metric ≠ 65535 from c17)]; simp), if_pos (by unfold chk3; rw [decide_eq_true (show t.type = 10 from c48), decide_eq_false (show ¬ t.hops = 0 from c52), decide_eq_true (show t.id_ = Bs.zero 8 from c57)]; rfl)]), rfl⟩
        ·refine Yp 12 rfl rfl rfl (QP.pick_f rfl rfl rfl) <| Pt 13 rfl rfl rfl rfl <| Sg 14 rfl rfl rfl <| Sq.nil <| hk23 _ _ <| Run.cond_f rfl <| Run.seq fun k26 hk26 => Run.region ?_
         show Sq _ _ _ [0, 1, 2] _ _ _ _
         refine Qq 0 rfl rfl (QR.load rfl rfl g46 (Tlv.enc_sub _)) ?_
         refine Ef 1 rfl rfl (EF.call rfl ce73 rfl Takes.nil (fun F' hle hr => paired_spec F' t)) ?_
         rintro _ _ ⟨_, ⟨rfl, rfl⟩, rfl⟩
         refine J.app ?_
         refine J.caseB (fun c62 => ?_) (fun c62 => ?_)
         ·refine Sg 2 rfl rfl rfl <| Sq.nil <| hk26 _ _ <| Run.cond_t rfl <| Run.seq fun k27 hk27 => Run.region ?_
          show Sq _ _ _ [0, 1, 2, 3] _ _ _ _
          refine Fa 0 rfl rfl rfl f46_11 <| Qq 1 rfl rfl (QR.load rfl rfl g43 (Tlv.sub_pair _)) ?_
          refine Ef 2 rfl rfl (EF.call rfl ce74 rfl Takes.nil (fun F' hle hr => checkPair_spec F' t.pair)) ?_
          rintro _ _ ⟨_, ⟨rfl, rfl⟩, rfl⟩
          refine J.app ?_
          refine Sg 3 rfl rfl rfl <| Sq.nil <| hk27 _ _ <| Run.ret ?_
          exact J.ends (res_tmp rfl rfl) Takes.nil ⟨congrArg (Value.int .i64) (by unfold checkF; rw [if_neg (by unfold chk1; rw [c10, c24, c30]; simp), if_neg (by unfold chk2; rw [decide_eq_true (show t.type = 8 from c13), decide_eq_false (show ¬ t.metric ≠ 65535 from c17)]; simp), if_neg (by unfold chk3; rw [decide_eq_true (show t.type = 10 from c48), decide_eq_false (show ¬ t.hops = 0 from c52), decide_eq_false (show ¬ t.id_ = Bs.zero 8 from c57)]; simp), if_pos c62]), rfl⟩
         ·refine Sg 2 rfl rfl rfl <| Sq.nil <| hk26 _ _ <| Run.cond_f rfl <| Run.skip <| hk20 _ _ <| Run.seq fun k28 hk28 => Run.region ?_
          show Sq _ _ _ [0] _ _ _ _
          refine Sg 0 rfl rfl rfl <| Sq.nil <| hk28 _ _ <| Run.ret ?_
          exact J.ends (res_tmp rfl rfl) Takes.nil ⟨congrArg (Value.int .i64) (by unfold checkF; rw [if_neg (by unfold chk1; rw [c10, c24, c30]; simp), if_neg (by unfold chk2; rw [decide_eq_true (show t.type = 8 from c13), decide_eq_false (show ¬ t.metric ≠ 65535 from c17)]; simp), if_neg (by unfold chk3; rw [decide_eq_true (show t.type = 10 from c48), decide_eq_false (show ¬ t.hops = 0 from c52), decide_eq_false (show ¬ t.id_ = Bs.zero 8 from c57)]; simp), if_neg (by rw [c62]; simp)]), rfl⟩
      ·refine Mv 3 rfl rfl rfl <| Sk 4 rfl rfl rfl <| Sk 5 rfl rfl rfl <| Sk 6 rfl rfl rfl <| Sk 7 rfl rfl rfl <| Sq.skip (i := 8) rfl (Want.undef rfl rfl rfl) rfl (ltN rfl) ?_
       refine Sq.skip (i := 9) rfl (Want.undef rfl rfl rfl) rfl (ltN rfl) ?_
       refine Sq.skip (i := 10) rfl (Want.undef rfl rfl rfl) rfl (ltN rfl) ?_
       refine Sq.skip (i := 11) rfl (Want.undef rfl rfl rfl) rfl (ltN rfl) ?_
       refine Sk 12 rfl rfl rfl <| Pf 13 rfl rfl rfl rfl <| Sg 14 rfl rfl rfl <| Sq.nil <| hk23 _ _ <| Run.cond_f rfl <| Run.seq fun k29 hk29 => Run.region ?_
       show Sq _ _ _ [0, 1, 2] _ _ _ _
       refine Qq 0 rfl rfl (QR.load rfl rfl g46 (Tlv.enc_sub _)) ?_
       refine Ef 1 rfl rfl (EF.call rfl ce73 rfl Takes.nil (fun F' hle hr => paired_spec F' t)) ?_
       rintro _ _ ⟨_, ⟨rfl, rfl⟩, rfl⟩
       refine J.app ?_
       refine J.caseB (fun c62 => ?_) (fun c62 => ?_)
       ·refine Sg 2 rfl rfl rfl <| Sq.nil <| hk29 _ _ <| Run.cond_t rfl <| Run.seq fun k30 hk30 => Run.region ?_
        show Sq _ _ _ [0, 1, 2, 3] _ _ _ _
        refine Fa 0 rfl rfl rfl f46_11 <| Qq 1 rfl rfl (QR.load rfl rfl g43 (Tlv.sub_pair _)) ?_
        refine Ef 2 rfl rfl (EF.call rfl ce74 rfl Takes.nil (fun F' hle hr => checkPair_spec F' t.pair)) ?_
        rintro _ _ ⟨_, ⟨rfl, rfl⟩, rfl⟩
        refine J.app ?_
        refine Sg 3 rfl rfl rfl <| Sq.nil <| hk30 _ _ <| Run.ret ?_
        exact J.ends (res_tmp rfl rfl) Takes.nil ⟨congrArg (Value.int .i64) (by unfold checkF; rw [if_neg (by unfold chk1; rw [c10, c24, c30]; simp), if_neg (by unfold chk2; rw [decide_eq_true (show t.type = 8 from c13), decide_eq_false (show ¬ t.metric ≠ 65535 from c17)]; simp), if_neg (by unfold chk3; rw [decide_eq_false (show ¬ t.type = 10 from c48)]; simp), if_pos c62]), rfl⟩
       ·refine Sg 2 rfl rfl rfl <| Sq.nil <| hk29 _ _ <| Run.cond_f rfl <| Run.skip <| hk20 _ _ <| Run.seq fun k31 hk31 => Run.region ?_
        show Sq _ _ _ [0] _ _ _ _
        refine Sg 0 rfl rfl rfl <| Sq.nil <| hk31 _ _ <| Run.ret ?_
        exact J.ends (res_tmp rfl rfl) Takes.nil ⟨congrArg (Value.int .i64) (by unfold checkF; rw [if_neg (by unfold chk1; rw [c10, c24, c30]; simp), if_neg (by unfold chk2; rw [decide_eq_true (show t.type = 8 from c13), decide_eq_false (show ¬ t.metric ≠ 65535 from c17)]; simp), if_neg (by unfold chk3; rw [decide_eq_false (show ¬ t.type = 10 from c48)]; simp), if_neg (by rw [c62]; simp)]), rfl⟩
     ·refine Yp 11 rfl rfl rfl (QP.not rfl rfl) <| Pf 12 rfl rfl rfl rfl <| Sg 13 rfl rfl rfl <| Sq.nil <| hk21 _ _ <| Run.cond_t rfl <| Run.seq fun k32 hk32 => Run.region ?_
      show Sq _ _ _ [0] _ _ _ _
      refine Sg 0 rfl rfl rfl <| Sq.nil <| hk32 _ _ <| Run.ret ?_
      exact J.ends (res_tmp rfl rfl) Takes.nil ⟨congrArg (Value.int .i64) (by unfold checkF; rw [if_pos (by unfold chk1; rw [c10, c24, c30]; rfl)]), rfl⟩
    ·refine Yp 5 rfl rfl rfl (QP.not rfl rfl) <| Pf 6 rfl rfl rfl rfl <| Mv 7 rfl rfl rfl <| Sk 8 rfl rfl rfl <| Sk 9 rfl rfl rfl <| Sk 10 rfl rfl rfl <| Sk 11 rfl rfl rfl <| Pt 12 rfl rfl rfl rfl <| Sg 13 rfl rfl rfl <| Sq.nil <| hk21 _ _ <| Run.cond_t rfl <| Run.seq fun k33 hk33 => Run.region ?_
     show Sq _ _ _ [0] _ _ _ _
     refine Sg 0 rfl rfl rfl <| Sq.nil <| hk33 _ _ <| Run.ret ?_
     exact J.ends (res_tmp rfl rfl) Takes.nil ⟨congrArg (Value.int .i64) (by unfold checkF; rw [if_pos (by unfold chk1; rw [c10, c24]; rfl)]), rfl⟩
  ·refine Mv 3 rfl rfl rfl <| Sk 4 rfl rfl rfl <| Sk 5 rfl rfl rfl <| Sk 6 rfl rfl rfl <| Pf 7 rfl rfl rfl rfl <| Sg 8 rfl rfl rfl <| Sq.nil <| hk3 _ _ <| Run.seq fun k34 hk34 => Run.block <| Run.seq fun k35 hk35 => Run.region ?_
   show Sq _ _ _ [0, 1, 2, 3, 4, 5, 6, 7, 8, 9, 10, 11, 12, 13] _ _ _ _
   refine Mv 0 rfl rfl rfl <| Qp 1 rfl rfl (QP.not rfl rfl) <| Mv 2 rfl rfl rfl <| Yq 3 rfl rfl rfl (QR.load rfl rfl g46 (Tlv.enc_sub _)) ?_
   refine Ye 4 rfl rfl rfl (EF.call rfl ce70 rfl Takes.nil (fun F' hle hr => times_spec F' t)) ?_
   rintro _ _ ⟨_, ⟨rfl, rfl⟩, rfl⟩
   refine J.app ?_
   refine J.caseB (fun c24 => ?_) (fun c24 => ?_)
   ·refine Yp 5 rfl rfl rfl (QP.not rfl rfl) <| Pf 6 rfl rfl rfl rfl <| Mv 7 rfl rfl rfl <| Yq 8 rfl rfl rfl (QR.load rfl rfl g46 (Tlv.enc_sub _)) ?_
    refine Yq 9 rfl rfl rfl (QR.load rfl rfl g46 (Tlv.enc_sub _)) ?_
    refine Ye 10 rfl rfl rfl (EF.call rfl ce71 rfl Takes.nil (fun F' hle hr => same_spec F' t (ownF t).1)) ?_
    rintro _ _ ⟨_, ⟨rfl, rfl⟩, rfl⟩
    refine J.app ?_
    refine J.caseB (fun c30 => ?_) (fun c30 => ?_)
    ·refine Yp 11 rfl rfl rfl (QP.not rfl rfl) <| Pf 12 rfl rfl rfl rfl <| Sg 13 rfl rfl rfl <| Sq.nil <| hk35 _ _ <| Run.cond_f rfl <| Run.seq fun k36 hk36 => Run.region ?_
     show Sq _ _ _ [0, 1, 2, 3, 4, 5, 6, 7, 8, 9, 10, 11] _ _ _ _
     refine Mv 0 rfl rfl rfl <| Mv 1 rfl rfl rfl <| Sk 2 rfl rfl rfl <| Sk 3 rfl rfl rfl <| Sk 4 rfl rfl rfl <| Sq.skip (i := 5) rfl (Want.undef rfl rfl rfl) rfl (ltN rfl) ?_
     refine Sq.skip (i := 6) rfl (Want.undef rfl rfl rfl) rfl (ltN rfl) ?_
     refine Sq.skip (i := 7) rfl (Want.undef rfl rfl rfl) rfl (ltN rfl) ?_
     refine Sq.skip (i := 8) rfl (Want.undef rfl rfl rfl) rfl (ltN rfl) ?_
     refine Sk 9 rfl rfl rfl <| Pf 10 rfl rfl rfl rfl <| Sg 11 rfl rfl rfl <| Sq.nil <| hk36 _ _ <| Run.cond_f rfl <| Run.seq fun k37 hk37 => Run.region ?_
     show Sq _ _ _ [0, 1, 2, 3, 4, 5, 6, 7, 8, 9, 10, 11, 12, 13, 14] _ _ _ _
     refine Fa 0 rfl rfl rfl f46_0 <| Qq 1 rfl rfl (QR.load1 rfl rfl g5 (Tlv.sub_type _)) ?_
     refine Qp 2 rfl rfl (QP.eql rfl rfl rfl) <| J.caseD (fun c48 => ?_) (fun c48 => ?_)
     ·refine Mv 3 rfl rfl rfl <| Yf 4 rfl rfl rfl rfl f46_6 <| Yq 5 rfl rfl rfl (QR.load1 rfl rfl g5 (Tlv.sub_hops _)) ?_
      refine Yp 6 rfl rfl rfl (QP.eql rfl rfl rfl) <| J.caseD (fun c52 => ?_) (fun c52 => ?_)
      ·refine Ym 7 rfl rfl rfl rfl <| Sk 8 rfl rfl rfl <| Sk 9 rfl rfl rfl <| Sk 10 rfl rfl rfl <| Sk 11 rfl rfl rfl <| Yp 12 rfl rfl rfl (QP.pick_t rfl rfl rfl) <| Pt 13 rfl rfl rfl rfl <| Sg 14 rfl rfl rfl <| Sq.nil <| hk37 _ _ <| Run.cond_t rfl <| Run.seq fun k38 hk38 => Run.region ?_
       show Sq _ _ _ [0] _ _ _ _
       refine Sg 0 rfl rfl rfl <| Sq.nil <| hk38 _ _ <| Run.ret ?_
       exact J.ends (res_tmp rfl rfl) Takes.nil ⟨congrArg (Value.int .i64) (by unfold checkF; rw [if_neg (by unfold chk1; rw [c10, c24, c30]; simp), if_neg (by unfold chk2; rw [decide_eq_false (show ¬ t.type = 8 from c13)]; simp), if_pos (by unfold chk3; rw [decide_eq_true (show t.type = 10 from c48), decide_eq_true (show t.hops = 0 from c52)]; rfl)]), rfl⟩
      ·refine Ym 7 rfl rfl rfl rfl <| Yf 8 rfl rfl rfl rfl f46_9 <| Yq 9 rfl rfl rfl (QR.load rfl rfl g39 (Tlv.sub_id_ _)) ?_
       refine Yp 10 rfl rfl rfl (QP.const (.agg (Bs.enc (⟨[0, 0, 0, 0, 0, 0, 0, 0], rfl⟩ : Bs 8)).toArray) (fun _ _ => by kernel_rfl)) <| Yp 11 rfl rfl rfl (QP.eql_agg eq39 rfl rfl rfl) <| J.caseD (fun c57 => ?_) (fun c57 => ?_)
       ·refine Yp 12 rfl rfl rfl (QP.pick_f rfl rfl rfl) <| Pt 13 rfl rfl rfl rfl <| Sg 14 rfl rfl rfl <| Sq.nil <| hk37 _ _ <| Run.cond_t rfl <| Run.seq fun k39 hk39 => Run.region ?_
        show Sq _ _ _ [0] _ _ _ _
        refine Sg 0 rfl rfl rfl <| Sq.nil <| hk39 _ _ <| Run.ret ?_
        exact J.ends (res_tmp rfl rfl) Takes.nil ⟨congrArg (Value.int .i64) (by unfold checkF; rw [if_neg (by unfold chk1; rw [c10, c24, c30]; simp), if_neg (by unfold chk2; rw [decide_eq_false (show ¬ t.type = 8 from c13)]; simp), if_pos (by unfold chk3; rw [decide_eq_true (show t.type = 10 from c48), decide_eq_false (show ¬ t.hops = 0 from c52), decide_eq_true (show t.id_ = Bs.zero 8 from c57)]; rfl)]), rfl⟩
       ·refine Yp 12 rfl rfl rfl (QP.pick_f rfl rfl rfl) <| Pt 13 rfl rfl rfl rfl <| Sg 14 rfl rfl rfl <| Sq.nil <| hk37 _ _ <| Run.cond_f rfl <| Run.seq fun k40 hk40 => Run.region ?_
        show Sq _ _ _ [0, 1, 2] _ _ _ _
        refine Qq 0 rfl rfl (QR.load rfl rfl g46 (Tlv.enc_sub _)) ?_
        refine Ef 1 rfl rfl (EF.call rfl ce73 rfl Takes.nil (fun F' hle hr => paired_spec F' t)) ?_
        rintro _ _ ⟨_, ⟨rfl, rfl⟩, rfl⟩
        refine J.app ?_
        refine J.caseB (fun c62 => ?_) (fun c62 => ?_)
        ·refine Sg 2 rfl rfl rfl <| Sq.nil <| hk40 _ _ <| Run.cond_t rfl <| Run.seq fun k41 hk41 => Run.region ?_
         show Sq _ _ _ [0, 1, 2, 3] _ _ _ _
         refine Fa 0 rfl rfl rfl f46_11 <| Qq 1 rfl rfl (QR.load rfl rfl g43 (Tlv.sub_pair _)) ?_
         refine Ef 2 rfl rfl (EF.call rfl ce74 rfl Takes.nil (fun F' hle hr => checkPair_spec F' t.pair)) ?_
         rintro _ _ ⟨_, ⟨rfl, rfl⟩, rfl⟩
         refine J.app ?_
         refine Sg 3 rfl rfl rfl <| Sq.nil <| hk41 _ _ <| Run.ret ?_
         exact J.ends (res_tmp rfl rfl) Takes.nil ⟨congrArg (Value.int .i64) (by unfold checkF; rw [if_neg (by unfold chk1; rw [c10, c24, c30]; simp), if_neg (by unfold chk2; rw [decide_eq_false (show ¬ t.type = 8 from c13)]; simp), if_neg (by unfold chk3; rw [decide_eq_true (show t.type = 10 from c48), decide_eq_false (show ¬ t.hops = 0 from c52), decide_eq_false (show ¬ t.id_ = Bs.zero 8 from c57)]; simp), if_pos c62]), rfl⟩
        ·refine Sg 2 rfl rfl rfl <| Sq.nil <| hk40 _ _ <| Run.cond_f rfl <| Run.skip <| hk34 _ _ <| Run.seq fun k42 hk42 => Run.region ?_
         show Sq _ _ _ [0] _ _ _ _
         refine Sg 0 rfl rfl rfl <| Sq.nil <| hk42 _ _ <| Run.ret ?_
         exact J.ends (res_tmp rfl rfl) Takes.nil ⟨congrArg (Value.int .i64) (by unfold checkF; rw [if_neg (by unfold chk1; rw [c10, c24, c30]; simp), if_neg (by unfold chk2; rw [decide_eq_false (show ¬ t.type = 8 from c13)]; simp), if_neg (by unfold chk3; rw [decide_eq_true (show t.type = 10 from c48), decide_eq_false (show ¬ t.hops = 0 from c52), decide_eq_false (show ¬ t.id_ = Bs.zero 8 from c57)]; simp), if_neg (by rw [c62]; simp)]), rfl⟩
     ·refine Mv 3 rfl rfl rfl <| Sk 4 rfl rfl rfl <| Sk 5 rfl rfl rfl <| Sk 6 rfl rfl rfl <| Sk 7 rfl rfl rfl <| Sq.skip (i := 8) rfl (Want.undef rfl rfl rfl) rfl (ltN rfl) ?_
      refine Sq.skip (i := 9) rfl (Want.undef rfl rfl rfl) rfl (ltN rfl) ?_
      refine Sq.skip (i := 10) rfl (Want.undef rfl rfl rfl) rfl (ltN rfl) ?_
      refine Sq.skip (i := 11) rfl (Want.undef rfl rfl rfl) rfl (ltN rfl) ?_
      refine Sk 12 rfl rfl rfl <| Pf 13 rfl rfl rfl rfl <| Sg 14 rfl rfl rfl <| Sq.nil <| hk37 _ _ <| Run.cond_f rfl <| Run.seq fun k43 hk43 => Run.region ?_
      show Sq _ _ _ [0, 1, 2] _ _ _ _
      refine Qq 0 rfl rfl (QR.load rfl rfl g46 (Tlv.enc_sub _)) ?_
      refine Ef 1 rfl rfl (EF.call rfl ce73 rfl Takes.nil (fun F' hle hr => paired_spec F' t)) ?_
      rintro _ _ ⟨_, ⟨rfl, rfl⟩, rfl⟩
      refine J.app ?_
      refine J.caseB (fun c62 => ?_) (fun c62 => ?_)
      ·refine Sg 2 rfl rfl rfl <| Sq.nil <| hk43 _ _ <| Run.cond_t rfl <| Run.seq fun k44 hk44 => Run.region ?_
       show Sq _ _ _ [0, 1, 2, 3] _ _ _ _
       refine Fa 0 rfl rfl rfl f46_11 <| Qq 1 rfl rfl (QR.load rfl rfl g43 (Tlv.sub_pair _)) ?_
       refine Ef 2 rfl rfl (EF.call rfl ce74 rfl Takes.nil (fun F' hle hr => checkPair_spec F' t.pair)) ?_
       rintro _ _ ⟨_, ⟨rfl, rfl⟩, rfl⟩
       refine J.app ?_
       refine Sg 3 rfl rfl rfl <| Sq.nil <| hk44 _ _ <| Run.ret ?_
       exact J.ends (res_tmp rfl rfl) Takes.nil ⟨congrArg (Value.int .i64) (by unfold checkF; rw [if_neg (by unfold chk1; rw [c10, c24, c30]; simp), if_neg (by unfold chk2; rw [decide_eq_false (show ¬ t.type = 8 from c13)]; simp), if_neg (by unfold chk3; rw [decide_eq_false (show ¬ t.type = 10 from c48)]; simp), if_pos c62]), rfl⟩
      ·refine Sg 2 rfl rfl rfl <| Sq.nil <| hk43 _ _ <| Run.cond_f rfl <| Run.skip <| hk34 _ _ <| Run.seq fun k45 hk45 => Run.region ?_
       show Sq _ _ _ [0] _ _ _ _
       refine Sg 0 rfl rfl rfl <| Sq.nil <| hk45 _ _ <| Run.ret ?_
       exact J.ends (res_tmp rfl rfl) Takes.nil ⟨congrArg (Value.int .i64) (by unfold checkF; rw [if_neg (by unfold chk1; rw [c10, c24, c30]; simp), if_neg (by unfold chk2; rw [decide_eq_false (show ¬ t.type = 8 from c13)]; simp), if_neg (by unfold chk3; rw [decide_eq_false (show ¬ t.type = 10 from c48)]; simp), if_neg (by rw [c62]; simp)]), rfl⟩
    ·refine Yp 11 rfl rfl rfl (QP.not rfl rfl) <| Pf 12 rfl rfl rfl rfl <| Sg 13 rfl rfl rfl <| Sq.nil <| hk35 _ _ <| Run.cond_t rfl <| Run.seq fun k46 hk46 => Run.region ?_
     show Sq _ _ _ [0] _ _ _ _
     refine Sg 0 rfl rfl rfl <| Sq.nil <| hk46 _ _ <| Run.ret ?_
     exact J.ends (res_tmp rfl rfl) Takes.nil ⟨congrArg (Value.int .i64) (by unfold checkF; rw [if_pos (by unfold chk1; rw [c10, c24, c30]; rfl)]), rfl⟩
   ·refine Yp 5 rfl rfl rfl (QP.not rfl rfl) <| Pf 6 rfl rfl rfl rfl <| Mv 7 rfl rfl rfl <| Sk 8 rfl rfl rfl <| Sk 9 rfl rfl rfl <| Sk 10 rfl rfl rfl <| Sk 11 rfl rfl rfl <| Pt 12 rfl rfl rfl rfl <| Sg 13 rfl rfl rfl <| Sq.nil <| hk35 _ _ <| Run.cond_t rfl <| Run.seq fun k47 hk47 => Run.region ?_
    show Sq _ _ _ [0] _ _ _ _
    refine Sg 0 rfl rfl rfl <| Sq.nil <| hk47 _ _ <| Run.ret ?_
    exact J.ends (res_tmp rfl rfl) Takes.nil ⟨congrArg (Value.int .i64) (by unfold checkF; rw [if_pos (by unfold chk1; rw [c10, c24]; rfl)]), rfl⟩
 ·refine Ef 5 rfl rfl (EF.allocA (l := Tlv.enc Tlv.zero) rfl zero46) ?_
  rintro _ _ ⟨b3, rfl, rfl⟩
  refine Ac 6 rfl (EF.storeA rfl rfl rfl z46 (SetL.all (Tlv.enc_len _) (Tlv.enc_len _)) (Tlv.enc_cell _)) ?_
  rintro _ _ rfl
  refine Sg 7 rfl rfl rfl <| Sq.nil <| hk2 _ _ <| Run.seq fun k48 hk48 => Run.region ?_
  show Sq _ _ _ [0, 1, 2, 3, 4, 5, 6, 7, 8] _ _ _ _
  refine Fa 0 rfl rfl rfl f46_0 <| Qq 1 rfl rfl (QR.load1 rfl rfl g5 (Tlv.sub_type _)) ?_
  refine Qp 2 rfl rfl (QP.eql rfl rfl rfl) <| J.caseD (fun c13 => ?_) (fun c13 => ?_)
  ·refine Mv 3 rfl rfl rfl <| Yf 4 rfl rfl rfl rfl f46_5 <| Yq 5 rfl rfl rfl (QR.load1 rfl rfl g37 (Tlv.sub_metric _)) ?_
   refine Yp 6 rfl rfl rfl (QP.neq rfl rfl rfl) <| J.caseD (fun c17 => ?_) (fun c17 => ?_)
   ·refine Pt 7 rfl rfl rfl rfl <| Sg 8 rfl rfl rfl <| Sq.nil <| hk48 _ _ <| Run.seq fun k49 hk49 => Run.block <| Run.seq fun k50 hk50 => Run.region ?_
    show Sq _ _ _ [0, 1, 2, 3, 4, 5, 6, 7, 8, 9, 10, 11, 12, 13] _ _ _ _
    refine Mv 0 rfl rfl rfl <| Qp 1 rfl rfl (QP.not rfl rfl) <| Mv 2 rfl rfl rfl <| Sk 3 rfl rfl rfl <| Sk 4 rfl rfl rfl <| Sk 5 rfl rfl rfl <| Pt 6 rfl rfl rfl rfl <| Mv 7 rfl rfl rfl <| Sk 8 rfl rfl rfl <| Sk 9 rfl rfl rfl <| Sk 10 rfl rfl rfl <| Sk 11 rfl rfl rfl <| Pt 12 rfl rfl rfl rfl <| Sg 13 rfl rfl rfl <| Sq.nil <| hk50 _ _ <| Run.cond_t rfl <| Run.seq fun k51 hk51 => Run.region ?_
    show Sq _ _ _ [0] _ _ _ _
    refine Sg 0 rfl rfl rfl <| Sq.nil <| hk51 _ _ <| Run.ret ?_
    exact J.ends (res_tmp rfl rfl) Takes.nil ⟨congrArg (Value.int .i64) (by unfold checkF; rw [if_pos (by unfold chk1; rw [c10]; rfl)]), rfl⟩
   ·refine Pt 7 rfl rfl rfl rfl <| Sg 8 rfl rfl rfl <| Sq.nil <| hk48 _ _ <| Run.seq fun k52 hk52 => Run.block <| Run.seq fun k53 hk53 => Run.region ?_
    show Sq _ _ _ [0, 1, 2, 3, 4, 5, 6, 7, 8, 9, 10, 11, 12, 13] _ _ _ _
    refine Mv 0 rfl rfl rfl <| Qp 1 rfl rfl (QP.not rfl rfl) <| Mv 2 rfl rfl rfl <| Sk 3 rfl rfl rfl <| Sk 4 rfl rfl rfl <| Sk 5 rfl rfl rfl <| Pt 6 rfl rfl rfl rfl <| Mv 7 rfl rfl rfl <| Sk 8 rfl rfl rfl <| Sk 9 rfl rfl rfl <| Sk 10 rfl rfl rfl <| Sk 11 rfl rfl rfl <| Pt 12 rfl rfl rfl rfl <| Sg 13 rfl rfl rfl <| Sq.nil <| hk53 _ _ <| Run.cond_t rfl <| Run.seq fun k54 hk54 => Run.region ?_
    show Sq _ _ _ [0] _ _ _ _
    refine Sg 0 rfl rfl rfl <| Sq.nil <| hk54 _ _ <| Run.ret ?_
    exact J.ends (res_tmp rfl rfl) Takes.nil ⟨congrArg (Value.int .i64) (by unfold checkF; rw [if_pos (by unfold chk1; rw [c10]; rfl)]), rfl⟩
  ·refine Mv 3 rfl rfl rfl <| Sk 4 rfl rfl rfl <| Sk 5 rfl rfl rfl <| Sk 6 rfl rfl rfl <| Pf 7 rfl rfl rfl rfl <| Sg 8 rfl rfl rfl <| Sq.nil <| hk48 _ _ <| Run.seq fun k55 hk55 => Run.block <| Run.seq fun k56 hk56 => Run.region ?_
   show Sq _ _ _ [0, 1, 2, 3, 4, 5, 6, 7, 8, 9, 10, 11, 12, 13] _ _ _ _
   refine Mv 0 rfl rfl rfl <| Qp 1 rfl rfl (QP.not rfl rfl) <| Mv 2 rfl rfl rfl <| Sk 3 rfl rfl rfl <| Sk 4 rfl rfl rfl <| Sk 5 rfl rfl rfl <| Pt 6 rfl rfl rfl rfl <| Mv 7 rfl rfl rfl <| Sk 8 rfl rfl rfl <| Sk 9 rfl rfl rfl <| Sk 10 rfl rfl rfl <| Sk 11 rfl rfl rfl <| Pt 12 rfl rfl rfl rfl <| Sg 13 rfl rfl rfl <| Sq.nil <| hk56 _ _ <| Run.cond_t rfl <| Run.seq fun k57 hk57 => Run.region ?_
   show Sq _ _ _ [0] _ _ _ _
   refine Sg 0 rfl rfl rfl <| Sq.nil <| hk57 _ _ <| Run.ret ?_
   exact J.ends (res_tmp rfl rfl) Takes.nil ⟨congrArg (Value.int .i64) (by unfold checkF; rw [if_pos (by unfold chk1; rw [c10]; rfl)]), rfl⟩

abbrev u32V (n : Int) : Value := .int .u32 n
theorem take_same {xs ys : List Int} {i : Nat} {x y : Int} (h : xs.take i = ys.take i) (hi : xs[i]? = some x) (hj : ys[i]? = some y) (e : x = y) : xs.take (i + 1) = ys.take (i + 1) := by
  rw [take_succ_get hi, take_succ_get hj, h, e]
theorem ne_at {xs ys : List Int} {i : Nat} {x y : Int} (hi : xs[i]? = some x) (hj : ys[i]? = some y) (e : ¬ x = y) : ¬ xs = ys := fun h => by
  rw [h, hj] at hi
  exact e (Option.some.inj hi).symm
theorem all_same {xs ys : List Int} {i : Nat} (h : xs.take i = ys.take i) (hl : xs.length = ys.length) (hi : xs.length ≤ i) : xs = ys := by
  rwa [List.take_of_length_le hi, List.take_of_length_le (by omega)] at h

set_option maxHeartbeats 1000000 in
theorem rsame_spec (F : Fr) (x y : TlvX) (hx : TlvIn F x) (hy : TlvIn F y) (hxl : x.l.length ≤ 4294967296)  : Spec Try.prog 19 #[.agg (Tlv.enc (tlvS x)).toArray, .agg (Tlv.enc (tlvS y)).toArray] [] F (fun v S => v = .bool (eqX x y) ∧ S = []) := by
 refine Spec.intro (N := 113) (args := [.agg (Tlv.enc (tlvS x)).toArray, .agg (Tlv.enc (tlvS y)).toArray]) Try.func19 rfl rfl (by simp) ?_
 refine Run.seq fun k1 hk1 => Run.region ?_
 show Sq _ _ _ [0, 1, 2] _ _ _ _
 refine Ef 0 rfl rfl (EF.boxA rfl rfl) ?_
 rintro _ _ ⟨b2, rfl, rfl⟩
 refine Ef 1 rfl rfl (EF.boxA rfl rfl) ?_
 rintro _ _ ⟨b3, rfl, rfl⟩
 refine Sg 2 rfl rfl rfl <| Sq.nil <| hk1 _ _ <| Run.seq fun k2 hk2 => Run.seq fun k3 hk3 => Run.region ?_
 show Sq _ _ _ [0, 1, 2, 3, 4, 5, 6] _ _ _ _
 refine Fa 0 rfl rfl rfl f46_12 <| Qq 1 rfl rfl (QR.load1 (v := .slice x.a x.l.length x.c) rfl rfl g44 (Tlv.sub_stamps _)) ?_
 refine Qp 2 rfl rfl (QP.len rfl rfl rfl Try.underlying44) <| Fa 3 rfl rfl rfl f46_12 <| Qq 4 rfl rfl (QR.load1 (v := .slice y.a y.l.length y.c) rfl rfl g44 (Tlv.sub_stamps _)) ?_
 refine Qp 5 rfl rfl (QP.len rfl rfl rfl Try.underlying44) <| Qp 6 rfl rfl (QP.neq rfl rfl rfl) <| J.caseD (fun c12 => ?_) (fun c12 => ?_)
 ·refine Sq.nil <| hk3 _ _ <| Run.cond_t rfl <| Run.seq fun k4 hk4 => Run.region ?_
  show Sq _ _ _ [0] _ _ _ _
  refine Sg 0 rfl rfl rfl <| Sq.nil <| hk4 _ _ <| Run.ret ?_
  exact J.ends (res_tmp rfl rfl) Takes.nil ⟨congrArg Value.bool (by unfold eqX; rw [decide_eq_false (fun h => c12 (by rw [h]))]; rfl), rfl⟩
 ·refine Sq.nil <| hk3 _ _ <| Run.cond_f rfl <| Run.skip <| hk2 _ _ <| Run.seq fun k5 hk5 => Run.seq fun k6 hk6 => Run.region ?_
  show Sq _ _ _ [0] _ _ _ _
  have hlen : x.l.length = y.l.length := by have h9 : (x.l.length : Int) = (y.l.length : Int) := Classical.not_not.1 c12; omega
  refine Sg 0 rfl rfl rfl <| Sq.nil <| hk6 _ _ <| Run.block <| Run.loop1 (fun (i : Nat) => i ≤ x.l.length ∧ x.l.take i = y.l.take i) (fun i => .cons 2 (fp b2) (.cons 3 (fp b3) (.cons 5 (.int .i64 i) (.nil)))) (fun i => [blk b2 (Tlv.enc (tlvS x)) 46, blk b3 (Tlv.enc (tlvS y)) 46]) (fun i => x.l.length - i) (0) (⟨Nat.zero_le _, rfl⟩) ?_ ?_
  ·exact fun _ j => J.envJ (J.keep Tk2 j) ⟨rfl, rfl, rfl, trivial⟩
  rintro i ⟨hile, htk⟩ kl7 hl7
  refine Run.seq fun k8 hk8 => Run.seq fun k9 hk9 => Run.region ?_
  show Sq _ _ _ [0, 1, 2, 3, 4] _ _ _ _
  refine Mv 0 rfl rfl rfl <| Fa 1 rfl rfl rfl f46_12 <| Qq 2 rfl rfl (QR.load1 (v := .slice x.a x.l.length x.c) rfl rfl g44 (Tlv.sub_stamps _)) ?_
  refine Qp 3 rfl rfl (QP.len rfl rfl rfl Try.underlying44) <| Qp 4 rfl rfl (QP.lss rfl rfl rfl) <| J.caseD (fun c17 => ?_) (fun c17 => ?_)
  ·refine Sq.nil <| hk9 _ _ <| Run.cond_t rfl <| Run.skip <| hk8 _ _ <| Run.seq fun k10 hk10 => Run.block <| Run.seq fun k11 hk11 => Run.regionD (M := [0, 1, 0, 7, 15, 0, 32, 0, 224, 480, 1023]) (q := 2047) (r := 594) Kr ?_
   obtain ⟨u, hi⟩ : ∃ u, x.l[i]? = some u := ⟨_, List.getElem?_eq_getElem (by omega)⟩
   obtain ⟨v, hj⟩ : ∃ v, y.l[i]? = some v := ⟨_, List.getElem?_eq_getElem (by omega)⟩
   obtain ⟨q1, o1, hq1, hs1⟩ := ArgSl.get hx (by omega)
   obtain ⟨q2, o2, hq2, hs2⟩ := ArgSl.get hy (by omega)
   refine Dp 0 rfl rfl (QP.fieldAddr rfl rfl f46_12) <| Dr 1 rfl rfl (QR.load1 (v := .slice (some ⟨q1, o1, none⟩) x.l.length x.c) rfl rfl g44 (by have h9 := Tlv.sub_stamps (tlvS x); rw [show Slc.v (tlvS x).stamps = .slice (some ⟨q1, o1, none⟩) x.l.length x.c from congrArg (fun q => Value.slice q x.l.length x.c) hq1] at h9; exact h9)) ?_
   refine Dp 2 rfl rfl (QP.move rfl rfl) <| Dp 3 rfl rfl (QP.indexAddr rfl rfl rfl Try.underlying44 z94 Og Og) <| Dr 4 rfl rfl (QR.loadSl1 (ev := u32V) rfl rfl g94 (hs1 _) hi) ?_
   refine Dp 5 rfl rfl (QP.fieldAddr rfl rfl f46_12) <| Dr 6 rfl rfl (QR.load1 (v := .slice (some ⟨q2, o2, none⟩) y.l.length y.c) rfl rfl g44 (by have h9 := Tlv.sub_stamps (tlvS y); rw [show Slc.v (tlvS y).stamps = .slice (some ⟨q2, o2, none⟩) y.l.length y.c from congrArg (fun q => Value.slice q y.l.length y.c) hq2] at h9; exact h9)) ?_
   refine Dp 7 rfl rfl (QP.move rfl rfl) <| Dp 8 rfl rfl (QP.indexAddr rfl rfl rfl Try.underlying44 z94 Og Og) <| Dr 9 rfl rfl (QR.loadSl1 (ev := u32V) rfl rfl g94 (hs2 _) hj) ?_
   refine Dp 10 rfl rfl (QP.neq rfl rfl rfl) <| J.caseD (fun c30 => ?_) (fun c30 => ?_)
   ·refine Dn <| hk11 _ _ <| Run.cond_t rfl <| Run.seq fun k12 hk12 => Run.region ?_
    show Sq _ _ _ [0] _ _ _ _
    refine Sg 0 rfl rfl rfl <| Sq.nil <| hk12 _ _ <| Run.ret ?_
    exact J.ends (res_tmp rfl rfl) Takes.nil ⟨congrArg Value.bool (by unfold eqX; rw [decide_eq_false (ne_at hi hj (fun h => c30 h))]; rfl), rfl⟩
   ·refine Dn <| hk11 _ _ <| Run.cond_f rfl <| Run.skip <| hk10 _ _ <| Run.region ?_
    show Sq _ _ _ [0, 1, 2] _ _ _ _
    refine Mv 0 rfl rfl rfl <| Qp 1 rfl rfl (QP.add64 rfl rfl rfl Og Og) <| Sg 2 rfl rfl rfl <| Sq.nil ?_
    exact J.envJ (J.keep Tk2 (hl7 (i + 1) (⟨by omega, take_same htk hi hj (Classical.not_not.1 c30)⟩) (by omega))) ⟨rfl, rfl, rfl, trivial⟩
  ·refine Sq.nil <| hk9 _ _ <| Run.cond_f rfl <| Run.exit rfl ?_
   refine hk5 _ _ <| Run.seq fun k13 hk13 => Run.region ?_
   show Sq _ _ _ [0, 1, 2, 3, 4, 5, 6, 7, 8, 9, 10, 11, 12, 13, 14, 15, 16, 17, 18, 19, 20, 21, 22, 23, 24, 25, 26, 27, 28, 29, 30, 31, 32, 33, 34, 35, 36, 37, 38, 39, 40, 41, 42, 43, 44, 45, 46, 47, 48, 49, 50, 51, 52, 53, 54, 55, 56, 57, 58, 59, 60, 61, 62, 63, 64, 65, 66, 67, 68, 69, 70, 71, 72, 73, 74, 75, 76, 77, 78, 79, 80, 81, 82] _ _ _ _
   refine Fa 0 rfl rfl rfl f46_0 <| Qq 1 rfl rfl (QR.load1 rfl rfl g5 (Tlv.sub_type _)) ?_
   refine Fa 2 rfl rfl rfl f46_0 <| Qq 3 rfl rfl (QR.load1 rfl rfl g5 (Tlv.sub_type _)) ?_
   refine Qp 4 rfl rfl (QP.eql rfl rfl rfl) <| J.caseD (fun c35 => ?_) (fun c35 => ?_)
   ·refine Mv 5 rfl rfl rfl <| Yf 6 rfl rfl rfl rfl f46_1 <| Yq 7 rfl rfl rfl (QR.load1 rfl rfl g37 (Tlv.sub_nonce _)) ?_
    refine Yf 8 rfl rfl rfl rfl f46_1 <| Yq 9 rfl rfl rfl (QR.load1 rfl rfl g37 (Tlv.sub_nonce _)) ?_
    refine Yp 10 rfl rfl rfl (QP.eql rfl rfl rfl) <| J.caseD (fun c41 => ?_) (fun c41 => ?_)
    ·refine Pt 11 rfl rfl rfl rfl <| Mv 12 rfl rfl rfl <| Yf 13 rfl rfl rfl rfl f46_2 <| Yq 14 rfl rfl rfl (QR.load1 rfl rfl g37 (Tlv.sub_interval _)) ?_
     refine Yf 15 rfl rfl rfl rfl f46_2 <| Yq 16 rfl rfl rfl (QR.load1 rfl rfl g37 (Tlv.sub_interval _)) ?_
     refine Yp 17 rfl rfl rfl (QP.eql rfl rfl rfl) <| J.caseD (fun c48 => ?_) (fun c48 => ?_)
     ·refine Pt 18 rfl rfl rfl rfl <| Mv 19 rfl rfl rfl <| Yf 20 rfl rfl rfl rfl f46_3 <| Yq 21 rfl rfl rfl (QR.load1 rfl rfl g37 (Tlv.sub_seqno _)) ?_
      refine Yf 22 rfl rfl rfl rfl f46_3 <| Yq 23 rfl rfl rfl (QR.load1 rfl rfl g37 (Tlv.sub_seqno _)) ?_
      refine Yp 24 rfl rfl rfl (QP.eql rfl rfl rfl) <| J.caseD (fun c55 => ?_) (fun c55 => ?_)
      ·refine Pt 25 rfl rfl rfl rfl <| Mv 26 rfl rfl rfl <| Yf 27 rfl rfl rfl rfl f46_4 <| Yq 28 rfl rfl rfl (QR.load1 rfl rfl g37 (Tlv.sub_rxcost _)) ?_
       refine Yf 29 rfl rfl rfl rfl f46_4 <| Yq 30 rfl rfl rfl (QR.load1 rfl rfl g37 (Tlv.sub_rxcost _)) ?_
       refine Yp 31 rfl rfl rfl (QP.eql rfl rfl rfl) <| J.caseD (fun c62 => ?_) (fun c62 => ?_)
       ·refine Pt 32 rfl rfl rfl rfl <| Mv 33 rfl rfl rfl <| Yf 34 rfl rfl rfl rfl f46_5 <| Yq 35 rfl rfl rfl (QR.load1 rfl rfl g37 (Tlv.sub_metric _)) ?_
        refine Yf 36 rfl rfl rfl rfl f46_5 <| Yq 37 rfl rfl rfl (QR.load1 rfl rfl g37 (Tlv.sub_metric _)) ?_
        refine Yp 38 rfl rfl rfl (QP.eql rfl rfl rfl) <| J.caseD (fun c69 => ?_) (fun c69 => ?_)
        ·refine Pt 39 rfl rfl rfl rfl <| Mv 40 rfl rfl rfl <| Yf 41 rfl rfl rfl rfl f46_6 <| Yq 42 rfl rfl rfl (QR.load1 rfl rfl g5 (Tlv.sub_hops _)) ?_
         refine Yf 43 rfl rfl rfl rfl f46_6 <| Yq 44 rfl rfl rfl (QR.load1 rfl rfl g5 (Tlv.sub_hops _)) ?_
         refine Yp 45 rfl rfl rfl (QP.eql rfl rfl rfl) <| J.caseD (fun c76 => ?_) (fun c76 => ?_)
         ·refine Pt 46 rfl rfl rfl rfl <| Mv 47 rfl rfl rfl <| Yf 48 rfl rfl rfl rfl f46_7 <| Yq 49 rfl rfl rfl (QR.load1 rfl rfl g4 (Tlv.sub_unicast _)) ?_
          refine Yf 50 rfl rfl rfl rfl f46_7 <| Yq 51 rfl rfl rfl (QR.load1 rfl rfl g4 (Tlv.sub_unicast _)) ?_
          refine Yp 52 rfl rfl rfl (QP.eqlB rfl rfl rfl Try.underlying4) <| J.caseB (fun c83 => ?_) (fun c83 => ?_)
          ·refine Pt 53 rfl rfl rfl rfl <| Mv 54 rfl rfl rfl <| Yf 55 rfl rfl rfl rfl f46_8 <| Yq 56 rfl rfl rfl (QR.load1 rfl rfl g4 (Tlv.sub_all _)) ?_
           refine Yf 57 rfl rfl rfl rfl f46_8 <| Yq 58 rfl rfl rfl (QR.load1 rfl rfl g4 (Tlv.sub_all _)) ?_
           refine Yp 59 rfl rfl rfl (QP.eqlB rfl rfl rfl Try.underlying4) <| J.caseB (fun c90 => ?_) (fun c90 => ?_)
           ·refine Pt 60 rfl rfl rfl rfl <| Mv 61 rfl rfl rfl <| Yf 62 rfl rfl rfl rfl f46_9 <| Yq 63 rfl rfl rfl (QR.load rfl rfl g39 (Tlv.sub_id_ _)) ?_
            refine Yf 64 rfl rfl rfl rfl f46_9 <| Yq 65 rfl rfl rfl (QR.load rfl rfl g39 (Tlv.sub_id_ _)) ?_
            refine Yp 66 rfl rfl rfl (QP.eql_agg eq39 rfl rfl rfl) <| J.caseD (fun c97 => ?_) (fun c97 => ?_)
            ·refine Pt 67 rfl rfl rfl rfl <| Mv 68 rfl rfl rfl <| Yf 69 rfl rfl rfl rfl f46_10 <| Yq 70 rfl rfl rfl (QR.load rfl rfl g23 (Tlv.sub_addr _)) ?_
             refine Yf 71 rfl rfl rfl rfl f46_10 <| Yq 72 rfl rfl rfl (QR.load rfl rfl g23 (Tlv.sub_addr _)) ?_
             refine Yp 73 rfl rfl rfl (QP.eql_agg eq23 rfl rfl rfl) <| J.caseD (fun c104 => ?_) (fun c104 => ?_)
             ·refine Pt 74 rfl rfl rfl rfl <| Mv 75 rfl rfl rfl <| Yf 76 rfl rfl rfl rfl f46_11 <| Yq 77 rfl rfl rfl (QR.load rfl rfl g43 (Tlv.sub_pair _)) ?_
              refine Yf 78 rfl rfl rfl rfl f46_11 <| Yq 79 rfl rfl rfl (QR.load rfl rfl g43 (Tlv.sub_pair _)) ?_
              refine Yp 80 rfl rfl rfl (QP.eql_agg eq43 rfl rfl rfl) <| Pt 81 rfl rfl rfl rfl <| Sg 82 rfl rfl rfl <| Sq.nil <| hk13 _ _ <| Run.ret ?_
              exact J.ends (res_tmp rfl rfl) Takes.nil ⟨congrArg Value.bool (by unfold eqX; rw [decide_eq_true (all_same htk (by omega) (by omega))]; show _ = (true && sameB x.t y.t); unfold sameB; rw [decide_eq_true (show x.t.type = y.t.type from c35), decide_eq_true (show x.t.nonce = y.t.nonce from c41), decide_eq_true (show x.t.interval = y.t.interval from c48), decide_eq_true (show x.t.seqno = y.t.seqno from c55), decide_eq_true (show x.t.rxcost = y.t.rxcost from c62), decide_eq_true (show x.t.metric = y.t.metric from c69), decide_eq_true (show x.t.hops = y.t.hops from c76), decide_eq_true (show x.t.unicast = y.t.unicast from (beq_iff_eq.1 c83)), decide_eq_true (show x.t.all = y.t.all from (beq_iff_eq.1 c90)), decide_eq_true (show x.t.id_ = y.t.id_ from c97), decide_eq_true (show x.t.addr = y.t.addr from c104)]; rfl), rfl⟩
             ·refine Pt 74 rfl rfl rfl rfl <| Mv 75 rfl rfl rfl <| Sk 76 rfl rfl rfl <| Sk 77 rfl rfl rfl <| Sk 78 rfl rfl rfl <| Sk 79 rfl rfl rfl <| Sk 80 rfl rfl rfl <| Pf 81 rfl rfl rfl rfl <| Sg 82 rfl rfl rfl <| Sq.nil <| hk13 _ _ <| Run.ret ?_
              exact J.ends (res_tmp rfl rfl) Takes.nil ⟨congrArg Value.bool (by unfold eqX; rw [decide_eq_true (all_same htk (by omega) (by omega))]; show _ = (true && sameB x.t y.t); unfold sameB; rw [decide_eq_true (show x.t.type = y.t.type from c35), decide_eq_true (show x.t.nonce = y.t.nonce from c41), decide_eq_true (show x.t.interval = y.t.interval from c48), decide_eq_true (show x.t.seqno = y.t.seqno from c55), decide_eq_true (show x.t.rxcost = y.t.rxcost from c62), decide_eq_true (show x.t.metric = y.t.metric from c69), decide_eq_true (show x.t.hops = y.t.hops from c76), decide_eq_true (show x.t.unicast = y.t.unicast from (beq_iff_eq.1 c83)), decide_eq_true (show x.t.all = y.t.all from (beq_iff_eq.1 c90)), decide_eq_true (show x.t.id_ = y.t.id_ from c97), decide_eq_false (show ¬ x.t.addr = y.t.addr from c104)]; rfl), rfl⟩
            ·refine Pt 67 rfl rfl rfl rfl <| Mv 68 rfl rfl rfl <| Sk 69 rfl rfl rfl <| Sk 70 rfl rfl rfl <| Sk 71 rfl rfl rfl <| Sk 72 rfl rfl rfl <| Sk 73 rfl rfl rfl <| Pf 74 rfl rfl rfl rfl <| Mv 75 rfl rfl rfl <| Sk 76 rfl rfl rfl <| Sk 77 rfl rfl rfl <| Sk 78 rfl rfl rfl <| Sk 79 rfl rfl rfl <| Sk 80 rfl rfl rfl <| Pf 81 rfl rfl rfl rfl <| Sg 82 rfl rfl rfl <| Sq.nil <| hk13 _ _ <| Run.ret ?_
             exact J.ends (res_tmp rfl rfl) Takes.nil ⟨congrArg Value.bool (by unfold eqX; rw [decide_eq_true (all_same htk (by omega) (by omega))]; show _ = (true && sameB x.t y.t); unfold sameB; rw [decide_eq_true (show x.t.type = y.t.type from c35), decide_eq_true (show x.t.nonce = y.t.nonce from c41), decide_eq_true (show x.t.interval = y.t.interval from c48), decide_eq_true (show x.t.seqno = y.t.seqno from c55), decide_eq_true (show x.t.rxcost = y.t.rxcost from c62), decide_eq_true (show x.t.metric = y.t.metric from c69), decide_eq_true (show x.t.hops = y.t.hops from c76), decide_eq_true (show x.t.unicast = y.t.unicast from (beq_iff_eq.1 c83)), decide_eq_true (show x.t.all = y.t.all from (beq_iff_eq.1 c90)), decide_eq_false (show ¬ x.t.id_ = y.t.id_ from c97)]; rfl), rfl⟩
           ·refine Pt 60 rfl rfl rfl rfl <| Mv 61 rfl rfl rfl <| Sk 62 rfl rfl rfl <| Sk 63 rfl rfl rfl <| Sk 64 rfl rfl rfl <| Sk 65 rfl rfl rfl <| Sk 66 rfl rfl rfl <| Pf 67 rfl rfl rfl rfl <| Mv 68 rfl rfl rfl <| Sk 69 rfl rfl rfl <| Sk 70 rfl rfl rfl <| Sk 71 rfl rfl rfl <| Sk 72 rfl rfl rfl <| Sk 73 rfl rfl rfl <| Pf 74 rfl rfl rfl rfl <| Mv 75 rfl rfl rfl <| Sk 76 rfl rfl rfl <| Sk 77 rfl rfl rfl <| Sk 78 rfl rfl rfl <| Sk 79 rfl rfl rfl <| Sk 80 rfl rfl rfl <| Pf 81 rfl rfl rfl rfl <| Sg 82 rfl rfl rfl <| Sq.nil <| hk13 _ _ <| Run.ret ?_
            exact J.ends (res_tmp rfl rfl) Takes.nil ⟨congrArg Value.bool (by unfold eqX; rw [decide_eq_true (all_same htk (by omega) (by omega))]; show _ = (true && sameB x.t y.t); unfold sameB; rw [decide_eq_true (show x.t.type = y.t.type from c35), decide_eq_true (show x.t.nonce = y.t.nonce from c41), decide_eq_true (show x.t.interval = y.t.interval from c48), decide_eq_true (show x.t.seqno = y.t.seqno from c55), decide_eq_true (show x.t.rxcost = y.t.rxcost from c62), decide_eq_true (show x.t.metric = y.t.metric from c69), decide_eq_true (show x.t.hops = y.t.hops from c76), decide_eq_true (show x.t.unicast = y.t.unicast from (beq_iff_eq.1 c83)), decide_eq_false (show ¬ x.t.all = y.t.all from (fun h => by rw [beq_iff_eq.2 h] at c90; cases c90))]; rfl), rfl⟩
          ·refine Pt 53 rfl rfl rfl rfl <| Mv 54 rfl rfl rfl <| Sk 55 rfl rfl rfl <| Sk 56 rfl rfl rfl <| Sk 57 rfl rfl rfl <| Sk 58 rfl rfl rfl <| Sk 59 rfl rfl rfl <| Pf 60 rfl rfl rfl rfl <| Mv 61 rfl rfl rfl <| Sk 62 rfl rfl rfl <| Sk 63 rfl rfl rfl <| Sk 64 rfl rfl rfl <| Sk 65 rfl rfl rfl <| Sk 66 rfl rfl rfl <| Pf 67 rfl rfl rfl rfl <| Mv 68 rfl rfl rfl <| Sk 69 rfl rfl rfl <| Sk 70 rfl rfl rfl <| Sk 71 rfl rfl rfl <| Sk 72 rfl rfl rfl <| Sk 73 rfl rfl rfl <| Pf 74 rfl rfl rfl rfl <| Mv 75 rfl rfl rfl <| Sk 76 rfl rfl rfl <| Sk 77 rfl rfl rfl <| Sk 78 rfl rfl rfl <| Sk 79 rfl rfl rfl <| Sk 80 rfl rfl rfl <| Pf 81 rfl rfl rfl rfl <| Sg 82 rfl rfl rfl <| Sq.nil <| hk13 _ _ <| Run.ret ?_
           exact J.ends (res_tmp rfl rfl) Takes.nil ⟨congrArg Value.bool (by unfold eqX; rw [decide_eq_true (all_same htk (by omega) (by omega))]; show _ = (true && sameB x.t y.t); unfold sameB; rw [decide_eq_true (show x.t.type = y.t.type from c35), decide_eq_true (show x.t.nonce = y.t.nonce from c41), decide_eq_true (show x.t.interval = y.t.interval from c48), decide_eq_true (show x.t.seqno = y.t.seqno from c55), decide_eq_true (show x.t.rxcost = y.t.rxcost from c62), decide_eq_true (show x.t.metric = y.t.metric from c69), decide_eq_true (show x.t.hops = y.t.hops from c76), decide_eq_false (show ¬ x.t.unicast = y.t.unicast from (fun h => by rw [beq_iff_eq.2 h] at c83; cases c83))]; rfl), rfl⟩
         ·refine Pt 46 rfl rfl rfl rfl <| Mv 47 rfl rfl rfl <| Sk 48 rfl rfl rfl <| Sk 49 rfl rfl rfl <| Sk 50 rfl rfl rfl <| Sk 51 rfl rfl rfl <| Sk 52 rfl rfl rfl <| Pf 53 rfl rfl rfl rfl <| Mv 54 rfl rfl rfl <| Sk 55 rfl rfl rfl <| Sk 56 rfl rfl rfl <| Sk 57 rfl rfl rfl <| Sk 58 rfl rfl rfl <| Sk 59 rfl rfl rfl <| Pf 60 rfl rfl rfl rfl <| Mv 61 rfl rfl rfl <| Sk 62 rfl rfl rfl <| Sk 63 rfl rfl rfl <| Sk 64 rfl rfl rfl <| Sk 65 rfl rfl rfl <| Sk 66 rfl rfl rfl <| Pf 67 rfl rfl rfl rfl <| Mv 68 rfl rfl rfl <| Sk 69 rfl rfl rfl <| Sk 70 rfl rfl rfl <| Sk 71 rfl rfl rfl <| Sk 72 rfl rfl rfl <| Sk 73 rfl rfl rfl <| Pf 74 rfl rfl rfl rfl <| Mv 75 rfl rfl rfl <| Sk 76 rfl rfl rfl <| Sk 77 rfl rfl rfl ?_
          refine Sk 78 rfl rfl rfl <| Sk 79 rfl rfl rfl <| Sk 80 rfl rfl rfl <| Pf 81 rfl rfl rfl rfl <| Sg 82 rfl rfl rfl <| Sq.nil <| hk13 _ _ <| Run.ret ?_
          exact J.ends (res_tmp rfl rfl) Takes.nil ⟨congrArg Value.bool (by unfold eqX; rw [decide_eq_true (all_same htk (by omega) (by omega))]; show _ = (true && sameB x.t y.t); unfold sameB; rw [decide_eq_true (show x.t.type = y.t.type from c35), decide_eq_true (show x.t.nonce = y.t.nonce from c41), decide_eq_true (show x.t.interval = y.t.interval from c48), decide_eq_true (show x.t.seqno = y.t.seqno from c55), decide_eq_true (show x.t.rxcost = y.t.rxcost from c62), decide_eq_true (show x.t.metric = y.t.metric from c69), decide_eq_false (show ¬ x.t.hops = y.t.hops from c76)]; rfl), rfl⟩
        ·refine Pt 39 rfl rfl rfl rfl <| Mv 40 rfl rfl rfl <| Sk 41 rfl rfl rfl <| Sk 42 rfl rfl rfl <| Sk 43 rfl rfl rfl <| Sk 44 rfl rfl rfl <| Sk 45 rfl rfl rfl <| Pf 46 rfl rfl rfl rfl <| Mv 47 rfl rfl rfl <| Sk 48 rfl rfl rfl <| Sk 49 rfl rfl rfl <| Sk 50 rfl rfl rfl <| Sk 51 rfl rfl rfl <| Sk 52 rfl rfl rfl <| Pf 53 rfl rfl rfl rfl <| Mv 54 rfl rfl rfl <| Sk 55 rfl rfl rfl <| Sk 56 rfl rfl rfl <| Sk 57 rfl rfl rfl <| Sk 58 rfl rfl rfl <| Sk 59 rfl rfl rfl <| Pf 60 rfl rfl rfl rfl <| Mv 61 rfl rfl rfl <| Sk 62 rfl rfl rfl <| Sk 63 rfl rfl rfl <| Sk 64 rfl rfl rfl <| Sk 65 rfl rfl rfl <| Sk 66 rfl rfl rfl <| Pf 67 rfl rfl rfl rfl <| Mv 68 rfl rfl rfl <| Sk 69 rfl rfl rfl <| Sk 70 rfl rfl rfl ?_
         refine Sk 71 rfl rfl rfl <| Sk 72 rfl rfl rfl <| Sk 73 rfl rfl rfl <| Pf 74 rfl rfl rfl rfl <| Mv 75 rfl rfl rfl <| Sk 76 rfl rfl rfl <| Sk 77 rfl rfl rfl <| Sk 78 rfl rfl rfl <| Sk 79 rfl rfl rfl <| Sk 80 rfl rfl rfl <| Pf 81 rfl rfl rfl rfl <| Sg 82 rfl rfl rfl <| Sq.nil <| hk13 _ _ <| Run.ret ?_
         exact J.ends (res_tmp rfl rfl) Takes.nil ⟨congrArg Value.bool (by unfold eqX; rw [decide_eq_true (all_same htk (by omega) (by omega))]; show _ = (true && sameB x.t y.t); unfold sameB; rw [decide_eq_true (show x.t.type = y.t.type from c35), decide_eq_true (show x.t.nonce = y.t.nonce from c41), decide_eq_true (show x.t.interval = y.t.interval from c48), decide_eq_true (show x.t.seqno = y.t.seqno from c55), decide_eq_true (show x.t.rxcost = y.t.rxcost from c62), decide_eq_false (show ¬ x.t.metric = y.t.metric from c69)]; rfl), rfl⟩
       ·refine Pt 32 rfl rfl rfl rfl <| Mv 33 rfl rfl rfl <| Sk 34 rfl rfl rfl <| Sk 35 rfl rfl rfl <| Sk 36 rfl rfl rfl <| Sk 37 rfl rfl rfl <| Sk 38 rfl rfl rfl <| Pf 39 rfl rfl rfl rfl <| Mv 40 rfl rfl rfl <| Sk 41 rfl rfl rfl <| Sk 42 rfl rfl rfl <| Sk 43 rfl rfl rfl <| Sk 44 rfl rfl rfl <| Sk 45 rfl rfl rfl <| Pf 46 rfl rfl rfl rfl <| Mv 47 rfl rfl rfl <| Sk 48 rfl rfl rfl <| Sk 49 rfl rfl rfl <| Sk 50 rfl rfl rfl <| Sk 51 rfl rfl rfl <| Sk 52 rfl rfl rfl <| Pf 53 rfl rfl rfl rfl <| Mv 54 rfl rfl rfl <| Sk 55 rfl rfl rfl <| Sk 56 rfl rfl rfl <| Sk 57 rfl rfl rfl <| Sk 58 rfl rfl rfl <| Sk 59 rfl rfl rfl <| Pf 60 rfl rfl rfl rfl <| Mv 61 rfl rfl rfl <| Sk 62 rfl rfl rfl <| Sk 63 rfl rfl rfl ?_
        refine Sk 64 rfl rfl rfl <| Sk 65 rfl rfl rfl <| Sk 66 rfl rfl rfl <| Pf 67 rfl rfl rfl rfl <| Mv 68 rfl rfl rfl <| Sk 69 rfl rfl rfl <| Sk 70 rfl rfl rfl <| Sk 71 rfl rfl rfl <| Sk 72 rfl rfl rfl <| Sk 73 rfl rfl rfl <| Pf 74 rfl rfl rfl rfl <| Mv 75 rfl rfl rfl <| Sk 76 rfl rfl rfl <| Sk 77 rfl rfl rfl <| Sk 78 rfl rfl rfl <| Sk 79 rfl rfl rfl <| Sk 80 rfl rfl rfl <| Pf 81 rfl rfl rfl rfl <| Sg 82 rfl rfl rfl <| Sq.nil <| hk13 _ _ <| Run.ret ?_
        exact J.ends (res_tmp rfl rfl) Takes.nil ⟨congrArg Value.bool (by unfold eqX; rw [decide_eq_true (all_same htk (by omega) (by omega))]; show _ = (true && sameB x.t y.t); unfold sameB; rw [decide_eq_true (show x.t.type = y.t.type from c35), decide_eq_true (show x.t.nonce = y.t.nonce from c41), decide_eq_true (show x.t.interval = y.t.interval from c48), decide_eq_true (show x.t.seqno = y.t.seqno from c55), decide_eq_false (show ¬ x.t.rxcost = y.t.rxcost from c62)]; rfl), rfl⟩
      ·refine Pt 25 rfl rfl rfl rfl <| Mv 26 rfl rfl rfl <| Sk 27 rfl rfl rfl <| Sk 28 rfl rfl rfl <| Sk 29 rfl rfl rfl <| Sk 30 rfl rfl rfl <| Sk 31 rfl rfl rfl <| Pf 32 rfl rfl rfl rfl <| Mv 33 rfl rfl rfl <| Sk 34 rfl rfl rfl <| Sk 35 rfl rfl rfl <| Sk 36 rfl rfl rfl <| Sk 37 rfl rfl rfl <| Sk 38 rfl rfl rfl <| Pf 39 rfl rfl rfl rfl <| Mv 40 rfl rfl rfl <| Sk 41 rfl rfl rfl <| Sk 42 rfl rfl rfl <| Sk 43 rfl rfl rfl <| Sk 44 rfl rfl rfl <| Sk 45 rfl rfl rfl <| Pf 46 rfl rfl rfl rfl <| Mv 47 rfl rfl rfl <| Sk 48 rfl rfl rfl <| Sk 49 rfl rfl rfl <| Sk 50 rfl rfl rfl <| Sk 51 rfl rfl rfl <| Sk 52 rfl rfl rfl <| Pf 53 rfl rfl rfl rfl <| Mv 54 rfl rfl rfl <| Sk 55 rfl rfl rfl <| Sk 56 rfl rfl rfl ?_
       refine Sk 57 rfl rfl rfl <| Sk 58 rfl rfl rfl <| Sk 59 rfl rfl rfl <| Pf 60 rfl rfl rfl rfl <| Mv 61 rfl rfl rfl <| Sk 62 rfl rfl rfl <| Sk 63 rfl rfl rfl <| Sk 64 rfl rfl rfl <| Sk 65 rfl rfl rfl <| Sk 66 rfl rfl rfl <| Pf 67 rfl rfl rfl rfl <| Mv 68 rfl rfl rfl <| Sk 69 rfl rfl rfl <| Sk 70 rfl rfl rfl <| Sk 71 rfl rfl rfl <| Sk 72 rfl rfl rfl <| Sk 73 rfl rfl rfl <| Pf 74 rfl rfl rfl rfl <| Mv 75 rfl rfl rfl <| Sk 76 rfl rfl rfl <| Sk 77 rfl rfl rfl <| Sk 78 rfl rfl rfl <| Sk 79 rfl rfl rfl <| Sk 80 rfl rfl rfl <| Pf 81 rfl rfl rfl rfl <| Sg 82 rfl rfl rfl <| Sq.nil <| hk13 _ _ <| Run.ret ?_
       exact J.ends (res_tmp rfl rfl) Takes.nil ⟨congrArg Value.bool (by unfold eqX; rw [decide_eq_true (all_same htk (by omega) (by omega))]; show _ = (true && sameB x.t y.t); unfold sameB; rw [decide_eq_true (show x.t.type = y.t.type from c35), decide_eq_true (show x.t.nonce = y.t.nonce from c41), decide_eq_true (show x.t.interval = y.t.interval from c48), decide_eq_false (show ¬ x.t.seqno = y.t.seqno from c55)]; rfl), rfl⟩
     ·refine Pt 18 rfl rfl rfl rfl <| Mv 19 rfl rfl rfl <| Sk 20 rfl rfl rfl <| Sk 21 rfl rfl rfl <| Sk 22 rfl rfl rfl <| Sk 23 rfl rfl rfl <| Sk 24 rfl rfl rfl <| Pf 25 rfl rfl rfl rfl <| Mv 26 rfl rfl rfl <| Sk 27 rfl rfl rfl <| Sk 28 rfl rfl rfl <| Sk 29 rfl rfl rfl <| Sk 30 rfl rfl rfl <| Sk 31 rfl rfl rfl <| Pf 32 rfl rfl rfl rfl <| Mv 33 rfl rfl rfl <| Sk 34 rfl rfl rfl <| Sk 35 rfl rfl rfl <| Sk 36 rfl rfl rfl <| Sk 37 rfl rfl rfl <| Sk 38 rfl rfl rfl <| Pf 39 rfl rfl rfl rfl <| Mv 40 rfl rfl rfl <| Sk 41 rfl rfl rfl <| Sk 42 rfl rfl rfl <| Sk 43 rfl rfl rfl <| Sk 44 rfl rfl rfl <| Sk 45 rfl rfl rfl <| Pf 46 rfl rfl rfl rfl <| Mv 47 rfl rfl rfl <| Sk 48 rfl rfl rfl <| Sk 49 rfl rfl rfl ?_
      refine Sk 50 rfl rfl rfl <| Sk 51 rfl rfl rfl <| Sk 52 rfl rfl rfl <| Pf 53 rfl rfl rfl rfl <| Mv 54 rfl rfl rfl <| Sk 55 rfl rfl rfl <| Sk 56 rfl rfl rfl <| Sk 57 rfl rfl rfl <| Sk 58 rfl rfl rfl <| Sk 59 rfl rfl rfl <| Pf 60 rfl rfl rfl rfl <| Mv 61 rfl rfl rfl <| Sk 62 rfl rfl rfl <| Sk 63 rfl rfl rfl <| Sk 64 rfl rfl rfl <| Sk 65 rfl rfl rfl <| Sk 66 rfl rfl rfl <| Pf 67 rfl rfl rfl rfl <| Mv 68 rfl rfl rfl <| Sk 69 rfl rfl rfl <| Sk 70 rfl rfl rfl <| Sk 71 rfl rfl rfl <| Sk 72 rfl rfl rfl <| Sk 73 rfl rfl rfl <| Pf 74 rfl rfl rfl rfl <| Mv 75 rfl rfl rfl <| Sk 76 rfl rfl rfl <| Sk 77 rfl rfl rfl <| Sk 78 rfl rfl rfl <| Sk 79 rfl rfl rfl <| Sk 80 rfl rfl rfl <| Pf 81 rfl rfl rfl rfl ?_
      refine Sg 82 rfl rfl rfl <| Sq.nil <| hk13 _ _ <| Run.ret ?_
      exact J.ends (res_tmp rfl rfl) Takes.nil ⟨congrArg Value.bool (by unfold eqX; rw [decide_eq_true (all_same htk (by omega) (by omega))]; show _ = (true && sameB x.t y.t); unfold sameB; rw [decide_eq_true (show x.t.type = y.t.type from c35), decide_eq_true (show x.t.nonce = y.t.nonce from c41), decide_eq_false (show ¬ x.t.interval = y.t.interval from c48)]; rfl), rfl⟩
    ·refine Pt 11 rfl rfl rfl rfl <| Mv 12 rfl rfl rfl <| Sk 13 rfl rfl rfl <| Sk 14 rfl rfl rfl <| Sk 15 rfl rfl rfl <| Sk 16 rfl rfl rfl <| Sk 17 rfl rfl rfl <| Pf 18 rfl rfl rfl rfl <| Mv 19 rfl rfl rfl <| Sk 20 rfl rfl rfl <| Sk 21 rfl rfl rfl <| Sk 22 rfl rfl rfl <| Sk 23 rfl rfl rfl <| Sk 24 rfl rfl rfl <| Pf 25 rfl rfl rfl rfl <| Mv 26 rfl rfl rfl <| Sk 27 rfl rfl rfl <| Sk 28 rfl rfl rfl <| Sk 29 rfl rfl rfl <| Sk 30 rfl rfl rfl <| Sk 31 rfl rfl rfl <| Pf 32 rfl rfl rfl rfl <| Mv 33 rfl rfl rfl <| Sk 34 rfl rfl rfl <| Sk 35 rfl rfl rfl <| Sk 36 rfl rfl rfl <| Sk 37 rfl rfl rfl <| Sk 38 rfl rfl rfl <| Pf 39 rfl rfl rfl rfl <| Mv 40 rfl rfl rfl <| Sk 41 rfl rfl rfl <| Sk 42 rfl rfl rfl ?_
     refine Sk 43 rfl rfl rfl <| Sk 44 rfl rfl rfl <| Sk 45 rfl rfl rfl <| Pf 46 rfl rfl rfl rfl <| Mv 47 rfl rfl rfl <| Sk 48 rfl rfl rfl <| Sk 49 rfl rfl rfl <| Sk 50 rfl rfl rfl <| Sk 51 rfl rfl rfl <| Sk 52 rfl rfl rfl <| Pf 53 rfl rfl rfl rfl <| Mv 54 rfl rfl rfl <| Sk 55 rfl rfl rfl <| Sk 56 rfl rfl rfl <| Sk 57 rfl rfl rfl <| Sk 58 rfl rfl rfl <| Sk 59 rfl rfl rfl <| Pf 60 rfl rfl rfl rfl <| Mv 61 rfl rfl rfl <| Sk 62 rfl rfl rfl <| Sk 63 rfl rfl rfl <| Sk 64 rfl rfl rfl <| Sk 65 rfl rfl rfl <| Sk 66 rfl rfl rfl <| Pf 67 rfl rfl rfl rfl <| Mv 68 rfl rfl rfl <| Sk 69 rfl rfl rfl <| Sk 70 rfl rfl rfl <| Sk 71 rfl rfl rfl <| Sk 72 rfl rfl rfl <| Sk 73 rfl rfl rfl <| Pf 74 rfl rfl rfl rfl ?_
     refine Mv 75 rfl rfl rfl <| Sk 76 rfl rfl rfl <| Sk 77 rfl rfl rfl <| Sk 78 rfl rfl rfl <| Sk 79 rfl rfl rfl <| Sk 80 rfl rfl rfl <| Pf 81 rfl rfl rfl rfl <| Sg 82 rfl rfl rfl <| Sq.nil <| hk13 _ _ <| Run.ret ?_
     exact J.ends (res_tmp rfl rfl) Takes.nil ⟨congrArg Value.bool (by unfold eqX; rw [decide_eq_true (all_same htk (by omega) (by omega))]; show _ = (true && sameB x.t y.t); unfold sameB; rw [decide_eq_true (show x.t.type = y.t.type from c35), decide_eq_false (show ¬ x.t.nonce = y.t.nonce from c41)]; rfl), rfl⟩
   ·refine Mv 5 rfl rfl rfl <| Sk 6 rfl rfl rfl <| Sk 7 rfl rfl rfl <| Sk 8 rfl rfl rfl <| Sk 9 rfl rfl rfl <| Sk 10 rfl rfl rfl <| Pf 11 rfl rfl rfl rfl <| Mv 12 rfl rfl rfl <| Sk 13 rfl rfl rfl <| Sk 14 rfl rfl rfl <| Sk 15 rfl rfl rfl <| Sk 16 rfl rfl rfl <| Sk 17 rfl rfl rfl <| Pf 18 rfl rfl rfl rfl <| Mv 19 rfl rfl rfl <| Sk 20 rfl rfl rfl <| Sk 21 rfl rfl rfl <| Sk 22 rfl rfl rfl <| Sk 23 rfl rfl rfl <| Sk 24 rfl rfl rfl <| Pf 25 rfl rfl rfl rfl <| Mv 26 rfl rfl rfl <| Sk 27 rfl rfl rfl <| Sk 28 rfl rfl rfl <| Sk 29 rfl rfl rfl <| Sk 30 rfl rfl rfl <| Sk 31 rfl rfl rfl <| Pf 32 rfl rfl rfl rfl <| Mv 33 rfl rfl rfl <| Sk 34 rfl rfl rfl <| Sk 35 rfl rfl rfl <| Sk 36 rfl rfl rfl <| Sk 37 rfl rfl rfl ?_
    refine Sk 38 rfl rfl rfl <| Pf 39 rfl rfl rfl rfl <| Mv 40 rfl rfl rfl <| Sk 41 rfl rfl rfl <| Sk 42 rfl rfl rfl <| Sk 43 rfl rfl rfl <| Sk 44 rfl rfl rfl <| Sk 45 rfl rfl rfl <| Pf 46 rfl rfl rfl rfl <| Mv 47 rfl rfl rfl <| Sk 48 rfl rfl rfl <| Sk 49 rfl rfl rfl <| Sk 50 rfl rfl rfl <| Sk 51 rfl rfl rfl <| Sk 52 rfl rfl rfl <| Pf 53 rfl rfl rfl rfl <| Mv 54 rfl rfl rfl <| Sk 55 rfl rfl rfl <| Sk 56 rfl rfl rfl <| Sk 57 rfl rfl rfl <| Sk 58 rfl rfl rfl <| Sk 59 rfl rfl rfl <| Pf 60 rfl rfl rfl rfl <| Mv 61 rfl rfl rfl <| Sk 62 rfl rfl rfl <| Sk 63 rfl rfl rfl <| Sk 64 rfl rfl rfl <| Sk 65 rfl rfl rfl <| Sk 66 rfl rfl rfl <| Pf 67 rfl rfl rfl rfl <| Mv 68 rfl rfl rfl <| Sk 69 rfl rfl rfl ?_
    refine Sk 70 rfl rfl rfl <| Sk 71 rfl rfl rfl <| Sk 72 rfl rfl rfl <| Sk 73 rfl rfl rfl <| Pf 74 rfl rfl rfl rfl <| Mv 75 rfl rfl rfl <| Sk 76 rfl rfl rfl <| Sk 77 rfl rfl rfl <| Sk 78 rfl rfl rfl <| Sk 79 rfl rfl rfl <| Sk 80 rfl rfl rfl <| Pf 81 rfl rfl rfl rfl <| Sg 82 rfl rfl rfl <| Sq.nil <| hk13 _ _ <| Run.ret ?_
    exact J.ends (res_tmp rfl rfl) Takes.nil ⟨congrArg Value.bool (by unfold eqX; rw [decide_eq_true (all_same htk (by omega) (by omega))]; show _ = (true && sameB x.t y.t); unfold sameB; rw [decide_eq_false (show ¬ x.t.type = y.t.type from c35)]; rfl), rfl⟩

end Slb
