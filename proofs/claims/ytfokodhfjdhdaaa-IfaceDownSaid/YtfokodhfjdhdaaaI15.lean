/- I15: a part of the proof that a law of this package holds for every input; no condition. -/
import Derived.Test.YtfokodhfjdhdaaaM2
import Derived.Test.YtfokodhfjdhdaaaI14
namespace Slb
open Go Go.Proofs
set_option maxRecDepth 20000
def chk1 (t : Tlv) : Bool := !(ownF t).2 || (!timesB t || !sameB t (ownF t).1)
def chk2 (t : Tlv) : Bool := (decide (t.type = 8) && decide (t.metric ≠ 65535)) && (t.all || !namedB t.id_)
def chk3 (t : Tlv) : Bool := decide (t.type = 10) && (decide (t.hops = 0) || decide (t.id_ = Bs.zero 8))
/-- Whether a packet may say it. -/
def checkF (t : Tlv) : Int := if chk1 t = true then 2 else if chk2 t = true then 2 else if chk3 t = true then 2 else if pairedB t = true then ernoB (checkPairB t.pair) else 0
/-- What a Tlv's times are read from. -/
def TlvIn (F : Fr) (x : TlvX) : Prop := ArgSl F x.a 1 u32E x.l
theorem TlvIn.mono {F F' : Fr} {x : TlvX} (h : TlvIn F x) (hle : PH.le F.h F'.h) : TlvIn F' x := ArgSl.mono h hle
def eqX (x y : TlvX) : Bool := decide (x.l = y.l) && sameB x.t y.t
set_option maxHeartbeats 1000000 in
theorem check_tlv (F : Fr) (t : Tlv) : Spec Try.prog 54 #[.agg (Tlv.enc t).toArray] [] F (fun v S => v = .int .i64 (checkF t) ∧ S = []) := by
 refine Spec.intro (N := 66) (args := [.agg (Tlv.enc t).toArray]) Try.func54 rfl rfl (by simp) ?_
 refine Run.seq fun k1 hk1 => Run.region ?_
 show Sq _ _ _ [0, 1] _ _ _ _
 refine Ef 0 rfl rfl (EF.boxA rfl rfl) ?_
 rintro _ _ ⟨b1, rfl, rfl⟩
 refine Sg 1 rfl rfl rfl <| Sq.nil <| hk1 _ _ <| Run.seq fun k2 hk2 => Run.region ?_
 show Sq _ _ _ [0, 1, 2, 3, 4, 5, 6, 7] _ _ _ _
 refine Qq 0 rfl rfl (QR.load rfl rfl g46 (Tlv.enc_sub _)) ?_
 refine Ef 1 rfl rfl (EF.call rfl ce69 rfl Takes.nil (fun F' hle hr => own_spec F' t)) ?_
 rintro _ _ ⟨_, ⟨rfl, rfl⟩, rfl⟩
 refine J.app ?_
 refine Mv 2 rfl rfl rfl <| Qp 3 rfl rfl (QP.extract rfl rfl rfl) <| Qp 4 rfl rfl (QP.extract rfl rfl rfl) <| J.caseB (fun c10 => ?_) (fun c10 => ?_)
 ·refine Ef 5 rfl rfl (EF.allocA (l := Tlv.enc Tlv.zero) rfl zero46) ?_
  rintro _ _ ⟨b3, rfl, rfl⟩
  refine Ac 6 rfl (EF.storeA rfl rfl rfl z46 (SetL.all (Tlv.enc_len _) (Tlv.enc_len _)) (Tlv.enc_cell _)) ?_
  rintro _ _ rfl
  refine Sg 7 rfl rfl rfl <| Sq.nil <| hk2 _ _ <| Run.seq fun k3 hk3 => Run.region ?_
  show Sq _ _ _ [0, 1, 2, 3, 4, 5, 6, 7, 8] _ _ _ _
  refine Fa 0 rfl rfl rfl f46_0 <| Qq 1 rfl rfl (QR.load1 rfl rfl g5 (Tlv.sub_type _)) ?_
  refine Qp 2 rfl rfl (QP.eql rfl rfl rfl) <| J.caseD (fun c13 => ?_) (fun c13 => ?_)
  ·refine Mv 3 rfl rfl rfl <| Yf 4 rfl rfl rfl rfl f46_5 <| Yq 5 rfl rfl rfl (QR.load1 rfl rfl g37 (Tlv.sub_metric _)) ?_
   refine Yp 6 rfl rfl rfl (QP.neq rfl rfl rfl) <| J.caseD (fun c17 => ?_) (fun c17 => ?_)
   ·refine Pt 7 rfl rfl rfl rfl <| Sg 8 rfl rfl rfl <| Sq.nil <| hk3 _ _ <| Run.seq fun k4 hk4 => Run.block <| Run.seq fun k5 hk5 => Run.region ?_
    show Sq _ _ _ [0, 1, 2, 3, 4, 5, 6, 7, 8, 9, 10, 11, 12, 13] _ _ _ _
    refine Mv 0 rfl rfl rfl <| Qp 1 rfl rfl (QP.not rfl rfl) <| Mv 2 rfl rfl rfl <| Yq 3 rfl rfl rfl (QR.load rfl rfl g46 (Tlv.enc_sub _)) ?_
    refine Ye 4 rfl rfl rfl (EF.call rfl ce70 rfl Takes.nil (fun F' hle hr => times_spec F' t)) ?_
    rintro _ _ ⟨_, ⟨rfl, rfl⟩, rfl⟩
    refine J.app ?_
    refine J.caseB (fun c24 => ?_) (fun c24 => ?_)
    ·refine Yp 5 rfl rfl rfl (QP.not rfl rfl) <| Pf 6 rfl rfl rfl rfl <| Mv 7 rfl rfl rfl <| Yq 8 rfl rfl rfl (QR.load rfl rfl g46 (Tlv.enc_sub _)) ?_
     refine Yq 9 rfl rfl rfl (QR.load rfl rfl g46 (Tlv.enc_sub _)) ?_
     refine Ye 10 rfl rfl rfl (EF.call rfl ce71 rfl Takes.nil (fun F' hle hr => same_spec F' t (ownF t).1)) ?_
     rintro _ _ ⟨_, ⟨rfl, rfl⟩, rfl⟩
     refine J.app ?_
     refine J.caseB (fun c30 => ?_) (fun c30 => ?_)
     ·refine Yp 11 rfl rfl rfl (QP.not rfl rfl) <| Pf 12 rfl rfl rfl rfl <| Sg 13 rfl rfl rfl <| Sq.nil <| hk5 _ _ <| Run.cond_f rfl <| Run.seq fun k6 hk6 => Run.region ?_
      show Sq _ _ _ [0, 1, 2, 3, 4, 5, 6, 7, 8, 9, 10, 11] _ _ _ _
      refine Mv 0 rfl rfl rfl <| Mv 1 rfl rfl rfl <| Yf 2 rfl rfl rfl rfl f46_8 <| Yq 3 rfl rfl rfl (QR.load1 rfl rfl g4 (Tlv.sub_all _)) ?_
      refine J.caseB (fun c37 => ?_) (fun c37 => ?_)
      ·refine Ym 4 rfl rfl rfl rfl <| Sk 5 rfl rfl rfl <| Sk 6 rfl rfl rfl <| Sk 7 rfl rfl rfl <| Sk 8 rfl rfl rfl <| Yp 9 rfl rfl rfl (QP.pick_t rfl rfl rfl) <| Pt 10 rfl rfl rfl rfl <| Sg 11 rfl rfl rfl <| Sq.nil <| hk6 _ _ <| Run.cond_t rfl <| Run.seq fun k7 hk7 => Run.region ?_
       show Sq _ _ _ [0] _ _ _ _
       refine Sg 0 rfl rfl rfl <| Sq.nil <| hk7 _ _ <| Run.ret ?_
       exact J.ends (res_tmp rfl rfl) Takes.nil ⟨congrArg (Value.int .i64) (by unfold checkF; rw [if_neg (by unfold chk1; rw [c10, c24, c30]; simp), if_pos (by unfold chk2; rw [decide_eq_true (show t.type = 8 from c13), decide_eq_true (show t.metric ≠ 65535 from c17), c37]; rfl)]), rfl⟩
      ·refine Ym 4 rfl rfl rfl rfl <| Yf 5 rfl rfl rfl rfl f46_9 <| Yq 6 rfl rfl rfl (QR.load rfl rfl g39 (Tlv.sub_id_ _)) ?_
       refine Ye 7 rfl rfl rfl (EF.call rfl ce72 rfl Takes.nil (fun F' hle hr => named_spec F' t.id_)) ?_
       rintro _ _ ⟨_, ⟨rfl, rfl⟩, rfl⟩
       refine J.app ?_
       refine J.caseB (fun c41 => ?_) (fun c41 => ?_)
       ·refine Yp 8 rfl rfl rfl (QP.not rfl rfl) <| Yp 9 rfl rfl rfl (QP.pick_f rfl rfl rfl) <| Pt 10 rfl rfl rfl rfl <| Sg 11 rfl rfl rfl <| Sq.nil <| hk6 _ _ <| Run.cond_f rfl <| Run.seq fun k8 hk8 => Run.region ?_
        show Sq _ _ _ [0, 1, 2, 3, 4, 5, 6, 7, 8, 9, 10, 11, 12, 13, 14] _ _ _ _
        refine Fa 0 rfl rfl rfl f46_0 <| Qq 1 rfl rfl (QR.load1 rfl rfl g5 (Tlv.sub_type _)) ?_
        refine Qp 2 rfl rfl (QP.eql rfl rfl rfl) <| J.caseD (fun c48 => ?_) (fun c48 => ?_)
        ·refine Mv 3 rfl rfl rfl <| Yf 4 rfl rfl rfl rfl f46_6 <| Yq 5 rfl rfl rfl (QR.load1 rfl rfl g5 (Tlv.sub_hops _)) ?_
         refine Yp 6 rfl rfl rfl (QP.eql rfl rfl rfl) <| J.caseD (fun c52 => ?_) (fun c52 => ?_)
         ·refine Ym 7 rfl rfl rfl rfl <| Sk 8 rfl rfl rfl <| Sk 9 rfl rfl rfl <| Sk 10 rfl rfl rfl <| Sk 11 rfl rfl rfl <| Yp 12 rfl rfl rfl (QP.pick_t rfl rfl rfl) <| Pt 13 rfl rfl rfl rfl <| Sg 14 rfl rfl rfl <| Sq.nil <| hk8 _ _ <| Run.cond_t rfl <| Run.seq fun k9 hk9 => Run.region ?_
          show Sq _ _ _ [0] _ _ _ _
          refine Sg 0 rfl rfl rfl <| Sq.nil <| hk9 _ _ <| Run.ret ?_
          exact J.ends (res_tmp rfl rfl) Takes.nil ⟨congrArg (Value.int .i64) (by unfold checkF; rw [if_neg (by unfold chk1; rw [c10, c24, c30]; simp), if_neg (by unfold chk2; rw [decide_eq_true (show t.type = 8 from c13), decide_eq_true (show t.metric ≠ 65535 from c17), c37, c41]; simp), if_pos (by unfold chk3; rw [decide_eq_true (show t.type = 10 from c48), decide_eq_true (show t.hops = 0 from c52)]; rfl)]), rfl⟩
         ·refine Ym 7 rfl rfl rfl rfl <| Yf 8 rfl rfl rfl rfl f46_9 <| Yq 9 rfl rfl rfl (QR.load rfl rfl g39 (Tlv.sub_id_ _)) ?_
          refine Yp 10 rfl rfl rfl (QP.const (.agg (Bs.enc (⟨[0, 0, 0, 0, 0, 0, 0, 0], rfl⟩ : Bs 8)).toArray) (fun _ _ => by kernel_rfl)) <| Yp 11 rfl rfl rfl (QP.eql_agg eq39 rfl rfl rfl) <| J.caseD (fun c57 => ?_) (fun c57 => ?_)
          ·refine Yp 12 rfl rfl rfl (QP.pick_f rfl rfl rfl) <| Pt 13 rfl rfl rfl rfl <| Sg 14 rfl rfl rfl <| Sq.nil <| hk8 _ _ <| Run.cond_t rfl <| Run.seq fun k10 hk10 => Run.region ?_
           show Sq _ _ _ [0] _ _ _ _
           refine Sg 0 rfl rfl rfl <| Sq.nil <| hk10 _ _ <| Run.ret ?_
           exact J.ends (res_tmp rfl rfl) Takes.nil ⟨congrArg (Value.int .i64) (by unfold checkF; rw [if_neg (by unfold chk1; rw [c10, c24, c30]; simp), if_neg (by unfold chk2; rw [decide_eq_true (show t.type = 8 from c13), decide_eq_true (show t.metric ≠ 65535 from c17), c37, c41]; simp), if_pos (by unfold chk3; rw [decide_eq_true (show t.type = 10 from c48), decide_eq_false (show ¬ t.hops = 0 from c52), decide_eq_true (show t.id_ = Bs.zero 8 from c57)]; rfl)]), rfl⟩
          ·refine Yp 12 rfl rfl rfl (QP.pick_f rfl rfl rfl) <| Pt 13 rfl rfl rfl rfl <| Sg 14 rfl rfl rfl <| Sq.nil <| hk8 _ _ <| Run.cond_f rfl <| Run.seq fun k11 hk11 => Run.region ?_
           show Sq _ _ _ [0, 1, 2] _ _ _ _
           refine Qq 0 rfl rfl (QR.load rfl rfl g46 (Tlv.enc_sub _)) ?_
           refine Ef 1 rfl rfl (EF.call rfl ce73 rfl Takes.nil (fun F' hle hr => paired_spec F' t)) ?_
           rintro _ _ ⟨_, ⟨rfl, rfl⟩, rfl⟩
           refine J.app ?_
           refine J.caseB (fun c62 => ?_) (fun c62 => ?_)
           ·refine Sg 2 rfl rfl rfl <| Sq.nil <| hk11 _ _ <| Run.cond_t rfl <| Run.seq fun k12 hk12 => Run.region ?_
            show Sq _ _ _ [0, 1, 2, 3] _ _ _ _
            refine Fa 0 rfl rfl rfl f46_11 <| Qq 1 rfl rfl (QR.load rfl rfl g43 (Tlv.sub_pair _)) ?_
            refine Ef 2 rfl rfl (EF.call rfl ce74 rfl Takes.nil (fun F' hle hr => checkPair_spec F' t.pair)) ?_
            rintro _ _ ⟨_, ⟨rfl, rfl⟩, rfl⟩
            refine J.app ?_
            refine Sg 3 rfl rfl rfl <| Sq.nil <| hk12 _ _ <| Run.ret ?_
            exact J.ends (res_tmp rfl rfl) Takes.nil ⟨congrArg (Value.int .i64) (by unfold checkF; rw [if_neg (by unfold chk1; rw [c10, c24, c30]; simp), if_neg (by unfold chk2; rw [decide_eq_true (show t.type = 8 from c13), decide_eq_true (show t.metric ≠ 65535 from c17), c37, c41]; simp), if_neg (by unfold chk3; rw [decide_eq_true (show t.type = 10 from c48), decide_eq_false (show ¬ t.hops = 0 from c52), decide_eq_false (show ¬ t.id_ = Bs.zero 8 from c57)]; simp), if_pos c62]), rfl⟩
           ·refine Sg 2 rfl rfl rfl <| Sq.nil <| hk11 _ _ <| Run.cond_f rfl <| Run.skip <| hk4 _ _ <| Run.seq fun k13 hk13 => Run.region ?_
            show Sq _ _ _ [0] _ _ _ _
            refine Sg 0 rfl rfl rfl <| Sq.nil <| hk13 _ _ <| Run.ret ?_
            exact J.ends (res_tmp rfl rfl) Takes.nil ⟨congrArg (Value.int .i64) (by unfold checkF; rw [if_neg (by unfold chk1; rw [c10, c24, c30]; simp), if_neg (by unfold chk2; rw [decide_eq_true (show t.type = 8 from c13), decide_eq_true (show t.metric ≠ 65535 from c17), c37, c41]; simp), if_neg (by unfold chk3; rw [decide_eq_true (show t.type = 10 from c48), decide_eq_false (show ¬ t.hops = 0 from c52), decide_eq_false (show ¬ t.id_ = Bs.zero 8 from c57)]; simp), if_neg (by rw [c62]; simp)]), rfl⟩
        ·refine Mv 3 rfl rfl rfl <| Sk 4 rfl rfl rfl <| Sk 5 rfl rfl rfl <| Sk 6 rfl rfl rfl <| Sk 7 rfl rfl rfl <| Sq.skip (i := 8) rfl (Want.undef rfl rfl rfl) rfl (ltN rfl) ?_
         refine Sq.skip (i := 9) rfl (Want.undef rfl rfl rfl) rfl (ltN rfl) ?_
         refine Sq.skip (i := 10) rfl (Want.undef rfl rfl rfl) rfl (ltN rfl) ?_
         refine Sq.skip (i := 11) rfl (Want.undef rfl rfl rfl) rfl (ltN rfl) ?_
         refine Sk 12 rfl rfl rfl <| Pf 13 rfl rfl rfl rfl <| Sg 14 rfl rfl rfl <| Sq.nil <| hk8 _ _ <| Run.cond_f rfl <| Run.seq fun k14 hk14 => Run.region ?_
         show Sq _ _ _ [0, 1, 2] _ _ _ _
         refine Qq 0 rfl rfl (QR.load rfl rfl g46 (Tlv.enc_sub _)) ?_
         refine Ef 1 rfl rfl (EF.call rfl ce73 rfl Takes.nil (fun F' hle hr => paired_spec F' t)) ?_
         rintro _ _ ⟨_, ⟨rfl, rfl⟩, rfl⟩
         refine J.app ?_
         refine J.caseB (fun c62 => ?_) (fun c62 => ?_)
         ·refine Sg 2 rfl rfl rfl <| Sq.nil <| hk14 _ _ <| Run.cond_t rfl <| Run.seq fun k15 hk15 => Run.region ?_
          show Sq _ _ _ [0, 1, 2, 3] _ _ _ _
          refine Fa 0 rfl rfl rfl f46_11 <| Qq 1 rfl rfl (QR.load rfl rfl g43 (Tlv.sub_pair _)) ?_
          refine Ef 2 rfl rfl (EF.call rfl ce74 rfl Takes.nil (fun F' hle hr => checkPair_spec F' t.pair)) ?_
          rintro _ _ ⟨_, ⟨rfl, rfl⟩, rfl⟩
          refine J.app ?_
          refine Sg 3 rfl rfl rfl <| Sq.nil <| hk15 _ _ <| Run.ret ?_
          exact J.ends (res_tmp rfl rfl) Takes.nil ⟨congrArg (Value.int .i64) (by unfold checkF; rw [if_neg (by unfold chk1; rw [c10, c24, c30]; simp), if_neg (by unfold chk2; rw [decide_eq_true (show t.type = 8 from c13), decide_eq_true (show t.metric ≠ 65535 from c17), c37, c41]; simp), if_neg (by unfold chk3; rw [decide_eq_false (show ¬ t.type = 10 from c48)]; simp), if_pos c62]), rfl⟩
         ·refine Sg 2 rfl rfl rfl <| Sq.nil <| hk14 _ _ <| Run.cond_f rfl <| Run.skip <| hk4 _ _ <| Run.seq fun k16 hk16 => Run.region ?_
          show Sq _ _ _ [0] _ _ _ _
          refine Sg 0 rfl rfl rfl <| Sq.nil <| hk16 _ _ <| Run.ret ?_
          exact J.ends (res_tmp rfl rfl) Takes.nil ⟨congrArg (Value.int .i64) (by unfold checkF; rw [if_neg (by unfold chk1; rw [c10, c24, c30]; simp), if_neg (by unfold chk2; rw [decide_eq_true (show t.type = 8 from c13), decide_eq_true (show t.metric ≠ 65535 from c17), c37, c41]; simp), if_neg (by unfold chk3; rw [decide_eq_false (show ¬ t.type = 10 from c48)]; simp), if_neg (by rw [c62]; simp)]), rfl⟩
       ·refine Yp 8 rfl rfl rfl (QP.not rfl rfl) <| Yp 9 rfl rfl rfl (QP.pick_f rfl rfl rfl) <| Pt 10 rfl rfl rfl rfl <| Sg 11 rfl rfl rfl <| Sq.nil <| hk6 _ _ <| Run.cond_t rfl <| Run.seq fun k17 hk17 => Run.region ?_
        show Sq _ _ _ [0] _ _ _ _
        refine Sg 0 rfl rfl rfl <| Sq.nil <| hk17 _ _ <| Run.ret ?_
        exact J.ends (res_tmp rfl rfl) Takes.nil ⟨congrArg (Value.int .i64) (by unfold checkF; rw [if_neg (by unfold chk1; rw [c10, c24, c30]; simp), if_pos (by unfold chk2; rw [decide_eq_true (show t.type = 8 from c13), decide_eq_true (show t.metric ≠ 65535 from c17), c37, c41]; rfl)]), rfl⟩
     ·refine Yp 11 rfl rfl rfl (QP.not rfl rfl) <| Pf 12 rfl rfl rfl rfl <| Sg 13 rfl rfl rfl <| Sq.nil <| hk5 _ _ <| Run.cond_t rfl <| Run.seq fun k18 hk18 => Run.region ?_
      show Sq _ _ _ [0] _ _ _ _
      refine Sg 0 rfl rfl rfl <| Sq.nil <| hk18 _ _ <| Run.ret ?_
      exact J.ends (res_tmp rfl rfl) Takes.nil ⟨congrArg (Value.int .i64) (by unfold checkF; rw [if_pos (by unfold chk1; rw [c10, c24, c30]; rfl)]), rfl⟩
    ·refine Yp 5 rfl rfl rfl (QP.not rfl rfl) <| Pf 6 rfl rfl rfl rfl <| Mv 7 rfl rfl rfl <| Sk 8 rfl rfl rfl <| Sk 9 rfl rfl rfl <| Sk 10 rfl rfl rfl <| Sk 11 rfl rfl rfl <| Pt 12 rfl rfl rfl rfl <| Sg 13 rfl rfl rfl <| Sq.nil <| hk5 _ _ <| Run.cond_t rfl <| Run.seq fun k19 hk19 => Run.region ?_
     show Sq _ _ _ [0] _ _ _ _
     refine Sg 0 rfl rfl rfl <| Sq.nil <| hk19 _ _ <| Run.ret ?_
     exact J.ends (res_tmp rfl rfl) Takes.nil ⟨congrArg (Value.int .i64) (by unfold checkF; rw [if_pos (by unfold chk1; rw [c10, c24]; rfl)]), rfl⟩
   ·refine Pt 7 rfl rfl rfl rfl <| Sg 8 rfl rfl rfl <| Sq.nil <| hk3 _ _ <| Run.seq fun k20 hk20 => Run.block <| Run.seq fun k21 hk21 => Run.region ?_
    show Sq _ _ _ [0, 1, 2, 3, 4, 5, 6, 7, 8, 9, 10, 11, 12, 13] _ _ _ _
    refine Mv 0 rfl rfl rfl <| Qp 1 rfl rfl (QP.not rfl rfl) <| Mv 2 rfl rfl rfl <| Yq 3 rfl rfl rfl (QR.load rfl rfl g46 (Tlv.enc_sub _)) ?_
    refine Ye 4 rfl rfl rfl (EF.call rfl ce70 rfl Takes.nil (fun F' hle hr => times_spec F' t)) ?_
    rintro _ _ ⟨_, ⟨rfl, rfl⟩, rfl⟩
    refine J.app ?_
    refine J.caseB (fun c24 => ?_) (fun c24 => ?_)
    ·refine Yp 5 rfl rfl rfl (QP.not rfl rfl) <| Pf 6 rfl rfl rfl rfl <| Mv 7 rfl rfl rfl <| Yq 8 rfl rfl rfl (QR.load rfl rfl g46 (Tlv.enc_sub _)) ?_
     refine Yq 9 rfl rfl rfl (QR.load rfl rfl g46 (Tlv.enc_sub _)) ?_
     refine Ye 10 rfl rfl rfl (EF.call rfl ce71 rfl Takes.nil (fun F' hle hr => same_spec F' t (ownF t).1)) ?_
     rintro _ _ ⟨_, ⟨rfl, rfl⟩, rfl⟩
     refine J.app ?_
     refine J.caseB (fun c30 => ?_) (fun c30 => ?_)
     ·refine Yp 11 rfl rfl rfl (QP.not rfl rfl) <| Pf 12 rfl rfl rfl rfl <| Sg 13 rfl rfl rfl <| Sq.nil <| hk21 _ _ <| Run.cond_f rfl <| Run.seq fun k22 hk22 => Run.region ?_
      show Sq _ _ _ [0, 1, 2, 3, 4, 5, 6, 7, 8, 9, 10, 11] _ _ _ _
      refine Mv 0 rfl rfl rfl <| Mv 1 rfl rfl rfl <| Sk 2 rfl rfl rfl <| Sk 3 rfl rfl rfl <| Sk 4 rfl rfl rfl <| Sq.skip (i := 5) rfl (Want.undef rfl rfl rfl) rfl (ltN rfl) ?_
      refine Sq.skip (i := 6) rfl (Want.undef rfl rfl rfl) rfl (ltN rfl) ?_
      refine Sq.skip (i := 7) rfl (Want.undef rfl rfl rfl) rfl (ltN rfl) ?_
      refine Sq.skip (i := 8) rfl (Want.undef rfl rfl rfl) rfl (ltN rfl) ?_
      refine Sk 9 rfl rfl rfl <| Pf 10 rfl rfl rfl rfl <| Sg 11 rfl rfl rfl <| Sq.nil <| hk22 _ _ <| Run.cond_f rfl <| Run.seq fun k23 hk23 => Run.region ?_
      show Sq _ _ _ [0, 1, 2, 3, 4, 5, 6, 7, 8, 9, 10, 11, 12, 13, 14] _ _ _ _
      refine Fa 0 rfl rfl rfl f46_0 <| Qq 1 rfl rfl (QR.load1 rfl rfl g5 (Tlv.sub_type _)) ?_
      refine Qp 2 rfl rfl (QP.eql rfl rfl rfl) <| J.caseD (fun c48 => ?_) (fun c48 => ?_)
      ·refine Mv 3 rfl rfl rfl <| Yf 4 rfl rfl rfl rfl f46_6 <| Yq 5 rfl rfl rfl (QR.load1 rfl rfl g5 (Tlv.sub_hops _)) ?_
       refine Yp 6 rfl rfl rfl (QP.eql rfl rfl rfl) <| J.caseD (fun c52 => ?_) (fun c52 => ?_)
       ·refine Ym 7 rfl rfl rfl rfl <| Sk 8 rfl rfl rfl <| Sk 9 rfl rfl rfl <| Sk 10 rfl rfl rfl <| Sk 11 rfl rfl rfl <| Yp 12 rfl rfl rfl (QP.pick_t rfl rfl rfl) <| Pt 13 rfl rfl rfl rfl <| Sg 14 rfl rfl rfl <| Sq.nil <| hk23 _ _ <| Run.cond_t rfl <| Run.seq fun k24 hk24 => Run.region ?_
        show Sq _ _ _ [0] _ _ _ _
        refine Sg 0 rfl rfl rfl <| Sq.nil <| hk24 _ _ <| Run.ret ?_
        exact J.ends (res_tmp rfl rfl) Takes.nil ⟨congrArg (Value.int .i64) (by unfold checkF; rw [if_neg (by unfold chk1; rw [c10, c24, c30]; simp), if_neg (by unfold chk2; rw [decide_eq_true (show t.type = 8 from c13), decide_eq_false (show ¬ t.metric ≠ 65535 from c17)]; simp), if_pos (by unfold chk3; rw [decide_eq_true (show t.type = 10 from c48), decide_eq_true (show t.hops = 0 from c52)]; rfl)]), rfl⟩
       ·refine Ym 7 rfl rfl rfl rfl <| Yf 8 rfl rfl rfl rfl f46_9 <| Yq 9 rfl rfl rfl (QR.load rfl rfl g39 (Tlv.sub_id_ _)) ?_
        refine Yp 10 rfl rfl rfl (QP.const (.agg (Bs.enc (⟨[0, 0, 0, 0, 0, 0, 0, 0], rfl⟩ : Bs 8)).toArray) (fun _ _ => by kernel_rfl)) <| Yp 11 rfl rfl rfl (QP.eql_agg eq39 rfl rfl rfl) <| J.caseD (fun c57 => ?_) (fun c57 => ?_)
        ·refine Yp 12 rfl rfl rfl (QP.pick_f rfl rfl rfl) <| Pt 13 rfl rfl rfl rfl <| Sg 14 rfl rfl rfl <| Sq.nil <| hk23 _ _ <| Run.cond_t rfl <| Run.seq fun k25 hk25 => Run.region ?_
         show Sq _ _ _ [0] _ _ _ _
         refine Sg 0 rfl rfl rfl <| Sq.nil <| hk25 _ _ <| Run.ret ?_
         exact J.ends (res_tmp rfl rfl) Takes.nil ⟨congrArg (Value.int .i64) (by unfold checkF; rw [if_neg (by unfold chk1; rw [c10, c24, c30]; simp), if_neg (by unfold chk2; rw [decide_eq_true (show t.type = 8 from c13), decide_eq_false (show ¬ t.metric ≠ 65535 from c17)]; simp), if_pos (by unfold chk3; rw [decide_eq_true (show t.type = 10 from c48), decide_eq_false (show ¬ t.hops = 0 from c52), decide_eq_true (show t.id_ = Bs.zero 8 from c57)]; rfl)]), rfl⟩
        ·refine Yp 12 rfl rfl rfl (QP.pick_f rfl rfl rfl) <| Pt 13 rfl rfl rfl rfl <| Sg 14 rfl rfl rfl <| Sq.nil <| hk23 _ _ <| Run.cond_f rfl <| Run.seq fun k26 hk26 => Run.region ?_
         show Sq _ _ _ [0, 1, 2] _ _ _ _
         refine Qq 0 rfl rfl (QR.load rfl rfl g46 (Tlv.enc_sub _)) ?_
         refine Ef 1 rfl rfl (EF.call rfl ce73 rfl Takes.nil (fun F' hle hr => paired_spec F' t)) ?_
         rintro _ _ ⟨_, ⟨rfl, rfl⟩, rfl⟩
         refine J.app ?_
         refine J.caseB (fun c62 => ?_) (fun c62 => ?_)
         ·refine Sg 2 rfl rfl rfl <| Sq.nil <| hk26 _ _ <| Run.cond_t rfl <| Run.seq fun k27 hk27 => Run.region ?_
          show Sq _ _ _ [0, 1, 2, 3] _ _ _ _
          refine Fa 0 rfl rfl rfl f46_11 <| Qq 1 rfl rfl (QR.load rfl rfl g43 (Tlv.sub_pair _)) ?_
          refine Ef 2 rfl rfl (EF.call rfl ce74 rfl Takes.nil (fun F' hle hr => checkPair_spec F' t.pair)) ?_
          rintro _ _ ⟨_, ⟨rfl, rfl⟩, rfl⟩
          refine J.app ?_
          refine Sg 3 rfl rfl rfl <| Sq.nil <| hk27 _ _ <| Run.ret ?_
          exact J.ends (res_tmp rfl rfl) Takes.nil ⟨congrArg (Value.int .i64) (by unfold checkF; rw [if_neg (by unfold chk1; rw [c10, c24, c30]; simp), if_neg (by unfold chk2; rw [decide_eq_true (show t.type = 8 from c13), decide_eq_false (show ¬ t.metric ≠ 65535 from c17)]; simp), if_neg (by unfold chk3; rw [decide_eq_true (show t.type = 10 from c48), decide_eq_false (show ¬ t.hops = 0 from c52), decide_eq_false (show ¬ t.id_ = Bs.zero 8 from c57)]; simp), if_pos c62]), rfl⟩
         ·refine Sg 2 rfl rfl rfl <| Sq.nil <| hk26 _ _ <| Run.cond_f rfl <| Run.skip <| hk20 _ _ <| Run.seq fun k28 hk28 => Run.region ?_
          show Sq _ _ _ [0] _ _ _ _
          refine Sg 0 rfl rfl rfl <| Sq.nil <| hk28 _ _ <| Run.ret ?_
          exact J.ends (res_tmp rfl rfl) Takes.nil ⟨congrArg (Value.int .i64) (by unfold checkF; rw [if_neg (by unfold chk1; rw [c10, c24, c30]; simp), if_neg (by unfold chk2; rw [decide_eq_true (show t.type = 8 from c13), decide_eq_false (show ¬ t.metric ≠ 65535 from c17)]; simp), if_neg (by unfold chk3; rw [decide_eq_true (show t.type = 10 from c48), decide_eq_false (show ¬ t.hops = 0 from c52), decide_eq_false (show ¬ t.id_ = Bs.zero 8 from c57)]; simp), if_neg (by rw [c62]; simp)]), rfl⟩
      ·refine Mv 3 rfl rfl rfl <| Sk 4 rfl rfl rfl <| Sk 5 rfl rfl rfl <| Sk 6 rfl rfl rfl <| Sk 7 rfl rfl rfl <| Sq.skip (i := 8) rfl (Want.undef rfl rfl rfl) rfl (ltN rfl) ?_
       refine Sq.skip (i := 9) rfl (Want.undef rfl rfl rfl) rfl (ltN rfl) ?_
       refine Sq.skip (i := 10) rfl (Want.undef rfl rfl rfl) rfl (ltN rfl) ?_
       refine Sq.skip (i := 11) rfl (Want.undef rfl rfl rfl) rfl (ltN rfl) ?_
       refine Sk 12 rfl rfl rfl <| Pf 13 rfl rfl rfl rfl <| Sg 14 rfl rfl rfl <| Sq.nil <| hk23 _ _ <| Run.cond_f rfl <| Run.seq fun k29 hk29 => Run.region ?_
       show Sq _ _ _ [0, 1, 2] _ _ _ _
       refine Qq 0 rfl rfl (QR.load rfl rfl g46 (Tlv.enc_sub _)) ?_
       refine Ef 1 rfl rfl (EF.call rfl ce73 rfl Takes.nil (fun F' hle hr => paired_spec F' t)) ?_
       rintro _ _ ⟨_, ⟨rfl, rfl⟩, rfl⟩
       refine J.app ?_
       refine J.caseB (fun c62 => ?_) (fun c62 => ?_)
       ·refine Sg 2 rfl rfl rfl <| Sq.nil <| hk29 _ _ <| Run.cond_t rfl <| Run.seq fun k30 hk30 => Run.region ?_
        show Sq _ _ _ [0, 1, 2, 3] _ _ _ _
        refine Fa 0 rfl rfl rfl f46_11 <| Qq 1 rfl rfl (QR.load rfl rfl g43 (Tlv.sub_pair _)) ?_
        refine Ef 2 rfl rfl (EF.call rfl ce74 rfl Takes.nil (fun F' hle hr => checkPair_spec F' t.pair)) ?_
        rintro _ _ ⟨_, ⟨rfl, rfl⟩, rfl⟩
        refine J.app ?_
        refine Sg 3 rfl rfl rfl <| Sq.nil <| hk30 _ _ <| Run.ret ?_
        exact J.ends (res_tmp rfl rfl) Takes.nil ⟨congrArg (Value.int .i64) (by unfold checkF; rw [if_neg (by unfold chk1; rw [c10, c24, c30]; simp), if_neg (by unfold chk2; rw [decide_eq_true (show t.type = 8 from c13), decide_eq_false (show ¬ t.metric ≠ 65535 from c17)]; simp), if_neg (by unfold chk3; rw [decide_eq_false (show ¬ t.type = 10 from c48)]; simp), if_pos c62]), rfl⟩
       ·refine Sg 2 rfl rfl rfl <| Sq.nil <| hk29 _ _ <| Run.cond_f rfl <| Run.skip <| hk20 _ _ <| Run.seq fun k31 hk31 => Run.region ?_
        show Sq _ _ _ [0] _ _ _ _
        refine Sg 0 rfl rfl rfl <| Sq.nil <| hk31 _ _ <| Run.ret ?_
        exact J.ends (res_tmp rfl rfl) Takes.nil ⟨congrArg (Value.int .i64) (by unfold checkF; rw [if_neg (by unfold chk1; rw [c10, c24, c30]; simp), if_neg (by unfold chk2; rw [decide_eq_true (show t.type = 8 from c13), decide_eq_false (show ¬ t.metric ≠ 65535 from c17)]; simp), if_neg (by unfold chk3; rw [decide_eq_false (show ¬ t.type = 10 from c48)]; simp), if_neg (by rw [c62]; simp)]), rfl⟩
     ·refine Yp 11 rfl rfl rfl (QP.not rfl rfl) <| Pf 12 rfl rfl rfl rfl <| Sg 13 rfl rfl rfl <| Sq.nil <| hk21 _ _ <| Run.cond_t rfl <| Run.seq fun k32 hk32 => Run.region ?_
      show Sq _ _ _ [0] _ _ _ _
      refine Sg 0 rfl rfl rfl <| Sq.nil <| hk32 _ _ <| Run.ret ?_
      exact J.ends (res_tmp rfl rfl) Takes.nil ⟨congrArg (Value.int .i64) (by unfold checkF; rw [if_pos (by unfold chk1; rw [c10, c24, c30]; rfl)]), rfl⟩
    ·refine Yp 5 rfl rfl rfl (QP.not rfl rfl) <| Pf 6 rfl rfl rfl rfl <| Mv 7 rfl rfl rfl <| Sk 8 rfl rfl rfl <| Sk 9 rfl rfl rfl <| Sk 10 rfl rfl rfl <| Sk 11 rfl rfl rfl <| Pt 12 rfl rfl rfl rfl <| Sg 13 rfl rfl rfl <| Sq.nil <| hk21 _ _ <| Run.cond_t rfl <| Run.seq fun k33 hk33 => Run.region ?_
     show Sq _ _ _ [0] _ _ _ _
     refine Sg 0 rfl rfl rfl <| Sq.nil <| hk33 _ _ <| Run.ret ?_
     exact J.ends (res_tmp rfl rfl) Takes.nil ⟨congrArg (Value.int .i64) (by unfold checkF; rw [if_pos (by unfold chk1; rw [c10, c24]; rfl)]), rfl⟩
  ·refine Mv 3 rfl rfl rfl <| Sk 4 rfl rfl rfl <| Sk 5 rfl rfl rfl <| Sk 6 rfl rfl rfl <| Pf 7 rfl rfl rfl rfl <| Sg 8 rfl rfl rfl <| Sq.nil <| hk3 _ _ <| Run.seq fun k34 hk34 => Run.block <| Run.seq fun k35 hk35 => Run.region ?_
   show Sq _ _ _ [0, 1, 2, 3, 4, 5, 6, 7, 8, 9, 10, 11, 12, 13] _ _ _ _
   refine Mv 0 rfl rfl rfl <| Qp 1 rfl rfl (QP.not rfl rfl) <| Mv 2 rfl rfl rfl <| Yq 3 rfl rfl rfl (QR.load rfl rfl g46 (Tlv.enc_sub _)) ?_
   refine Ye 4 rfl rfl rfl (EF.call rfl ce70 rfl Takes.nil (fun F' hle hr => times_spec F' t)) ?_
   rintro _ _ ⟨_, ⟨rfl, rfl⟩, rfl⟩
   refine J.app ?_
   refine J.caseB (fun c24 => ?_) (fun c24 => ?_)
   ·refine Yp 5 rfl rfl rfl (QP.not rfl rfl) <| Pf 6 rfl rfl rfl rfl <| Mv 7 rfl rfl rfl <| Yq 8 rfl rfl rfl (QR.load rfl rfl g46 (Tlv.enc_sub _)) ?_
    refine Yq 9 rfl rfl rfl (QR.load rfl rfl g46 (Tlv.enc_sub _)) ?_
    refine Ye 10 rfl rfl rfl (EF.call rfl ce71 rfl Takes.nil (fun F' hle hr => same_spec F' t (ownF t).1)) ?_
    rintro _ _ ⟨_, ⟨rfl, rfl⟩, rfl⟩
    refine J.app ?_
    refine J.caseB (fun c30 => ?_) (fun c30 => ?_)
    ·refine Yp 11 rfl rfl rfl (QP.not rfl rfl) <| Pf 12 rfl rfl rfl rfl <| Sg 13 rfl rfl rfl <| Sq.nil <| hk35 _ _ <| Run.cond_f rfl <| Run.seq fun k36 hk36 => Run.region ?_
     show Sq _ _ _ [0, 1, 2, 3, 4, 5, 6, 7, 8, 9, 10, 11] _ _ _ _
     refine Mv 0 rfl rfl rfl <| Mv 1 rfl rfl rfl <| Sk 2 rfl rfl rfl <| Sk 3 rfl rfl rfl <| Sk 4 rfl rfl rfl <| Sq.skip (i := 5) rfl (Want.undef rfl rfl rfl) rfl (ltN rfl) ?_
     refine Sq.skip (i := 6) rfl (Want.undef rfl rfl rfl) rfl (ltN rfl) ?_
     refine Sq.skip (i := 7) rfl (Want.undef rfl rfl rfl) rfl (ltN rfl) ?_
     refine Sq.skip (i := 8) rfl (Want.undef rfl rfl rfl) rfl (ltN rfl) ?_
     refine Sk 9 rfl rfl rfl <| Pf 10 rfl rfl rfl rfl <| Sg 11 rfl rfl rfl <| Sq.nil <| hk36 _ _ <| Run.cond_f rfl <| Run.seq fun k37 hk37 => Run.region ?_
     show Sq _ _ _ [0, 1, 2, 3, 4, 5, 6, 7, 8, 9, 10, 11, 12, 13, 14] _ _ _ _
     refine Fa 0 rfl rfl rfl f46_0 <| Qq 1 rfl rfl (QR.load1 rfl rfl g5 (Tlv.sub_type _)) ?_
     refine Qp 2 rfl rfl (QP.eql rfl rfl rfl) <| J.caseD (fun c48 => ?_) (fun c48 => ?_)
     ·refine Mv 3 rfl rfl rfl <| Yf 4 rfl rfl rfl rfl f46_6 <| Yq 5 rfl rfl rfl (QR.load1 rfl rfl g5 (Tlv.sub_hops _)) ?_
      refine Yp 6 rfl rfl rfl (QP.eql rfl rfl rfl) <| J.caseD (fun c52 => ?_) (fun c52 => ?_)
      ·refine Ym 7 rfl rfl rfl rfl <| Sk 8 rfl rfl rfl <| Sk 9 rfl rfl rfl <| Sk 10 rfl rfl rfl <| Sk 11 rfl rfl rfl <| Yp 12 rfl rfl rfl (QP.pick_t rfl rfl rfl) <| Pt 13 rfl rfl rfl rfl <| Sg 14 rfl rfl rfl <| Sq.nil <| hk37 _ _ <| Run.cond_t rfl <| Run.seq fun k38 hk38 => Run.region ?_
       show Sq _ _ _ [0] _ _ _ _
       refine Sg 0 rfl rfl rfl <| Sq.nil <| hk38 _ _ <| Run.ret ?_
       exact J.ends (res_tmp rfl rfl) Takes.nil ⟨congrArg (Value.int .i64) (by unfold checkF; rw [if_neg (by unfold chk1; rw [c10, c24, c30]; simp), if_neg (by unfold chk2; rw [decide_eq_false (show ¬ t.type = 8 from c13)]; simp), if_pos (by unfold chk3; rw [decide_eq_true (show t.type = 10 from c48), decide_eq_true (show t.hops = 0 from c52)]; rfl)]), rfl⟩
      ·refine Ym 7 rfl rfl rfl rfl <| Yf 8 rfl rfl rfl rfl f46_9 <| Yq 9 rfl rfl rfl (QR.load rfl rfl g39 (Tlv.sub_id_ _)) ?_
       refine Yp 10 rfl rfl rfl (QP.const (.agg (Bs.enc (⟨[0, 0, 0, 0, 0, 0, 0, 0], rfl⟩ : Bs 8)).toArray) (fun _ _ => by kernel_rfl)) <| Yp 11 rfl rfl rfl (QP.eql_agg eq39 rfl rfl rfl) <| J.caseD (fun c57 => ?_) (fun c57 => ?_)
       ·refine Yp 12 rfl rfl rfl (QP.pick_f rfl rfl rfl) <| Pt 13 rfl rfl rfl rfl <| Sg 14 rfl rfl rfl <| Sq.nil <| hk37 _ _ <| Run.cond_t rfl <| Run.seq fun k39 hk39 => Run.region ?_
        show Sq _ _ _ [0] _ _ _ _
        refine Sg 0 rfl rfl rfl <| Sq.nil <| hk39 _ _ <| Run.ret ?_
        exact J.ends (res_tmp rfl rfl) Takes.nil ⟨congrArg (Value.int .i64) (by unfold checkF; rw [if_neg (by unfold chk1; rw [c10, c24, c30]; simp), if_neg (by unfold chk2; rw [decide_eq_false (show ¬ t.type = 8 from c13)]; simp), if_pos (by unfold chk3; rw [decide_eq_true (show t.type = 10 from c48), decide_eq_false (show ¬ t.hops = 0 from c52), decide_eq_true (show t.id_ = Bs.zero 8 from c57)]; rfl)]), rfl⟩
       ·refine Yp 12 rfl rfl rfl (QP.pick_f rfl rfl rfl) <| Pt 13 rfl rfl rfl rfl <| Sg 14 rfl rfl rfl <| Sq.nil <| hk37 _ _ <| Run.cond_f rfl <| Run.seq fun k40 hk40 => Run.region ?_
        show Sq _ _ _ [0, 1, 2] _ _ _ _
        refine Qq 0 rfl rfl (QR.load rfl rfl g46 (Tlv.enc_sub _)) ?_
        refine Ef 1 rfl rfl (EF.call rfl ce73 rfl Takes.nil (fun F' hle hr => paired_spec F' t)) ?_
        rintro _ _ ⟨_, ⟨rfl, rfl⟩, rfl⟩
        refine J.app ?_
        refine J.caseB (fun c62 => ?_) (fun c62 => ?_)
        ·refine Sg 2 rfl rfl rfl <| Sq.nil <| hk40 _ _ <| Run.cond_t rfl <| Run.seq fun k41 hk41 => Run.region ?_
         show Sq _ _ _ [0, 1, 2, 3] _ _ _ _
         refine Fa 0 rfl rfl rfl f46_11 <| Qq 1 rfl rfl (QR.load rfl rfl g43 (Tlv.sub_pair _)) ?_
         refine Ef 2 rfl rfl (EF.call rfl ce74 rfl Takes.nil (fun F' hle hr => checkPair_spec F' t.pair)) ?_
         rintro _ _ ⟨_, ⟨rfl, rfl⟩, rfl⟩
         refine J.app ?_
         refine Sg 3 rfl rfl rfl <| Sq.nil <| hk41 _ _ <| Run.ret ?_
         exact J.ends (res_tmp rfl rfl) Takes.nil ⟨congrArg (Value.int .i64) (by unfold checkF; rw [if_neg (by unfold chk1; rw [c10, c24, c30]; simp), if_neg (by unfold chk2; rw [decide_eq_false (show ¬ t.type = 8 from c13)]; simp), if_neg (by unfold chk3; rw [decide_eq_true (show t.type = 10 from c48), decide_eq_false (show ¬ t.hops = 0 from c52), decide_eq_false (show ¬ t.id_ = Bs.zero 8 from c57)]; simp), if_pos c62]), rfl⟩
        ·refine Sg 2 rfl rfl rfl <| Sq.nil <| hk40 _ _ <| Run.cond_f rfl <| Run.skip <| hk34 _ _ <| Run.seq fun k42 hk42 => Run.region ?_
         show Sq _ _ _ [0] _ _ _ _
         refine Sg 0 rfl rfl rfl <| Sq.nil <| hk42 _ _ <| Run.ret ?_
         exact J.ends (res_tmp rfl rfl) Takes.nil ⟨congrArg (Value.int .i64) (by unfold checkF; rw [if_neg (by unfold chk1; rw [c10, c24, c30]; simp), if_neg (by unfold chk2; rw [decide_eq_false (show ¬ t.type = 8 from c13)]; simp), if_neg (by unfold chk3; rw [decide_eq_true (show t.type = 10 from c48), decide_eq_false (show ¬ t.hops = 0 from c52), decide_eq_false (show ¬ t.id_ = Bs.zero 8 from c57)]; simp), if_neg (by rw [c62]; simp)]), rfl⟩
     ·refine Mv 3 rfl rfl rfl <| Sk 4 rfl rfl rfl <| Sk 5 rfl rfl rfl <| Sk 6 rfl rfl rfl <| Sk 7 rfl rfl rfl <| Sq.skip (i := 8) rfl (Want.undef rfl rfl rfl) rfl (ltN rfl) ?_
      refine Sq.skip (i := 9) rfl (Want.undef rfl rfl rfl) rfl (ltN rfl) ?_
      refine Sq.skip (i := 10) rfl (Want.undef rfl rfl rfl) rfl (ltN rfl) ?_
      refine Sq.skip (i := 11) rfl (Want.undef rfl rfl rfl) rfl (ltN rfl) ?_
      refine Sk 12 rfl rfl rfl <| Pf 13 rfl rfl rfl rfl <| Sg 14 rfl rfl rfl <| Sq.nil <| hk37 _ _ <| Run.cond_f rfl <| Run.seq fun k43 hk43 => Run.region ?_
      show Sq _ _ _ [0, 1, 2] _ _ _ _
      refine Qq 0 rfl rfl (QR.load rfl rfl g46 (Tlv.enc_sub _)) ?_
      refine Ef 1 rfl rfl (EF.call rfl ce73 rfl Takes.nil (fun F' hle hr => paired_spec F' t)) ?_
      rintro _ _ ⟨_, ⟨rfl, rfl⟩, rfl⟩
      refine J.app ?_
      refine J.caseB (fun c62 => ?_) (fun c62 => ?_)
      ·refine Sg 2 rfl rfl rfl <| Sq.nil <| hk43 _ _ <| Run.cond_t rfl <| Run.seq fun k44 hk44 => Run.region ?_
       show Sq _ _ _ [0, 1, 2, 3] _ _ _ _
       refine Fa 0 rfl rfl rfl f46_11 <| Qq 1 rfl rfl (QR.load rfl rfl g43 (Tlv.sub_pair _)) ?_
       refine Ef 2 rfl rfl (EF.call rfl ce74 rfl Takes.nil (fun F' hle hr => checkPair_spec F' t.pair)) ?_
       rintro _ _ ⟨_, ⟨rfl, rfl⟩, rfl⟩
       refine J.app ?_
       refine Sg 3 rfl rfl rfl <| Sq.nil <| hk44 _ _ <| Run.ret ?_
       exact J.ends (res_tmp rfl rfl) Takes.nil ⟨congrArg (Value.int .i64) (by unfold checkF; rw [if_neg (by unfold chk1; rw [c10, c24, c30]; simp), if_neg (by unfold chk2; rw [decide_eq_false (show ¬ t.type = 8 from c13)]; simp), if_neg (by unfold chk3; rw [decide_eq_false (show ¬ t.type = 10 from c48)]; simp), if_pos c62]), rfl⟩
      ·refine Sg 2 rfl rfl rfl <| Sq.nil <| hk43 _ _ <| Run.cond_f rfl <| Run.skip <| hk34 _ _ <| Run.seq fun k45 hk45 => Run.region ?_
       show Sq _ _ _ [0] _ _ _ _
       refine Sg 0 rfl rfl rfl <| Sq.nil <| hk45 _ _ <| Run.ret ?_
       exact J.ends (res_tmp rfl rfl) Takes.nil ⟨congrArg (Value.int .i64) (by unfold checkF; rw [if_neg (by unfold chk1; rw [c10, c24, c30]; simp), if_neg (by unfold chk2; rw [decide_eq_false (show ¬ t.type = 8 from c13)]; simp), if_neg (by unfold chk3; rw [decide_eq_false (show ¬ t.type = 10 from c48)]; simp), if_neg (by rw [c62]; simp)]), rfl⟩
    ·refine Yp 11 rfl rfl rfl (QP.not rfl rfl) <| Pf 12 rfl rfl rfl rfl <| Sg 13 rfl rfl rfl <| Sq.nil <| hk35 _ _ <| Run.cond_t rfl <| Run.seq fun k46 hk46 => Run.region ?_
     show Sq _ _ _ [0] _ _ _ _
     refine Sg 0 rfl rfl rfl <| Sq.nil <| hk46 _ _ <| Run.ret ?_
     exact J.ends (res_tmp rfl rfl) Takes.nil ⟨congrArg (Value.int .i64) (by unfold checkF; rw [if_pos (by unfold chk1; rw [c10, c24, c30]; rfl)]), rfl⟩
   ·refine Yp 5 rfl rfl rfl (QP.not rfl rfl) <| Pf 6 rfl rfl rfl rfl <| Mv 7 rfl rfl rfl <| Sk 8 rfl rfl rfl <| Sk 9 rfl rfl rfl <| Sk 10 rfl rfl rfl <| Sk 11 rfl rfl rfl <| Pt 12 rfl rfl rfl rfl <| Sg 13 rfl rfl rfl <| Sq.nil <| hk35 _ _ <| Run.cond_t rfl <| Run.seq fun k47 hk47 => Run.region ?_
    show Sq _ _ _ [0] _ _ _ _
    refine Sg 0 rfl rfl rfl <| Sq.nil <| hk47 _ _ <| Run.ret ?_
    exact J.ends (res_tmp rfl rfl) Takes.nil ⟨congrArg (Value.int .i64) (by unfold checkF; rw [if_pos (by unfold chk1; rw [c10, c24]; rfl)]), rfl⟩
 ·refine Ef 5 rfl rfl (EF.allocA (l := Tlv.enc Tlv.zero) rfl zero46) ?_
  rintro _ _ ⟨b3, rfl, rfl⟩
  refine Ac 6 rfl (EF.storeA rfl rfl rfl z46 (SetL.all (Tlv.enc_len _) (Tlv.enc_len _)) (Tlv.enc_cell _)) ?_
  rintro _ _ rfl
  refine Sg 7 rfl rfl rfl <| Sq.nil <| hk2 _ _ <| Run.seq fun k48 hk48 => Run.region ?_
  show Sq _ _ _ [0, 1, 2, 3, 4, 5, 6, 7, 8] _ _ _ _
  refine Fa 0 rfl rfl rfl f46_0 <| Qq 1 rfl rfl (QR.load1 rfl rfl g5 (Tlv.sub_type _)) ?_
  refine Qp 2 rfl rfl (QP.eql rfl rfl rfl) <| J.caseD (fun c13 => ?_) (fun c13 => ?_)
  ·refine Mv 3 rfl rfl rfl <| Yf 4 rfl rfl rfl rfl f46_5 <| Yq 5 rfl rfl rfl (QR.load1 rfl rfl g37 (Tlv.sub_metric _)) ?_
   refine Yp 6 rfl rfl rfl (QP.neq rfl rfl rfl) <| J.caseD (fun c17 => ?_) (fun c17 => ?_)
   ·refine Pt 7 rfl rfl rfl rfl <| Sg 8 rfl rfl rfl <| Sq.nil <| hk48 _ _ <| Run.seq fun k49 hk49 => Run.block <| Run.seq fun k50 hk50 => Run.region ?_
    show Sq _ _ _ [0, 1, 2, 3, 4, 5, 6, 7, 8, 9, 10, 11, 12, 13] _ _ _ _
    refine Mv 0 rfl rfl rfl <| Qp 1 rfl rfl (QP.not rfl rfl) <| Mv 2 rfl rfl rfl <| Sk 3 rfl rfl rfl <| Sk 4 rfl rfl rfl <| Sk 5 rfl rfl rfl <| Pt 6 rfl rfl rfl rfl <| Mv 7 rfl rfl rfl <| Sk 8 rfl rfl rfl <| Sk 9 rfl rfl rfl <| Sk 10 rfl rfl rfl <| Sk 11 rfl rfl rfl <| Pt 12 rfl rfl rfl rfl <| Sg 13 rfl rfl rfl <| Sq.nil <| hk50 _ _ <| Run.cond_t rfl <| Run.seq fun k51 hk51 => Run.region ?_
    show Sq _ _ _ [0] _ _ _ _
    refine Sg 0 rfl rfl rfl <| Sq.nil <| hk51 _ _ <| Run.ret ?_
    exact J.ends (res_tmp rfl rfl) Takes.nil ⟨congrArg (Value.int .i64) (by unfold checkF; rw [if_pos (by unfold chk1; rw [c10]; rfl)]), rfl⟩
   ·refine Pt 7 rfl rfl rfl rfl <| Sg 8 rfl rfl rfl <| Sq.nil <| hk48 _ _ <| Run.seq fun k52 hk52 => Run.block <| Run.seq fun k53 hk53 => Run.region ?_
    show Sq _ _ _ [0, 1, 2, 3, 4, 5, 6, 7, 8, 9, 10, 11, 12, 13] _ _ _ _
    refine Mv 0 rfl rfl rfl <| Qp 1 rfl rfl (QP.not rfl rfl) <| Mv 2 rfl rfl rfl <| Sk 3 rfl rfl rfl <| Sk 4 rfl rfl rfl <| Sk 5 rfl rfl rfl <| Pt 6 rfl rfl rfl rfl <| Mv 7 rfl rfl rfl <| Sk 8 rfl rfl rfl <| Sk 9 rfl rfl rfl <| Sk 10 rfl rfl rfl <| Sk 11 rfl rfl rfl <| Pt 12 rfl rfl rfl rfl <| Sg 13 rfl rfl rfl <| Sq.nil <| hk53 _ _ <| Run.cond_t rfl <| Run.seq fun k54 hk54 => Run.region ?_
    show Sq _ _ _ [0] _ _ _ _
    refine Sg 0 rfl rfl rfl <| Sq.nil <| hk54 _ _ <| Run.ret ?_
    exact J.ends (res_tmp rfl rfl) Takes.nil ⟨congrArg (Value.int .i64) (by unfold checkF; rw [if_pos (by unfold chk1; rw [c10]; rfl)]), rfl⟩
  ·refine Mv 3 rfl rfl rfl <| Sk 4 rfl rfl rfl <| Sk 5 rfl rfl rfl <| Sk 6 rfl rfl rfl <| Pf 7 rfl rfl rfl rfl <| Sg 8 rfl rfl rfl <| Sq.nil <| hk48 _ _ <| Run.seq fun k55 hk55 => Run.block <| Run.seq fun k56 hk56 => Run.region ?_
   show Sq _ _ _ [0, 1, 2, 3, 4, 5, 6, 7, 8, 9, 10, 11, 12, 13] _ _ _ _
   refine Mv 0 rfl rfl rfl <| Qp 1 rfl rfl (QP.not rfl rfl) <| Mv 2 rfl rfl rfl <| Sk 3 rfl rfl rfl <| Sk 4 rfl rfl rfl <| Sk 5 rfl rfl rfl <| Pt 6 rfl rfl rfl rfl <| Mv 7 rfl rfl rfl <| Sk 8 rfl rfl rfl <| Sk 9 rfl rfl rfl <| Sk 10 rfl rfl rfl <| Sk 11 rfl rfl rfl <| Pt 12 rfl rfl rfl rfl <| Sg 13 rfl rfl rfl <| Sq.nil <| hk56 _ _ <| Run.cond_t rfl <| Run.seq fun k57 hk57 => Run.region ?_
   show Sq _ _ _ [0] _ _ _ _
   refine Sg 0 rfl rfl rfl <| Sq.nil <| hk57 _ _ <| Run.ret ?_
   exact J.ends (res_tmp rfl rfl) Takes.nil ⟨congrArg (Value.int .i64) (by unfold checkF; rw [if_pos (by unfold chk1; rw [c10]; rfl)]), rfl⟩

abbrev u32V (n : Int) : Value := .int .u32 n
end Slb
