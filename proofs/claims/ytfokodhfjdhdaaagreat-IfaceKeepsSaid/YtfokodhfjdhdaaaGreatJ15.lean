/- J15: a part of the proof that a law of this package holds for every input; no condition. -/
import Derived.Test.YtfokodhfjdhdaaaGreatM2
import Derived.Test.YtfokodhfjdhdaaaGreatJ14
namespace Slb
open Go Go.Proofs
set_option maxRecDepth 20000
def chk1 (t : Tlv) : Bool := !(ownF t).2 || (!timesB t || !sameB t (ownF t).1)
def chk2 (t : Tlv) : Bool := (decide (t.type = 8) && decide (t.metric ≠ 65535)) && (t.all || !namedB t.id_)
def chk3 (t : Tlv) : Bool := decide (t.type = 10) && (decide (t.hops = 0) || decide (t.id_ = Bs.zero 8))
/-- Whether a packet may say it. -/
def checkF (t : Tlv) : Int := if chk1 t = true then 2 else if chk2 t = true then 2 else if chk3 t = true then 2 else if pairedB t = true then ernoB (checkPairB t.pair) else 0
/-- What a Tlv's times are read from. -/
def TlvIn (F : Fr) (x : TlvX) : Prop := ArgSl F x.a 1 u32E x.l
theorem TlvIn.mono {F F' : Fr} {x : TlvX} (h : TlvIn F x) (hle : PH.le F.h F'.h) : TlvIn F' x := ArgSl.mono h hle
def eqX (x y : TlvX) : Bool := decide (x.l = y.l) && sameB x.t y.t
theorem eqX_iff {x y : TlvX} : eqX x y = true ↔ tlvM x = tlvM y := by
 unfold eqX tlvM
 rw [Bool.and_eq_true, decide_eq_true_eq, sameB_iff, Prod.mk.injEq]
 exact And.comm

set_option maxHeartbeats 1000000 in
theorem check_tlv (F : Fr) (t : Tlv) : Spec Tryz.prog 90 #[.agg (Tlv.enc t).toArray] [] F (fun v S => v = .int .i64 (checkF t) ∧ S = []) := by
 refine Spec.intro (N := 66) (args := [.agg (Tlv.enc t).toArray]) Tryz.func90 rfl rfl (by simp) ?_
 refine Zs fun _ hk1 => Ef 0 E2 (EF.boxA rfl rfl) ?_
 rintro _ _ ⟨b1, rfl, rfl⟩
 refine Sg 1 E3 <| Zl hk1 <| Zs fun _ hk2 => Qq 0 E2 (Z0 E2 g49 (Tlv.enc_sub _)) ?_
 refine Ef 1 E2 (Zc E2 ce119 TN (fun F' hle hr => own_spec F' t)) ?_
 rintro _ _ ⟨_, ⟨rfl, rfl⟩, rfl⟩
 refine J.app <| Mv 2 E3 <| Qp 3 E2 (Zx E3) <| Qp 4 E2 (Zx E3) <| J.caseB (fun c10 => ?_) (fun c10 => ?_)
 ·refine Ef 5 E2 (EF.allocA (l := Tlv.enc Tlv.zero) rfl zero49) ?_
  rintro _ _ ⟨b3, rfl, rfl⟩
  refine Ac 6 rfl (EF.storeA rfl rfl rfl z49 (SetL.all (Tlv.enc_len _) (Tlv.enc_len _)) (Tlv.enc_cell _)) ?_
  rintro _ _ rfl
  refine Sg 7 E3 <| Zl hk2 <| Zs fun _ hk3 => Fa 0 E3 f49_0 <| Qq 1 E2 (Z1 E2 g5 (Tlv.sub_type _)) ?_
  refine Qp 2 E2 (Ze E3) <| J.caseD (fun c13 => ?_) (fun c13 => ?_)
  ·refine Mv 3 E3 <| Yf 4 E4 f49_5 <| Yq 5 E3 (Z1 E2 g40 (Tlv.sub_metric _)) ?_
   refine Yp 6 E3 (Zq E3) <| J.caseD (fun c17 => ?_) (fun c17 => ?_)
   ·refine Pt 7 E4 <| Sg 8 E3 <| Zl hk3 <| Run.seq fun _ hk4 => Run.block <| Zs fun _ hk5 => Mv 0 E3 <| Qp 1 E2 (Zu E2) <| Mv 2 E3 <| Yq 3 E3 (Z0 E2 g49 (Tlv.enc_sub _)) ?_
    refine Ye 4 E3 (Zc E2 ce120 TN (fun F' hle hr => times_spec F' t)) ?_
    rintro _ _ ⟨_, ⟨rfl, rfl⟩, rfl⟩
    refine J.app <| J.caseB (fun c24 => ?_) (fun c24 => ?_)
    ·refine Yp 5 E3 (Zu E2) <| Pf 6 E4 <| Mv 7 E3 <| Yq 8 E3 (Z0 E2 g49 (Tlv.enc_sub _)) ?_
     refine Yq 9 E3 (Z0 E2 g49 (Tlv.enc_sub _)) ?_
     refine Ye 10 E3 (Zc E2 ce121 TN (fun F' hle hr => same_spec F' t (ownF t).1)) ?_
     rintro _ _ ⟨_, ⟨rfl, rfl⟩, rfl⟩
     refine J.app <| J.caseB (fun c30 => ?_) (fun c30 => ?_)
     ·refine Yp 11 E3 (Zu E2) <| Pf 12 E4 <| Sg 13 E3 <| Zl hk5 <| Zf <| Zs fun _ hk6 => Mv 0 E3 <| Mv 1 E3 <| Yf 2 E4 f49_8 <| Yq 3 E3 (Z1 E2 g4 (Tlv.sub_all _)) ?_
      refine J.caseB (fun c37 => ?_) (fun c37 => ?_)
      ·exact Ym 4 E4 <| Sk 5 E3 <| Sk 6 E3 <| Sk 7 E3 <| Sk 8 E3 <| Yp 9 E3 (QP.pick_t rfl rfl rfl) <| Pt 10 E4 <| Sg 11 E3 <| Zl hk6 <| Zt <| Zs fun _ hk7 => Sg 0 E3 <| Zl hk7 <| Run.ret <| Je E2 ⟨congrArg (Value.int .i64) (by unfold checkF; rw [if_neg (by unfold chk1; rw [c10, c24, c30]; simp), if_pos (by unfold chk2; rw [decide_eq_true (show t.type = 8 from c13), decide_eq_true (show t.metric ≠ 65535 from c17), c37]; rfl)]), rfl⟩
      ·refine Ym 4 E4 <| Yf 5 E4 f49_9 <| Yq 6 E3 (Z0 E2 g42 (Tlv.sub_id_ _)) ?_
       refine Ye 7 E3 (Zc E2 ce116 TN (fun F' hle hr => named_spec F' t.id_)) ?_
       rintro _ _ ⟨_, ⟨rfl, rfl⟩, rfl⟩
       refine J.app <| J.caseB (fun c41 => ?_) (fun c41 => ?_)
       ·refine Yp 8 E3 (Zu E2) <| Yp 9 E3 (QP.pick_f rfl rfl rfl) <| Pt 10 E4 <| Sg 11 E3 <| Zl hk6 <| Zf <| Zs fun _ hk8 => Fa 0 E3 f49_0 <| Qq 1 E2 (Z1 E2 g5 (Tlv.sub_type _)) ?_
        refine Qp 2 E2 (Ze E3) <| J.caseD (fun c48 => ?_) (fun c48 => ?_)
        ·refine Mv 3 E3 <| Yf 4 E4 f49_6 <| Yq 5 E3 (Z1 E2 g5 (Tlv.sub_hops _)) ?_
         refine Yp 6 E3 (Ze E3) <| J.caseD (fun c52 => ?_) (fun c52 => ?_)
         ·exact Ym 7 E4 <| Sk 8 E3 <| Sk 9 E3 <| Sk 10 E3 <| Sk 11 E3 <| Yp 12 E3 (QP.pick_t rfl rfl rfl) <| Pt 13 E4 <| Sg 14 E3 <| Zl hk8 <| Zt <| Zs fun _ hk9 => Sg 0 E3 <| Zl hk9 <| Run.ret <| Je E2 ⟨congrArg (Value.int .i64) (by unfold checkF; rw [if_neg (by unfold chk1; rw [c10, c24, c30]; simp), if_neg (by unfold chk2; rw [decide_eq_true (show t.type = 8 from c13), decide_eq_true (show t.metric ≠ 65535 from c17), c37, c41]; simp), if_pos (by unfold chk3; rw [decide_eq_true (show t.type = 10 from c48), decide_eq_true (show t.hops = 0 from c52)]; rfl)]), rfl⟩
         ·refine Ym 7 E4 <| Yf 8 E4 f49_9 <| Yq 9 E3 (Z0 E2 g42 (Tlv.sub_id_ _)) ?_
          refine Yp 10 E3 (QP.const (.agg (Bs.enc (⟨[0, 0, 0, 0, 0, 0, 0, 0], rfl⟩ : Bs 8)).toArray) (fun _ _ => by kernel_rfl)) <| Yp 11 E3 (QP.eql_agg eq42 rfl rfl rfl) <| J.caseD (fun c57 => ?_) (fun c57 => ?_)
          ·exact Yp 12 E3 (QP.pick_f rfl rfl rfl) <| Pt 13 E4 <| Sg 14 E3 <| Zl hk8 <| Zt <| Zs fun _ hk10 => Sg 0 E3 <| Zl hk10 <| Run.ret <| Je E2 ⟨congrArg (Value.int .i64) (by unfold checkF; rw [if_neg (by unfold chk1; rw [c10, c24, c30]; simp), if_neg (by unfold chk2; rw [decide_eq_true (show t.type = 8 from c13), decide_eq_true (show t.metric ≠ 65535 from c17), c37, c41]; simp), if_pos (by unfold chk3; rw [decide_eq_true (show t.type = 10 from c48), decide_eq_false (show ¬ t.hops = 0 from c52), decide_eq_true (show t.id_ = Bs.zero 8 from c57)]; rfl)]), rfl⟩
          ·refine Yp 12 E3 (QP.pick_f rfl rfl rfl) <| Pt 13 E4 <| Sg 14 E3 <| Zl hk8 <| Zf <| Zs fun _ hk11 => Qq 0 E2 (Z0 E2 g49 (Tlv.enc_sub _)) ?_
           refine Ef 1 E2 (Zc E2 ce122 TN (fun F' hle hr => paired_spec F' t)) ?_
           rintro _ _ ⟨_, ⟨rfl, rfl⟩, rfl⟩
           refine J.app <| J.caseB (fun c62 => ?_) (fun c62 => ?_)
           ·refine Sg 2 E3 <| Zl hk11 <| Zt <| Zs fun _ hk12 => Fa 0 E3 f49_11 <| Qq 1 E2 (Z0 E2 g46 (Tlv.sub_pair _)) ?_
            refine Ef 2 E2 (Zc E2 ce123 TN (fun F' hle hr => checkPair_spec F' t.pair)) ?_
            rintro _ _ ⟨_, ⟨rfl, rfl⟩, rfl⟩
            exact J.app <| Sg 3 E3 <| Zl hk12 <| Run.ret <| Je E2 ⟨congrArg (Value.int .i64) (by unfold checkF; rw [if_neg (by unfold chk1; rw [c10, c24, c30]; simp), if_neg (by unfold chk2; rw [decide_eq_true (show t.type = 8 from c13), decide_eq_true (show t.metric ≠ 65535 from c17), c37, c41]; simp), if_neg (by unfold chk3; rw [decide_eq_true (show t.type = 10 from c48), decide_eq_false (show ¬ t.hops = 0 from c52), decide_eq_false (show ¬ t.id_ = Bs.zero 8 from c57)]; simp), if_pos c62]), rfl⟩
           ·exact Sg 2 E3 <| Zl hk11 <| Zf <| Run.skip <| hk4 _ _ <| Zs fun _ hk13 => Sg 0 E3 <| Zl hk13 <| Run.ret <| Je E2 ⟨congrArg (Value.int .i64) (by unfold checkF; rw [if_neg (by unfold chk1; rw [c10, c24, c30]; simp), if_neg (by unfold chk2; rw [decide_eq_true (show t.type = 8 from c13), decide_eq_true (show t.metric ≠ 65535 from c17), c37, c41]; simp), if_neg (by unfold chk3; rw [decide_eq_true (show t.type = 10 from c48), decide_eq_false (show ¬ t.hops = 0 from c52), decide_eq_false (show ¬ t.id_ = Bs.zero 8 from c57)]; simp), if_neg (by rw [c62]; simp)]), rfl⟩
        ·refine Mv 3 E3 <| Sk 4 E3 <| Sk 5 E3 <| Sk 6 E3 <| Sk 7 E3 <| Sq.skip (i := 8) rfl (Want.undef rfl rfl rfl) rfl (ltN rfl) ?_
         refine Sq.skip (i := 9) rfl (Want.undef rfl rfl rfl) rfl (ltN rfl) ?_
         refine Sq.skip (i := 10) rfl (Want.undef rfl rfl rfl) rfl (ltN rfl) ?_
         refine Sq.skip (i := 11) rfl (Want.undef rfl rfl rfl) rfl (ltN rfl) ?_
         refine Sk 12 E3 <| Pf 13 E4 <| Sg 14 E3 <| Zl hk8 <| Zf <| Zs fun _ hk14 => Qq 0 E2 (Z0 E2 g49 (Tlv.enc_sub _)) ?_
         refine Ef 1 E2 (Zc E2 ce122 TN (fun F' hle hr => paired_spec F' t)) ?_
         rintro _ _ ⟨_, ⟨rfl, rfl⟩, rfl⟩
         refine J.app <| J.caseB (fun c62 => ?_) (fun c62 => ?_)
         ·refine Sg 2 E3 <| Zl hk14 <| Zt <| Zs fun _ hk15 => Fa 0 E3 f49_11 <| Qq 1 E2 (Z0 E2 g46 (Tlv.sub_pair _)) ?_
          refine Ef 2 E2 (Zc E2 ce123 TN (fun F' hle hr => checkPair_spec F' t.pair)) ?_
          rintro _ _ ⟨_, ⟨rfl, rfl⟩, rfl⟩
          exact J.app <| Sg 3 E3 <| Zl hk15 <| Run.ret <| Je E2 ⟨congrArg (Value.int .i64) (by unfold checkF; rw [if_neg (by unfold chk1; rw [c10, c24, c30]; simp), if_neg (by unfold chk2; rw [decide_eq_true (show t.type = 8 from c13), decide_eq_true (show t.metric ≠ 65535 from c17), c37, c41]; simp), if_neg (by unfold chk3; rw [decide_eq_false (show ¬ t.type = 10 from c48)]; simp), if_pos c62]), rfl⟩
         ·exact Sg 2 E3 <| Zl hk14 <| Zf <| Run.skip <| hk4 _ _ <| Zs fun _ hk16 => Sg 0 E3 <| Zl hk16 <| Run.ret <| Je E2 ⟨congrArg (Value.int .i64) (by unfold checkF; rw [if_neg (by unfold chk1; rw [c10, c24, c30]; simp), if_neg (by unfold chk2; rw [decide_eq_true (show t.type = 8 from c13), decide_eq_true (show t.metric ≠ 65535 from c17), c37, c41]; simp), if_neg (by unfold chk3; rw [decide_eq_false (show ¬ t.type = 10 from c48)]; simp), if_neg (by rw [c62]; simp)]), rfl⟩
       ·exact Yp 8 E3 (Zu E2) <| Yp 9 E3 (QP.pick_f rfl rfl rfl) <| Pt 10 E4 <| Sg 11 E3 <| Zl hk6 <| Zt <| Zs fun _ hk17 => Sg 0 E3 <| Zl hk17 <| Run.ret <| Je E2 ⟨congrArg (Value.int .i64) (by unfold checkF; rw [if_neg (by unfold chk1; rw [c10, c24, c30]; simp), if_pos (by unfold chk2; rw [decide_eq_true (show t.type = 8 from c13), decide_eq_true (show t.metric ≠ 65535 from c17), c37, c41]; rfl)]), rfl⟩
     ·exact Yp 11 E3 (Zu E2) <| Pf 12 E4 <| Sg 13 E3 <| Zl hk5 <| Zt <| Zs fun _ hk18 => Sg 0 E3 <| Zl hk18 <| Run.ret <| Je E2 ⟨congrArg (Value.int .i64) (by unfold checkF; rw [if_pos (by unfold chk1; rw [c10, c24, c30]; rfl)]), rfl⟩
    ·exact Yp 5 E3 (Zu E2) <| Pf 6 E4 <| Mv 7 E3 <| Sk 8 E3 <| Sk 9 E3 <| Sk 10 E3 <| Sk 11 E3 <| Pt 12 E4 <| Sg 13 E3 <| Zl hk5 <| Zt <| Zs fun _ hk19 => Sg 0 E3 <| Zl hk19 <| Run.ret <| Je E2 ⟨congrArg (Value.int .i64) (by unfold checkF; rw [if_pos (by unfold chk1; rw [c10, c24]; rfl)]), rfl⟩
   ·refine Pt 7 E4 <| Sg 8 E3 <| Zl hk3 <| Run.seq fun _ hk20 => Run.block <| Zs fun _ hk21 => Mv 0 E3 <| Qp 1 E2 (Zu E2) <| Mv 2 E3 <| Yq 3 E3 (Z0 E2 g49 (Tlv.enc_sub _)) ?_
    refine Ye 4 E3 (Zc E2 ce120 TN (fun F' hle hr => times_spec F' t)) ?_
    rintro _ _ ⟨_, ⟨rfl, rfl⟩, rfl⟩
    refine J.app <| J.caseB (fun c24 => ?_) (fun c24 => ?_)
    ·refine Yp 5 E3 (Zu E2) <| Pf 6 E4 <| Mv 7 E3 <| Yq 8 E3 (Z0 E2 g49 (Tlv.enc_sub _)) ?_
     refine Yq 9 E3 (Z0 E2 g49 (Tlv.enc_sub _)) ?_
     refine Ye 10 E3 (Zc E2 ce121 TN (fun F' hle hr => same_spec F' t (ownF t).1)) ?_
     rintro _ _ ⟨_, ⟨rfl, rfl⟩, rfl⟩
     refine J.app <| J.caseB (fun c30 => ?_) (fun c30 => ?_)
     ·refine Yp 11 E3 (Zu E2) <| Pf 12 E4 <| Sg 13 E3 <| Zl hk21 <| Zf <| Zs fun _ hk22 => Mv 0 E3 <| Mv 1 E3 <| Sk 2 E3 <| Sk 3 E3 <| Sk 4 E3 <| Sq.skip (i := 5) rfl (Want.undef rfl rfl rfl) rfl (ltN rfl) ?_
      refine Sq.skip (i := 6) rfl (Want.undef rfl rfl rfl) rfl (ltN rfl) ?_
      refine Sq.skip (i := 7) rfl (Want.undef rfl rfl rfl) rfl (ltN rfl) ?_
      refine Sq.skip (i := 8) rfl (Want.undef rfl rfl rfl) rfl (ltN rfl) ?_
      refine Sk 9 E3 <| Pf 10 E4 <| Sg 11 E3 <| Zl hk22 <| Zf <| Zs fun _ hk23 => Fa 0 E3 f49_0 <| Qq 1 E2 (Z1 E2 g5 (Tlv.sub_type _)) ?_
      refine Qp 2 E2 (Ze E3) <| J.caseD (fun c48 => ?_) (fun c48 => ?_)
      ·refine Mv 3 E3 <| Yf 4 E4 f49_6 <| Yq 5 E3 (Z1 E2 g5 (Tlv.sub_hops _)) ?_
       refine Yp 6 E3 (Ze E3) <| J.caseD (fun c52 => ?_) (fun c52 => ?_)
       ·exact Ym 7 E4 <| Sk 8 E3 <| Sk 9 E3 <| Sk 10 E3 <| Sk 11 E3 <| Yp 12 E3 (QP.pick_t rfl rfl rfl) <| Pt 13 E4 <| Sg 14 E3 <| Zl hk23 <| Zt <| Zs fun _ hk24 => Sg 0 E3 <| Zl hk24 <| Run.ret <| Je E2 ⟨congrArg (Value.int .i64) (by unfold checkF; rw [if_neg (by unfold chk1; rw [c10, c24, c30]; simp), if_neg (by unfold chk2; rw [decide_eq_true (show t.type = 8 from c13), decide_eq_false (show ¬ t.metric ≠ 65535 from c17)]; simp), if_pos (by unfold chk3; rw [decide_eq_true (show t.type = 10 from c48), decide_eq_true (show t.hops = 0 from c52)]; rfl)]), rfl⟩
       ·refine Ym 7 E4 <| Yf 8 E4 f49_9 <| Yq 9 E3 (Z0 E2 g42 (Tlv.sub_id_ _)) ?_
        refine Yp 10 E3 (QP.const (.agg (Bs.enc (⟨[0, 0, 0, 0, 0, 0, 0, 0], rfl⟩ : Bs 8)).toArray) (fun _ _ => by kernel_rfl)) <| Yp 11 E3 (QP.eql_agg eq42 rfl rfl rfl) <| J.caseD (fun c57 => ?_) (fun c57 => ?_)
        ·exact Yp 12 E3 (QP.pick_f rfl rfl rfl) <| Pt 13 E4 <| Sg 14 E3 <| Zl hk23 <| Zt <| Zs fun _ hk25 => Sg 0 E3 <| Zl hk25 <| Run.ret <| Je E2 ⟨congrArg (Value.int .i64) (by unfold checkF; rw [if_neg (by unfold chk1; rw [c10, c24, c30]; simp), if_neg (by unfold chk2; rw [decide_eq_true (show t.type = 8 from c13), decide_eq_false (show ¬ t.metric ≠ 65535 from c17)]; simp), if_pos (by unfold chk3; rw [decide_eq_true (show t.type = 10 from c48), decide_eq_false (show ¬ t.hops = 0 from c52), decide_eq_true (show t.id_ = Bs.zero 8 from c57)]; rfl)]), rfl⟩
        ·refine Yp 12 E3 (QP.pick_f rfl rfl rfl) <| Pt 13 E4 <| Sg 14 E3 <| Zl hk23 <| Zf <| Zs fun _ hk26 => Qq 0 E2 (Z0 E2 g49 (Tlv.enc_sub _)) ?_
         refine Ef 1 E2 (Zc E2 ce122 TN (fun F' hle hr => paired_spec F' t)) ?_
         rintro _ _ ⟨_, ⟨rfl, rfl⟩, rfl⟩
         refine J.app <| J.caseB (fun c62 => ?_) (fun c62 => ?_)
         ·refine Sg 2 E3 <| Zl hk26 <| Zt <| Zs fun _ hk27 => Fa 0 E3 f49_11 <| Qq 1 E2 (Z0 E2 g46 (Tlv.sub_pair _)) ?_
          refine Ef 2 E2 (Zc E2 ce123 TN (fun F' hle hr => checkPair_spec F' t.pair)) ?_
          rintro _ _ ⟨_, ⟨rfl, rfl⟩, rfl⟩
          exact J.app <| Sg 3 E3 <| Zl hk27 <| Run.ret <| Je E2 ⟨congrArg (Value.int .i64) (by unfold checkF; rw [if_neg (by unfold chk1; rw [c10, c24, c30]; simp), if_neg (by unfold chk2; rw [decide_eq_true (show t.type = 8 from c13), decide_eq_false (show ¬ t.metric ≠ 65535 from c17)]; simp), if_neg (by unfold chk3; rw [decide_eq_true (show t.type = 10 from c48), decide_eq_false (show ¬ t.hops = 0 from c52), decide_eq_false (show ¬ t.id_ = Bs.zero 8 from c57)]; simp), if_pos c62]), rfl⟩
         ·exact Sg 2 E3 <| Zl hk26 <| Zf <| Run.skip <| hk20 _ _ <| Zs fun _ hk28 => Sg 0 E3 <| Zl hk28 <| Run.ret <| Je E2 ⟨congrArg (Value.int .i64) (by unfold checkF; rw [if_neg (by unfold chk1; rw [c10, c24, c30]; simp), if_neg (by unfold chk2; rw [decide_eq_true (show t.type = 8 from c13), decide_eq_false (show ¬ t.metric ≠ 65535 from c17)]; simp), if_neg (by unfold chk3; rw [decide_eq_true (show t.type = 10 from c48), decide_eq_false (show ¬ t.hops = 0 from c52), decide_eq_false (show ¬ t.id_ = Bs.zero 8 from c57)]; simp), if_neg (by rw [c62]; simp)]), rfl⟩
      ·refine Mv 3 E3 <| Sk 4 E3 <| Sk 5 E3 <| Sk 6 E3 <| Sk 7 E3 <| Sq.skip (i := 8) rfl (Want.undef rfl rfl rfl) rfl (ltN rfl) ?_
       refine Sq.skip (i := 9) rfl (Want.undef rfl rfl rfl) rfl (ltN rfl) ?_
       refine Sq.skip (i := 10) rfl (Want.undef rfl rfl rfl) rfl (ltN rfl) ?_
       refine Sq.skip (i := 11) rfl (Want.undef rfl rfl rfl) rfl (ltN rfl) ?_
       refine Sk 12 E3 <| Pf 13 E4 <| Sg 14 E3 <| Zl hk23 <| Zf <| Zs fun _ hk29 => Qq 0 E2 (Z0 E2 g49 (Tlv.enc_sub _)) ?_
       refine Ef 1 E2 (Zc E2 ce122 TN (fun F' hle hr => paired_spec F' t)) ?_
       rintro _ _ ⟨_, ⟨rfl, rfl⟩, rfl⟩
       refine J.app <| J.caseB (fun c62 => ?_) (fun c62 => ?_)
       ·refine Sg 2 E3 <| Zl hk29 <| Zt <| Zs fun _ hk30 => Fa 0 E3 f49_11 <| Qq 1 E2 (Z0 E2 g46 (Tlv.sub_pair _)) ?_
        refine Ef 2 E2 (Zc E2 ce123 TN (fun F' hle hr => checkPair_spec F' t.pair)) ?_
        rintro _ _ ⟨_, ⟨rfl, rfl⟩, rfl⟩
        exact J.app <| Sg 3 E3 <| Zl hk30 <| Run.ret <| Je E2 ⟨congrArg (Value.int .i64) (by unfold checkF; rw [if_neg (by unfold chk1; rw [c10, c24, c30]; simp), if_neg (by unfold chk2; rw [decide_eq_true (show t.type = 8 from c13), decide_eq_false (show ¬ t.metric ≠ 65535 from c17)]; simp), if_neg (by unfold chk3; rw [decide_eq_false (show ¬ t.type = 10 from c48)]; simp), if_pos c62]), rfl⟩
       ·exact Sg 2 E3 <| Zl hk29 <| Zf <| Run.skip <| hk20 _ _ <| Zs fun _ hk31 => Sg 0 E3 <| Zl hk31 <| Run.ret <| Je E2 ⟨congrArg (Value.int .i64) (by unfold checkF; rw [if_neg (by unfold chk1; rw [c10, c24, c30]; simp), if_neg (by unfold chk2; rw [decide_eq_true (show t.type = 8 from c13), decide_eq_false (show ¬ t.metric ≠ 65535 from c17)]; simp), if_neg (by unfold chk3; rw [decide_eq_false (show ¬ t.type = 10 from c48)]; simp), if_neg (by rw [c62]; simp)]), rfl⟩
     ·exact Yp 11 E3 (Zu E2) <| Pf 12 E4 <| Sg 13 E3 <| Zl hk21 <| Zt <| Zs fun _ hk32 => Sg 0 E3 <| Zl hk32 <| Run.ret <| Je E2 ⟨congrArg (Value.int .i64) (by unfold checkF; rw [if_pos (by unfold chk1; rw [c10, c24, c30]; rfl)]), rfl⟩
    ·exact Yp 5 E3 (Zu E2) <| Pf 6 E4 <| Mv 7 E3 <| Sk 8 E3 <| Sk 9 E3 <| Sk 10 E3 <| Sk 11 E3 <| Pt 12 E4 <| Sg 13 E3 <| Zl hk21 <| Zt <| Zs fun _ hk33 => Sg 0 E3 <| Zl hk33 <| Run.ret <| Je E2 ⟨congrArg (Value.int .i64) (by unfold checkF; rw [if_pos (by unfold chk1; rw [c10, c24]; rfl)]), rfl⟩
  ·refine Mv 3 E3 <| Sk 4 E3 <| Sk 5 E3 <| Sk 6 E3 <| Pf 7 E4 <| Sg 8 E3 <| Zl hk3 <| Run.seq fun _ hk34 => Run.block <| Zs fun _ hk35 => Mv 0 E3 <| Qp 1 E2 (Zu E2) <| Mv 2 E3 <| Yq 3 E3 (Z0 E2 g49 (Tlv.enc_sub _)) ?_
   refine Ye 4 E3 (Zc E2 ce120 TN (fun F' hle hr => times_spec F' t)) ?_
   rintro _ _ ⟨_, ⟨rfl, rfl⟩, rfl⟩
   refine J.app <| J.caseB (fun c24 => ?_) (fun c24 => ?_)
   ·refine Yp 5 E3 (Zu E2) <| Pf 6 E4 <| Mv 7 E3 <| Yq 8 E3 (Z0 E2 g49 (Tlv.enc_sub _)) ?_
    refine Yq 9 E3 (Z0 E2 g49 (Tlv.enc_sub _)) ?_
    refine Ye 10 E3 (Zc E2 ce121 TN (fun F' hle hr => same_spec F' t (ownF t).1)) ?_
    rintro _ _ ⟨_, ⟨rfl, rfl⟩, rfl⟩
    refine J.app <| J.caseB (fun c30 => ?_) (fun c30 => ?_)
    ·refine Yp 11 E3 (Zu E2) <| Pf 12 E4 <| Sg 13 E3 <| Zl hk35 <| Zf <| Zs fun _ hk36 => Mv 0 E3 <| Mv 1 E3 <| Sk 2 E3 <| Sk 3 E3 <| Sk 4 E3 <| Sq.skip (i := 5) rfl (Want.undef rfl rfl rfl) rfl (ltN rfl) ?_
     refine Sq.skip (i := 6) rfl (Want.undef rfl rfl rfl) rfl (ltN rfl) ?_
     refine Sq.skip (i := 7) rfl (Want.undef rfl rfl rfl) rfl (ltN rfl) ?_
     refine Sq.skip (i := 8) rfl (Want.undef rfl rfl rfl) rfl (ltN rfl) ?_
     refine Sk 9 E3 <| Pf 10 E4 <| Sg 11 E3 <| Zl hk36 <| Zf <| Zs fun _ hk37 => Fa 0 E3 f49_0 <| Qq 1 E2 (Z1 E2 g5 (Tlv.sub_type _)) ?_
     refine Qp 2 E2 (Ze E3) <| J.caseD (fun c48 => ?_) (fun c48 => ?_)
     ·refine Mv 3 E3 <| Yf 4 E4 f49_6 <| Yq 5 E3 (Z1 E2 g5 (Tlv.sub_hops _)) ?_
      refine Yp 6 E3 (Ze E3) <| J.caseD (fun c52 => ?_) (fun c52 => ?_)
      ·exact Ym 7 E4 <| Sk 8 E3 <| Sk 9 E3 <| Sk 10 E3 <| Sk 11 E3 <| Yp 12 E3 (QP.pick_t rfl rfl rfl) <| Pt 13 E4 <| Sg 14 E3 <| Zl hk37 <| Zt <| Zs fun _ hk38 => Sg 0 E3 <| Zl hk38 <| Run.ret <| Je E2 ⟨congrArg (Value.int .i64) (by unfold checkF; rw [if_neg (by unfold chk1; rw [c10, c24, c30]; simp), if_neg (by unfold chk2; rw [decide_eq_false (show ¬ t.type = 8 from c13)]; simp), if_pos (by unfold chk3; rw [decide_eq_true (show t.type = 10 from c48), decide_eq_true (show t.hops = 0 from c52)]; rfl)]), rfl⟩
      ·refine Ym 7 E4 <| Yf 8 E4 f49_9 <| Yq 9 E3 (Z0 E2 g42 (Tlv.sub_id_ _)) ?_
       refine Yp 10 E3 (QP.const (.agg (Bs.enc (⟨[0, 0, 0, 0, 0, 0, 0, 0], rfl⟩ : Bs 8)).toArray) (fun _ _ => by kernel_rfl)) <| Yp 11 E3 (QP.eql_agg eq42 rfl rfl rfl) <| J.caseD (fun c57 => ?_) (fun c57 => ?_)
       ·exact Yp 12 E3 (QP.pick_f rfl rfl rfl) <| Pt 13 E4 <| Sg 14 E3 <| Zl hk37 <| Zt <| Zs fun _ hk39 => Sg 0 E3 <| Zl hk39 <| Run.ret <| Je E2 ⟨congrArg (Value.int .i64) (by unfold checkF; rw [if_neg (by unfold chk1; rw [c10, c24, c30]; simp), if_neg (by unfold chk2; rw [decide_eq_false (show ¬ t.type = 8 from c13)]; simp), if_pos (by unfold chk3; rw [decide_eq_true (show t.type = 10 from c48), decide_eq_false (show ¬ t.hops = 0 from c52), decide_eq_true (show t.id_ = Bs.zero 8 from c57)]; rfl)]), rfl⟩
       ·refine Yp 12 E3 (QP.pick_f rfl rfl rfl) <| Pt 13 E4 <| Sg 14 E3 <| Zl hk37 <| Zf <| Zs fun _ hk40 => Qq 0 E2 (Z0 E2 g49 (Tlv.enc_sub _)) ?_
        refine Ef 1 E2 (Zc E2 ce122 TN (fun F' hle hr => paired_spec F' t)) ?_
        rintro _ _ ⟨_, ⟨rfl, rfl⟩, rfl⟩
        refine J.app <| J.caseB (fun c62 => ?_) (fun c62 => ?_)
        ·refine Sg 2 E3 <| Zl hk40 <| Zt <| Zs fun _ hk41 => Fa 0 E3 f49_11 <| Qq 1 E2 (Z0 E2 g46 (Tlv.sub_pair _)) ?_
         refine Ef 2 E2 (Zc E2 ce123 TN (fun F' hle hr => checkPair_spec F' t.pair)) ?_
         rintro _ _ ⟨_, ⟨rfl, rfl⟩, rfl⟩
         exact J.app <| Sg 3 E3 <| Zl hk41 <| Run.ret <| Je E2 ⟨congrArg (Value.int .i64) (by unfold checkF; rw [if_neg (by unfold chk1; rw [c10, c24, c30]; simp), if_neg (by unfold chk2; rw [decide_eq_false (show ¬ t.type = 8 from c13)]; simp), if_neg (by unfold chk3; rw [decide_eq_true (show t.type = 10 from c48), decide_eq_false (show ¬ t.hops = 0 from c52), decide_eq_false (show ¬ t.id_ = Bs.zero 8 from c57)]; simp), if_pos c62]), rfl⟩
        ·exact Sg 2 E3 <| Zl hk40 <| Zf <| Run.skip <| hk34 _ _ <| Zs fun _ hk42 => Sg 0 E3 <| Zl hk42 <| Run.ret <| Je E2 ⟨congrArg (Value.int .i64) (by unfold checkF; rw [if_neg (by unfold chk1; rw [c10, c24, c30]; simp), if_neg (by unfold chk2; rw [decide_eq_false (show ¬ t.type = 8 from c13)]; simp), if_neg (by unfold chk3; rw [decide_eq_true (show t.type = 10 from c48), decide_eq_false (show ¬ t.hops = 0 from c52), decide_eq_false (show ¬ t.id_ = Bs.zero 8 from c57)]; simp), if_neg (by rw [c62]; simp)]), rfl⟩
     ·refine Mv 3 E3 <| Sk 4 E3 <| Sk 5 E3 <| Sk 6 E3 <| Sk 7 E3 <| Sq.skip (i := 8) rfl (Want.undef rfl rfl rfl) rfl (ltN rfl) ?_
      refine Sq.skip (i := 9) rfl (Want.undef rfl rfl rfl) rfl (ltN rfl) ?_
      refine Sq.skip (i := 10) rfl (Want.undef rfl rfl rfl) rfl (ltN rfl) ?_
      refine Sq.skip (i := 11) rfl (Want.undef rfl rfl rfl) rfl (ltN rfl) ?_
      refine Sk 12 E3 <| Pf 13 E4 <| Sg 14 E3 <| Zl hk37 <| Zf <| Zs fun _ hk43 => Qq 0 E2 (Z0 E2 g49 (Tlv.enc_sub _)) ?_
      refine Ef 1 E2 (Zc E2 ce122 TN (fun F' hle hr => paired_spec F' t)) ?_
      rintro _ _ ⟨_, ⟨rfl, rfl⟩, rfl⟩
      refine J.app <| J.caseB (fun c62 => ?_) (fun c62 => ?_)
      ·refine Sg 2 E3 <| Zl hk43 <| Zt <| Zs fun _ hk44 => Fa 0 E3 f49_11 <| Qq 1 E2 (Z0 E2 g46 (Tlv.sub_pair _)) ?_
       refine Ef 2 E2 (Zc E2 ce123 TN (fun F' hle hr => checkPair_spec F' t.pair)) ?_
       rintro _ _ ⟨_, ⟨rfl, rfl⟩, rfl⟩
       exact J.app <| Sg 3 E3 <| Zl hk44 <| Run.ret <| Je E2 ⟨congrArg (Value.int .i64) (by unfold checkF; rw [if_neg (by unfold chk1; rw [c10, c24, c30]; simp), if_neg (by unfold chk2; rw [decide_eq_false (show ¬ t.type = 8 from c13)]; simp), if_neg (by unfold chk3; rw [decide_eq_false (show ¬ t.type = 10 from c48)]; simp), if_pos c62]), rfl⟩
      ·exact Sg 2 E3 <| Zl hk43 <| Zf <| Run.skip <| hk34 _ _ <| Zs fun _ hk45 => Sg 0 E3 <| Zl hk45 <| Run.ret <| Je E2 ⟨congrArg (Value.int .i64) (by unfold checkF; rw [if_neg (by unfold chk1; rw [c10, c24, c30]; simp), if_neg (by unfold chk2; rw [decide_eq_false (show ¬ t.type = 8 from c13)]; simp), if_neg (by unfold chk3; rw [decide_eq_false (show ¬ t.type = 10 from c48)]; simp), if_neg (by rw [c62]; simp)]), rfl⟩
    ·exact Yp 11 E3 (Zu E2) <| Pf 12 E4 <| Sg 13 E3 <| Zl hk35 <| Zt <| Zs fun _ hk46 => Sg 0 E3 <| Zl hk46 <| Run.ret <| Je E2 ⟨congrArg (Value.int .i64) (by unfold checkF; rw [if_pos (by unfold chk1; rw [c10, c24, c30]; rfl)]), rfl⟩
   ·exact Yp 5 E3 (Zu E2) <| Pf 6 E4 <| Mv 7 E3 <| Sk 8 E3 <| Sk 9 E3 <| Sk 10 E3 <| Sk 11 E3 <| Pt 12 E4 <| Sg 13 E3 <| Zl hk35 <| Zt <| Zs fun _ hk47 => Sg 0 E3 <| Zl hk47 <| Run.ret <| Je E2 ⟨congrArg (Value.int .i64) (by unfold checkF; rw [if_pos (by unfold chk1; rw [c10, c24]; rfl)]), rfl⟩
 ·refine Ef 5 E2 (EF.allocA (l := Tlv.enc Tlv.zero) rfl zero49) ?_
  rintro _ _ ⟨b3, rfl, rfl⟩
  refine Ac 6 rfl (EF.storeA rfl rfl rfl z49 (SetL.all (Tlv.enc_len _) (Tlv.enc_len _)) (Tlv.enc_cell _)) ?_
  rintro _ _ rfl
  refine Sg 7 E3 <| Zl hk2 <| Zs fun _ hk48 => Fa 0 E3 f49_0 <| Qq 1 E2 (Z1 E2 g5 (Tlv.sub_type _)) ?_
  refine Qp 2 E2 (Ze E3) <| J.caseD (fun c13 => ?_) (fun c13 => ?_)
  ·refine Mv 3 E3 <| Yf 4 E4 f49_5 <| Yq 5 E3 (Z1 E2 g40 (Tlv.sub_metric _)) ?_
   refine Yp 6 E3 (Zq E3) <| J.caseD (fun c17 => ?_) (fun c17 => ?_)
   ·exact Pt 7 E4 <| Sg 8 E3 <| Zl hk48 <| Run.seq fun _ hk49 => Run.block <| Zs fun _ hk50 => Mv 0 E3 <| Qp 1 E2 (Zu E2) <| Mv 2 E3 <| Sk 3 E3 <| Sk 4 E3 <| Sk 5 E3 <| Pt 6 E4 <| Mv 7 E3 <| Sk 8 E3 <| Sk 9 E3 <| Sk 10 E3 <| Sk 11 E3 <| Pt 12 E4 <| Sg 13 E3 <| Zl hk50 <| Zt <| Zs fun _ hk51 => Sg 0 E3 <| Zl hk51 <| Run.ret <| Je E2 ⟨congrArg (Value.int .i64) (by unfold checkF; rw [if_pos (by unfold chk1; rw [c10]; rfl)]), rfl⟩
   ·exact Pt 7 E4 <| Sg 8 E3 <| Zl hk48 <| Run.seq fun _ hk52 => Run.block <| Zs fun _ hk53 => Mv 0 E3 <| Qp 1 E2 (Zu E2) <| Mv 2 E3 <| Sk 3 E3 <| Sk 4 E3 <| Sk 5 E3 <| Pt 6 E4 <| Mv 7 E3 <| Sk 8 E3 <| Sk 9 E3 <| Sk 10 E3 <| Sk 11 E3 <| Pt 12 E4 <| Sg 13 E3 <| Zl hk53 <| Zt <| Zs fun _ hk54 => Sg 0 E3 <| Zl hk54 <| Run.ret <| Je E2 ⟨congrArg (Value.int .i64) (by unfold checkF; rw [if_pos (by unfold chk1; rw [c10]; rfl)]), rfl⟩
  ·exact Mv 3 E3 <| Sk 4 E3 <| Sk 5 E3 <| Sk 6 E3 <| Pf 7 E4 <| Sg 8 E3 <| Zl hk48 <| Run.seq fun _ hk55 => Run.block <| Zs fun _ hk56 => Mv 0 E3 <| Qp 1 E2 (Zu E2) <| Mv 2 E3 <| Sk 3 E3 <| Sk 4 E3 <| Sk 5 E3 <| Pt 6 E4 <| Mv 7 E3 <| Sk 8 E3 <| Sk 9 E3 <| Sk 10 E3 <| Sk 11 E3 <| Pt 12 E4 <| Sg 13 E3 <| Zl hk56 <| Zt <| Zs fun _ hk57 => Sg 0 E3 <| Zl hk57 <| Run.ret <| Je E2 ⟨congrArg (Value.int .i64) (by unfold checkF; rw [if_pos (by unfold chk1; rw [c10]; rfl)]), rfl⟩

abbrev u32V (n : Int) : Value := .int .u32 n
theorem take_same {xs ys : List Int} {i : Nat} {x y : Int} (h : xs.take i = ys.take i) (hi : xs[i]? = some x) (hj : ys[i]? = some y) (e : x = y) : xs.take (i + 1) = ys.take (i + 1) := by
 rw [take_succ_get hi, take_succ_get hj, h, e]
theorem ne_at {xs ys : List Int} {i : Nat} {x y : Int} (hi : xs[i]? = some x) (hj : ys[i]? = some y) (e : ¬ x = y) : ¬ xs = ys := fun h => by
 rw [h, hj] at hi
 exact e (Option.some.inj hi).symm
theorem all_same {xs ys : List Int} {i : Nat} (h : xs.take i = ys.take i) (hl : xs.length = ys.length) (hi : xs.length ≤ i) : xs = ys := by
 rwa [List.take_of_length_le hi, List.take_of_length_le (by omega)] at h

set_option maxHeartbeats 1000000 in
theorem rsame_spec (F : Fr) (x y : TlvX) (hx : TlvIn F x) (hy : TlvIn F y) (hxl : x.l.length ≤ 4294967296)  : Spec Tryz.prog 16 #[.agg (Tlv.enc (tlvS x)).toArray, .agg (Tlv.enc (tlvS y)).toArray] [] F (fun v S => v = .bool (eqX x y) ∧ S = []) := by
 refine Spec.intro (N := 113) (args := [.agg (Tlv.enc (tlvS x)).toArray, .agg (Tlv.enc (tlvS y)).toArray]) Tryz.func16 rfl rfl (by simp) ?_
 refine Zs fun _ hk1 => Ef 0 E2 (EF.boxA rfl rfl) ?_
 rintro _ _ ⟨b2, rfl, rfl⟩
 refine Ef 1 E2 (EF.boxA rfl rfl) ?_
 rintro _ _ ⟨b3, rfl, rfl⟩
 refine Sg 2 E3 <| Zl hk1 <| Run.seq fun _ hk2 => Zs fun _ hk3 => Fa 0 E3 f49_12 <| Qq 1 E2 (QR.load1 (v := .slice x.a x.l.length x.c) rfl rfl g47 (Tlv.sub_stamps _)) ?_
 refine Qp 2 E2 (QP.len rfl rfl rfl Tryz.underlying47) <| Fa 3 E3 f49_12 <| Qq 4 E2 (QR.load1 (v := .slice y.a y.l.length y.c) rfl rfl g47 (Tlv.sub_stamps _)) ?_
 refine Qp 5 E2 (QP.len rfl rfl rfl Tryz.underlying47) <| Qp 6 E2 (Zq E3) <| J.caseD (fun c12 => ?_) (fun c12 => ?_)
 ·exact Zl hk3 <| Zt <| Zs fun _ hk4 => Sg 0 E3 <| Zl hk4 <| Run.ret <| Je E2 ⟨congrArg Value.bool (by unfold eqX; rw [decide_eq_false (fun h => c12 (by rw [h]))]; rfl), rfl⟩
 ·refine Zl hk3 <| Zf <| Run.skip <| hk2 _ _ <| Run.seq fun _ hk5 => Run.seq fun _ hk6 => Run.region ?_
  have hlen : x.l.length = y.l.length := by have h9 : (x.l.length : Int) = (y.l.length : Int) := Classical.not_not.1 c12; omega
  refine Sg 0 E3 <| Zl hk6 <| Run.block <| Run.loop1 (fun (i : Nat) => i ≤ x.l.length ∧ x.l.take i = y.l.take i) (fun i => .cons 2 (fp b2) (.cons 3 (fp b3) (.cons 5 (.int .i64 i) (.nil)))) (fun i => [blk b2 (Tlv.enc (tlvS x)) 49, blk b3 (Tlv.enc (tlvS y)) 49]) (fun i => x.l.length - i) (0) (⟨Nat.zero_le _, rfl⟩) ?_ ?_
  ·exact fun _ j => J.envJ (J.keep Tk2 j) ⟨rfl, rfl, rfl, trivial⟩
  rintro i ⟨hile, htk⟩ kl7 hl7
  refine Run.seq fun _ hk8 => Zs fun _ hk9 => Mv 0 E3 <| Fa 1 E3 f49_12 <| Qq 2 E2 (QR.load1 (v := .slice x.a x.l.length x.c) rfl rfl g47 (Tlv.sub_stamps _)) ?_
  refine Qp 3 E2 (QP.len rfl rfl rfl Tryz.underlying47) <| Qp 4 E2 (Zb E3) <| J.caseD (fun c17 => ?_) (fun c17 => ?_)
  ·refine Zl hk9 <| Zt <| Run.skip <| hk8 _ _ <| Run.seq fun _ hk10 => Run.block <| Run.seq fun _ hk11 => Run.regionD (M := [0, 1, 0, 7, 15, 0, 32, 0, 224, 480, 1023]) (q := 2047) (r := 594) Kr ?_
   obtain ⟨u, hi⟩ : ∃ u, x.l[i]? = some u := ⟨_, GE (by omega)⟩
   obtain ⟨v, hj⟩ : ∃ v, y.l[i]? = some v := ⟨_, GE (by omega)⟩
   obtain ⟨q1, o1, hq1, hs1⟩ := ArgSl.get hx (by omega)
   obtain ⟨q2, o2, hq2, hs2⟩ := ArgSl.get hy (by omega)
   refine Dp 0 E2 (Za E2 f49_12) <| Dr 1 E2 (QR.load1 (v := .slice (some ⟨q1, o1, none⟩) x.l.length x.c) rfl rfl g47 (by have h9 := Tlv.sub_stamps (tlvS x); rw [show Slc.v (tlvS x).stamps = .slice (some ⟨q1, o1, none⟩) x.l.length x.c from congrArg (fun q => Value.slice q x.l.length x.c) hq1] at h9; exact h9)) ?_
   refine Dp 2 E2 (Zm E2) <| Dp 3 E2 (QP.indexAddr rfl rfl rfl Tryz.underlying47 z101 Og Og) <| Dr 4 E2 (QR.loadSl1 (ev := u32V) rfl rfl g101 (hs1 _) hi) ?_
   refine Dp 5 E2 (Za E2 f49_12) <| Dr 6 E2 (QR.load1 (v := .slice (some ⟨q2, o2, none⟩) y.l.length y.c) rfl rfl g47 (by have h9 := Tlv.sub_stamps (tlvS y); rw [show Slc.v (tlvS y).stamps = .slice (some ⟨q2, o2, none⟩) y.l.length y.c from congrArg (fun q => Value.slice q y.l.length y.c) hq2] at h9; exact h9)) ?_
   refine Dp 7 E2 (Zm E2) <| Dp 8 E2 (QP.indexAddr rfl rfl rfl Tryz.underlying47 z101 Og Og) <| Dr 9 E2 (QR.loadSl1 (ev := u32V) rfl rfl g101 (hs2 _) hj) ?_
   refine Dp 10 E2 (Zq E3) <| J.caseD (fun c30 => ?_) (fun c30 => ?_)
   ·exact Dn <| hk11 _ _ <| Zt <| Zs fun _ hk12 => Sg 0 E3 <| Zl hk12 <| Run.ret <| Je E2 ⟨congrArg Value.bool (by unfold eqX; rw [decide_eq_false (ne_at hi hj (fun h => c30 h))]; rfl), rfl⟩
   ·exact Dn <| hk11 _ _ <| Zf <| Run.skip <| hk10 _ _ <| Run.region <| Mv 0 E3 <| Qp 1 E2 (QP.add64 rfl rfl rfl Og Og) <| Sg 2 E3 <| Sq.nil <| J.envJ (J.keep Tk2 (hl7 (i + 1) (⟨by omega, take_same htk hi hj (Classical.not_not.1 c30)⟩) (by omega))) ⟨rfl, rfl, rfl, trivial⟩
  ·refine Zl hk9 <| Zf <| Run.exit rfl <| hk5 _ _ <| Zs fun _ hk13 => Fa 0 E3 f49_0 <| Qq 1 E2 (Z1 E2 g5 (Tlv.sub_type _)) ?_
   refine Fa 2 E3 f49_0 <| Qq 3 E2 (Z1 E2 g5 (Tlv.sub_type _)) ?_
   refine Qp 4 E2 (Ze E3) <| J.caseD (fun c35 => ?_) (fun c35 => ?_)
   ·refine Mv 5 E3 <| Yf 6 E4 f49_1 <| Yq 7 E3 (Z1 E2 g40 (Tlv.sub_nonce _)) ?_
    refine Yf 8 E4 f49_1 <| Yq 9 E3 (Z1 E2 g40 (Tlv.sub_nonce _)) ?_
    refine Yp 10 E3 (Ze E3) <| J.caseD (fun c41 => ?_) (fun c41 => ?_)
    ·refine Pt 11 E4 <| Mv 12 E3 <| Yf 13 E4 f49_2 <| Yq 14 E3 (Z1 E2 g40 (Tlv.sub_interval _)) ?_
     refine Yf 15 E4 f49_2 <| Yq 16 E3 (Z1 E2 g40 (Tlv.sub_interval _)) ?_
     refine Yp 17 E3 (Ze E3) <| J.caseD (fun c48 => ?_) (fun c48 => ?_)
     ·refine Pt 18 E4 <| Mv 19 E3 <| Yf 20 E4 f49_3 <| Yq 21 E3 (Z1 E2 g40 (Tlv.sub_seqno _)) ?_
      refine Yf 22 E4 f49_3 <| Yq 23 E3 (Z1 E2 g40 (Tlv.sub_seqno _)) ?_
      refine Yp 24 E3 (Ze E3) <| J.caseD (fun c55 => ?_) (fun c55 => ?_)
      ·refine Pt 25 E4 <| Mv 26 E3 <| Yf 27 E4 f49_4 <| Yq 28 E3 (Z1 E2 g40 (Tlv.sub_rxcost _)) ?_
       refine Yf 29 E4 f49_4 <| Yq 30 E3 (Z1 E2 g40 (Tlv.sub_rxcost _)) ?_
       refine Yp 31 E3 (Ze E3) <| J.caseD (fun c62 => ?_) (fun c62 => ?_)
       ·refine Pt 32 E4 <| Mv 33 E3 <| Yf 34 E4 f49_5 <| Yq 35 E3 (Z1 E2 g40 (Tlv.sub_metric _)) ?_
        refine Yf 36 E4 f49_5 <| Yq 37 E3 (Z1 E2 g40 (Tlv.sub_metric _)) ?_
        refine Yp 38 E3 (Ze E3) <| J.caseD (fun c69 => ?_) (fun c69 => ?_)
        ·refine Pt 39 E4 <| Mv 40 E3 <| Yf 41 E4 f49_6 <| Yq 42 E3 (Z1 E2 g5 (Tlv.sub_hops _)) ?_
         refine Yf 43 E4 f49_6 <| Yq 44 E3 (Z1 E2 g5 (Tlv.sub_hops _)) ?_
         refine Yp 45 E3 (Ze E3) <| J.caseD (fun c76 => ?_) (fun c76 => ?_)
         ·refine Pt 46 E4 <| Mv 47 E3 <| Yf 48 E4 f49_7 <| Yq 49 E3 (Z1 E2 g4 (Tlv.sub_unicast _)) ?_
          refine Yf 50 E4 f49_7 <| Yq 51 E3 (Z1 E2 g4 (Tlv.sub_unicast _)) ?_
          refine Yp 52 E3 (QP.eqlB rfl rfl rfl Tryz.underlying4) <| J.caseB (fun c83 => ?_) (fun c83 => ?_)
          ·refine Pt 53 E4 <| Mv 54 E3 <| Yf 55 E4 f49_8 <| Yq 56 E3 (Z1 E2 g4 (Tlv.sub_all _)) ?_
           refine Yf 57 E4 f49_8 <| Yq 58 E3 (Z1 E2 g4 (Tlv.sub_all _)) ?_
           refine Yp 59 E3 (QP.eqlB rfl rfl rfl Tryz.underlying4) <| J.caseB (fun c90 => ?_) (fun c90 => ?_)
           ·refine Pt 60 E4 <| Mv 61 E3 <| Yf 62 E4 f49_9 <| Yq 63 E3 (Z0 E2 g42 (Tlv.sub_id_ _)) ?_
            refine Yf 64 E4 f49_9 <| Yq 65 E3 (Z0 E2 g42 (Tlv.sub_id_ _)) ?_
            refine Yp 66 E3 (QP.eql_agg eq42 rfl rfl rfl) <| J.caseD (fun c97 => ?_) (fun c97 => ?_)
            ·refine Pt 67 E4 <| Mv 68 E3 <| Yf 69 E4 f49_10 <| Yq 70 E3 (Z0 E2 g32 (Tlv.sub_addr _)) ?_
             refine Yf 71 E4 f49_10 <| Yq 72 E3 (Z0 E2 g32 (Tlv.sub_addr _)) ?_
             refine Yp 73 E3 (QP.eql_agg eq32 rfl rfl rfl) <| J.caseD (fun c104 => ?_) (fun c104 => ?_)
             ·refine Pt 74 E4 <| Mv 75 E3 <| Yf 76 E4 f49_11 <| Yq 77 E3 (Z0 E2 g46 (Tlv.sub_pair _)) ?_
              refine Yf 78 E4 f49_11 <| Yq 79 E3 (Z0 E2 g46 (Tlv.sub_pair _)) ?_
              exact Yp 80 E3 (QP.eql_agg eq46 rfl rfl rfl) <| Pt 81 E4 <| Sg 82 E3 <| Zl hk13 <| Run.ret <| Je E2 ⟨congrArg Value.bool (by unfold eqX; rw [decide_eq_true (all_same htk (by omega) (by omega))]; show _ = (true && sameB x.t y.t); unfold sameB; rw [decide_eq_true (show x.t.type = y.t.type from c35), decide_eq_true (show x.t.nonce = y.t.nonce from c41), decide_eq_true (show x.t.interval = y.t.interval from c48), decide_eq_true (show x.t.seqno = y.t.seqno from c55), decide_eq_true (show x.t.rxcost = y.t.rxcost from c62), decide_eq_true (show x.t.metric = y.t.metric from c69), decide_eq_true (show x.t.hops = y.t.hops from c76), decide_eq_true (show x.t.unicast = y.t.unicast from (beq_iff_eq.1 c83)), decide_eq_true (show x.t.all = y.t.all from (beq_iff_eq.1 c90)), decide_eq_true (show x.t.id_ = y.t.id_ from c97), decide_eq_true (show x.t.addr = y.t.addr from c104)]; rfl), rfl⟩
             ·exact Pt 74 E4 <| Mv 75 E3 <| Sk 76 E3 <| Sk 77 E3 <| Sk 78 E3 <| Sk 79 E3 <| Sk 80 E3 <| Pf 81 E4 <| Sg 82 E3 <| Zl hk13 <| Run.ret <| Je E2 ⟨congrArg Value.bool (by unfold eqX; rw [decide_eq_true (all_same htk (by omega) (by omega))]; show _ = (true && sameB x.t y.t); unfold sameB; rw [decide_eq_true (show x.t.type = y.t.type from c35), decide_eq_true (show x.t.nonce = y.t.nonce from c41), decide_eq_true (show x.t.interval = y.t.interval from c48), decide_eq_true (show x.t.seqno = y.t.seqno from c55), decide_eq_true (show x.t.rxcost = y.t.rxcost from c62), decide_eq_true (show x.t.metric = y.t.metric from c69), decide_eq_true (show x.t.hops = y.t.hops from c76), decide_eq_true (show x.t.unicast = y.t.unicast from (beq_iff_eq.1 c83)), decide_eq_true (show x.t.all = y.t.all from (beq_iff_eq.1 c90)), decide_eq_true (show x.t.id_ = y.t.id_ from c97), decide_eq_false (show ¬ x.t.addr = y.t.addr from c104)]; rfl), rfl⟩
            ·exact Pt 67 E4 <| Mv 68 E3 <| Sk 69 E3 <| Sk 70 E3 <| Sk 71 E3 <| Sk 72 E3 <| Sk 73 E3 <| Pf 74 E4 <| Mv 75 E3 <| Sk 76 E3 <| Sk 77 E3 <| Sk 78 E3 <| Sk 79 E3 <| Sk 80 E3 <| Pf 81 E4 <| Sg 82 E3 <| Zl hk13 <| Run.ret <| Je E2 ⟨congrArg Value.bool (by unfold eqX; rw [decide_eq_true (all_same htk (by omega) (by omega))]; show _ = (true && sameB x.t y.t); unfold sameB; rw [decide_eq_true (show x.t.type = y.t.type from c35), decide_eq_true (show x.t.nonce = y.t.nonce from c41), decide_eq_true (show x.t.interval = y.t.interval from c48), decide_eq_true (show x.t.seqno = y.t.seqno from c55), decide_eq_true (show x.t.rxcost = y.t.rxcost from c62), decide_eq_true (show x.t.metric = y.t.metric from c69), decide_eq_true (show x.t.hops = y.t.hops from c76), decide_eq_true (show x.t.unicast = y.t.unicast from (beq_iff_eq.1 c83)), decide_eq_true (show x.t.all = y.t.all from (beq_iff_eq.1 c90)), decide_eq_false (show ¬ x.t.id_ = y.t.id_ from c97)]; rfl), rfl⟩
           ·exact Pt 60 E4 <| Mv 61 E3 <| Sk 62 E3 <| Sk 63 E3 <| Sk 64 E3 <| Sk 65 E3 <| Sk 66 E3 <| Pf 67 E4 <| Mv 68 E3 <| Sk 69 E3 <| Sk 70 E3 <| Sk 71 E3 <| Sk 72 E3 <| Sk 73 E3 <| Pf 74 E4 <| Mv 75 E3 <| Sk 76 E3 <| Sk 77 E3 <| Sk 78 E3 <| Sk 79 E3 <| Sk 80 E3 <| Pf 81 E4 <| Sg 82 E3 <| Zl hk13 <| Run.ret <| Je E2 ⟨congrArg Value.bool (by unfold eqX; rw [decide_eq_true (all_same htk (by omega) (by omega))]; show _ = (true && sameB x.t y.t); unfold sameB; rw [decide_eq_true (show x.t.type = y.t.type from c35), decide_eq_true (show x.t.nonce = y.t.nonce from c41), decide_eq_true (show x.t.interval = y.t.interval from c48), decide_eq_true (show x.t.seqno = y.t.seqno from c55), decide_eq_true (show x.t.rxcost = y.t.rxcost from c62), decide_eq_true (show x.t.metric = y.t.metric from c69), decide_eq_true (show x.t.hops = y.t.hops from c76), decide_eq_true (show x.t.unicast = y.t.unicast from (beq_iff_eq.1 c83)), decide_eq_false (show ¬ x.t.all = y.t.all from (fun h => by rw [beq_iff_eq.2 h] at c90; cases c90))]; rfl), rfl⟩
          ·exact Pt 53 E4 <| Mv 54 E3 <| Sk 55 E3 <| Sk 56 E3 <| Sk 57 E3 <| Sk 58 E3 <| Sk 59 E3 <| Pf 60 E4 <| Mv 61 E3 <| Sk 62 E3 <| Sk 63 E3 <| Sk 64 E3 <| Sk 65 E3 <| Sk 66 E3 <| Pf 67 E4 <| Mv 68 E3 <| Sk 69 E3 <| Sk 70 E3 <| Sk 71 E3 <| Sk 72 E3 <| Sk 73 E3 <| Pf 74 E4 <| Mv 75 E3 <| Sk 76 E3 <| Sk 77 E3 <| Sk 78 E3 <| Sk 79 E3 <| Sk 80 E3 <| Pf 81 E4 <| Sg 82 E3 <| Zl hk13 <| Run.ret <| Je E2 ⟨congrArg Value.bool (by unfold eqX; rw [decide_eq_true (all_same htk (by omega) (by omega))]; show _ = (true && sameB x.t y.t); unfold sameB; rw [decide_eq_true (show x.t.type = y.t.type from c35), decide_eq_true (show x.t.nonce = y.t.nonce from c41), decide_eq_true (show x.t.interval = y.t.interval from c48), decide_eq_true (show x.t.seqno = y.t.seqno from c55), decide_eq_true (show x.t.rxcost = y.t.rxcost from c62), decide_eq_true (show x.t.metric = y.t.metric from c69), decide_eq_true (show x.t.hops = y.t.hops from c76), decide_eq_false (show ¬ x.t.unicast = y.t.unicast from (fun h => by rw [beq_iff_eq.2 h] at c83; cases c83))]; rfl), rfl⟩
         ·refine Pt 46 E4 <| Mv 47 E3 <| Sk 48 E3 <| Sk 49 E3 <| Sk 50 E3 <| Sk 51 E3 <| Sk 52 E3 <| Pf 53 E4 <| Mv 54 E3 <| Sk 55 E3 <| Sk 56 E3 <| Sk 57 E3 <| Sk 58 E3 <| Sk 59 E3 <| Pf 60 E4 <| Mv 61 E3 <| Sk 62 E3 <| Sk 63 E3 <| Sk 64 E3 <| Sk 65 E3 <| Sk 66 E3 <| Pf 67 E4 <| Mv 68 E3 <| Sk 69 E3 <| Sk 70 E3 <| Sk 71 E3 <| Sk 72 E3 <| Sk 73 E3 <| Pf 74 E4 <| Mv 75 E3 <| Sk 76 E3 <| Sk 77 E3 ?_
          exact Sk 78 E3 <| Sk 79 E3 <| Sk 80 E3 <| Pf 81 E4 <| Sg 82 E3 <| Zl hk13 <| Run.ret <| Je E2 ⟨congrArg Value.bool (by unfold eqX; rw [decide_eq_true (all_same htk (by omega) (by omega))]; show _ = (true && sameB x.t y.t); unfold sameB; rw [decide_eq_true (show x.t.type = y.t.type from c35), decide_eq_true (show x.t.nonce = y.t.nonce from c41), decide_eq_true (show x.t.interval = y.t.interval from c48), decide_eq_true (show x.t.seqno = y.t.seqno from c55), decide_eq_true (show x.t.rxcost = y.t.rxcost from c62), decide_eq_true (show x.t.metric = y.t.metric from c69), decide_eq_false (show ¬ x.t.hops = y.t.hops from c76)]; rfl), rfl⟩
        ·refine Pt 39 E4 <| Mv 40 E3 <| Sk 41 E3 <| Sk 42 E3 <| Sk 43 E3 <| Sk 44 E3 <| Sk 45 E3 <| Pf 46 E4 <| Mv 47 E3 <| Sk 48 E3 <| Sk 49 E3 <| Sk 50 E3 <| Sk 51 E3 <| Sk 52 E3 <| Pf 53 E4 <| Mv 54 E3 <| Sk 55 E3 <| Sk 56 E3 <| Sk 57 E3 <| Sk 58 E3 <| Sk 59 E3 <| Pf 60 E4 <| Mv 61 E3 <| Sk 62 E3 <| Sk 63 E3 <| Sk 64 E3 <| Sk 65 E3 <| Sk 66 E3 <| Pf 67 E4 <| Mv 68 E3 <| Sk 69 E3 <| Sk 70 E3 ?_
         exact Sk 71 E3 <| Sk 72 E3 <| Sk 73 E3 <| Pf 74 E4 <| Mv 75 E3 <| Sk 76 E3 <| Sk 77 E3 <| Sk 78 E3 <| Sk 79 E3 <| Sk 80 E3 <| Pf 81 E4 <| Sg 82 E3 <| Zl hk13 <| Run.ret <| Je E2 ⟨congrArg Value.bool (by unfold eqX; rw [decide_eq_true (all_same htk (by omega) (by omega))]; show _ = (true && sameB x.t y.t); unfold sameB; rw [decide_eq_true (show x.t.type = y.t.type from c35), decide_eq_true (show x.t.nonce = y.t.nonce from c41), decide_eq_true (show x.t.interval = y.t.interval from c48), decide_eq_true (show x.t.seqno = y.t.seqno from c55), decide_eq_true (show x.t.rxcost = y.t.rxcost from c62), decide_eq_false (show ¬ x.t.metric = y.t.metric from c69)]; rfl), rfl⟩
       ·refine Pt 32 E4 <| Mv 33 E3 <| Sk 34 E3 <| Sk 35 E3 <| Sk 36 E3 <| Sk 37 E3 <| Sk 38 E3 <| Pf 39 E4 <| Mv 40 E3 <| Sk 41 E3 <| Sk 42 E3 <| Sk 43 E3 <| Sk 44 E3 <| Sk 45 E3 <| Pf 46 E4 <| Mv 47 E3 <| Sk 48 E3 <| Sk 49 E3 <| Sk 50 E3 <| Sk 51 E3 <| Sk 52 E3 <| Pf 53 E4 <| Mv 54 E3 <| Sk 55 E3 <| Sk 56 E3 <| Sk 57 E3 <| Sk 58 E3 <| Sk 59 E3 <| Pf 60 E4 <| Mv 61 E3 <| Sk 62 E3 <| Sk 63 E3 ?_
        exact Sk 64 E3 <| Sk 65 E3 <| Sk 66 E3 <| Pf 67 E4 <| Mv 68 E3 <| Sk 69 E3 <| Sk 70 E3 <| Sk 71 E3 <| Sk 72 E3 <| Sk 73 E3 <| Pf 74 E4 <| Mv 75 E3 <| Sk 76 E3 <| Sk 77 E3 <| Sk 78 E3 <| Sk 79 E3 <| Sk 80 E3 <| Pf 81 E4 <| Sg 82 E3 <| Zl hk13 <| Run.ret <| Je E2 ⟨congrArg Value.bool (by unfold eqX; rw [decide_eq_true (all_same htk (by omega) (by omega))]; show _ = (true && sameB x.t y.t); unfold sameB; rw [decide_eq_true (show x.t.type = y.t.type from c35), decide_eq_true (show x.t.nonce = y.t.nonce from c41), decide_eq_true (show x.t.interval = y.t.interval from c48), decide_eq_true (show x.t.seqno = y.t.seqno from c55), decide_eq_false (show ¬ x.t.rxcost = y.t.rxcost from c62)]; rfl), rfl⟩
      ·refine Pt 25 E4 <| Mv 26 E3 <| Sk 27 E3 <| Sk 28 E3 <| Sk 29 E3 <| Sk 30 E3 <| Sk 31 E3 <| Pf 32 E4 <| Mv 33 E3 <| Sk 34 E3 <| Sk 35 E3 <| Sk 36 E3 <| Sk 37 E3 <| Sk 38 E3 <| Pf 39 E4 <| Mv 40 E3 <| Sk 41 E3 <| Sk 42 E3 <| Sk 43 E3 <| Sk 44 E3 <| Sk 45 E3 <| Pf 46 E4 <| Mv 47 E3 <| Sk 48 E3 <| Sk 49 E3 <| Sk 50 E3 <| Sk 51 E3 <| Sk 52 E3 <| Pf 53 E4 <| Mv 54 E3 <| Sk 55 E3 <| Sk 56 E3 ?_
       exact Sk 57 E3 <| Sk 58 E3 <| Sk 59 E3 <| Pf 60 E4 <| Mv 61 E3 <| Sk 62 E3 <| Sk 63 E3 <| Sk 64 E3 <| Sk 65 E3 <| Sk 66 E3 <| Pf 67 E4 <| Mv 68 E3 <| Sk 69 E3 <| Sk 70 E3 <| Sk 71 E3 <| Sk 72 E3 <| Sk 73 E3 <| Pf 74 E4 <| Mv 75 E3 <| Sk 76 E3 <| Sk 77 E3 <| Sk 78 E3 <| Sk 79 E3 <| Sk 80 E3 <| Pf 81 E4 <| Sg 82 E3 <| Zl hk13 <| Run.ret <| Je E2 ⟨congrArg Value.bool (by unfold eqX; rw [decide_eq_true (all_same htk (by omega) (by omega))]; show _ = (true && sameB x.t y.t); unfold sameB; rw [decide_eq_true (show x.t.type = y.t.type from c35), decide_eq_true (show x.t.nonce = y.t.nonce from c41), decide_eq_true (show x.t.interval = y.t.interval from c48), decide_eq_false (show ¬ x.t.seqno = y.t.seqno from c55)]; rfl), rfl⟩
     ·refine Pt 18 E4 <| Mv 19 E3 <| Sk 20 E3 <| Sk 21 E3 <| Sk 22 E3 <| Sk 23 E3 <| Sk 24 E3 <| Pf 25 E4 <| Mv 26 E3 <| Sk 27 E3 <| Sk 28 E3 <| Sk 29 E3 <| Sk 30 E3 <| Sk 31 E3 <| Pf 32 E4 <| Mv 33 E3 <| Sk 34 E3 <| Sk 35 E3 <| Sk 36 E3 <| Sk 37 E3 <| Sk 38 E3 <| Pf 39 E4 <| Mv 40 E3 <| Sk 41 E3 <| Sk 42 E3 <| Sk 43 E3 <| Sk 44 E3 <| Sk 45 E3 <| Pf 46 E4 <| Mv 47 E3 <| Sk 48 E3 <| Sk 49 E3 ?_
      refine Sk 50 E3 <| Sk 51 E3 <| Sk 52 E3 <| Pf 53 E4 <| Mv 54 E3 <| Sk 55 E3 <| Sk 56 E3 <| Sk 57 E3 <| Sk 58 E3 <| Sk 59 E3 <| Pf 60 E4 <| Mv 61 E3 <| Sk 62 E3 <| Sk 63 E3 <| Sk 64 E3 <| Sk 65 E3 <| Sk 66 E3 <| Pf 67 E4 <| Mv 68 E3 <| Sk 69 E3 <| Sk 70 E3 <| Sk 71 E3 <| Sk 72 E3 <| Sk 73 E3 <| Pf 74 E4 <| Mv 75 E3 <| Sk 76 E3 <| Sk 77 E3 <| Sk 78 E3 <| Sk 79 E3 <| Sk 80 E3 <| Pf 81 E4 ?_
      exact Sg 82 E3 <| Zl hk13 <| Run.ret <| Je E2 ⟨congrArg Value.bool (by unfold eqX; rw [decide_eq_true (all_same htk (by omega) (by omega))]; show _ = (true && sameB x.t y.t); unfold sameB; rw [decide_eq_true (show x.t.type = y.t.type from c35), decide_eq_true (show x.t.nonce = y.t.nonce from c41), decide_eq_false (show ¬ x.t.interval = y.t.interval from c48)]; rfl), rfl⟩
    ·refine Pt 11 E4 <| Mv 12 E3 <| Sk 13 E3 <| Sk 14 E3 <| Sk 15 E3 <| Sk 16 E3 <| Sk 17 E3 <| Pf 18 E4 <| Mv 19 E3 <| Sk 20 E3 <| Sk 21 E3 <| Sk 22 E3 <| Sk 23 E3 <| Sk 24 E3 <| Pf 25 E4 <| Mv 26 E3 <| Sk 27 E3 <| Sk 28 E3 <| Sk 29 E3 <| Sk 30 E3 <| Sk 31 E3 <| Pf 32 E4 <| Mv 33 E3 <| Sk 34 E3 <| Sk 35 E3 <| Sk 36 E3 <| Sk 37 E3 <| Sk 38 E3 <| Pf 39 E4 <| Mv 40 E3 <| Sk 41 E3 <| Sk 42 E3 ?_
     refine Sk 43 E3 <| Sk 44 E3 <| Sk 45 E3 <| Pf 46 E4 <| Mv 47 E3 <| Sk 48 E3 <| Sk 49 E3 <| Sk 50 E3 <| Sk 51 E3 <| Sk 52 E3 <| Pf 53 E4 <| Mv 54 E3 <| Sk 55 E3 <| Sk 56 E3 <| Sk 57 E3 <| Sk 58 E3 <| Sk 59 E3 <| Pf 60 E4 <| Mv 61 E3 <| Sk 62 E3 <| Sk 63 E3 <| Sk 64 E3 <| Sk 65 E3 <| Sk 66 E3 <| Pf 67 E4 <| Mv 68 E3 <| Sk 69 E3 <| Sk 70 E3 <| Sk 71 E3 <| Sk 72 E3 <| Sk 73 E3 <| Pf 74 E4 ?_
     exact Mv 75 E3 <| Sk 76 E3 <| Sk 77 E3 <| Sk 78 E3 <| Sk 79 E3 <| Sk 80 E3 <| Pf 81 E4 <| Sg 82 E3 <| Zl hk13 <| Run.ret <| Je E2 ⟨congrArg Value.bool (by unfold eqX; rw [decide_eq_true (all_same htk (by omega) (by omega))]; show _ = (true && sameB x.t y.t); unfold sameB; rw [decide_eq_true (show x.t.type = y.t.type from c35), decide_eq_false (show ¬ x.t.nonce = y.t.nonce from c41)]; rfl), rfl⟩
   ·refine Mv 5 E3 <| Sk 6 E3 <| Sk 7 E3 <| Sk 8 E3 <| Sk 9 E3 <| Sk 10 E3 <| Pf 11 E4 <| Mv 12 E3 <| Sk 13 E3 <| Sk 14 E3 <| Sk 15 E3 <| Sk 16 E3 <| Sk 17 E3 <| Pf 18 E4 <| Mv 19 E3 <| Sk 20 E3 <| Sk 21 E3 <| Sk 22 E3 <| Sk 23 E3 <| Sk 24 E3 <| Pf 25 E4 <| Mv 26 E3 <| Sk 27 E3 <| Sk 28 E3 <| Sk 29 E3 <| Sk 30 E3 <| Sk 31 E3 <| Pf 32 E4 <| Mv 33 E3 <| Sk 34 E3 <| Sk 35 E3 <| Sk 36 E3 <| Sk 37 E3 ?_
    refine Sk 38 E3 <| Pf 39 E4 <| Mv 40 E3 <| Sk 41 E3 <| Sk 42 E3 <| Sk 43 E3 <| Sk 44 E3 <| Sk 45 E3 <| Pf 46 E4 <| Mv 47 E3 <| Sk 48 E3 <| Sk 49 E3 <| Sk 50 E3 <| Sk 51 E3 <| Sk 52 E3 <| Pf 53 E4 <| Mv 54 E3 <| Sk 55 E3 <| Sk 56 E3 <| Sk 57 E3 <| Sk 58 E3 <| Sk 59 E3 <| Pf 60 E4 <| Mv 61 E3 <| Sk 62 E3 <| Sk 63 E3 <| Sk 64 E3 <| Sk 65 E3 <| Sk 66 E3 <| Pf 67 E4 <| Mv 68 E3 <| Sk 69 E3 ?_
    exact Sk 70 E3 <| Sk 71 E3 <| Sk 72 E3 <| Sk 73 E3 <| Pf 74 E4 <| Mv 75 E3 <| Sk 76 E3 <| Sk 77 E3 <| Sk 78 E3 <| Sk 79 E3 <| Sk 80 E3 <| Pf 81 E4 <| Sg 82 E3 <| Zl hk13 <| Run.ret <| Je E2 ⟨congrArg Value.bool (by unfold eqX; rw [decide_eq_true (all_same htk (by omega) (by omega))]; show _ = (true && sameB x.t y.t); unfold sameB; rw [decide_eq_false (show ¬ x.t.type = y.t.type from c35)]; rfl), rfl⟩

theorem take_tlv {xs ys : List TlvX} {i : Nat} {x y : TlvX} (h : (xs.take i).map tlvM = (ys.take i).map tlvM) (hi : xs[i]? = some x) (hj : ys[i]? = some y) (e : tlvM x = tlvM y) : (xs.take (i + 1)).map tlvM = (ys.take (i + 1)).map tlvM := by
 rw [take_succ_get hi, take_succ_get hj, List.map_append, List.map_append, h]
 simp [e]
theorem ne_tlv {xs ys : List TlvX} {i : Nat} {x y : TlvX} (hi : xs[i]? = some x) (hj : ys[i]? = some y) (e : ¬ tlvM x = tlvM y) : ¬ xs.map tlvM = ys.map tlvM := fun h => by
 have h1 : (xs.map tlvM)[i]? = some (tlvM x) := by rw [List.getElem?_map, hi]; rfl
 rw [h, List.getElem?_map, hj] at h1
 exact e (Option.some.inj h1).symm
theorem all_tlv {xs ys : List TlvX} {i : Nat} (h : (xs.take i).map tlvM = (ys.take i).map tlvM) (hl : xs.length = ys.length) (hi : xs.length ≤ i) : xs.map tlvM = ys.map tlvM := by
 rwa [List.take_of_length_le hi, List.take_of_length_le (by omega)] at h

theorem rsames_spec (F : Fr) {a1 a2 : Option Addr} {c1 c2 : Nat} {xs ys : List TlvX} (ha1 : ArgSl F a1 68 tlvE xs) (ha2 : ArgSl F a2 68 tlvE ys) (hx : ∀ x ∈ xs, TlvIn F x) (hy : ∀ y ∈ ys, TlvIn F y) (hxl : xs.length ≤ 4294967296) (hsl : ∀ x ∈ xs, x.l.length ≤ 4294967296)  : Spec Tryz.prog 29 #[.slice a1 xs.length c1, .slice a2 ys.length c2] [] F (fun v S => ∃ b : Bool, v = .bool b ∧ (b = true ↔ xs.map tlvM = ys.map tlvM) ∧ S = []) := by
 refine Spec.intro (N := 27) (args := [.slice a1 xs.length c1, .slice a2 ys.length c2]) Tryz.func29 rfl rfl (by simp) ?_
 refine Zs fun _ hk1 => Sg 0 E3 <| Zl hk1 <| Run.seq fun _ hk2 => Zs fun _ hk3 => Mv 0 E3 <| Qp 1 E2 (QP.len rfl rfl rfl Tryz.underlying33) <| Mv 2 E3 <| Qp 3 E2 (QP.len rfl rfl rfl Tryz.underlying33) <| Qp 4 E2 (Zq E3) <| J.caseD (fun c10 => ?_) (fun c10 => ?_)
 ·exact Zl hk3 <| Zt <| Zs fun _ hk4 => Sg 0 E3 <| Zl hk4 <| Run.ret <| Je E2 ⟨false, rfl, ⟨fun h => (by cases h), fun h => absurd (show (xs.length : Int) = ys.length by have := congrArg List.length h; simp only [List.length_map] at this; omega) c10⟩, rfl⟩
 ·refine Zl hk3 <| Zf <| Run.skip <| hk2 _ _ <| Run.seq fun _ hk5 => Run.seq fun _ hk6 => Run.region ?_
  have hlen : xs.length = ys.length := by have := Classical.not_not.1 c10; omega
  refine Sg 0 E3 <| Zl hk6 <| Run.block <| Run.loop1 (fun (i : Nat) => i ≤ xs.length ∧ (xs.take i).map tlvM = (ys.take i).map tlvM) (fun i => .cons 0 (.slice a1 xs.length c1) (.cons 1 (.slice a2 ys.length c2) (.cons 5 (.int .i64 i) (.nil)))) (fun i => []) (fun i => xs.length - i) (0) (⟨Nat.zero_le _, rfl⟩) ?_ ?_
  ·exact fun _ j => J.envJ (J.keep TN j) ⟨rfl, rfl, rfl, trivial⟩
  rintro i ⟨hile, htk⟩ kl7 hl7
  refine Run.seq fun _ hk8 => Zs fun _ hk9 => Mv 0 E3 <| Mv 1 E3 <| Qp 2 E2 (QP.len rfl rfl rfl Tryz.underlying33) <| Qp 3 E2 (Zb E3) <| J.caseD (fun c14 => ?_) (fun c14 => ?_)
  ·refine Zl hk9 <| Zt <| Run.skip <| hk8 _ _ <| Run.seq fun _ hk10 => Run.block <| Run.seq fun _ hk11 => Run.regionD (M := [0, 0, 3, 7, 0, 0, 48, 112, 255, 511]) (q := 767) (r := 136) Kr ?_
   obtain ⟨x, hi⟩ : ∃ x, xs[i]? = some x := ⟨_, GE (by omega)⟩
   obtain ⟨y, hj⟩ : ∃ y, ys[i]? = some y := ⟨_, GE (by omega)⟩
   obtain ⟨b1, o1, rfl, hs1⟩ := ha1.get (by omega)
   obtain ⟨b2, o2, rfl, hs2⟩ := ha2.get (by omega)
   refine Dp 0 E2 (Zm E2) <| Dp 1 E2 (Zm E2) <| Dp 2 E2 (QP.indexAddr rfl rfl rfl Tryz.underlying33 z49 Og Og) <| Dr 3 E2 (QR.loadSl (y := x) rfl rfl g49 tlvE_len (hs1 _) hi) ?_
   refine Dp 4 E2 (Zm E2) <| Dp 5 E2 (Zm E2) <| Dp 6 E2 (QP.indexAddr rfl rfl rfl Tryz.underlying33 z49 Og Og) <| Dr 7 E2 (QR.loadSl (y := y) rfl rfl g49 tlvE_len (hs2 _) hj) ?_
   refine De 8 <| Om [] rfl rfl (Zc E2 ce16 TN (fun F' hle hr => rsame_spec F' x y ((hx x (List.mem_of_getElem? hi)).mono hle) ((hy y (List.mem_of_getElem? hj)).mono hle) (hsl x (List.mem_of_getElem? hi)))) ?_
   rintro _ _ ⟨_, ⟨rfl, rfl⟩, rfl⟩
   refine N0 <| J.app <| J.caseB (fun c25 => ?_) (fun c25 => ?_)
   ·exact Dp 9 E2 (Zu E2) <| Dn <| hk11 _ _ <| Zf <| Run.skip <| hk10 _ _ <| Run.region <| Mv 0 E3 <| Qp 1 E2 (QP.add64 rfl rfl rfl Og Og) <| Sg 2 E3 <| Sq.nil <| J.envJ (J.keep TN (hl7 (i + 1) (⟨by omega, take_tlv htk hi hj (eqX_iff.1 c25)⟩) (by omega))) ⟨rfl, rfl, rfl, trivial⟩
   ·exact Dp 9 E2 (Zu E2) <| Dn <| hk11 _ _ <| Zt <| Zs fun _ hk12 => Sg 0 E3 <| Zl hk12 <| Run.ret <| Je E2 ⟨false, rfl, ⟨fun h => (by cases h), fun h => absurd h (ne_tlv hi hj (fun h9 => by rw [eqX_iff.2 h9] at c25; cases c25))⟩, rfl⟩
  ·exact Zl hk9 <| Zf <| Run.exit rfl <| hk5 _ _ <| Zs fun _ hk13 => Sg 0 E3 <| Zl hk13 <| Run.ret <| Je E2 ⟨true, rfl, ⟨fun _ => all_tlv htk (by omega) (by omega), fun _ => rfl⟩, rfl⟩
end Slb
