/- I14: a part of the proof that a law of this package holds for every input; no condition. -/
import Derived.Test.YtfokodhfjdhdaaaM2
import Derived.Test.YtfokodhfjdhdaaaI13
namespace Slb
open Go Go.Proofs
set_option maxRecDepth 20000
def sameB (a b : Tlv) : Bool := decide (a.type = b.type) && (decide (a.nonce = b.nonce) && (decide (a.interval = b.interval) && (decide (a.seqno = b.seqno) && (decide (a.rxcost = b.rxcost) && (decide (a.metric = b.metric) && (decide (a.hops = b.hops) && (decide (a.unicast = b.unicast) && (decide (a.all = b.all) && (decide (a.id_ = b.id_) && (decide (a.addr = b.addr) && (decide (a.pair = b.pair))))))))))))
theorem sameB_iff {a b : Tlv} : sameB a b = true ↔ norm a = norm b := by
  unfold sameB norm
  cases a; cases b
  simp only [Bool.and_eq_true, decide_eq_true_eq, Tlv.mk.injEq]
  simp
def timesB (t : Tlv) : Bool := decide (t.stamps.n = 0) || (decide (t.stamps.n = 1) && decide (t.type = 4) || decide (t.stamps.n = 2) && decide (t.type = 5))
def pairedB (t : Tlv) : Bool := if t.type = 8 ∨ t.type = 9 then !t.all else decide (t.type = 10)

theorem same_spec (F : Fr) (a b : Tlv) : Spec Try.prog 71 #[.agg (Tlv.enc a).toArray, .agg (Tlv.enc b).toArray] [] F (fun v S => v = .bool (sameB a b) ∧ S = []) := by
 refine Spec.intro (N := 87) (args := [.agg (Tlv.enc a).toArray, .agg (Tlv.enc b).toArray]) Try.func71 rfl rfl (by simp) ?_
 refine Run.seq fun k1 hk1 => Run.region ?_
 show Sq _ _ _ [0, 1, 2] _ _ _ _
 refine Ef 0 rfl rfl (EF.boxA rfl rfl) ?_
 rintro _ _ ⟨b2, rfl, rfl⟩
 refine Ef 1 rfl rfl (EF.boxA rfl rfl) ?_
 rintro _ _ ⟨b3, rfl, rfl⟩
 refine Sg 2 rfl rfl rfl <| Sq.nil <| hk1 _ _ <| Run.seq fun k2 hk2 => Run.region ?_
 show Sq _ _ _ [0, 1, 2, 3, 4, 5, 6, 7, 8, 9, 10, 11, 12, 13, 14, 15, 16, 17, 18, 19, 20, 21, 22, 23, 24, 25, 26, 27, 28, 29, 30, 31, 32, 33, 34, 35, 36, 37, 38, 39, 40, 41, 42, 43, 44, 45, 46, 47, 48, 49, 50, 51, 52, 53, 54, 55, 56, 57, 58, 59, 60, 61, 62, 63, 64, 65, 66, 67, 68, 69, 70, 71, 72, 73, 74, 75, 76, 77, 78, 79, 80, 81, 82] _ _ _ _
 refine Fa 0 rfl rfl rfl f46_0 <| Qq 1 rfl rfl (QR.load1 rfl rfl g5 (Tlv.sub_type _)) ?_
 refine Fa 2 rfl rfl rfl f46_0 <| Qq 3 rfl rfl (QR.load1 rfl rfl g5 (Tlv.sub_type _)) ?_
 refine Qp 4 rfl rfl (QP.eql rfl rfl rfl) <| J.caseD (fun c9 => ?_) (fun c9 => ?_)
 ·refine Mv 5 rfl rfl rfl <| Yf 6 rfl rfl rfl rfl f46_1 <| Yq 7 rfl rfl rfl (QR.load1 rfl rfl g37 (Tlv.sub_nonce _)) ?_
  refine Yf 8 rfl rfl rfl rfl f46_1 <| Yq 9 rfl rfl rfl (QR.load1 rfl rfl g37 (Tlv.sub_nonce _)) ?_
  refine Yp 10 rfl rfl rfl (QP.eql rfl rfl rfl) <| J.caseD (fun c15 => ?_) (fun c15 => ?_)
  ·refine Pt 11 rfl rfl rfl rfl <| Mv 12 rfl rfl rfl <| Yf 13 rfl rfl rfl rfl f46_2 <| Yq 14 rfl rfl rfl (QR.load1 rfl rfl g37 (Tlv.sub_interval _)) ?_
   refine Yf 15 rfl rfl rfl rfl f46_2 <| Yq 16 rfl rfl rfl (QR.load1 rfl rfl g37 (Tlv.sub_interval _)) ?_
   refine Yp 17 rfl rfl rfl (QP.eql rfl rfl rfl) <| J.caseD (fun c22 => ?_) (fun c22 => ?_)
   ·refine Pt 18 rfl rfl rfl rfl <| Mv 19 rfl rfl rfl <| Yf 20 rfl rfl rfl rfl f46_3 <| Yq 21 rfl rfl rfl (QR.load1 rfl rfl g37 (Tlv.sub_seqno _)) ?_
    refine Yf 22 rfl rfl rfl rfl f46_3 <| Yq 23 rfl rfl rfl (QR.load1 rfl rfl g37 (Tlv.sub_seqno _)) ?_
    refine Yp 24 rfl rfl rfl (QP.eql rfl rfl rfl) <| J.caseD (fun c29 => ?_) (fun c29 => ?_)
    ·refine Pt 25 rfl rfl rfl rfl <| Mv 26 rfl rfl rfl <| Yf 27 rfl rfl rfl rfl f46_4 <| Yq 28 rfl rfl rfl (QR.load1 rfl rfl g37 (Tlv.sub_rxcost _)) ?_
     refine Yf 29 rfl rfl rfl rfl f46_4 <| Yq 30 rfl rfl rfl (QR.load1 rfl rfl g37 (Tlv.sub_rxcost _)) ?_
     refine Yp 31 rfl rfl rfl (QP.eql rfl rfl rfl) <| J.caseD (fun c36 => ?_) (fun c36 => ?_)
     ·refine Pt 32 rfl rfl rfl rfl <| Mv 33 rfl rfl rfl <| Yf 34 rfl rfl rfl rfl f46_5 <| Yq 35 rfl rfl rfl (QR.load1 rfl rfl g37 (Tlv.sub_metric _)) ?_
      refine Yf 36 rfl rfl rfl rfl f46_5 <| Yq 37 rfl rfl rfl (QR.load1 rfl rfl g37 (Tlv.sub_metric _)) ?_
      refine Yp 38 rfl rfl rfl (QP.eql rfl rfl rfl) <| J.caseD (fun c43 => ?_) (fun c43 => ?_)
      ·refine Pt 39 rfl rfl rfl rfl <| Mv 40 rfl rfl rfl <| Yf 41 rfl rfl rfl rfl f46_6 <| Yq 42 rfl rfl rfl (QR.load1 rfl rfl g5 (Tlv.sub_hops _)) ?_
       refine Yf 43 rfl rfl rfl rfl f46_6 <| Yq 44 rfl rfl rfl (QR.load1 rfl rfl g5 (Tlv.sub_hops _)) ?_
       refine Yp 45 rfl rfl rfl (QP.eql rfl rfl rfl) <| J.caseD (fun c50 => ?_) (fun c50 => ?_)
       ·refine Pt 46 rfl rfl rfl rfl <| Mv 47 rfl rfl rfl <| Yf 48 rfl rfl rfl rfl f46_7 <| Yq 49 rfl rfl rfl (QR.load1 rfl rfl g4 (Tlv.sub_unicast _)) ?_
        refine Yf 50 rfl rfl rfl rfl f46_7 <| Yq 51 rfl rfl rfl (QR.load1 rfl rfl g4 (Tlv.sub_unicast _)) ?_
        refine Yp 52 rfl rfl rfl (QP.eqlB rfl rfl rfl Try.underlying4) <| J.caseB (fun c57 => ?_) (fun c57 => ?_)
        ·refine Pt 53 rfl rfl rfl rfl <| Mv 54 rfl rfl rfl <| Yf 55 rfl rfl rfl rfl f46_8 <| Yq 56 rfl rfl rfl (QR.load1 rfl rfl g4 (Tlv.sub_all _)) ?_
         refine Yf 57 rfl rfl rfl rfl f46_8 <| Yq 58 rfl rfl rfl (QR.load1 rfl rfl g4 (Tlv.sub_all _)) ?_
         refine Yp 59 rfl rfl rfl (QP.eqlB rfl rfl rfl Try.underlying4) <| J.caseB (fun c64 => ?_) (fun c64 => ?_)
         ·refine Pt 60 rfl rfl rfl rfl <| Mv 61 rfl rfl rfl <| Yf 62 rfl rfl rfl rfl f46_9 <| Yq 63 rfl rfl rfl (QR.load rfl rfl g39 (Tlv.sub_id_ _)) ?_
          refine Yf 64 rfl rfl rfl rfl f46_9 <| Yq 65 rfl rfl rfl (QR.load rfl rfl g39 (Tlv.sub_id_ _)) ?_
          refine Yp 66 rfl rfl rfl (QP.eql_agg eq39 rfl rfl rfl) <| J.caseD (fun c71 => ?_) (fun c71 => ?_)
          ·refine Pt 67 rfl rfl rfl rfl <| Mv 68 rfl rfl rfl <| Yf 69 rfl rfl rfl rfl f46_10 <| Yq 70 rfl rfl rfl (QR.load rfl rfl g23 (Tlv.sub_addr _)) ?_
           refine Yf 71 rfl rfl rfl rfl f46_10 <| Yq 72 rfl rfl rfl (QR.load rfl rfl g23 (Tlv.sub_addr _)) ?_
           refine Yp 73 rfl rfl rfl (QP.eql_agg eq23 rfl rfl rfl) <| J.caseD (fun c78 => ?_) (fun c78 => ?_)
           ·refine Pt 74 rfl rfl rfl rfl <| Mv 75 rfl rfl rfl <| Yf 76 rfl rfl rfl rfl f46_11 <| Yq 77 rfl rfl rfl (QR.load rfl rfl g43 (Tlv.sub_pair _)) ?_
            refine Yf 78 rfl rfl rfl rfl f46_11 <| Yq 79 rfl rfl rfl (QR.load rfl rfl g43 (Tlv.sub_pair _)) ?_
            refine Yp 80 rfl rfl rfl (QP.eql_agg eq43 rfl rfl rfl) <| Pt 81 rfl rfl rfl rfl <| Sg 82 rfl rfl rfl <| Sq.nil <| hk2 _ _ <| Run.ret ?_
            exact J.ends (res_tmp rfl rfl) Takes.nil ⟨congrArg Value.bool (by unfold sameB; rw [decide_eq_true (show a.type = b.type from c9), decide_eq_true (show a.nonce = b.nonce from c15), decide_eq_true (show a.interval = b.interval from c22), decide_eq_true (show a.seqno = b.seqno from c29), decide_eq_true (show a.rxcost = b.rxcost from c36), decide_eq_true (show a.metric = b.metric from c43), decide_eq_true (show a.hops = b.hops from c50), decide_eq_true (show a.unicast = b.unicast from (beq_iff_eq.1 c57)), decide_eq_true (show a.all = b.all from (beq_iff_eq.1 c64)), decide_eq_true (show a.id_ = b.id_ from c71), decide_eq_true (show a.addr = b.addr from c78)]; rfl), rfl⟩
           ·refine Pt 74 rfl rfl rfl rfl <| Mv 75 rfl rfl rfl <| Sk 76 rfl rfl rfl <| Sk 77 rfl rfl rfl <| Sk 78 rfl rfl rfl <| Sk 79 rfl rfl rfl <| Sk 80 rfl rfl rfl <| Pf 81 rfl rfl rfl rfl <| Sg 82 rfl rfl rfl <| Sq.nil <| hk2 _ _ <| Run.ret ?_
            exact J.ends (res_tmp rfl rfl) Takes.nil ⟨congrArg Value.bool (by unfold sameB; rw [decide_eq_true (show a.type = b.type from c9), decide_eq_true (show a.nonce = b.nonce from c15), decide_eq_true (show a.interval = b.interval from c22), decide_eq_true (show a.seqno = b.seqno from c29), decide_eq_true (show a.rxcost = b.rxcost from c36), decide_eq_true (show a.metric = b.metric from c43), decide_eq_true (show a.hops = b.hops from c50), decide_eq_true (show a.unicast = b.unicast from (beq_iff_eq.1 c57)), decide_eq_true (show a.all = b.all from (beq_iff_eq.1 c64)), decide_eq_true (show a.id_ = b.id_ from c71), decide_eq_false (show ¬ a.addr = b.addr from c78)]; rfl), rfl⟩
          ·refine Pt 67 rfl rfl rfl rfl <| Mv 68 rfl rfl rfl <| Sk 69 rfl rfl rfl <| Sk 70 rfl rfl rfl <| Sk 71 rfl rfl rfl <| Sk 72 rfl rfl rfl <| Sk 73 rfl rfl rfl <| Pf 74 rfl rfl rfl rfl <| Mv 75 rfl rfl rfl <| Sk 76 rfl rfl rfl <| Sk 77 rfl rfl rfl <| Sk 78 rfl rfl rfl <| Sk 79 rfl rfl rfl <| Sk 80 rfl rfl rfl <| Pf 81 rfl rfl rfl rfl <| Sg 82 rfl rfl rfl <| Sq.nil <| hk2 _ _ <| Run.ret ?_
           exact J.ends (res_tmp rfl rfl) Takes.nil ⟨congrArg Value.bool (by unfold sameB; rw [decide_eq_true (show a.type = b.type from c9), decide_eq_true (show a.nonce = b.nonce from c15), decide_eq_true (show a.interval = b.interval from c22), decide_eq_true (show a.seqno = b.seqno from c29), decide_eq_true (show a.rxcost = b.rxcost from c36), decide_eq_true (show a.metric = b.metric from c43), decide_eq_true (show a.hops = b.hops from c50), decide_eq_true (show a.unicast = b.unicast from (beq_iff_eq.1 c57)), decide_eq_true (show a.all = b.all from (beq_iff_eq.1 c64)), decide_eq_false (show ¬ a.id_ = b.id_ from c71)]; rfl), rfl⟩
         ·refine Pt 60 rfl rfl rfl rfl <| Mv 61 rfl rfl rfl <| Sk 62 rfl rfl rfl <| Sk 63 rfl rfl rfl <| Sk 64 rfl rfl rfl <| Sk 65 rfl rfl rfl <| Sk 66 rfl rfl rfl <| Pf 67 rfl rfl rfl rfl <| Mv 68 rfl rfl rfl <| Sk 69 rfl rfl rfl <| Sk 70 rfl rfl rfl <| Sk 71 rfl rfl rfl <| Sk 72 rfl rfl rfl <| Sk 73 rfl rfl rfl <| Pf 74 rfl rfl rfl rfl <| Mv 75 rfl rfl rfl <| Sk 76 rfl rfl rfl <| Sk 77 rfl rfl rfl <| Sk 78 rfl rfl rfl <| Sk 79 rfl rfl rfl <| Sk 80 rfl rfl rfl <| Pf 81 rfl rfl rfl rfl <| Sg 82 rfl rfl rfl <| Sq.nil <| hk2 _ _ <| Run.ret ?_
          exact J.ends (res_tmp rfl rfl) Takes.nil ⟨congrArg Value.bool (by unfold sameB; rw [decide_eq_true (show a.type = b.type from c9), decide_eq_true (show a.nonce = b.nonce from c15), decide_eq_true (show a.interval = b.interval from c22), decide_eq_true (show a.seqno = b.seqno from c29), decide_eq_true (show a.rxcost = b.rxcost from c36), decide_eq_true (show a.metric = b.metric from c43), decide_eq_true (show a.hops = b.hops from c50), decide_eq_true (show a.unicast = b.unicast from (beq_iff_eq.1 c57)), decide_eq_false (show ¬ a.all = b.all from (fun h => by rw [beq_iff_eq.2 h] at c64; cases c64))]; rfl), rfl⟩
        ·refine Pt 53 rfl rfl rfl rfl <| Mv 54 rfl rfl rfl <| Sk 55 rfl rfl rfl <| Sk 56 rfl rfl rfl <| Sk 57 rfl rfl rfl <| Sk 58 rfl rfl rfl <| Sk 59 rfl rfl rfl <| Pf 60 rfl rfl rfl rfl <| Mv 61 rfl rfl rfl <| Sk 62 rfl rfl rfl <| Sk 63 rfl rfl rfl <| Sk 64 rfl rfl rfl <| Sk 65 rfl rfl rfl <| Sk 66 rfl rfl rfl <| Pf 67 rfl rfl rfl rfl <| Mv 68 rfl rfl rfl <| Sk 69 rfl rfl rfl <| Sk 70 rfl rfl rfl <| Sk 71 rfl rfl rfl <| Sk 72 rfl rfl rfl <| Sk 73 rfl rfl rfl <| Pf 74 rfl rfl rfl rfl <| Mv 75 rfl rfl rfl <| Sk 76 rfl rfl rfl <| Sk 77 rfl rfl rfl <| Sk 78 rfl rfl rfl <| Sk 79 rfl rfl rfl <| Sk 80 rfl rfl rfl <| Pf 81 rfl rfl rfl rfl <| Sg 82 rfl rfl rfl <| Sq.nil <| hk2 _ _ <| Run.ret ?_
         exact J.ends (res_tmp rfl rfl) Takes.nil ⟨congrArg Value.bool (by unfold sameB; rw [decide_eq_true (show a.type = b.type from c9), decide_eq_true (show a.nonce = b.nonce from c15), decide_eq_true (show a.interval = b.interval from c22), decide_eq_true (show a.seqno = b.seqno from c29), decide_eq_true (show a.rxcost = b.rxcost from c36), decide_eq_true (show a.metric = b.metric from c43), decide_eq_true (show a.hops = b.hops from c50), decide_eq_false (show ¬ a.unicast = b.unicast from (fun h => by rw [beq_iff_eq.2 h] at c57; cases c57))]; rfl), rfl⟩
       ·refine Pt 46 rfl rfl rfl rfl <| Mv 47 rfl rfl rfl <| Sk 48 rfl rfl rfl <| Sk 49 rfl rfl rfl <| Sk 50 rfl rfl rfl <| Sk 51 rfl rfl rfl <| Sk 52 rfl rfl rfl <| Pf 53 rfl rfl rfl rfl <| Mv 54 rfl rfl rfl <| Sk 55 rfl rfl rfl <| Sk 56 rfl rfl rfl <| Sk 57 rfl rfl rfl <| Sk 58 rfl rfl rfl <| Sk 59 rfl rfl rfl <| Pf 60 rfl rfl rfl rfl <| Mv 61 rfl rfl rfl <| Sk 62 rfl rfl rfl <| Sk 63 rfl rfl rfl <| Sk 64 rfl rfl rfl <| Sk 65 rfl rfl rfl <| Sk 66 rfl rfl rfl <| Pf 67 rfl rfl rfl rfl <| Mv 68 rfl rfl rfl <| Sk 69 rfl rfl rfl <| Sk 70 rfl rfl rfl <| Sk 71 rfl rfl rfl <| Sk 72 rfl rfl rfl <| Sk 73 rfl rfl rfl <| Pf 74 rfl rfl rfl rfl <| Mv 75 rfl rfl rfl <| Sk 76 rfl rfl rfl <| Sk 77 rfl rfl rfl ?_
        refine Sk 78 rfl rfl rfl <| Sk 79 rfl rfl rfl <| Sk 80 rfl rfl rfl <| Pf 81 rfl rfl rfl rfl <| Sg 82 rfl rfl rfl <| Sq.nil <| hk2 _ _ <| Run.ret ?_
        exact J.ends (res_tmp rfl rfl) Takes.nil ⟨congrArg Value.bool (by unfold sameB; rw [decide_eq_true (show a.type = b.type from c9), decide_eq_true (show a.nonce = b.nonce from c15), decide_eq_true (show a.interval = b.interval from c22), decide_eq_true (show a.seqno = b.seqno from c29), decide_eq_true (show a.rxcost = b.rxcost from c36), decide_eq_true (show a.metric = b.metric from c43), decide_eq_false (show ¬ a.hops = b.hops from c50)]; rfl), rfl⟩
      ·refine Pt 39 rfl rfl rfl rfl <| Mv 40 rfl rfl rfl <| Sk 41 rfl rfl rfl <| Sk 42 rfl rfl rfl <| Sk 43 rfl rfl rfl <| Sk 44 rfl rfl rfl <| Sk 45 rfl rfl rfl <| Pf 46 rfl rfl rfl rfl <| Mv 47 rfl rfl rfl <| Sk 48 rfl rfl rfl <| Sk 49 rfl rfl rfl <| Sk 50 rfl rfl rfl <| Sk 51 rfl rfl rfl <| Sk 52 rfl rfl rfl <| Pf 53 rfl rfl rfl rfl <| Mv 54 rfl rfl rfl <| Sk 55 rfl rfl rfl <| Sk 56 rfl rfl rfl <| Sk 57 rfl rfl rfl <| Sk 58 rfl rfl rfl <| Sk 59 rfl rfl rfl <| Pf 60 rfl rfl rfl rfl <| Mv 61 rfl rfl rfl <| Sk 62 rfl rfl rfl <| Sk 63 rfl rfl rfl <| Sk 64 rfl rfl rfl <| Sk 65 rfl rfl rfl <| Sk 66 rfl rfl rfl <| Pf 67 rfl rfl rfl rfl <| Mv 68 rfl rfl rfl <| Sk 69 rfl rfl rfl <| Sk 70 rfl rfl rfl ?_
       refine Sk 71 rfl rfl rfl <| Sk 72 rfl rfl rfl <| Sk 73 rfl rfl rfl <| Pf 74 rfl rfl rfl rfl <| Mv 75 rfl rfl rfl <| Sk 76 rfl rfl rfl <| Sk 77 rfl rfl rfl <| Sk 78 rfl rfl rfl <| Sk 79 rfl rfl rfl <| Sk 80 rfl rfl rfl <| Pf 81 rfl rfl rfl rfl <| Sg 82 rfl rfl rfl <| Sq.nil <| hk2 _ _ <| Run.ret ?_
       exact J.ends (res_tmp rfl rfl) Takes.nil ⟨congrArg Value.bool (by unfold sameB; rw [decide_eq_true (show a.type = b.type from c9), decide_eq_true (show a.nonce = b.nonce from c15), decide_eq_true (show a.interval = b.interval from c22), decide_eq_true (show a.seqno = b.seqno from c29), decide_eq_true (show a.rxcost = b.rxcost from c36), decide_eq_false (show ¬ a.metric = b.metric from c43)]; rfl), rfl⟩
     ·refine Pt 32 rfl rfl rfl rfl <| Mv 33 rfl rfl rfl <| Sk 34 rfl rfl rfl <| Sk 35 rfl rfl rfl <| Sk 36 rfl rfl rfl <| Sk 37 rfl rfl rfl <| Sk 38 rfl rfl rfl <| Pf 39 rfl rfl rfl rfl <| Mv 40 rfl rfl rfl <| Sk 41 rfl rfl rfl <| Sk 42 rfl rfl rfl <| Sk 43 rfl rfl rfl <| Sk 44 rfl rfl rfl <| Sk 45 rfl rfl rfl <| Pf 46 rfl rfl rfl rfl <| Mv 47 rfl rfl rfl <| Sk 48 rfl rfl rfl <| Sk 49 rfl rfl rfl <| Sk 50 rfl rfl rfl <| Sk 51 rfl rfl rfl <| Sk 52 rfl rfl rfl <| Pf 53 rfl rfl rfl rfl <| Mv 54 rfl rfl rfl <| Sk 55 rfl rfl rfl <| Sk 56 rfl rfl rfl <| Sk 57 rfl rfl rfl <| Sk 58 rfl rfl rfl <| Sk 59 rfl rfl rfl <| Pf 60 rfl rfl rfl rfl <| Mv 61 rfl rfl rfl <| Sk 62 rfl rfl rfl <| Sk 63 rfl rfl rfl ?_
      refine Sk 64 rfl rfl rfl <| Sk 65 rfl rfl rfl <| Sk 66 rfl rfl rfl <| Pf 67 rfl rfl rfl rfl <| Mv 68 rfl rfl rfl <| Sk 69 rfl rfl rfl <| Sk 70 rfl rfl rfl <| Sk 71 rfl rfl rfl <| Sk 72 rfl rfl rfl <| Sk 73 rfl rfl rfl <| Pf 74 rfl rfl rfl rfl <| Mv 75 rfl rfl rfl <| Sk 76 rfl rfl rfl <| Sk 77 rfl rfl rfl <| Sk 78 rfl rfl rfl <| Sk 79 rfl rfl rfl <| Sk 80 rfl rfl rfl <| Pf 81 rfl rfl rfl rfl <| Sg 82 rfl rfl rfl <| Sq.nil <| hk2 _ _ <| Run.ret ?_
      exact J.ends (res_tmp rfl rfl) Takes.nil ⟨congrArg Value.bool (by unfold sameB; rw [decide_eq_true (show a.type = b.type from c9), decide_eq_true (show a.nonce = b.nonce from c15), decide_eq_true (show a.interval = b.interval from c22), decide_eq_true (show a.seqno = b.seqno from c29), decide_eq_false (show ¬ a.rxcost = b.rxcost from c36)]; rfl), rfl⟩
    ·refine Pt 25 rfl rfl rfl rfl <| Mv 26 rfl rfl rfl <| Sk 27 rfl rfl rfl <| Sk 28 rfl rfl rfl <| Sk 29 rfl rfl rfl <| Sk 30 rfl rfl rfl <| Sk 31 rfl rfl rfl <| Pf 32 rfl rfl rfl rfl <| Mv 33 rfl rfl rfl <| Sk 34 rfl rfl rfl <| Sk 35 rfl rfl rfl <| Sk 36 rfl rfl rfl <| Sk 37 rfl rfl rfl <| Sk 38 rfl rfl rfl <| Pf 39 rfl rfl rfl rfl <| Mv 40 rfl rfl rfl <| Sk 41 rfl rfl rfl <| Sk 42 rfl rfl rfl <| Sk 43 rfl rfl rfl <| Sk 44 rfl rfl rfl <| Sk 45 rfl rfl rfl <| Pf 46 rfl rfl rfl rfl <| Mv 47 rfl rfl rfl <| Sk 48 rfl rfl rfl <| Sk 49 rfl rfl rfl <| Sk 50 rfl rfl rfl <| Sk 51 rfl rfl rfl <| Sk 52 rfl rfl rfl <| Pf 53 rfl rfl rfl rfl <| Mv 54 rfl rfl rfl <| Sk 55 rfl rfl rfl <| Sk 56 rfl rfl rfl ?_
     refine Sk 57 rfl rfl rfl <| Sk 58 rfl rfl rfl <| Sk 59 rfl rfl rfl <| Pf 60 rfl rfl rfl rfl <| Mv 61 rfl rfl rfl <| Sk 62 rfl rfl rfl <| Sk 63 rfl rfl rfl <| Sk 64 rfl rfl rfl <| Sk 65 rfl rfl rfl <| Sk 66 rfl rfl rfl <| Pf 67 rfl rfl rfl rfl <| Mv 68 rfl rfl rfl <| Sk 69 rfl rfl rfl <| Sk 70 rfl rfl rfl <| Sk 71 rfl rfl rfl <| Sk 72 rfl rfl rfl <| Sk 73 rfl rfl rfl <| Pf 74 rfl rfl rfl rfl <| Mv 75 rfl rfl rfl <| Sk 76 rfl rfl rfl <| Sk 77 rfl rfl rfl <| Sk 78 rfl rfl rfl <| Sk 79 rfl rfl rfl <| Sk 80 rfl rfl rfl <| Pf 81 rfl rfl rfl rfl <| Sg 82 rfl rfl rfl <| Sq.nil <| hk2 _ _ <| Run.ret ?_
     exact J.ends (res_tmp rfl rfl) Takes.nil ⟨congrArg Value.bool (by unfold sameB; rw [decide_eq_true (show a.type = b.type from c9), decide_eq_true (show a.nonce = b.nonce from c15), decide_eq_true (show a.interval = b.interval from c22), decide_eq_false (show ¬ a.seqno = b.seqno from c29)]; rfl), rfl⟩
   ·refine Pt 18 rfl rfl rfl rfl <| Mv 19 rfl rfl rfl <| Sk 20 rfl rfl rfl <| Sk 21 rfl rfl rfl <| Sk 22 rfl rfl rfl <| Sk 23 rfl rfl rfl <| Sk 24 rfl rfl rfl <| Pf 25 rfl rfl rfl rfl <| Mv 26 rfl rfl rfl <| Sk 27 rfl rfl rfl <| Sk 28 rfl rfl rfl <| Sk 29 rfl rfl rfl <| Sk 30 rfl rfl rfl <| Sk 31 rfl rfl rfl <| Pf 32 rfl rfl rfl rfl <| Mv 33 rfl rfl rfl <| Sk 34 rfl rfl rfl <| Sk 35 rfl rfl rfl <| Sk 36 rfl rfl rfl <| Sk 37 rfl rfl rfl <| Sk 38 rfl rfl rfl <| Pf 39 rfl rfl rfl rfl <| Mv 40 rfl rfl rfl <| Sk 41 rfl rfl rfl <| Sk 42 rfl rfl rfl <| Sk 43 rfl rfl rfl <| Sk 44 rfl rfl rfl <| Sk 45 rfl rfl rfl <| Pf 46 rfl rfl rfl rfl <| Mv 47 rfl rfl rfl <| Sk 48 rfl rfl rfl <| Sk 49 rfl rfl rfl ?_
    refine Sk 50 rfl rfl rfl <| Sk 51 rfl rfl rfl <| Sk 52 rfl rfl rfl <| Pf 53 rfl rfl rfl rfl <| Mv 54 rfl rfl rfl <| Sk 55 rfl rfl rfl <| Sk 56 rfl rfl rfl <| Sk 57 rfl rfl rfl <| Sk 58 rfl rfl rfl <| Sk 59 rfl rfl rfl <| Pf 60 rfl rfl rfl rfl <| Mv 61 rfl rfl rfl <| Sk 62 rfl rfl rfl <| Sk 63 rfl rfl rfl <| Sk 64 rfl rfl rfl <| Sk 65 rfl rfl rfl <| Sk 66 rfl rfl rfl <| Pf 67 rfl rfl rfl rfl <| Mv 68 rfl rfl rfl <| Sk 69 rfl rfl rfl <| Sk 70 rfl rfl rfl <| Sk 71 rfl rfl rfl <| Sk 72 rfl rfl rfl <| Sk 73 rfl rfl rfl <| Pf 74 rfl rfl rfl rfl <| Mv 75 rfl rfl rfl <| Sk 76 rfl rfl rfl <| Sk 77 rfl rfl rfl <| Sk 78 rfl rfl rfl <| Sk 79 rfl rfl rfl <| Sk 80 rfl rfl rfl <| Pf 81 rfl rfl rfl rfl ?_
    refine Sg 82 rfl rfl rfl <| Sq.nil <| hk2 _ _ <| Run.ret ?_
    exact J.ends (res_tmp rfl rfl) Takes.nil ⟨congrArg Value.bool (by unfold sameB; rw [decide_eq_true (show a.type = b.type from c9), decide_eq_true (show a.nonce = b.nonce from c15), decide_eq_false (show ¬ a.interval = b.interval from c22)]; rfl), rfl⟩
  ·refine Pt 11 rfl rfl rfl rfl <| Mv 12 rfl rfl rfl <| Sk 13 rfl rfl rfl <| Sk 14 rfl rfl rfl <| Sk 15 rfl rfl rfl <| Sk 16 rfl rfl rfl <| Sk 17 rfl rfl rfl <| Pf 18 rfl rfl rfl rfl <| Mv 19 rfl rfl rfl <| Sk 20 rfl rfl rfl <| Sk 21 rfl rfl rfl <| Sk 22 rfl rfl rfl <| Sk 23 rfl rfl rfl <| Sk 24 rfl rfl rfl <| Pf 25 rfl rfl rfl rfl <| Mv 26 rfl rfl rfl <| Sk 27 rfl rfl rfl <| Sk 28 rfl rfl rfl <| Sk 29 rfl rfl rfl <| Sk 30 rfl rfl rfl <| Sk 31 rfl rfl rfl <| Pf 32 rfl rfl rfl rfl <| Mv 33 rfl rfl rfl <| Sk 34 rfl rfl rfl <| Sk 35 rfl rfl rfl <| Sk 36 rfl rfl rfl <| Sk 37 rfl rfl rfl <| Sk 38 rfl rfl rfl <| Pf 39 rfl rfl rfl rfl <| Mv 40 rfl rfl rfl <| Sk 41 rfl rfl rfl <| Sk 42 rfl rfl rfl ?_
   refine Sk 43 rfl rfl rfl <| Sk 44 rfl rfl rfl <| Sk 45 rfl rfl rfl <| Pf 46 rfl rfl rfl rfl <| Mv 47 rfl rfl rfl <| Sk 48 rfl rfl rfl <| Sk 49 rfl rfl rfl <| Sk 50 rfl rfl rfl <| Sk 51 rfl rfl rfl <| Sk 52 rfl rfl rfl <| Pf 53 rfl rfl rfl rfl <| Mv 54 rfl rfl rfl <| Sk 55 rfl rfl rfl <| Sk 56 rfl rfl rfl <| Sk 57 rfl rfl rfl <| Sk 58 rfl rfl rfl <| Sk 59 rfl rfl rfl <| Pf 60 rfl rfl rfl rfl <| Mv 61 rfl rfl rfl <| Sk 62 rfl rfl rfl <| Sk 63 rfl rfl rfl <| Sk 64 rfl rfl rfl <| Sk 65 rfl rfl rfl <| Sk 66 rfl rfl rfl <| Pf 67 rfl rfl rfl rfl <| Mv 68 rfl rfl rfl <| Sk 69 rfl rfl rfl <| Sk 70 rfl rfl rfl <| Sk 71 rfl rfl rfl <| Sk 72 rfl rfl rfl <| Sk 73 rfl rfl rfl <| Pf 74 rfl rfl rfl rfl ?_
   refine Mv 75 rfl rfl rfl <| Sk 76 rfl rfl rfl <| Sk 77 rfl rfl rfl <| Sk 78 rfl rfl rfl <| Sk 79 rfl rfl rfl <| Sk 80 rfl rfl rfl <| Pf 81 rfl rfl rfl rfl <| Sg 82 rfl rfl rfl <| Sq.nil <| hk2 _ _ <| Run.ret ?_
   exact J.ends (res_tmp rfl rfl) Takes.nil ⟨congrArg Value.bool (by unfold sameB; rw [decide_eq_true (show a.type = b.type from c9), decide_eq_false (show ¬ a.nonce = b.nonce from c15)]; rfl), rfl⟩
 ·refine Mv 5 rfl rfl rfl <| Sk 6 rfl rfl rfl <| Sk 7 rfl rfl rfl <| Sk 8 rfl rfl rfl <| Sk 9 rfl rfl rfl <| Sk 10 rfl rfl rfl <| Pf 11 rfl rfl rfl rfl <| Mv 12 rfl rfl rfl <| Sk 13 rfl rfl rfl <| Sk 14 rfl rfl rfl <| Sk 15 rfl rfl rfl <| Sk 16 rfl rfl rfl <| Sk 17 rfl rfl rfl <| Pf 18 rfl rfl rfl rfl <| Mv 19 rfl rfl rfl <| Sk 20 rfl rfl rfl <| Sk 21 rfl rfl rfl <| Sk 22 rfl rfl rfl <| Sk 23 rfl rfl rfl <| Sk 24 rfl rfl rfl <| Pf 25 rfl rfl rfl rfl <| Mv 26 rfl rfl rfl <| Sk 27 rfl rfl rfl <| Sk 28 rfl rfl rfl <| Sk 29 rfl rfl rfl <| Sk 30 rfl rfl rfl <| Sk 31 rfl rfl rfl <| Pf 32 rfl rfl rfl rfl <| Mv 33 rfl rfl rfl <| Sk 34 rfl rfl rfl <| Sk 35 rfl rfl rfl <| Sk 36 rfl rfl rfl <| Sk 37 rfl rfl rfl ?_
  refine Sk 38 rfl rfl rfl <| Pf 39 rfl rfl rfl rfl <| Mv 40 rfl rfl rfl <| Sk 41 rfl rfl rfl <| Sk 42 rfl rfl rfl <| Sk 43 rfl rfl rfl <| Sk 44 rfl rfl rfl <| Sk 45 rfl rfl rfl <| Pf 46 rfl rfl rfl rfl <| Mv 47 rfl rfl rfl <| Sk 48 rfl rfl rfl <| Sk 49 rfl rfl rfl <| Sk 50 rfl rfl rfl <| Sk 51 rfl rfl rfl <| Sk 52 rfl rfl rfl <| Pf 53 rfl rfl rfl rfl <| Mv 54 rfl rfl rfl <| Sk 55 rfl rfl rfl <| Sk 56 rfl rfl rfl <| Sk 57 rfl rfl rfl <| Sk 58 rfl rfl rfl <| Sk 59 rfl rfl rfl <| Pf 60 rfl rfl rfl rfl <| Mv 61 rfl rfl rfl <| Sk 62 rfl rfl rfl <| Sk 63 rfl rfl rfl <| Sk 64 rfl rfl rfl <| Sk 65 rfl rfl rfl <| Sk 66 rfl rfl rfl <| Pf 67 rfl rfl rfl rfl <| Mv 68 rfl rfl rfl <| Sk 69 rfl rfl rfl ?_
  refine Sk 70 rfl rfl rfl <| Sk 71 rfl rfl rfl <| Sk 72 rfl rfl rfl <| Sk 73 rfl rfl rfl <| Pf 74 rfl rfl rfl rfl <| Mv 75 rfl rfl rfl <| Sk 76 rfl rfl rfl <| Sk 77 rfl rfl rfl <| Sk 78 rfl rfl rfl <| Sk 79 rfl rfl rfl <| Sk 80 rfl rfl rfl <| Pf 81 rfl rfl rfl rfl <| Sg 82 rfl rfl rfl <| Sq.nil <| hk2 _ _ <| Run.ret ?_
  exact J.ends (res_tmp rfl rfl) Takes.nil ⟨congrArg Value.bool (by unfold sameB; rw [decide_eq_false (show ¬ a.type = b.type from c9)]; rfl), rfl⟩

theorem times_spec (F : Fr) (t : Tlv) : Spec Try.prog 70 #[.agg (Tlv.enc t).toArray] [] F (fun v S => v = .bool (timesB t) ∧ S = []) := by
 refine Spec.intro (N := 27) (args := [.agg (Tlv.enc t).toArray]) Try.func70 rfl rfl (by simp) ?_
 refine Run.seq fun k1 hk1 => Run.region ?_
 show Sq _ _ _ [0, 1] _ _ _ _
 refine Ef 0 rfl rfl (EF.boxA rfl rfl) ?_
 rintro _ _ ⟨b1, rfl, rfl⟩
 refine Sg 1 rfl rfl rfl <| Sq.nil <| hk1 _ _ <| Run.seq fun k2 hk2 => Run.region ?_
 show Sq _ _ _ [0, 1, 2, 3] _ _ _ _
 refine Fa 0 rfl rfl rfl f46_12 <| Qq 1 rfl rfl (QR.load1 rfl rfl g44 (Tlv.sub_stamps _)) ?_
 refine Qp 2 rfl rfl (QP.len rfl rfl rfl Try.underlying44) <| Sg 3 rfl rfl rfl <| Sq.nil <| hk2 _ _ <| Run.seq fun k3 hk3 => Run.region ?_
 show Sq _ _ _ [0, 1, 2, 3, 4, 5, 6, 7, 8, 9, 10, 11, 12, 13, 14, 15, 16, 17, 18, 19, 20] _ _ _ _
 refine Mv 0 rfl rfl rfl <| Qp 1 rfl rfl (QP.eql rfl rfl rfl) <| J.caseD (fun c8 => ?_) (fun c8 => ?_)
 ·refine Mv 2 rfl rfl rfl <| Sk 3 rfl rfl rfl <| Sk 4 rfl rfl rfl <| Sk 5 rfl rfl rfl <| Sq.skip (i := 6) rfl (Want.undef rfl rfl rfl) rfl (ltN rfl) ?_
  refine Sq.skip (i := 7) rfl (Want.undef rfl rfl rfl) rfl (ltN rfl) ?_
  refine Sq.skip (i := 8) rfl (Want.undef rfl rfl rfl) rfl (ltN rfl) ?_
  refine Sk 9 rfl rfl rfl <| Pt 10 rfl rfl rfl rfl <| Mv 11 rfl rfl rfl <| Sk 12 rfl rfl rfl <| Sk 13 rfl rfl rfl <| Sk 14 rfl rfl rfl <| Sq.skip (i := 15) rfl (Want.undef rfl rfl rfl) rfl (ltN rfl) ?_
  refine Sq.skip (i := 16) rfl (Want.undef rfl rfl rfl) rfl (ltN rfl) ?_
  refine Sq.skip (i := 17) rfl (Want.undef rfl rfl rfl) rfl (ltN rfl) ?_
  refine Sk 18 rfl rfl rfl <| Pt 19 rfl rfl rfl rfl <| Sg 20 rfl rfl rfl <| Sq.nil <| hk3 _ _ <| Run.ret ?_
  exact J.ends (res_tmp rfl rfl) Takes.nil ⟨congrArg Value.bool (by unfold timesB; apply Bool.eq_iff_iff.2; simp only [Bool.or_eq_true, Bool.and_eq_true, decide_eq_true_eq, true_iff, Bool.false_eq_true, false_iff, eq_self]; omega), rfl⟩
 ·refine Mv 2 rfl rfl rfl <| Ym 3 rfl rfl rfl rfl <| Yp 4 rfl rfl rfl (QP.eql rfl rfl rfl) <| J.caseD (fun c11 => ?_) (fun c11 => ?_)
  ·refine Ym 5 rfl rfl rfl rfl <| Yf 6 rfl rfl rfl rfl f46_0 <| Yq 7 rfl rfl rfl (QR.load1 rfl rfl g5 (Tlv.sub_type _)) ?_
   refine Yp 8 rfl rfl rfl (QP.eql rfl rfl rfl) <| J.caseD (fun c15 => ?_) (fun c15 => ?_)
   ·refine Yp 9 rfl rfl rfl (QP.pick_t rfl rfl rfl) <| Pf 10 rfl rfl rfl rfl <| Mv 11 rfl rfl rfl <| Sk 12 rfl rfl rfl <| Sk 13 rfl rfl rfl <| Sk 14 rfl rfl rfl <| Sq.skip (i := 15) rfl (Want.undef rfl rfl rfl) rfl (ltN rfl) ?_
    refine Sq.skip (i := 16) rfl (Want.undef rfl rfl rfl) rfl (ltN rfl) ?_
    refine Sq.skip (i := 17) rfl (Want.undef rfl rfl rfl) rfl (ltN rfl) ?_
    refine Sk 18 rfl rfl rfl <| Pt 19 rfl rfl rfl rfl <| Sg 20 rfl rfl rfl <| Sq.nil <| hk3 _ _ <| Run.ret ?_
    exact J.ends (res_tmp rfl rfl) Takes.nil ⟨congrArg Value.bool (by unfold timesB; apply Bool.eq_iff_iff.2; simp only [Bool.or_eq_true, Bool.and_eq_true, decide_eq_true_eq, true_iff, Bool.false_eq_true, false_iff, eq_self]; omega), rfl⟩
   ·refine Yp 9 rfl rfl rfl (QP.pick_t rfl rfl rfl) <| Pf 10 rfl rfl rfl rfl <| Mv 11 rfl rfl rfl <| Ym 12 rfl rfl rfl rfl <| Yp 13 rfl rfl rfl (QP.eql rfl rfl rfl) <| J.caseD (fun c20 => ?_) (fun c20 => ?_)
    ·refine Ym 14 rfl rfl rfl rfl <| Yf 15 rfl rfl rfl rfl f46_0 <| Yq 16 rfl rfl rfl (QR.load1 rfl rfl g5 (Tlv.sub_type _)) ?_
     refine Yp 17 rfl rfl rfl (QP.eql rfl rfl rfl) <| Yp 18 rfl rfl rfl (QP.pick_t rfl rfl rfl) <| Pf 19 rfl rfl rfl rfl <| Sg 20 rfl rfl rfl <| Sq.nil <| hk3 _ _ <| Run.ret ?_
     exact J.ends (res_tmp rfl rfl) Takes.nil ⟨congrArg Value.bool (by unfold timesB; apply Bool.eq_iff_iff.2; simp only [Bool.or_eq_true, Bool.and_eq_true, decide_eq_true_eq, true_iff, Bool.false_eq_true, false_iff, eq_self]; omega), rfl⟩
    ·refine Ym 14 rfl rfl rfl rfl <| Sk 15 rfl rfl rfl <| Sk 16 rfl rfl rfl <| Sk 17 rfl rfl rfl <| Yp 18 rfl rfl rfl (QP.pick_f rfl rfl rfl) <| Pf 19 rfl rfl rfl rfl <| Sg 20 rfl rfl rfl <| Sq.nil <| hk3 _ _ <| Run.ret ?_
     exact J.ends (res_tmp rfl rfl) Takes.nil ⟨congrArg Value.bool (by unfold timesB; apply Bool.eq_iff_iff.2; simp only [Bool.or_eq_true, Bool.and_eq_true, decide_eq_true_eq, true_iff, Bool.false_eq_true, false_iff, eq_self]; omega), rfl⟩
  ·refine Ym 5 rfl rfl rfl rfl <| Sk 6 rfl rfl rfl <| Sk 7 rfl rfl rfl <| Sk 8 rfl rfl rfl <| Yp 9 rfl rfl rfl (QP.pick_f rfl rfl rfl) <| Pf 10 rfl rfl rfl rfl <| Mv 11 rfl rfl rfl <| Ym 12 rfl rfl rfl rfl <| Yp 13 rfl rfl rfl (QP.eql rfl rfl rfl) <| J.caseD (fun c20 => ?_) (fun c20 => ?_)
   ·refine Ym 14 rfl rfl rfl rfl <| Yf 15 rfl rfl rfl rfl f46_0 <| Yq 16 rfl rfl rfl (QR.load1 rfl rfl g5 (Tlv.sub_type _)) ?_
    refine Yp 17 rfl rfl rfl (QP.eql rfl rfl rfl) <| Yp 18 rfl rfl rfl (QP.pick_t rfl rfl rfl) <| Pf 19 rfl rfl rfl rfl <| Sg 20 rfl rfl rfl <| Sq.nil <| hk3 _ _ <| Run.ret ?_
    exact J.ends (res_tmp rfl rfl) Takes.nil ⟨congrArg Value.bool (by unfold timesB; apply Bool.eq_iff_iff.2; simp only [Bool.or_eq_true, Bool.and_eq_true, decide_eq_true_eq, true_iff, Bool.false_eq_true, false_iff, eq_self]; omega), rfl⟩
   ·refine Ym 14 rfl rfl rfl rfl <| Sk 15 rfl rfl rfl <| Sk 16 rfl rfl rfl <| Sk 17 rfl rfl rfl <| Yp 18 rfl rfl rfl (QP.pick_f rfl rfl rfl) <| Pf 19 rfl rfl rfl rfl <| Sg 20 rfl rfl rfl <| Sq.nil <| hk3 _ _ <| Run.ret ?_
    exact J.ends (res_tmp rfl rfl) Takes.nil ⟨congrArg Value.bool (by unfold timesB; apply Bool.eq_iff_iff.2; simp only [Bool.or_eq_true, Bool.and_eq_true, decide_eq_true_eq, true_iff, Bool.false_eq_true, false_iff, eq_self]; omega), rfl⟩

theorem paired_spec (F : Fr) (t : Tlv) : Spec Try.prog 73 #[.agg (Tlv.enc t).toArray] [] F (fun v S => v = .bool (pairedB t) ∧ S = []) := by
 refine Spec.intro (N := 14) (args := [.agg (Tlv.enc t).toArray]) Try.func73 rfl rfl (by simp) ?_
 refine Run.seq fun k1 hk1 => Run.region ?_
 show Sq _ _ _ [0, 1] _ _ _ _
 refine Ef 0 rfl rfl (EF.boxA rfl rfl) ?_
 rintro _ _ ⟨b1, rfl, rfl⟩
 refine Sg 1 rfl rfl rfl <| Sq.nil <| hk1 _ _ <| Run.seq fun k2 hk2 => Run.seq fun k3 hk3 => Run.region ?_
 show Sq _ _ _ [0, 1] _ _ _ _
 refine Fa 0 rfl rfl rfl f46_0 <| Qq 1 rfl rfl (QR.load1 rfl rfl g5 (Tlv.sub_type _)) ?_
 refine Sq.nil <| hk3 _ _ <| Run.block <| Run.seq fun k4 hk4 => Run.seq fun k5 hk5 => Run.region ?_
 show Sq _ _ _ [0, 1] _ _ _ _
 refine Qp 0 rfl rfl (QP.eql rfl rfl rfl) <| J.caseD (fun c6 => ?_) (fun c6 => ?_)
 ·refine Sg 1 rfl rfl rfl <| Sq.nil <| hk5 _ _ <| Run.cond_t rfl <| Run.skip <| hk4 _ _ <| Run.cond_t rfl <| Run.seq fun k6 hk6 => Run.region ?_
  show Sq _ _ _ [0, 1, 2, 3] _ _ _ _
  refine Fa 0 rfl rfl rfl f46_8 <| Qq 1 rfl rfl (QR.load1 rfl rfl g4 (Tlv.sub_all _)) ?_
  refine Qp 2 rfl rfl (QP.not rfl rfl) <| Sg 3 rfl rfl rfl <| Sq.nil <| hk6 _ _ <| Run.ret ?_
  exact J.ends (res_tmp rfl rfl) Takes.nil ⟨congrArg Value.bool (by unfold pairedB; simp_all), rfl⟩
 ·refine Sg 1 rfl rfl rfl <| Sq.nil <| hk5 _ _ <| Run.cond_f rfl <| Run.region ?_
  show Sq _ _ _ [0, 1] _ _ _ _
  refine Qp 0 rfl rfl (QP.eql rfl rfl rfl) <| J.caseD (fun c7 => ?_) (fun c7 => ?_)
  ·refine Sg 1 rfl rfl rfl <| Sq.nil <| hk4 _ _ <| Run.cond_t rfl <| Run.seq fun k7 hk7 => Run.region ?_
   show Sq _ _ _ [0, 1, 2, 3] _ _ _ _
   refine Fa 0 rfl rfl rfl f46_8 <| Qq 1 rfl rfl (QR.load1 rfl rfl g4 (Tlv.sub_all _)) ?_
   refine Qp 2 rfl rfl (QP.not rfl rfl) <| Sg 3 rfl rfl rfl <| Sq.nil <| hk7 _ _ <| Run.ret ?_
   exact J.ends (res_tmp rfl rfl) Takes.nil ⟨congrArg Value.bool (by unfold pairedB; simp_all), rfl⟩
  ·refine Sg 1 rfl rfl rfl <| Sq.nil <| hk4 _ _ <| Run.cond_f rfl <| Run.skip <| hk2 _ _ <| Run.seq fun k8 hk8 => Run.region ?_
   show Sq _ _ _ [0, 1, 2, 3] _ _ _ _
   refine Fa 0 rfl rfl rfl f46_0 <| Qq 1 rfl rfl (QR.load1 rfl rfl g5 (Tlv.sub_type _)) ?_
   refine Qp 2 rfl rfl (QP.eql rfl rfl rfl) <| Sg 3 rfl rfl rfl <| Sq.nil <| hk8 _ _ <| Run.ret ?_
   exact J.ends (res_tmp rfl rfl) Takes.nil ⟨congrArg Value.bool (by unfold pairedB; simp_all), rfl⟩

def ownB (t : Tlv) : Tlv := { Tlv.zero with type := t.type, pair := if pairedB t then t.pair else Pair.zero }
def ownF (t : Tlv) : Tlv × Bool :=
  if t.type = 2 then (({ (ownB t) with nonce := t.nonce, interval := t.interval } : Tlv), true) else if t.type = 3 then (({ (ownB t) with nonce := t.nonce } : Tlv), true) else if t.type = 4 then (({ (ownB t) with seqno := t.seqno, interval := t.interval, unicast := t.unicast } : Tlv), true)
  else if t.type = 5 then (if t.all = false then ({ (ownB t) with rxcost := t.rxcost, interval := t.interval, all := t.all, addr := t.addr } : Tlv) else ({ (ownB t) with rxcost := t.rxcost, interval := t.interval, all := t.all } : Tlv), true)
  else if t.type = 8 then (if t.metric ≠ 65535 then ({ (ownB t) with interval := t.interval, seqno := t.seqno, metric := t.metric, all := t.all, id_ := t.id_, addr := t.addr } : Tlv) else ({ (ownB t) with interval := t.interval, seqno := t.seqno, metric := t.metric, all := t.all } : Tlv), true)
  else if t.type = 9 then (({ (ownB t) with all := t.all } : Tlv), true) else if t.type = 10 then (({ (ownB t) with seqno := t.seqno, hops := t.hops, id_ := t.id_ } : Tlv), true) else (ownB t, false)

set_option maxHeartbeats 4000000 in
theorem own_spec (F : Fr) (t : Tlv) : Spec Try.prog 69 #[.agg (Tlv.enc t).toArray] [] F (fun v S => v = .tuple #[.agg (Tlv.enc (ownF t).1).toArray, .bool (ownF t).2] ∧ S = []) := by
 refine Spec.intro (N := 97) (args := [.agg (Tlv.enc t).toArray]) Try.func69 rfl rfl (by simp) ?_
 refine Run.seq fun k1 hk1 => Run.region ?_
 show Sq _ _ _ [0, 1, 2] _ _ _ _
 refine Ef 0 rfl rfl (EF.boxA rfl rfl) ?_
 rintro _ _ ⟨b1, rfl, rfl⟩
 refine Ef 1 rfl rfl (EF.allocA (l := Tlv.enc Tlv.zero) rfl zero46) ?_
 rintro _ _ ⟨b2, rfl, rfl⟩
 refine Sg 2 rfl rfl rfl <| Sq.nil <| hk1 _ _ <| Run.seq fun k2 hk2 => Run.region ?_
 show Sq _ _ _ [0, 1, 2, 3, 4] _ _ _ _
 refine Fa 0 rfl rfl rfl f46_0 <| Qq 1 rfl rfl (QR.load1 rfl rfl g5 (Tlv.sub_type _)) ?_
 refine Qp 2 rfl rfl (QP.build (l := Tlv.enc ⟨((t).type), 0, 0, 0, 0, 0, 0, false, false, (Bs.zero 8), (Bs.zero 16), Pair.zero, Slc.zero⟩) rfl st46 rfl (by exact ⟨rfl, trivial⟩) rfl) <| Ef 3 rfl rfl (EF.allocA (l := Tlv.enc Tlv.zero) rfl zero46) ?_
 rintro _ _ ⟨b4, rfl, rfl⟩
 refine Ac 4 rfl (EF.storeA rfl rfl rfl z46 (SetL.all (Tlv.enc_len _) (Tlv.enc_len _)) (Tlv.enc_cell _)) ?_
 rintro _ _ rfl
 refine Sq.nil <| hk2 _ _ <| Run.cut1 (fun (x0 : Tlv) => x0 = ownB t) (fun x0 => .cons 1 (fp b1) (.cons 2 (fp b2) (.cons 4 (fp b4) (.nil)))) (fun x0 => [blk b1 (Tlv.enc t) 46, blk b2 (Tlv.enc Tlv.zero) 46, blk b4 (Tlv.enc x0) 46]) ?_ ?_
 ·rintro x0 h0
  refine Run.cut1 (fun (y : Tlv) => ownF t = (y, true)) (fun y => .cons 1 (fp b1) (.cons 2 (fp b2) (.cons 4 (fp b4) (.nil)))) (fun y => [blk b1 (Tlv.enc t) 46, blk b2 (Tlv.enc Tlv.zero) 46, blk b4 (Tlv.enc y) 46]) ?_ ?_
  ·rintro y hy
   refine Run.seq fun k5 hk5 => Run.region ?_
   show Sq _ _ _ [0, 1, 2] _ _ _ _
   refine Qq 0 rfl rfl (QR.load rfl rfl g46 (Tlv.enc_sub _)) ?_
   refine Ac 1 rfl (EF.storeA rfl rfl rfl z46 (SetL.all (Tlv.enc_len _) (Tlv.enc_len _)) (Tlv.enc_cell _)) ?_
   rintro _ _ rfl
   refine Sg 2 rfl rfl rfl <| Sq.nil <| hk5 _ _ <| Run.ret ?_
   rw [hy]
   exact J.ends (res_cell2 rfl rfl g46 (Tlv.enc_sub _) rfl) Takes.nil ⟨rfl, rfl⟩
  ·intro ku4 hu4
   refine Run.seq fun k6 hk6 => Run.region ?_
   show Sq _ _ _ [0, 1] _ _ _ _
   refine Fa 0 rfl rfl rfl f46_0 <| Qq 1 rfl rfl (QR.load1 rfl rfl g5 (Tlv.sub_type _)) ?_
   refine Sq.nil <| hk6 _ _ <| Run.block <| Run.seq fun k7 hk7 => Run.region ?_
   show Sq _ _ _ [0, 1] _ _ _ _
   refine Qp 0 rfl rfl (QP.eql rfl rfl rfl) <| J.caseD (fun c17 => ?_) (fun c17 => ?_)
   ·refine Sg 1 rfl rfl rfl <| Sq.nil <| hk7 _ _ <| Run.cond_t rfl <| Run.regionM (M := [0, 1, 0, 4, 3, 19, 63, 127]) (q := 95) (r := 10) mixedT Kr ?_
    refine Dp 0 rfl rfl (QP.fieldAddr rfl rfl f46_1) <| Dr 1 rfl rfl (QR.load1 rfl rfl g37 (Tlv.sub_nonce _)) ?_
    refine Dp 2 rfl rfl (QP.fieldAddr rfl rfl f46_2) <| Dr 3 rfl rfl (QR.load1 rfl rfl g37 (Tlv.sub_interval _)) ?_
    refine Dp 4 rfl rfl (QP.fieldAddr rfl rfl f46_1) <| De 5 <| Oa [3] rfl (EF.store rfl rfl rfl z37 (Tlv.set_nonce _ _) (cell_one rfl)) ?_
    rintro _ _ rfl
    refine ⟨?_, ?_⟩
    ·rw [List.forall_mem_cons]
     refine ⟨?_, fun _ h => (by cases h)⟩
     ·exact Look.mk rfl rfl rfl (QR.load1 rfl rfl g37 (Tlv.sub_interval _))
    refine ?_
    refine Dp 6 rfl rfl (QP.fieldAddr rfl rfl f46_2) <| De 7 <| Oa [] rfl (EF.store rfl rfl rfl z37 (Tlv.set_interval _ _) (cell_one rfl)) ?_
    rintro _ _ rfl
    refine ⟨fun _ h => (by cases h), ?_⟩
    refine Dn ?_
    exact J.envJ (J.keep Tk3 (hu4 (({ x0 with nonce := t.nonce, interval := t.interval } : Tlv)) (by unfold ownF; rw [if_pos c17, ← h0]))) ⟨rfl, rfl, rfl, trivial⟩
   ·refine Sg 1 rfl rfl rfl <| Sq.nil <| hk7 _ _ <| Run.cond_f rfl <| Run.seq fun k8 hk8 => Run.region ?_
    show Sq _ _ _ [0, 1] _ _ _ _
    refine Qp 0 rfl rfl (QP.eql rfl rfl rfl) <| J.caseD (fun c25 => ?_) (fun c25 => ?_)
    ·refine Sg 1 rfl rfl rfl <| Sq.nil <| hk8 _ _ <| Run.cond_t rfl <| Run.region ?_
     show Sq _ _ _ [0, 1, 2, 3] _ _ _ _
     refine Fa 0 rfl rfl rfl f46_1 <| Qq 1 rfl rfl (QR.load1 rfl rfl g37 (Tlv.sub_nonce _)) ?_
     refine Fa 2 rfl rfl rfl f46_1 <| Ac 3 rfl (EF.store rfl rfl rfl z37 (Tlv.set_nonce _ _) (cell_one rfl)) ?_
     rintro _ _ rfl
     refine Sq.nil ?_
     exact J.envJ (J.keep Tk3 (hu4 (({ x0 with nonce := t.nonce } : Tlv)) (by unfold ownF; rw [if_neg c17, if_pos c25, ← h0]))) ⟨rfl, rfl, rfl, trivial⟩
    ·refine Sg 1 rfl rfl rfl <| Sq.nil <| hk8 _ _ <| Run.cond_f rfl <| Run.seq fun k9 hk9 => Run.region ?_
     show Sq _ _ _ [0, 1] _ _ _ _
     refine Qp 0 rfl rfl (QP.eql rfl rfl rfl) <| J.caseD (fun c30 => ?_) (fun c30 => ?_)
     ·refine Sg 1 rfl rfl rfl <| Sq.nil <| hk9 _ _ <| Run.cond_t rfl <| Run.regionM (M := [0, 1, 0, 4, 0, 16, 3, 67, 207, 463, 1023, 2047]) (q := 1407) (r := 42) mixedT Kr ?_
      refine Dp 0 rfl rfl (QP.fieldAddr rfl rfl f46_3) <| Dr 1 rfl rfl (QR.load1 rfl rfl g37 (Tlv.sub_seqno _)) ?_
      refine Dp 2 rfl rfl (QP.fieldAddr rfl rfl f46_2) <| Dr 3 rfl rfl (QR.load1 rfl rfl g37 (Tlv.sub_interval _)) ?_
      refine Dp 4 rfl rfl (QP.fieldAddr rfl rfl f46_7) <| Dr 5 rfl rfl (QR.load1 rfl rfl g4 (Tlv.sub_unicast _)) ?_
      refine Dp 6 rfl rfl (QP.fieldAddr rfl rfl f46_3) <| De 7 <| Oa [5, 3] rfl (EF.store rfl rfl rfl z37 (Tlv.set_seqno _ _) (cell_one rfl)) ?_
      rintro _ _ rfl
      refine ⟨?_, ?_⟩
      ·rw [List.forall_mem_cons, List.forall_mem_cons]
       refine ⟨?_, ?_, fun _ h => (by cases h)⟩
       ·exact Look.mk rfl rfl rfl (QR.load1 rfl rfl g4 (Tlv.sub_unicast _))
       ·exact Look.mk rfl rfl rfl (QR.load1 rfl rfl g37 (Tlv.sub_interval _))
      refine ?_
      refine Dp 8 rfl rfl (QP.fieldAddr rfl rfl f46_2) <| De 9 <| Oa [5] rfl (EF.store rfl rfl rfl z37 (Tlv.set_interval _ _) (cell_one rfl)) ?_
      rintro _ _ rfl
      refine ⟨?_, ?_⟩
      ·rw [List.forall_mem_cons]
       refine ⟨?_, fun _ h => (by cases h)⟩
       ·exact Look.mk rfl rfl rfl (QR.load1 rfl rfl g4 (Tlv.sub_unicast _))
      refine ?_
      refine Dp 10 rfl rfl (QP.fieldAddr rfl rfl f46_7) <| De 11 <| Oa [] rfl (EF.store rfl rfl rfl z4 (Tlv.set_unicast _ _) (cell_one rfl)) ?_
      rintro _ _ rfl
      refine ⟨fun _ h => (by cases h), ?_⟩
      refine Dn ?_
      exact J.envJ (J.keep Tk3 (hu4 (({ x0 with seqno := t.seqno, interval := t.interval, unicast := t.unicast } : Tlv)) (by unfold ownF; rw [if_neg c17, if_neg c25, if_pos c30, ← h0]))) ⟨rfl, rfl, rfl, trivial⟩
     ·refine Sg 1 rfl rfl rfl <| Sq.nil <| hk9 _ _ <| Run.cond_f rfl <| Run.seq fun k10 hk10 => Run.region ?_
      show Sq _ _ _ [0, 1] _ _ _ _
      refine Qp 0 rfl rfl (QP.eql rfl rfl rfl) <| J.caseD (fun c41 => ?_) (fun c41 => ?_)
      ·refine Sg 1 rfl rfl rfl <| Sq.nil <| hk10 _ _ <| Run.cond_t rfl <| Run.seq fun k11 hk11 => Run.regionM (M := [0, 1, 0, 4, 0, 16, 3, 67, 207, 463, 1023, 2047]) (q := 1407) (r := 42) mixedT Kr ?_
       refine Dp 0 rfl rfl (QP.fieldAddr rfl rfl f46_4) <| Dr 1 rfl rfl (QR.load1 rfl rfl g37 (Tlv.sub_rxcost _)) ?_
       refine Dp 2 rfl rfl (QP.fieldAddr rfl rfl f46_2) <| Dr 3 rfl rfl (QR.load1 rfl rfl g37 (Tlv.sub_interval _)) ?_
       refine Dp 4 rfl rfl (QP.fieldAddr rfl rfl f46_8) <| Dr 5 rfl rfl (QR.load1 rfl rfl g4 (Tlv.sub_all _)) ?_
       refine Dp 6 rfl rfl (QP.fieldAddr rfl rfl f46_4) <| De 7 <| Oa [5, 3] rfl (EF.store rfl rfl rfl z37 (Tlv.set_rxcost _ _) (cell_one rfl)) ?_
       rintro _ _ rfl
       refine ⟨?_, ?_⟩
       ·rw [List.forall_mem_cons, List.forall_mem_cons]
        refine ⟨?_, ?_, fun _ h => (by cases h)⟩
        ·exact Look.mk rfl rfl rfl (QR.load1 rfl rfl g4 (Tlv.sub_all _))
        ·exact Look.mk rfl rfl rfl (QR.load1 rfl rfl g37 (Tlv.sub_interval _))
       refine ?_
       refine Dp 8 rfl rfl (QP.fieldAddr rfl rfl f46_2) <| De 9 <| Oa [5] rfl (EF.store rfl rfl rfl z37 (Tlv.set_interval _ _) (cell_one rfl)) ?_
       rintro _ _ rfl
       refine ⟨?_, ?_⟩
       ·rw [List.forall_mem_cons]
        refine ⟨?_, fun _ h => (by cases h)⟩
        ·exact Look.mk rfl rfl rfl (QR.load1 rfl rfl g4 (Tlv.sub_all _))
       refine ?_
       refine Dp 10 rfl rfl (QP.fieldAddr rfl rfl f46_8) <| De 11 <| Oa [] rfl (EF.store rfl rfl rfl z4 (Tlv.set_all _ _) (cell_one rfl)) ?_
       rintro _ _ rfl
       refine ⟨fun _ h => (by cases h), ?_⟩
       refine Dn <| hk11 _ _ <| Run.seq fun k12 hk12 => Run.region ?_
       show Sq _ _ _ [0, 1, 2] _ _ _ _
       refine Fa 0 rfl rfl rfl f46_8 <| Qq 1 rfl rfl (QR.load1 rfl rfl g4 (Tlv.sub_all _)) ?_
       refine J.caseB (fun c52 => ?_) (fun c52 => ?_)
       ·refine Qp 2 rfl rfl (QP.not rfl rfl) <| Sq.nil <| hk12 _ _ <| Run.cond_f rfl <| Run.skip ?_
        exact J.envJ (J.keep Tk3 (hu4 (({ x0 with rxcost := t.rxcost, interval := t.interval, all := t.all } : Tlv)) (by unfold ownF; rw [if_neg c17, if_neg c25, if_neg c30, if_pos c41, if_neg (by rw [c52]; simp), ← h0]))) ⟨rfl, rfl, rfl, trivial⟩
       ·refine Qp 2 rfl rfl (QP.not rfl rfl) <| Sq.nil <| hk12 _ _ <| Run.cond_t rfl <| Run.region ?_
        show Sq _ _ _ [0, 1, 2, 3] _ _ _ _
        refine Fa 0 rfl rfl rfl f46_10 <| Qq 1 rfl rfl (QR.load rfl rfl g23 (Tlv.sub_addr _)) ?_
        refine Fa 2 rfl rfl rfl f46_10 <| Ac 3 rfl (EF.storeA rfl rfl rfl z23 (Tlv.set_addr _ _) (Bs.cell _)) ?_
        rintro _ _ rfl
        refine Sq.nil ?_
        exact J.envJ (J.keep Tk3 (hu4 (({ x0 with rxcost := t.rxcost, interval := t.interval, all := t.all, addr := t.addr } : Tlv)) (by unfold ownF; rw [if_neg c17, if_neg c25, if_neg c30, if_pos c41, if_pos c52, ← h0]))) ⟨rfl, rfl, rfl, trivial⟩
      ·refine Sg 1 rfl rfl rfl <| Sq.nil <| hk10 _ _ <| Run.cond_f rfl <| Run.seq fun k13 hk13 => Run.region ?_
       show Sq _ _ _ [0, 1] _ _ _ _
       refine Qp 0 rfl rfl (QP.eql rfl rfl rfl) <| J.caseD (fun c58 => ?_) (fun c58 => ?_)
       ·refine Sg 1 rfl rfl rfl <| Sq.nil <| hk13 _ _ <| Run.cond_t rfl <| Run.seq fun k14 hk14 => Run.regionM (M := [0, 1, 0, 4, 0, 16, 0, 64, 3, 259, 783, 1807, 3903, 7999, 16383, 32767]) (q := 22015) (r := 170) mixedT Kr ?_
        refine Dp 0 rfl rfl (QP.fieldAddr rfl rfl f46_2) <| Dr 1 rfl rfl (QR.load1 rfl rfl g37 (Tlv.sub_interval _)) ?_
        refine Dp 2 rfl rfl (QP.fieldAddr rfl rfl f46_3) <| Dr 3 rfl rfl (QR.load1 rfl rfl g37 (Tlv.sub_seqno _)) ?_
        refine Dp 4 rfl rfl (QP.fieldAddr rfl rfl f46_5) <| Dr 5 rfl rfl (QR.load1 rfl rfl g37 (Tlv.sub_metric _)) ?_
        refine Dp 6 rfl rfl (QP.fieldAddr rfl rfl f46_8) <| Dr 7 rfl rfl (QR.load1 rfl rfl g4 (Tlv.sub_all _)) ?_
        refine Dp 8 rfl rfl (QP.fieldAddr rfl rfl f46_2) <| De 9 <| Oa [7, 5, 3] rfl (EF.store rfl rfl rfl z37 (Tlv.set_interval _ _) (cell_one rfl)) ?_
        rintro _ _ rfl
        refine ⟨?_, ?_⟩
        ·rw [List.forall_mem_cons, List.forall_mem_cons, List.forall_mem_cons]
         refine ⟨?_, ?_, ?_, fun _ h => (by cases h)⟩
         ·exact Look.mk rfl rfl rfl (QR.load1 rfl rfl g4 (Tlv.sub_all _))
         ·exact Look.mk rfl rfl rfl (QR.load1 rfl rfl g37 (Tlv.sub_metric _))
         ·exact Look.mk rfl rfl rfl (QR.load1 rfl rfl g37 (Tlv.sub_seqno _))
        refine ?_
        refine Dp 10 rfl rfl (QP.fieldAddr rfl rfl f46_3) <| De 11 <| Oa [7, 5] rfl (EF.store rfl rfl rfl z37 (Tlv.set_seqno _ _) (cell_one rfl)) ?_
        rintro _ _ rfl
        refine ⟨?_, ?_⟩
        ·rw [List.forall_mem_cons, List.forall_mem_cons]
         refine ⟨?_, ?_, fun _ h => (by cases h)⟩
         ·exact Look.mk rfl rfl rfl (QR.load1 rfl rfl g4 (Tlv.sub_all _))
         ·exact Look.mk rfl rfl rfl (QR.load1 rfl rfl g37 (Tlv.sub_metric _))
        refine ?_
        refine Dp 12 rfl rfl (QP.fieldAddr rfl rfl f46_5) <| De 13 <| Oa [7] rfl (EF.store rfl rfl rfl z37 (Tlv.set_metric _ _) (cell_one rfl)) ?_
        rintro _ _ rfl
        refine ⟨?_, ?_⟩
        ·rw [List.forall_mem_cons]
         refine ⟨?_, fun _ h => (by cases h)⟩
         ·exact Look.mk rfl rfl rfl (QR.load1 rfl rfl g4 (Tlv.sub_all _))
        refine ?_
        refine Dp 14 rfl rfl (QP.fieldAddr rfl rfl f46_8) <| De 15 <| Oa [] rfl (EF.store rfl rfl rfl z4 (Tlv.set_all _ _) (cell_one rfl)) ?_
        rintro _ _ rfl
        refine ⟨fun _ h => (by cases h), ?_⟩
        refine Dn <| hk14 _ _ <| Run.seq fun k15 hk15 => Run.region ?_
        show Sq _ _ _ [0, 1, 2] _ _ _ _
        refine Fa 0 rfl rfl rfl f46_5 <| Qq 1 rfl rfl (QR.load1 rfl rfl g37 (Tlv.sub_metric _)) ?_
        refine Qp 2 rfl rfl (QP.neq rfl rfl rfl) <| J.caseD (fun c73 => ?_) (fun c73 => ?_)
        ·refine Sq.nil <| hk15 _ _ <| Run.cond_t rfl <| Run.regionM (M := [0, 1, 0, 4, 3, 19, 63, 127]) (q := 95) (r := 10) mixedT Kr ?_
         refine Dp 0 rfl rfl (QP.fieldAddr rfl rfl f46_9) <| Dr 1 rfl rfl (QR.load rfl rfl g39 (Tlv.sub_id_ _)) ?_
         refine Dp 2 rfl rfl (QP.fieldAddr rfl rfl f46_10) <| Dr 3 rfl rfl (QR.load rfl rfl g23 (Tlv.sub_addr _)) ?_
         refine Dp 4 rfl rfl (QP.fieldAddr rfl rfl f46_9) <| De 5 <| Oa [3] rfl (EF.storeA rfl rfl rfl z39 (Tlv.set_id_ _ _) (Bs.cell _)) ?_
         rintro _ _ rfl
         refine ⟨?_, ?_⟩
         ·rw [List.forall_mem_cons]
          refine ⟨?_, fun _ h => (by cases h)⟩
          ·exact Look.mk rfl rfl rfl (QR.load rfl rfl g23 (Tlv.sub_addr _))
         refine ?_
         refine Dp 6 rfl rfl (QP.fieldAddr rfl rfl f46_10) <| De 7 <| Oa [] rfl (EF.storeA rfl rfl rfl z23 (Tlv.set_addr _ _) (Bs.cell _)) ?_
         rintro _ _ rfl
         refine ⟨fun _ h => (by cases h), ?_⟩
         refine Dn ?_
         exact J.envJ (J.keep Tk3 (hu4 (({ x0 with interval := t.interval, seqno := t.seqno, metric := t.metric, all := t.all, id_ := t.id_, addr := t.addr } : Tlv)) (by unfold ownF; rw [if_neg c17, if_neg c25, if_neg c30, if_neg c41, if_pos c58, if_pos c73, ← h0]))) ⟨rfl, rfl, rfl, trivial⟩
        ·refine Sq.nil <| hk15 _ _ <| Run.cond_f rfl <| Run.skip ?_
         exact J.envJ (J.keep Tk3 (hu4 (({ x0 with interval := t.interval, seqno := t.seqno, metric := t.metric, all := t.all } : Tlv)) (by unfold ownF; rw [if_neg c17, if_neg c25, if_neg c30, if_neg c41, if_pos c58, if_neg c73, ← h0]))) ⟨rfl, rfl, rfl, trivial⟩
       ·refine Sg 1 rfl rfl rfl <| Sq.nil <| hk13 _ _ <| Run.cond_f rfl <| Run.seq fun k16 hk16 => Run.region ?_
        show Sq _ _ _ [0, 1] _ _ _ _
        refine Qp 0 rfl rfl (QP.eql rfl rfl rfl) <| J.caseD (fun c81 => ?_) (fun c81 => ?_)
        ·refine Sg 1 rfl rfl rfl <| Sq.nil <| hk16 _ _ <| Run.cond_t rfl <| Run.region ?_
         show Sq _ _ _ [0, 1, 2, 3] _ _ _ _
         refine Fa 0 rfl rfl rfl f46_8 <| Qq 1 rfl rfl (QR.load1 rfl rfl g4 (Tlv.sub_all _)) ?_
         refine Fa 2 rfl rfl rfl f46_8 <| Ac 3 rfl (EF.store rfl rfl rfl z4 (Tlv.set_all _ _) (cell_one rfl)) ?_
         rintro _ _ rfl
         refine Sq.nil ?_
         exact J.envJ (J.keep Tk3 (hu4 (({ x0 with all := t.all } : Tlv)) (by unfold ownF; rw [if_neg c17, if_neg c25, if_neg c30, if_neg c41, if_neg c58, if_pos c81, ← h0]))) ⟨rfl, rfl, rfl, trivial⟩
        ·refine Sg 1 rfl rfl rfl <| Sq.nil <| hk16 _ _ <| Run.cond_f rfl <| Run.seq fun k17 hk17 => Run.region ?_
         show Sq _ _ _ [0, 1] _ _ _ _
         refine Qp 0 rfl rfl (QP.eql rfl rfl rfl) <| J.caseD (fun c86 => ?_) (fun c86 => ?_)
         ·refine Sg 1 rfl rfl rfl <| Sq.nil <| hk17 _ _ <| Run.cond_t rfl <| Run.regionM (M := [0, 1, 0, 4, 0, 16, 3, 67, 207, 463, 1023, 2047]) (q := 1407) (r := 42) mixedT Kr ?_
          refine Dp 0 rfl rfl (QP.fieldAddr rfl rfl f46_3) <| Dr 1 rfl rfl (QR.load1 rfl rfl g37 (Tlv.sub_seqno _)) ?_
          refine Dp 2 rfl rfl (QP.fieldAddr rfl rfl f46_6) <| Dr 3 rfl rfl (QR.load1 rfl rfl g5 (Tlv.sub_hops _)) ?_
          refine Dp 4 rfl rfl (QP.fieldAddr rfl rfl f46_9) <| Dr 5 rfl rfl (QR.load rfl rfl g39 (Tlv.sub_id_ _)) ?_
          refine Dp 6 rfl rfl (QP.fieldAddr rfl rfl f46_3) <| De 7 <| Oa [5, 3] rfl (EF.store rfl rfl rfl z37 (Tlv.set_seqno _ _) (cell_one rfl)) ?_
          rintro _ _ rfl
          refine ⟨?_, ?_⟩
          ·rw [List.forall_mem_cons, List.forall_mem_cons]
           refine ⟨?_, ?_, fun _ h => (by cases h)⟩
           ·exact Look.mk rfl rfl rfl (QR.load rfl rfl g39 (Tlv.sub_id_ _))
           ·exact Look.mk rfl rfl rfl (QR.load1 rfl rfl g5 (Tlv.sub_hops _))
          refine ?_
          refine Dp 8 rfl rfl (QP.fieldAddr rfl rfl f46_6) <| De 9 <| Oa [5] rfl (EF.store rfl rfl rfl z5 (Tlv.set_hops _ _) (cell_one rfl)) ?_
          rintro _ _ rfl
          refine ⟨?_, ?_⟩
          ·rw [List.forall_mem_cons]
           refine ⟨?_, fun _ h => (by cases h)⟩
           ·exact Look.mk rfl rfl rfl (QR.load rfl rfl g39 (Tlv.sub_id_ _))
          refine ?_
          refine Dp 10 rfl rfl (QP.fieldAddr rfl rfl f46_9) <| De 11 <| Oa [] rfl (EF.storeA rfl rfl rfl z39 (Tlv.set_id_ _ _) (Bs.cell _)) ?_
          rintro _ _ rfl
          refine ⟨fun _ h => (by cases h), ?_⟩
          refine Dn ?_
          exact J.envJ (J.keep Tk3 (hu4 (({ x0 with seqno := t.seqno, hops := t.hops, id_ := t.id_ } : Tlv)) (by unfold ownF; rw [if_neg c17, if_neg c25, if_neg c30, if_neg c41, if_neg c58, if_neg c81, if_pos c86, ← h0]))) ⟨rfl, rfl, rfl, trivial⟩
         ·refine Sg 1 rfl rfl rfl <| Sq.nil <| hk17 _ _ <| Run.cond_f rfl <| Run.seq fun k18 hk18 => Run.region ?_
          show Sq _ _ _ [0, 1, 2] _ _ _ _
          refine Qq 0 rfl rfl (QR.load rfl rfl g46 (Tlv.enc_sub _)) ?_
          refine Ac 1 rfl (EF.storeA rfl rfl rfl z46 (SetL.all (Tlv.enc_len _) (Tlv.enc_len _)) (Tlv.enc_cell _)) ?_
          rintro _ _ rfl
          refine Sg 2 rfl rfl rfl <| Sq.nil <| hk18 _ _ <| Run.ret ?_
          have hO : ownF t = (x0, false) := by unfold ownF; rw [if_neg c17, if_neg c25, if_neg c30, if_neg c41, if_neg c58, if_neg c81, if_neg c86, ← h0]
          rw [hO]
          exact J.ends (res_cell2 rfl rfl g46 (Tlv.enc_sub _) rfl) Takes.nil ⟨rfl, rfl⟩
 ·intro ku3 hu3
  refine Run.seq fun k19 hk19 => Run.region ?_
  show Sq _ _ _ [0, 1] _ _ _ _
  refine Qq 0 rfl rfl (QR.load rfl rfl g46 (Tlv.enc_sub _)) ?_
  refine Ef 1 rfl rfl (EF.call rfl ce73 rfl Takes.nil (fun F' hle hr => paired_spec F' t)) ?_
  rintro _ _ ⟨_, ⟨rfl, rfl⟩, rfl⟩
  refine J.app ?_
  refine J.caseB (fun c9 => ?_) (fun c9 => ?_)
  ·refine Sq.nil <| hk19 _ _ <| Run.cond_t rfl <| Run.region ?_
   show Sq _ _ _ [0, 1, 2, 3] _ _ _ _
   refine Fa 0 rfl rfl rfl f46_11 <| Qq 1 rfl rfl (QR.load rfl rfl g43 (Tlv.sub_pair _)) ?_
   refine Fa 2 rfl rfl rfl f46_11 <| Ac 3 rfl (EF.storeA rfl rfl rfl z43 (Tlv.set_pair _ _) (Pair.enc_cell _)) ?_
   rintro _ _ rfl
   refine Sq.nil ?_
   exact J.envJ (J.keep Tk3 (hu3 (({ Tlv.zero with type := t.type, pair := t.pair } : Tlv)) (by unfold ownB; rw [c9]; rfl))) ⟨rfl, rfl, rfl, trivial⟩
  ·refine Sq.nil <| hk19 _ _ <| Run.cond_f rfl <| Run.skip ?_
   exact J.envJ (J.keep Tk3 (hu3 (({ Tlv.zero with type := t.type } : Tlv)) (by unfold ownB; rw [c9]; rfl))) ⟨rfl, rfl, rfl, trivial⟩
end Slb
