/- J14: a part of the proof that a law of this package holds for every input; no condition. -/
import Derived.Test.YtfokodhfjdhdaaaGreatM2
import Derived.Test.YtfokodhfjdhdaaaGreatJ13
namespace Slb
open Go Go.Proofs
set_option maxRecDepth 20000
def sameB (a b : Tlv) : Bool := decide (a.type = b.type) && (decide (a.nonce = b.nonce) && (decide (a.interval = b.interval) && (decide (a.seqno = b.seqno) && (decide (a.rxcost = b.rxcost) && (decide (a.metric = b.metric) && (decide (a.hops = b.hops) && (decide (a.unicast = b.unicast) && (decide (a.all = b.all) && (decide (a.id_ = b.id_) && (decide (a.addr = b.addr) && (decide (a.pair = b.pair))))))))))))
theorem sameB_iff {a b : Tlv} : sameB a b = true ↔ norm a = norm b := by
 unfold sameB norm
 cases a; cases b
 simp only [Bool.and_eq_true, decide_eq_true_eq, Tlv.mk.injEq]
 simp
def timesB (t : Tlv) : Bool := decide (t.stamps.n = 0) || (decide (t.stamps.n = 1) && decide (t.type = 4) || decide (t.stamps.n = 2) && decide (t.type = 5))
def pairedB (t : Tlv) : Bool := if t.type = 8 ∨ t.type = 9 then !t.all else decide (t.type = 10)

theorem same_spec (F : Fr) (a b : Tlv) : Spec Tryz.prog 121 #[.agg (Tlv.enc a).toArray, .agg (Tlv.enc b).toArray] [] F (fun v S => v = .bool (sameB a b) ∧ S = []) := by
 refine Spec.intro (N := 87) (args := [.agg (Tlv.enc a).toArray, .agg (Tlv.enc b).toArray]) Tryz.func121 rfl rfl (by simp) ?_
 refine Zs fun _ hk1 => Ef 0 E2 (EF.boxA rfl rfl) ?_
 rintro _ _ ⟨b2, rfl, rfl⟩
 refine Ef 1 E2 (EF.boxA rfl rfl) ?_
 rintro _ _ ⟨b3, rfl, rfl⟩
 refine Sg 2 E3 <| Zl hk1 <| Zs fun _ hk2 => Fa 0 E3 f49_0 <| Qq 1 E2 (Z1 E2 g5 (Tlv.sub_type _)) ?_
 refine Fa 2 E3 f49_0 <| Qq 3 E2 (Z1 E2 g5 (Tlv.sub_type _)) ?_
 refine Qp 4 E2 (Ze E3) <| J.caseD (fun c9 => ?_) (fun c9 => ?_)
 ·refine Mv 5 E3 <| Yf 6 E4 f49_1 <| Yq 7 E3 (Z1 E2 g40 (Tlv.sub_nonce _)) ?_
  refine Yf 8 E4 f49_1 <| Yq 9 E3 (Z1 E2 g40 (Tlv.sub_nonce _)) ?_
  refine Yp 10 E3 (Ze E3) <| J.caseD (fun c15 => ?_) (fun c15 => ?_)
  ·refine Pt 11 E4 <| Mv 12 E3 <| Yf 13 E4 f49_2 <| Yq 14 E3 (Z1 E2 g40 (Tlv.sub_interval _)) ?_
   refine Yf 15 E4 f49_2 <| Yq 16 E3 (Z1 E2 g40 (Tlv.sub_interval _)) ?_
   refine Yp 17 E3 (Ze E3) <| J.caseD (fun c22 => ?_) (fun c22 => ?_)
   ·refine Pt 18 E4 <| Mv 19 E3 <| Yf 20 E4 f49_3 <| Yq 21 E3 (Z1 E2 g40 (Tlv.sub_seqno _)) ?_
    refine Yf 22 E4 f49_3 <| Yq 23 E3 (Z1 E2 g40 (Tlv.sub_seqno _)) ?_
    refine Yp 24 E3 (Ze E3) <| J.caseD (fun c29 => ?_) (fun c29 => ?_)
    ·refine Pt 25 E4 <| Mv 26 E3 <| Yf 27 E4 f49_4 <| Yq 28 E3 (Z1 E2 g40 (Tlv.sub_rxcost _)) ?_
     refine Yf 29 E4 f49_4 <| Yq 30 E3 (Z1 E2 g40 (Tlv.sub_rxcost _)) ?_
     refine Yp 31 E3 (Ze E3) <| J.caseD (fun c36 => ?_) (fun c36 => ?_)
     ·refine Pt 32 E4 <| Mv 33 E3 <| Yf 34 E4 f49_5 <| Yq 35 E3 (Z1 E2 g40 (Tlv.sub_metric _)) ?_
      refine Yf 36 E4 f49_5 <| Yq 37 E3 (Z1 E2 g40 (Tlv.sub_metric _)) ?_
      refine Yp 38 E3 (Ze E3) <| J.caseD (fun c43 => ?_) (fun c43 => ?_)
      ·refine Pt 39 E4 <| Mv 40 E3 <| Yf 41 E4 f49_6 <| Yq 42 E3 (Z1 E2 g5 (Tlv.sub_hops _)) ?_
       refine Yf 43 E4 f49_6 <| Yq 44 E3 (Z1 E2 g5 (Tlv.sub_hops _)) ?_
       refine Yp 45 E3 (Ze E3) <| J.caseD (fun c50 => ?_) (fun c50 => ?_)
       ·refine Pt 46 E4 <| Mv 47 E3 <| Yf 48 E4 f49_7 <| Yq 49 E3 (Z1 E2 g4 (Tlv.sub_unicast _)) ?_
        refine Yf 50 E4 f49_7 <| Yq 51 E3 (Z1 E2 g4 (Tlv.sub_unicast _)) ?_
        refine Yp 52 E3 (QP.eqlB rfl rfl rfl Tryz.underlying4) <| J.caseB (fun c57 => ?_) (fun c57 => ?_)
        ·refine Pt 53 E4 <| Mv 54 E3 <| Yf 55 E4 f49_8 <| Yq 56 E3 (Z1 E2 g4 (Tlv.sub_all _)) ?_
         refine Yf 57 E4 f49_8 <| Yq 58 E3 (Z1 E2 g4 (Tlv.sub_all _)) ?_
         refine Yp 59 E3 (QP.eqlB rfl rfl rfl Tryz.underlying4) <| J.caseB (fun c64 => ?_) (fun c64 => ?_)
         ·refine Pt 60 E4 <| Mv 61 E3 <| Yf 62 E4 f49_9 <| Yq 63 E3 (Z0 E2 g42 (Tlv.sub_id_ _)) ?_
          refine Yf 64 E4 f49_9 <| Yq 65 E3 (Z0 E2 g42 (Tlv.sub_id_ _)) ?_
          refine Yp 66 E3 (QP.eql_agg eq42 rfl rfl rfl) <| J.caseD (fun c71 => ?_) (fun c71 => ?_)
          ·refine Pt 67 E4 <| Mv 68 E3 <| Yf 69 E4 f49_10 <| Yq 70 E3 (Z0 E2 g32 (Tlv.sub_addr _)) ?_
           refine Yf 71 E4 f49_10 <| Yq 72 E3 (Z0 E2 g32 (Tlv.sub_addr _)) ?_
           refine Yp 73 E3 (QP.eql_agg eq32 rfl rfl rfl) <| J.caseD (fun c78 => ?_) (fun c78 => ?_)
           ·refine Pt 74 E4 <| Mv 75 E3 <| Yf 76 E4 f49_11 <| Yq 77 E3 (Z0 E2 g46 (Tlv.sub_pair _)) ?_
            refine Yf 78 E4 f49_11 <| Yq 79 E3 (Z0 E2 g46 (Tlv.sub_pair _)) ?_
            exact Yp 80 E3 (QP.eql_agg eq46 rfl rfl rfl) <| Pt 81 E4 <| Sg 82 E3 <| Zl hk2 <| Run.ret <| Je E2 ⟨congrArg Value.bool (by unfold sameB; rw [decide_eq_true (show a.type = b.type from c9), decide_eq_true (show a.nonce = b.nonce from c15), decide_eq_true (show a.interval = b.interval from c22), decide_eq_true (show a.seqno = b.seqno from c29), decide_eq_true (show a.rxcost = b.rxcost from c36), decide_eq_true (show a.metric = b.metric from c43), decide_eq_true (show a.hops = b.hops from c50), decide_eq_true (show a.unicast = b.unicast from (beq_iff_eq.1 c57)), decide_eq_true (show a.all = b.all from (beq_iff_eq.1 c64)), decide_eq_true (show a.id_ = b.id_ from c71), decide_eq_true (show a.addr = b.addr from c78)]; rfl), rfl⟩
           ·exact Pt 74 E4 <| Mv 75 E3 <| Sk 76 E3 <| Sk 77 E3 <| Sk 78 E3 <| Sk 79 E3 <| Sk 80 E3 <| Pf 81 E4 <| Sg 82 E3 <| Zl hk2 <| Run.ret <| Je E2 ⟨congrArg Value.bool (by unfold sameB; rw [decide_eq_true (show a.type = b.type from c9), decide_eq_true (show a.nonce = b.nonce from c15), decide_eq_true (show a.interval = b.interval from c22), decide_eq_true (show a.seqno = b.seqno from c29), decide_eq_true (show a.rxcost = b.rxcost from c36), decide_eq_true (show a.metric = b.metric from c43), decide_eq_true (show a.hops = b.hops from c50), decide_eq_true (show a.unicast = b.unicast from (beq_iff_eq.1 c57)), decide_eq_true (show a.all = b.all from (beq_iff_eq.1 c64)), decide_eq_true (show a.id_ = b.id_ from c71), decide_eq_false (show ¬ a.addr = b.addr from c78)]; rfl), rfl⟩
          ·exact Pt 67 E4 <| Mv 68 E3 <| Sk 69 E3 <| Sk 70 E3 <| Sk 71 E3 <| Sk 72 E3 <| Sk 73 E3 <| Pf 74 E4 <| Mv 75 E3 <| Sk 76 E3 <| Sk 77 E3 <| Sk 78 E3 <| Sk 79 E3 <| Sk 80 E3 <| Pf 81 E4 <| Sg 82 E3 <| Zl hk2 <| Run.ret <| Je E2 ⟨congrArg Value.bool (by unfold sameB; rw [decide_eq_true (show a.type = b.type from c9), decide_eq_true (show a.nonce = b.nonce from c15), decide_eq_true (show a.interval = b.interval from c22), decide_eq_true (show a.seqno = b.seqno from c29), decide_eq_true (show a.rxcost = b.rxcost from c36), decide_eq_true (show a.metric = b.metric from c43), decide_eq_true (show a.hops = b.hops from c50), decide_eq_true (show a.unicast = b.unicast from (beq_iff_eq.1 c57)), decide_eq_true (show a.all = b.all from (beq_iff_eq.1 c64)), decide_eq_false (show ¬ a.id_ = b.id_ from c71)]; rfl), rfl⟩
         ·exact Pt 60 E4 <| Mv 61 E3 <| Sk 62 E3 <| Sk 63 E3 <| Sk 64 E3 <| Sk 65 E3 <| Sk 66 E3 <| Pf 67 E4 <| Mv 68 E3 <| Sk 69 E3 <| Sk 70 E3 <| Sk 71 E3 <| Sk 72 E3 <| Sk 73 E3 <| Pf 74 E4 <| Mv 75 E3 <| Sk 76 E3 <| Sk 77 E3 <| Sk 78 E3 <| Sk 79 E3 <| Sk 80 E3 <| Pf 81 E4 <| Sg 82 E3 <| Zl hk2 <| Run.ret <| Je E2 ⟨congrArg Value.bool (by unfold sameB; rw [decide_eq_true (show a.type = b.type from c9), decide_eq_true (show a.nonce = b.nonce from c15), decide_eq_true (show a.interval = b.interval from c22), decide_eq_true (show a.seqno = b.seqno from c29), decide_eq_true (show a.rxcost = b.rxcost from c36), decide_eq_true (show a.metric = b.metric from c43), decide_eq_true (show a.hops = b.hops from c50), decide_eq_true (show a.unicast = b.unicast from (beq_iff_eq.1 c57)), decide_eq_false (show ¬ a.all = b.all from (fun h => by rw [beq_iff_eq.2 h] at c64; cases c64))]; rfl), rfl⟩
        ·exact Pt 53 E4 <| Mv 54 E3 <| Sk 55 E3 <| Sk 56 E3 <| Sk 57 E3 <| Sk 58 E3 <| Sk 59 E3 <| Pf 60 E4 <| Mv 61 E3 <| Sk 62 E3 <| Sk 63 E3 <| Sk 64 E3 <| Sk 65 E3 <| Sk 66 E3 <| Pf 67 E4 <| Mv 68 E3 <| Sk 69 E3 <| Sk 70 E3 <| Sk 71 E3 <| Sk 72 E3 <| Sk 73 E3 <| Pf 74 E4 <| Mv 75 E3 <| Sk 76 E3 <| Sk 77 E3 <| Sk 78 E3 <| Sk 79 E3 <| Sk 80 E3 <| Pf 81 E4 <| Sg 82 E3 <| Zl hk2 <| Run.ret <| Je E2 ⟨congrArg Value.bool (by unfold sameB; rw [decide_eq_true (show a.type = b.type from c9), decide_eq_true (show a.nonce = b.nonce from c15), decide_eq_true (show a.interval = b.interval from c22), decide_eq_true (show a.seqno = b.seqno from c29), decide_eq_true (show a.rxcost = b.rxcost from c36), decide_eq_true (show a.metric = b.metric from c43), decide_eq_true (show a.hops = b.hops from c50), decide_eq_false (show ¬ a.unicast = b.unicast from (fun h => by rw [beq_iff_eq.2 h] at c57; cases c57))]; rfl), rfl⟩
       ·refine Pt 46 E4 <| Mv 47 E3 <| Sk 48 E3 <| Sk 49 E3 <| Sk 50 E3 <| Sk 51 E3 <| Sk 52 E3 <| Pf 53 E4 <| Mv 54 E3 <| Sk 55 E3 <| Sk 56 E3 <| Sk 57 E3 <| Sk 58 E3 <| Sk 59 E3 <| Pf 60 E4 <| Mv 61 E3 <| Sk 62 E3 <| Sk 63 E3 <| Sk 64 E3 <| Sk 65 E3 <| Sk 66 E3 <| Pf 67 E4 <| Mv 68 E3 <| Sk 69 E3 <| Sk 70 E3 <| Sk 71 E3 <| Sk 72 E3 <| Sk 73 E3 <| Pf 74 E4 <| Mv 75 E3 <| Sk 76 E3 <| Sk 77 E3 ?_
        exact Sk 78 E3 <| Sk 79 E3 <| Sk 80 E3 <| Pf 81 E4 <| Sg 82 E3 <| Zl hk2 <| Run.ret <| Je E2 ⟨congrArg Value.bool (by unfold sameB; rw [decide_eq_true (show a.type = b.type from c9), decide_eq_true (show a.nonce = b.nonce from c15), decide_eq_true (show a.interval = b.interval from c22), decide_eq_true (show a.seqno = b.seqno from c29), decide_eq_true (show a.rxcost = b.rxcost from c36), decide_eq_true (show a.metric = b.metric from c43), decide_eq_false (show ¬ a.hops = b.hops from c50)]; rfl), rfl⟩
      ·refine Pt 39 E4 <| Mv 40 E3 <| Sk 41 E3 <| Sk 42 E3 <| Sk 43 E3 <| Sk 44 E3 <| Sk 45 E3 <| Pf 46 E4 <| Mv 47 E3 <| Sk 48 E3 <| Sk 49 E3 <| Sk 50 E3 <| Sk 51 E3 <| Sk 52 E3 <| Pf 53 E4 <| Mv 54 E3 <| Sk 55 E3 <| Sk 56 E3 <| Sk 57 E3 <| Sk 58 E3 <| Sk 59 E3 <| Pf 60 E4 <| Mv 61 E3 <| Sk 62 E3 <| Sk 63 E3 <| Sk 64 E3 <| Sk 65 E3 <| Sk 66 E3 <| Pf 67 E4 <| Mv 68 E3 <| Sk 69 E3 <| Sk 70 E3 ?_
       exact Sk 71 E3 <| Sk 72 E3 <| Sk 73 E3 <| Pf 74 E4 <| Mv 75 E3 <| Sk 76 E3 <| Sk 77 E3 <| Sk 78 E3 <| Sk 79 E3 <| Sk 80 E3 <| Pf 81 E4 <| Sg 82 E3 <| Zl hk2 <| Run.ret <| Je E2 ⟨congrArg Value.bool (by unfold sameB; rw [decide_eq_true (show a.type = b.type from c9), decide_eq_true (show a.nonce = b.nonce from c15), decide_eq_true (show a.interval = b.interval from c22), decide_eq_true (show a.seqno = b.seqno from c29), decide_eq_true (show a.rxcost = b.rxcost from c36), decide_eq_false (show ¬ a.metric = b.metric from c43)]; rfl), rfl⟩
     ·refine Pt 32 E4 <| Mv 33 E3 <| Sk 34 E3 <| Sk 35 E3 <| Sk 36 E3 <| Sk 37 E3 <| Sk 38 E3 <| Pf 39 E4 <| Mv 40 E3 <| Sk 41 E3 <| Sk 42 E3 <| Sk 43 E3 <| Sk 44 E3 <| Sk 45 E3 <| Pf 46 E4 <| Mv 47 E3 <| Sk 48 E3 <| Sk 49 E3 <| Sk 50 E3 <| Sk 51 E3 <| Sk 52 E3 <| Pf 53 E4 <| Mv 54 E3 <| Sk 55 E3 <| Sk 56 E3 <| Sk 57 E3 <| Sk 58 E3 <| Sk 59 E3 <| Pf 60 E4 <| Mv 61 E3 <| Sk 62 E3 <| Sk 63 E3 ?_
      exact Sk 64 E3 <| Sk 65 E3 <| Sk 66 E3 <| Pf 67 E4 <| Mv 68 E3 <| Sk 69 E3 <| Sk 70 E3 <| Sk 71 E3 <| Sk 72 E3 <| Sk 73 E3 <| Pf 74 E4 <| Mv 75 E3 <| Sk 76 E3 <| Sk 77 E3 <| Sk 78 E3 <| Sk 79 E3 <| Sk 80 E3 <| Pf 81 E4 <| Sg 82 E3 <| Zl hk2 <| Run.ret <| Je E2 ⟨congrArg Value.bool (by unfold sameB; rw [decide_eq_true (show a.type = b.type from c9), decide_eq_true (show a.nonce = b.nonce from c15), decide_eq_true (show a.interval = b.interval from c22), decide_eq_true (show a.seqno = b.seqno from c29), decide_eq_false (show ¬ a.rxcost = b.rxcost from c36)]; rfl), rfl⟩
    ·refine Pt 25 E4 <| Mv 26 E3 <| Sk 27 E3 <| Sk 28 E3 <| Sk 29 E3 <| Sk 30 E3 <| Sk 31 E3 <| Pf 32 E4 <| Mv 33 E3 <| Sk 34 E3 <| Sk 35 E3 <| Sk 36 E3 <| Sk 37 E3 <| Sk 38 E3 <| Pf 39 E4 <| Mv 40 E3 <| Sk 41 E3 <| Sk 42 E3 <| Sk 43 E3 <| Sk 44 E3 <| Sk 45 E3 <| Pf 46 E4 <| Mv 47 E3 <| Sk 48 E3 <| Sk 49 E3 <| Sk 50 E3 <| Sk 51 E3 <| Sk 52 E3 <| Pf 53 E4 <| Mv 54 E3 <| Sk 55 E3 <| Sk 56 E3 ?_
     exact Sk 57 E3 <| Sk 58 E3 <| Sk 59 E3 <| Pf 60 E4 <| Mv 61 E3 <| Sk 62 E3 <| Sk 63 E3 <| Sk 64 E3 <| Sk 65 E3 <| Sk 66 E3 <| Pf 67 E4 <| Mv 68 E3 <| Sk 69 E3 <| Sk 70 E3 <| Sk 71 E3 <| Sk 72 E3 <| Sk 73 E3 <| Pf 74 E4 <| Mv 75 E3 <| Sk 76 E3 <| Sk 77 E3 <| Sk 78 E3 <| Sk 79 E3 <| Sk 80 E3 <| Pf 81 E4 <| Sg 82 E3 <| Zl hk2 <| Run.ret <| Je E2 ⟨congrArg Value.bool (by unfold sameB; rw [decide_eq_true (show a.type = b.type from c9), decide_eq_true (show a.nonce = b.nonce from c15), decide_eq_true (show a.interval = b.interval from c22), decide_eq_false (show ¬ a.seqno = b.seqno from c29)]; rfl), rfl⟩
   ·refine Pt 18 E4 <| Mv 19 E3 <| Sk 20 E3 <| Sk 21 E3 <| Sk 22 E3 <| Sk 23 E3 <| Sk 24 E3 <| Pf 25 E4 <| Mv 26 E3 <| Sk 27 E3 <| Sk 28 E3 <| Sk 29 E3 <| Sk 30 E3 <| Sk 31 E3 <| Pf 32 E4 <| Mv 33 E3 <| Sk 34 E3 <| Sk 35 E3 <| Sk 36 E3 <| Sk 37 E3 <| Sk 38 E3 <| Pf 39 E4 <| Mv 40 E3 <| Sk 41 E3 <| Sk 42 E3 <| Sk 43 E3 <| Sk 44 E3 <| Sk 45 E3 <| Pf 46 E4 <| Mv 47 E3 <| Sk 48 E3 <| Sk 49 E3 ?_
    refine Sk 50 E3 <| Sk 51 E3 <| Sk 52 E3 <| Pf 53 E4 <| Mv 54 E3 <| Sk 55 E3 <| Sk 56 E3 <| Sk 57 E3 <| Sk 58 E3 <| Sk 59 E3 <| Pf 60 E4 <| Mv 61 E3 <| Sk 62 E3 <| Sk 63 E3 <| Sk 64 E3 <| Sk 65 E3 <| Sk 66 E3 <| Pf 67 E4 <| Mv 68 E3 <| Sk 69 E3 <| Sk 70 E3 <| Sk 71 E3 <| Sk 72 E3 <| Sk 73 E3 <| Pf 74 E4 <| Mv 75 E3 <| Sk 76 E3 <| Sk 77 E3 <| Sk 78 E3 <| Sk 79 E3 <| Sk 80 E3 <| Pf 81 E4 ?_
    exact Sg 82 E3 <| Zl hk2 <| Run.ret <| Je E2 ⟨congrArg Value.bool (by unfold sameB; rw [decide_eq_true (show a.type = b.type from c9), decide_eq_true (show a.nonce = b.nonce from c15), decide_eq_false (show ¬ a.interval = b.interval from c22)]; rfl), rfl⟩
  ·refine Pt 11 E4 <| Mv 12 E3 <| Sk 13 E3 <| Sk 14 E3 <| Sk 15 E3 <| Sk 16 E3 <| Sk 17 E3 <| Pf 18 E4 <| Mv 19 E3 <| Sk 20 E3 <| Sk 21 E3 <| Sk 22 E3 <| Sk 23 E3 <| Sk 24 E3 <| Pf 25 E4 <| Mv 26 E3 <| Sk 27 E3 <| Sk 28 E3 <| Sk 29 E3 <| Sk 30 E3 <| Sk 31 E3 <| Pf 32 E4 <| Mv 33 E3 <| Sk 34 E3 <| Sk 35 E3 <| Sk 36 E3 <| Sk 37 E3 <| Sk 38 E3 <| Pf 39 E4 <| Mv 40 E3 <| Sk 41 E3 <| Sk 42 E3 ?_
   refine Sk 43 E3 <| Sk 44 E3 <| Sk 45 E3 <| Pf 46 E4 <| Mv 47 E3 <| Sk 48 E3 <| Sk 49 E3 <| Sk 50 E3 <| Sk 51 E3 <| Sk 52 E3 <| Pf 53 E4 <| Mv 54 E3 <| Sk 55 E3 <| Sk 56 E3 <| Sk 57 E3 <| Sk 58 E3 <| Sk 59 E3 <| Pf 60 E4 <| Mv 61 E3 <| Sk 62 E3 <| Sk 63 E3 <| Sk 64 E3 <| Sk 65 E3 <| Sk 66 E3 <| Pf 67 E4 <| Mv 68 E3 <| Sk 69 E3 <| Sk 70 E3 <| Sk 71 E3 <| Sk 72 E3 <| Sk 73 E3 <| Pf 74 E4 ?_
   exact Mv 75 E3 <| Sk 76 E3 <| Sk 77 E3 <| Sk 78 E3 <| Sk 79 E3 <| Sk 80 E3 <| Pf 81 E4 <| Sg 82 E3 <| Zl hk2 <| Run.ret <| Je E2 ⟨congrArg Value.bool (by unfold sameB; rw [decide_eq_true (show a.type = b.type from c9), decide_eq_false (show ¬ a.nonce = b.nonce from c15)]; rfl), rfl⟩
 ·refine Mv 5 E3 <| Sk 6 E3 <| Sk 7 E3 <| Sk 8 E3 <| Sk 9 E3 <| Sk 10 E3 <| Pf 11 E4 <| Mv 12 E3 <| Sk 13 E3 <| Sk 14 E3 <| Sk 15 E3 <| Sk 16 E3 <| Sk 17 E3 <| Pf 18 E4 <| Mv 19 E3 <| Sk 20 E3 <| Sk 21 E3 <| Sk 22 E3 <| Sk 23 E3 <| Sk 24 E3 <| Pf 25 E4 <| Mv 26 E3 <| Sk 27 E3 <| Sk 28 E3 <| Sk 29 E3 <| Sk 30 E3 <| Sk 31 E3 <| Pf 32 E4 <| Mv 33 E3 <| Sk 34 E3 <| Sk 35 E3 <| Sk 36 E3 <| Sk 37 E3 ?_
  refine Sk 38 E3 <| Pf 39 E4 <| Mv 40 E3 <| Sk 41 E3 <| Sk 42 E3 <| Sk 43 E3 <| Sk 44 E3 <| Sk 45 E3 <| Pf 46 E4 <| Mv 47 E3 <| Sk 48 E3 <| Sk 49 E3 <| Sk 50 E3 <| Sk 51 E3 <| Sk 52 E3 <| Pf 53 E4 <| Mv 54 E3 <| Sk 55 E3 <| Sk 56 E3 <| Sk 57 E3 <| Sk 58 E3 <| Sk 59 E3 <| Pf 60 E4 <| Mv 61 E3 <| Sk 62 E3 <| Sk 63 E3 <| Sk 64 E3 <| Sk 65 E3 <| Sk 66 E3 <| Pf 67 E4 <| Mv 68 E3 <| Sk 69 E3 ?_
  exact Sk 70 E3 <| Sk 71 E3 <| Sk 72 E3 <| Sk 73 E3 <| Pf 74 E4 <| Mv 75 E3 <| Sk 76 E3 <| Sk 77 E3 <| Sk 78 E3 <| Sk 79 E3 <| Sk 80 E3 <| Pf 81 E4 <| Sg 82 E3 <| Zl hk2 <| Run.ret <| Je E2 ⟨congrArg Value.bool (by unfold sameB; rw [decide_eq_false (show ¬ a.type = b.type from c9)]; rfl), rfl⟩

theorem times_spec (F : Fr) (t : Tlv) : Spec Tryz.prog 120 #[.agg (Tlv.enc t).toArray] [] F (fun v S => v = .bool (timesB t) ∧ S = []) := by
 refine Spec.intro (N := 27) (args := [.agg (Tlv.enc t).toArray]) Tryz.func120 rfl rfl (by simp) ?_
 refine Zs fun _ hk1 => Ef 0 E2 (EF.boxA rfl rfl) ?_
 rintro _ _ ⟨b1, rfl, rfl⟩
 refine Sg 1 E3 <| Zl hk1 <| Zs fun _ hk2 => Fa 0 E3 f49_12 <| Qq 1 E2 (Z1 E2 g47 (Tlv.sub_stamps _)) ?_
 refine Qp 2 E2 (QP.len rfl rfl rfl Tryz.underlying47) <| Sg 3 E3 <| Zl hk2 <| Zs fun _ hk3 => Mv 0 E3 <| Qp 1 E2 (Ze E3) <| J.caseD (fun c8 => ?_) (fun c8 => ?_)
 ·refine Mv 2 E3 <| Sk 3 E3 <| Sk 4 E3 <| Sk 5 E3 <| Sq.skip (i := 6) rfl (Want.undef rfl rfl rfl) rfl (ltN rfl) ?_
  refine Sq.skip (i := 7) rfl (Want.undef rfl rfl rfl) rfl (ltN rfl) ?_
  refine Sq.skip (i := 8) rfl (Want.undef rfl rfl rfl) rfl (ltN rfl) ?_
  refine Sk 9 E3 <| Pt 10 E4 <| Mv 11 E3 <| Sk 12 E3 <| Sk 13 E3 <| Sk 14 E3 <| Sq.skip (i := 15) rfl (Want.undef rfl rfl rfl) rfl (ltN rfl) ?_
  refine Sq.skip (i := 16) rfl (Want.undef rfl rfl rfl) rfl (ltN rfl) ?_
  refine Sq.skip (i := 17) rfl (Want.undef rfl rfl rfl) rfl (ltN rfl) ?_
  exact Sk 18 E3 <| Pt 19 E4 <| Sg 20 E3 <| Zl hk3 <| Run.ret <| Je E2 ⟨congrArg Value.bool (by unfold timesB; apply Bool.eq_iff_iff.2; simp only [Bool.or_eq_true, Bool.and_eq_true, decide_eq_true_eq, true_iff, Bool.false_eq_true, false_iff, eq_self]; omega), rfl⟩
 ·refine Mv 2 E3 <| Ym 3 E4 <| Yp 4 E3 (Ze E3) <| J.caseD (fun c11 => ?_) (fun c11 => ?_)
  ·refine Ym 5 E4 <| Yf 6 E4 f49_0 <| Yq 7 E3 (Z1 E2 g5 (Tlv.sub_type _)) ?_
   refine Yp 8 E3 (Ze E3) <| J.caseD (fun c15 => ?_) (fun c15 => ?_)
   ·refine Yp 9 E3 (QP.pick_t rfl rfl rfl) <| Pf 10 E4 <| Mv 11 E3 <| Sk 12 E3 <| Sk 13 E3 <| Sk 14 E3 <| Sq.skip (i := 15) rfl (Want.undef rfl rfl rfl) rfl (ltN rfl) ?_
    refine Sq.skip (i := 16) rfl (Want.undef rfl rfl rfl) rfl (ltN rfl) ?_
    refine Sq.skip (i := 17) rfl (Want.undef rfl rfl rfl) rfl (ltN rfl) ?_
    exact Sk 18 E3 <| Pt 19 E4 <| Sg 20 E3 <| Zl hk3 <| Run.ret <| Je E2 ⟨congrArg Value.bool (by unfold timesB; apply Bool.eq_iff_iff.2; simp only [Bool.or_eq_true, Bool.and_eq_true, decide_eq_true_eq, true_iff, Bool.false_eq_true, false_iff, eq_self]; omega), rfl⟩
   ·refine Yp 9 E3 (QP.pick_t rfl rfl rfl) <| Pf 10 E4 <| Mv 11 E3 <| Ym 12 E4 <| Yp 13 E3 (Ze E3) <| J.caseD (fun c20 => ?_) (fun c20 => ?_)
    ·refine Ym 14 E4 <| Yf 15 E4 f49_0 <| Yq 16 E3 (Z1 E2 g5 (Tlv.sub_type _)) ?_
     exact Yp 17 E3 (Ze E3) <| Yp 18 E3 (QP.pick_t rfl rfl rfl) <| Pf 19 E4 <| Sg 20 E3 <| Zl hk3 <| Run.ret <| Je E2 ⟨congrArg Value.bool (by unfold timesB; apply Bool.eq_iff_iff.2; simp only [Bool.or_eq_true, Bool.and_eq_true, decide_eq_true_eq, true_iff, Bool.false_eq_true, false_iff, eq_self]; omega), rfl⟩
    ·exact Ym 14 E4 <| Sk 15 E3 <| Sk 16 E3 <| Sk 17 E3 <| Yp 18 E3 (QP.pick_f rfl rfl rfl) <| Pf 19 E4 <| Sg 20 E3 <| Zl hk3 <| Run.ret <| Je E2 ⟨congrArg Value.bool (by unfold timesB; apply Bool.eq_iff_iff.2; simp only [Bool.or_eq_true, Bool.and_eq_true, decide_eq_true_eq, true_iff, Bool.false_eq_true, false_iff, eq_self]; omega), rfl⟩
  ·refine Ym 5 E4 <| Sk 6 E3 <| Sk 7 E3 <| Sk 8 E3 <| Yp 9 E3 (QP.pick_f rfl rfl rfl) <| Pf 10 E4 <| Mv 11 E3 <| Ym 12 E4 <| Yp 13 E3 (Ze E3) <| J.caseD (fun c20 => ?_) (fun c20 => ?_)
   ·refine Ym 14 E4 <| Yf 15 E4 f49_0 <| Yq 16 E3 (Z1 E2 g5 (Tlv.sub_type _)) ?_
    exact Yp 17 E3 (Ze E3) <| Yp 18 E3 (QP.pick_t rfl rfl rfl) <| Pf 19 E4 <| Sg 20 E3 <| Zl hk3 <| Run.ret <| Je E2 ⟨congrArg Value.bool (by unfold timesB; apply Bool.eq_iff_iff.2; simp only [Bool.or_eq_true, Bool.and_eq_true, decide_eq_true_eq, true_iff, Bool.false_eq_true, false_iff, eq_self]; omega), rfl⟩
   ·exact Ym 14 E4 <| Sk 15 E3 <| Sk 16 E3 <| Sk 17 E3 <| Yp 18 E3 (QP.pick_f rfl rfl rfl) <| Pf 19 E4 <| Sg 20 E3 <| Zl hk3 <| Run.ret <| Je E2 ⟨congrArg Value.bool (by unfold timesB; apply Bool.eq_iff_iff.2; simp only [Bool.or_eq_true, Bool.and_eq_true, decide_eq_true_eq, true_iff, Bool.false_eq_true, false_iff, eq_self]; omega), rfl⟩

theorem paired_spec (F : Fr) (t : Tlv) : Spec Tryz.prog 122 #[.agg (Tlv.enc t).toArray] [] F (fun v S => v = .bool (pairedB t) ∧ S = []) := by
 refine Spec.intro (N := 14) (args := [.agg (Tlv.enc t).toArray]) Tryz.func122 rfl rfl (by simp) ?_
 refine Zs fun _ hk1 => Ef 0 E2 (EF.boxA rfl rfl) ?_
 rintro _ _ ⟨b1, rfl, rfl⟩
 refine Sg 1 E3 <| Zl hk1 <| Run.seq fun _ hk2 => Zs fun _ hk3 => Fa 0 E3 f49_0 <| Qq 1 E2 (Z1 E2 g5 (Tlv.sub_type _)) ?_
 refine Zl hk3 <| Run.block <| Run.seq fun _ hk4 => Zs fun _ hk5 => Qp 0 E2 (Ze E3) <| J.caseD (fun c6 => ?_) (fun c6 => ?_)
 ·refine Sg 1 E3 <| Zl hk5 <| Zt <| Run.skip <| hk4 _ _ <| Zt <| Zs fun _ hk6 => Fa 0 E3 f49_8 <| Qq 1 E2 (Z1 E2 g4 (Tlv.sub_all _)) ?_
  exact Qp 2 E2 (Zu E2) <| Sg 3 E3 <| Zl hk6 <| Run.ret <| Je E2 ⟨congrArg Value.bool (by unfold pairedB; simp_all), rfl⟩
 ·refine Sg 1 E3 <| Zl hk5 <| Zf <| Run.region <| Qp 0 E2 (Ze E3) <| J.caseD (fun c7 => ?_) (fun c7 => ?_)
  ·refine Sg 1 E3 <| Zl hk4 <| Zt <| Zs fun _ hk7 => Fa 0 E3 f49_8 <| Qq 1 E2 (Z1 E2 g4 (Tlv.sub_all _)) ?_
   exact Qp 2 E2 (Zu E2) <| Sg 3 E3 <| Zl hk7 <| Run.ret <| Je E2 ⟨congrArg Value.bool (by unfold pairedB; simp_all), rfl⟩
  ·refine Sg 1 E3 <| Zl hk4 <| Zf <| Run.skip <| hk2 _ _ <| Zs fun _ hk8 => Fa 0 E3 f49_0 <| Qq 1 E2 (Z1 E2 g5 (Tlv.sub_type _)) ?_
   exact Qp 2 E2 (Ze E3) <| Sg 3 E3 <| Zl hk8 <| Run.ret <| Je E2 ⟨congrArg Value.bool (by unfold pairedB; simp_all), rfl⟩

def ownB (t : Tlv) : Tlv := { Tlv.zero with type := t.type, pair := if pairedB t then t.pair else Pair.zero }
def ownF (t : Tlv) : Tlv × Bool :=
 if t.type = 2 then (({ (ownB t) with nonce := t.nonce, interval := t.interval } : Tlv), true) else if t.type = 3 then (({ (ownB t) with nonce := t.nonce } : Tlv), true) else if t.type = 4 then (({ (ownB t) with seqno := t.seqno, interval := t.interval, unicast := t.unicast } : Tlv), true)
 else if t.type = 5 then (if t.all = false then ({ (ownB t) with rxcost := t.rxcost, interval := t.interval, all := t.all, addr := t.addr } : Tlv) else ({ (ownB t) with rxcost := t.rxcost, interval := t.interval, all := t.all } : Tlv), true)
 else if t.type = 8 then (if t.metric ≠ 65535 then ({ (ownB t) with interval := t.interval, seqno := t.seqno, metric := t.metric, all := t.all, id_ := t.id_, addr := t.addr } : Tlv) else ({ (ownB t) with interval := t.interval, seqno := t.seqno, metric := t.metric, all := t.all } : Tlv), true)
 else if t.type = 9 then (({ (ownB t) with all := t.all } : Tlv), true) else if t.type = 10 then (({ (ownB t) with seqno := t.seqno, hops := t.hops, id_ := t.id_ } : Tlv), true) else (ownB t, false)

set_option maxHeartbeats 4000000 in
theorem own_spec (F : Fr) (t : Tlv) : Spec Tryz.prog 119 #[.agg (Tlv.enc t).toArray] [] F (fun v S => v = .tuple #[.agg (Tlv.enc (ownF t).1).toArray, .bool (ownF t).2] ∧ S = []) := by
 refine Spec.intro (N := 97) (args := [.agg (Tlv.enc t).toArray]) Tryz.func119 rfl rfl (by simp) ?_
 refine Zs fun _ hk1 => Ef 0 E2 (EF.boxA rfl rfl) ?_
 rintro _ _ ⟨b1, rfl, rfl⟩
 refine Ef 1 E2 (EF.allocA (l := Tlv.enc Tlv.zero) rfl zero49) ?_
 rintro _ _ ⟨b2, rfl, rfl⟩
 refine Sg 2 E3 <| Zl hk1 <| Zs fun _ hk2 => Fa 0 E3 f49_0 <| Qq 1 E2 (Z1 E2 g5 (Tlv.sub_type _)) ?_
 refine Qp 2 E2 (QP.build (l := Tlv.enc ⟨((t).type), 0, 0, 0, 0, 0, 0, false, false, (Bs.zero 8), (Bs.zero 16), Pair.zero, Slc.zero⟩) rfl st49 rfl (by exact ⟨rfl, trivial⟩) rfl) <| Ef 3 E2 (EF.allocA (l := Tlv.enc Tlv.zero) rfl zero49) ?_
 rintro _ _ ⟨b4, rfl, rfl⟩
 refine Ac 4 rfl (EF.storeA rfl rfl rfl z49 (SetL.all (Tlv.enc_len _) (Tlv.enc_len _)) (Tlv.enc_cell _)) ?_
 rintro _ _ rfl
 refine Zl hk2 <| Run.cut1 (fun (x0 : Tlv) => x0 = ownB t) (fun x0 => .cons 1 (fp b1) (.cons 2 (fp b2) (.cons 4 (fp b4) (.nil)))) (fun x0 => [blk b1 (Tlv.enc t) 49, blk b2 (Tlv.enc Tlv.zero) 49, blk b4 (Tlv.enc x0) 49]) ?_ ?_
 ·rintro x0 h0
  refine Run.cut1 (fun (y : Tlv) => ownF t = (y, true)) (fun y => .cons 1 (fp b1) (.cons 2 (fp b2) (.cons 4 (fp b4) (.nil)))) (fun y => [blk b1 (Tlv.enc t) 49, blk b2 (Tlv.enc Tlv.zero) 49, blk b4 (Tlv.enc y) 49]) ?_ ?_
  ·rintro y hy
   refine Zs fun _ hk5 => Qq 0 E2 (Z0 E2 g49 (Tlv.enc_sub _)) ?_
   refine Ac 1 rfl (EF.storeA rfl rfl rfl z49 (SetL.all (Tlv.enc_len _) (Tlv.enc_len _)) (Tlv.enc_cell _)) ?_
   rintro _ _ rfl
   refine Sg 2 E3 <| Zl hk5 <| Run.ret ?_
   rw [hy]
   exact J.ends (res_cell2 rfl rfl g49 (Tlv.enc_sub _) rfl) TN ⟨rfl, rfl⟩
  ·intro ku4 hu4
   refine Zs fun _ hk6 => Fa 0 E3 f49_0 <| Qq 1 E2 (Z1 E2 g5 (Tlv.sub_type _)) ?_
   refine Zl hk6 <| Run.block <| Zs fun _ hk7 => Qp 0 E2 (Ze E3) <| J.caseD (fun c17 => ?_) (fun c17 => ?_)
   ·refine Sg 1 E3 <| Zl hk7 <| Zt <| Run.regionM (M := [0, 1, 0, 4, 3, 19, 63, 127]) (q := 95) (r := 10) mixedT Kr ?_
    refine Dp 0 E2 (Za E2 f49_1) <| Dr 1 E2 (Z1 E2 g40 (Tlv.sub_nonce _)) ?_
    refine Dp 2 E2 (Za E2 f49_2) <| Dr 3 E2 (Z1 E2 g40 (Tlv.sub_interval _)) ?_
    refine Dp 4 E2 (Za E2 f49_1) <| De 5 <| Oa [3] rfl (EF.store rfl rfl rfl z40 (Tlv.set_nonce _ _) (cell_one rfl)) ?_
    rintro _ _ rfl
    refine ⟨?_, ?_⟩
    ·rw [FM]
     refine ⟨?_, NO⟩
     ·exact Lk E3 (Z1 E2 g40 (Tlv.sub_interval _))
    refine ?_
    refine Dp 6 E2 (Za E2 f49_2) <| De 7 <| Oa [] rfl (EF.store rfl rfl rfl z40 (Tlv.set_interval _ _) (cell_one rfl)) ?_
    rintro _ _ rfl
    exact N0 <| Dn <| J.envJ (J.keep Tk3 (hu4 (({ x0 with nonce := t.nonce, interval := t.interval } : Tlv)) (by unfold ownF; rw [if_pos c17, ← h0]))) ⟨rfl, rfl, rfl, trivial⟩
   ·refine Sg 1 E3 <| Zl hk7 <| Zf <| Zs fun _ hk8 => Qp 0 E2 (Ze E3) <| J.caseD (fun c25 => ?_) (fun c25 => ?_)
    ·refine Sg 1 E3 <| Zl hk8 <| Zt <| Run.region <| Fa 0 E3 f49_1 <| Qq 1 E2 (Z1 E2 g40 (Tlv.sub_nonce _)) ?_
     refine Fa 2 E3 f49_1 <| Ac 3 rfl (EF.store rfl rfl rfl z40 (Tlv.set_nonce _ _) (cell_one rfl)) ?_
     rintro _ _ rfl
     exact Sq.nil <| J.envJ (J.keep Tk3 (hu4 (({ x0 with nonce := t.nonce } : Tlv)) (by unfold ownF; rw [if_neg c17, if_pos c25, ← h0]))) ⟨rfl, rfl, rfl, trivial⟩
    ·refine Sg 1 E3 <| Zl hk8 <| Zf <| Zs fun _ hk9 => Qp 0 E2 (Ze E3) <| J.caseD (fun c30 => ?_) (fun c30 => ?_)
     ·refine Sg 1 E3 <| Zl hk9 <| Zt <| Run.regionM (M := [0, 1, 0, 4, 0, 16, 3, 67, 207, 463, 1023, 2047]) (q := 1407) (r := 42) mixedT Kr ?_
      refine Dp 0 E2 (Za E2 f49_3) <| Dr 1 E2 (Z1 E2 g40 (Tlv.sub_seqno _)) ?_
      refine Dp 2 E2 (Za E2 f49_2) <| Dr 3 E2 (Z1 E2 g40 (Tlv.sub_interval _)) ?_
      refine Dp 4 E2 (Za E2 f49_7) <| Dr 5 E2 (Z1 E2 g4 (Tlv.sub_unicast _)) ?_
      refine Dp 6 E2 (Za E2 f49_3) <| De 7 <| Oa [5, 3] rfl (EF.store rfl rfl rfl z40 (Tlv.set_seqno _ _) (cell_one rfl)) ?_
      rintro _ _ rfl
      refine ⟨?_, ?_⟩
      ·rw [FM, FM]
       refine ⟨?_, ?_, NO⟩
       ·exact Lk E3 (Z1 E2 g4 (Tlv.sub_unicast _))
       ·exact Lk E3 (Z1 E2 g40 (Tlv.sub_interval _))
      refine ?_
      refine Dp 8 E2 (Za E2 f49_2) <| De 9 <| Oa [5] rfl (EF.store rfl rfl rfl z40 (Tlv.set_interval _ _) (cell_one rfl)) ?_
      rintro _ _ rfl
      refine ⟨?_, ?_⟩
      ·rw [FM]
       refine ⟨?_, NO⟩
       ·exact Lk E3 (Z1 E2 g4 (Tlv.sub_unicast _))
      refine ?_
      refine Dp 10 E2 (Za E2 f49_7) <| De 11 <| Oa [] rfl (EF.store rfl rfl rfl z4 (Tlv.set_unicast _ _) (cell_one rfl)) ?_
      rintro _ _ rfl
      exact N0 <| Dn <| J.envJ (J.keep Tk3 (hu4 (({ x0 with seqno := t.seqno, interval := t.interval, unicast := t.unicast } : Tlv)) (by unfold ownF; rw [if_neg c17, if_neg c25, if_pos c30, ← h0]))) ⟨rfl, rfl, rfl, trivial⟩
     ·refine Sg 1 E3 <| Zl hk9 <| Zf <| Zs fun _ hk10 => Qp 0 E2 (Ze E3) <| J.caseD (fun c41 => ?_) (fun c41 => ?_)
      ·refine Sg 1 E3 <| Zl hk10 <| Zt <| Run.seq fun _ hk11 => Run.regionM (M := [0, 1, 0, 4, 0, 16, 3, 67, 207, 463, 1023, 2047]) (q := 1407) (r := 42) mixedT Kr ?_
       refine Dp 0 E2 (Za E2 f49_4) <| Dr 1 E2 (Z1 E2 g40 (Tlv.sub_rxcost _)) ?_
       refine Dp 2 E2 (Za E2 f49_2) <| Dr 3 E2 (Z1 E2 g40 (Tlv.sub_interval _)) ?_
       refine Dp 4 E2 (Za E2 f49_8) <| Dr 5 E2 (Z1 E2 g4 (Tlv.sub_all _)) ?_
       refine Dp 6 E2 (Za E2 f49_4) <| De 7 <| Oa [5, 3] rfl (EF.store rfl rfl rfl z40 (Tlv.set_rxcost _ _) (cell_one rfl)) ?_
       rintro _ _ rfl
       refine ⟨?_, ?_⟩
       ·rw [FM, FM]
        refine ⟨?_, ?_, NO⟩
        ·exact Lk E3 (Z1 E2 g4 (Tlv.sub_all _))
        ·exact Lk E3 (Z1 E2 g40 (Tlv.sub_interval _))
       refine ?_
       refine Dp 8 E2 (Za E2 f49_2) <| De 9 <| Oa [5] rfl (EF.store rfl rfl rfl z40 (Tlv.set_interval _ _) (cell_one rfl)) ?_
       rintro _ _ rfl
       refine ⟨?_, ?_⟩
       ·rw [FM]
        refine ⟨?_, NO⟩
        ·exact Lk E3 (Z1 E2 g4 (Tlv.sub_all _))
       refine ?_
       refine Dp 10 E2 (Za E2 f49_8) <| De 11 <| Oa [] rfl (EF.store rfl rfl rfl z4 (Tlv.set_all _ _) (cell_one rfl)) ?_
       rintro _ _ rfl
       refine N0 <| Dn <| hk11 _ _ <| Zs fun _ hk12 => Fa 0 E3 f49_8 <| Qq 1 E2 (Z1 E2 g4 (Tlv.sub_all _)) ?_
       refine J.caseB (fun c52 => ?_) (fun c52 => ?_)
       ·exact Qp 2 E2 (Zu E2) <| Zl hk12 <| Zf <| Run.skip <| J.envJ (J.keep Tk3 (hu4 (({ x0 with rxcost := t.rxcost, interval := t.interval, all := t.all } : Tlv)) (by unfold ownF; rw [if_neg c17, if_neg c25, if_neg c30, if_pos c41, if_neg (by rw [c52]; simp), ← h0]))) ⟨rfl, rfl, rfl, trivial⟩
       ·refine Qp 2 E2 (Zu E2) <| Zl hk12 <| Zt <| Run.region <| Fa 0 E3 f49_10 <| Qq 1 E2 (Z0 E2 g32 (Tlv.sub_addr _)) ?_
        refine Fa 2 E3 f49_10 <| Ac 3 rfl (EF.storeA rfl rfl rfl z32 (Tlv.set_addr _ _) (Bs.cell _)) ?_
        rintro _ _ rfl
        exact Sq.nil <| J.envJ (J.keep Tk3 (hu4 (({ x0 with rxcost := t.rxcost, interval := t.interval, all := t.all, addr := t.addr } : Tlv)) (by unfold ownF; rw [if_neg c17, if_neg c25, if_neg c30, if_pos c41, if_pos c52, ← h0]))) ⟨rfl, rfl, rfl, trivial⟩
      ·refine Sg 1 E3 <| Zl hk10 <| Zf <| Zs fun _ hk13 => Qp 0 E2 (Ze E3) <| J.caseD (fun c58 => ?_) (fun c58 => ?_)
       ·refine Sg 1 E3 <| Zl hk13 <| Zt <| Run.seq fun _ hk14 => Run.regionM (M := [0, 1, 0, 4, 0, 16, 0, 64, 3, 259, 783, 1807, 3903, 7999, 16383, 32767]) (q := 22015) (r := 170) mixedT Kr ?_
        refine Dp 0 E2 (Za E2 f49_2) <| Dr 1 E2 (Z1 E2 g40 (Tlv.sub_interval _)) ?_
        refine Dp 2 E2 (Za E2 f49_3) <| Dr 3 E2 (Z1 E2 g40 (Tlv.sub_seqno _)) ?_
        refine Dp 4 E2 (Za E2 f49_5) <| Dr 5 E2 (Z1 E2 g40 (Tlv.sub_metric _)) ?_
        refine Dp 6 E2 (Za E2 f49_8) <| Dr 7 E2 (Z1 E2 g4 (Tlv.sub_all _)) ?_
        refine Dp 8 E2 (Za E2 f49_2) <| De 9 <| Oa [7, 5, 3] rfl (EF.store rfl rfl rfl z40 (Tlv.set_interval _ _) (cell_one rfl)) ?_
        rintro _ _ rfl
        refine ⟨?_, ?_⟩
        ·rw [FM, FM, FM]
         refine ⟨?_, ?_, ?_, NO⟩
         ·exact Lk E3 (Z1 E2 g4 (Tlv.sub_all _))
         ·exact Lk E3 (Z1 E2 g40 (Tlv.sub_metric _))
         ·exact Lk E3 (Z1 E2 g40 (Tlv.sub_seqno _))
        refine ?_
        refine Dp 10 E2 (Za E2 f49_3) <| De 11 <| Oa [7, 5] rfl (EF.store rfl rfl rfl z40 (Tlv.set_seqno _ _) (cell_one rfl)) ?_
        rintro _ _ rfl
        refine ⟨?_, ?_⟩
        ·rw [FM, FM]
         refine ⟨?_, ?_, NO⟩
         ·exact Lk E3 (Z1 E2 g4 (Tlv.sub_all _))
         ·exact Lk E3 (Z1 E2 g40 (Tlv.sub_metric _))
        refine ?_
        refine Dp 12 E2 (Za E2 f49_5) <| De 13 <| Oa [7] rfl (EF.store rfl rfl rfl z40 (Tlv.set_metric _ _) (cell_one rfl)) ?_
        rintro _ _ rfl
        refine ⟨?_, ?_⟩
        ·rw [FM]
         refine ⟨?_, NO⟩
         ·exact Lk E3 (Z1 E2 g4 (Tlv.sub_all _))
        refine ?_
        refine Dp 14 E2 (Za E2 f49_8) <| De 15 <| Oa [] rfl (EF.store rfl rfl rfl z4 (Tlv.set_all _ _) (cell_one rfl)) ?_
        rintro _ _ rfl
        refine N0 <| Dn <| hk14 _ _ <| Zs fun _ hk15 => Fa 0 E3 f49_5 <| Qq 1 E2 (Z1 E2 g40 (Tlv.sub_metric _)) ?_
        refine Qp 2 E2 (Zq E3) <| J.caseD (fun c73 => ?_) (fun c73 => ?_)
        ·refine Zl hk15 <| Zt <| Run.regionM (M := [0, 1, 0, 4, 3, 19, 63, 127]) (q := 95) (r := 10) mixedT Kr ?_
         refine Dp 0 E2 (Za E2 f49_9) <| Dr 1 E2 (Z0 E2 g42 (Tlv.sub_id_ _)) ?_
         refine Dp 2 E2 (Za E2 f49_10) <| Dr 3 E2 (Z0 E2 g32 (Tlv.sub_addr _)) ?_
         refine Dp 4 E2 (Za E2 f49_9) <| De 5 <| Oa [3] rfl (EF.storeA rfl rfl rfl z42 (Tlv.set_id_ _ _) (Bs.cell _)) ?_
         rintro _ _ rfl
         refine ⟨?_, ?_⟩
         ·rw [FM]
          refine ⟨?_, NO⟩
          ·exact Lk E3 (Z0 E2 g32 (Tlv.sub_addr _))
         refine ?_
         refine Dp 6 E2 (Za E2 f49_10) <| De 7 <| Oa [] rfl (EF.storeA rfl rfl rfl z32 (Tlv.set_addr _ _) (Bs.cell _)) ?_
         rintro _ _ rfl
         exact N0 <| Dn <| J.envJ (J.keep Tk3 (hu4 (({ x0 with interval := t.interval, seqno := t.seqno, metric := t.metric, all := t.all, id_ := t.id_, addr := t.addr } : Tlv)) (by unfold ownF; rw [if_neg c17, if_neg c25, if_neg c30, if_neg c41, if_pos c58, if_pos c73, ← h0]))) ⟨rfl, rfl, rfl, trivial⟩
        ·exact Zl hk15 <| Zf <| Run.skip <| J.envJ (J.keep Tk3 (hu4 (({ x0 with interval := t.interval, seqno := t.seqno, metric := t.metric, all := t.all } : Tlv)) (by unfold ownF; rw [if_neg c17, if_neg c25, if_neg c30, if_neg c41, if_pos c58, if_neg c73, ← h0]))) ⟨rfl, rfl, rfl, trivial⟩
       ·refine Sg 1 E3 <| Zl hk13 <| Zf <| Zs fun _ hk16 => Qp 0 E2 (Ze E3) <| J.caseD (fun c81 => ?_) (fun c81 => ?_)
        ·refine Sg 1 E3 <| Zl hk16 <| Zt <| Run.region <| Fa 0 E3 f49_8 <| Qq 1 E2 (Z1 E2 g4 (Tlv.sub_all _)) ?_
         refine Fa 2 E3 f49_8 <| Ac 3 rfl (EF.store rfl rfl rfl z4 (Tlv.set_all _ _) (cell_one rfl)) ?_
         rintro _ _ rfl
         exact Sq.nil <| J.envJ (J.keep Tk3 (hu4 (({ x0 with all := t.all } : Tlv)) (by unfold ownF; rw [if_neg c17, if_neg c25, if_neg c30, if_neg c41, if_neg c58, if_pos c81, ← h0]))) ⟨rfl, rfl, rfl, trivial⟩
        ·refine Sg 1 E3 <| Zl hk16 <| Zf <| Zs fun _ hk17 => Qp 0 E2 (Ze E3) <| J.caseD (fun c86 => ?_) (fun c86 => ?_)
         ·refine Sg 1 E3 <| Zl hk17 <| Zt <| Run.regionM (M := [0, 1, 0, 4, 0, 16, 3, 67, 207, 463, 1023, 2047]) (q := 1407) (r := 42) mixedT Kr ?_
          refine Dp 0 E2 (Za E2 f49_3) <| Dr 1 E2 (Z1 E2 g40 (Tlv.sub_seqno _)) ?_
          refine Dp 2 E2 (Za E2 f49_6) <| Dr 3 E2 (Z1 E2 g5 (Tlv.sub_hops _)) ?_
          refine Dp 4 E2 (Za E2 f49_9) <| Dr 5 E2 (Z0 E2 g42 (Tlv.sub_id_ _)) ?_
          refine Dp 6 E2 (Za E2 f49_3) <| De 7 <| Oa [5, 3] rfl (EF.store rfl rfl rfl z40 (Tlv.set_seqno _ _) (cell_one rfl)) ?_
          rintro _ _ rfl
          refine ⟨?_, ?_⟩
          ·rw [FM, FM]
           refine ⟨?_, ?_, NO⟩
           ·exact Lk E3 (Z0 E2 g42 (Tlv.sub_id_ _))
           ·exact Lk E3 (Z1 E2 g5 (Tlv.sub_hops _))
          refine ?_
          refine Dp 8 E2 (Za E2 f49_6) <| De 9 <| Oa [5] rfl (EF.store rfl rfl rfl z5 (Tlv.set_hops _ _) (cell_one rfl)) ?_
          rintro _ _ rfl
          refine ⟨?_, ?_⟩
          ·rw [FM]
           refine ⟨?_, NO⟩
           ·exact Lk E3 (Z0 E2 g42 (Tlv.sub_id_ _))
          refine ?_
          refine Dp 10 E2 (Za E2 f49_9) <| De 11 <| Oa [] rfl (EF.storeA rfl rfl rfl z42 (Tlv.set_id_ _ _) (Bs.cell _)) ?_
          rintro _ _ rfl
          exact N0 <| Dn <| J.envJ (J.keep Tk3 (hu4 (({ x0 with seqno := t.seqno, hops := t.hops, id_ := t.id_ } : Tlv)) (by unfold ownF; rw [if_neg c17, if_neg c25, if_neg c30, if_neg c41, if_neg c58, if_neg c81, if_pos c86, ← h0]))) ⟨rfl, rfl, rfl, trivial⟩
         ·refine Sg 1 E3 <| Zl hk17 <| Zf <| Zs fun _ hk18 => Qq 0 E2 (Z0 E2 g49 (Tlv.enc_sub _)) ?_
          refine Ac 1 rfl (EF.storeA rfl rfl rfl z49 (SetL.all (Tlv.enc_len _) (Tlv.enc_len _)) (Tlv.enc_cell _)) ?_
          rintro _ _ rfl
          refine Sg 2 E3 <| Zl hk18 <| Run.ret ?_
          have hO : ownF t = (x0, false) := by unfold ownF; rw [if_neg c17, if_neg c25, if_neg c30, if_neg c41, if_neg c58, if_neg c81, if_neg c86, ← h0]
          rw [hO]
          exact J.ends (res_cell2 rfl rfl g49 (Tlv.enc_sub _) rfl) TN ⟨rfl, rfl⟩
 ·intro ku3 hu3
  refine Zs fun _ hk19 => Qq 0 E2 (Z0 E2 g49 (Tlv.enc_sub _)) ?_
  refine Ef 1 E2 (Zc E2 ce122 TN (fun F' hle hr => paired_spec F' t)) ?_
  rintro _ _ ⟨_, ⟨rfl, rfl⟩, rfl⟩
  refine J.app <| J.caseB (fun c9 => ?_) (fun c9 => ?_)
  ·refine Zl hk19 <| Zt <| Run.region <| Fa 0 E3 f49_11 <| Qq 1 E2 (Z0 E2 g46 (Tlv.sub_pair _)) ?_
   refine Fa 2 E3 f49_11 <| Ac 3 rfl (EF.storeA rfl rfl rfl z46 (Tlv.set_pair _ _) (Pair.enc_cell _)) ?_
   rintro _ _ rfl
   exact Sq.nil <| J.envJ (J.keep Tk3 (hu3 (({ Tlv.zero with type := t.type, pair := t.pair } : Tlv)) (by unfold ownB; rw [c9]; rfl))) ⟨rfl, rfl, rfl, trivial⟩
  ·exact Zl hk19 <| Zf <| Run.skip <| J.envJ (J.keep Tk3 (hu3 (({ Tlv.zero with type := t.type } : Tlv)) (by unfold ownB; rw [c9]; rfl))) ⟨rfl, rfl, rfl, trivial⟩
end Slb
