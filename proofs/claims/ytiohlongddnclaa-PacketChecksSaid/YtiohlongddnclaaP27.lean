/- P27: a part of the proof that a law of this package holds for every input; no condition. -/
import Derived.Test.YtiohlongddnclaaM2
import Derived.Test.YtiohlongddnclaaP17
import Derived.Test.YtiohlongddnclaaP16
namespace Slb
open Go Go.Proofs
set_option maxRecDepth 20000
def ok41 (F : Fr) (x : Tlv) : Prop := x.WF ∧ SlIn F 1 (fun n => [Value.int .u32 n]) (fun n => 0 ≤ n ∧ n ≤ 4294967295) x.stamps

set_option maxHeartbeats 2000000 in
theorem law_checks (F : Fr) (x y : TlvX) (hx : TlvIn F x) (hy : TlvIn F y) (hsum : x.l.length + y.l.length ≤ 9223372036854775807)  : Spec Try.prog 6 #[.agg (Tlv.enc (tlvS x)).toArray, .agg (Tlv.enc (tlvS y)).toArray] [] F (fun v S => v = .bool true ∧ S = []) := by
 refine Spec.intro (N := 37) (args := [.agg (Tlv.enc (tlvS x)).toArray, .agg (Tlv.enc (tlvS y)).toArray]) Try.func6 rfl rfl (by simp) ?_
 refine Run.seq fun k1 hk1 => Run.region ?_
 show Sq _ _ _ [0, 1, 2] _ _ _ _
 refine Ef 0 rfl rfl (EF.boxA rfl rfl) ?_
 rintro _ _ ⟨b2, rfl, rfl⟩
 refine Ef 1 rfl rfl (EF.boxA rfl rfl) ?_
 rintro _ _ ⟨b3, rfl, rfl⟩
 refine Sg 2 rfl rfl rfl <| Sq.nil <| hk1 _ _ <| Run.seq fun k2 hk2 => Run.seq fun k3 hk3 => Run.region ?_
 show Sq _ _ _ [0, 1, 2, 3, 4, 5, 6, 7] _ _ _ _
 refine Fa 0 rfl rfl rfl f41_12 <| Qq 1 rfl rfl (QR.load1 (v := .slice x.a x.l.length x.c) rfl rfl g39 (Tlv.sub_stamps _)) ?_
 refine Qp 2 rfl rfl (QP.len rfl rfl rfl Try.underlying39) <| Fa 3 rfl rfl rfl f41_12 <| Qq 4 rfl rfl (QR.load1 (v := .slice y.a y.l.length y.c) rfl rfl g39 (Tlv.sub_stamps _)) ?_
 refine Qp 5 rfl rfl (QP.len rfl rfl rfl Try.underlying39) <| Qp 6 rfl rfl (QP.add64 rfl rfl rfl Og Og) <| Qp 7 rfl rfl (QP.gtr rfl rfl rfl) <| J.caseD (fun c12 => ?_) (fun c12 => ?_)
 ·refine Sq.nil <| hk3 _ _ <| Run.cond_t rfl <| Run.seq fun k4 hk4 => Run.region ?_
  show Sq _ _ _ [0, 1] _ _ _ _
  refine Ef 0 rfl rfl (EF.call rfl ce7 rfl Takes.nil (fun F' hle hr => live_spec F')) ?_
  rintro _ _ ⟨_, ⟨rfl, rfl⟩, rfl⟩
  refine J.app ?_
  refine Sg 1 rfl rfl rfl <| Sq.nil <| hk4 _ _ <| Run.ret ?_
  exact J.ends (res_tmp rfl rfl) Takes.nil ⟨rfl, rfl⟩
 ·refine Sq.nil <| hk3 _ _ <| Run.cond_f rfl <| Run.skip <| hk2 _ _ <| Run.seq fun k5 hk5 => Run.regionD (M := [0, 1, 3, 0, 15, 31, 63, 127, 127, 511, 127, 127, 4095, 8191, 16383, 32767, 65535, 65535, 262143, 524287, 1048575, 2097151, 4194303, 8388607]) (q := 6024681) (r := 200073) Kr ?_
  have h5 : x.l.length + y.l.length ≤ 5000 := by have h9 : ¬ (x.l.length : Int) + (y.l.length : Int) > 5000 := c12; omega
  refine Dr 0 rfl rfl (QR.load rfl rfl g41 (Tlv.enc_sub _)) ?_
  refine Dr 3 rfl rfl (QR.load rfl rfl g41 (Tlv.enc_sub _)) ?_
  refine De 1 <| Om [3] rfl rfl (EF.call rfl ce10 rfl Takes.nil (fun F' hle hr => check_tlv F' (tlvS x))) ?_
  rintro _ _ ⟨_, ⟨rfl, rfl⟩, rfl⟩
  refine ⟨?_, ?_⟩
  ·rw [List.forall_mem_cons]
   refine ⟨?_, fun _ h => (by cases h)⟩
   ·refine Look.app ?_
    exact Look.mk rfl rfl rfl (QR.load rfl rfl g41 (Tlv.enc_sub _))
  refine ?_
  refine J.app ?_
  refine De 2 <| Om [3] rfl rfl (EF.call rfl ce9 rfl Takes.nil (fun F' hle hr => num6_spec F' _)) ?_
  rintro _ _ ⟨_, ⟨rfl, rfl⟩, rfl⟩
  refine ⟨?_, ?_⟩
  ·rw [List.forall_mem_cons]
   refine ⟨?_, fun _ h => (by cases h)⟩
   ·refine Look.app ?_
    exact Look.mk rfl rfl rfl (QR.load rfl rfl g41 (Tlv.enc_sub _))
  refine ?_
  refine J.app ?_
  refine De 4 <| Om [] rfl rfl (EF.call rfl ce13 rfl Takes.nil (fun F' hle hr => rchk_spec F' x (hx.mono hle) (by omega))) ?_
  rintro _ _ ⟨_, ⟨rfl, rfl⟩, rfl⟩
  refine ⟨fun _ h => (by cases h), ?_⟩
  refine J.app ?_
  refine Dp 5 rfl rfl (QP.eql rfl rfl rfl) <| J.decT (rfl) ?_
  refine Dp 6 rfl rfl (QP.move rfl rfl) <| Dz 7 rfl rfl rfl (QR.load rfl rfl g41 (Tlv.enc_sub _)) ?_
  refine Dz 8 rfl rfl rfl (QR.load rfl rfl g41 (Tlv.enc_sub _)) ?_
  refine Dz 10 rfl rfl rfl (QR.load rfl rfl g41 (Tlv.enc_sub _)) ?_
  refine Dz 11 rfl rfl rfl (QR.load rfl rfl g41 (Tlv.enc_sub _)) ?_
  refine De 9 <| One.mk (o := _) (l := [11, 10]) rfl Kr (Want.yes rfl rfl rfl rfl) rfl (ltN rfl) (EF.call rfl ce14 rfl Takes.nil (fun F' hle hr => psame_spec F' x y (hx.mono hle) (hy.mono hle) (by omega))) Kr ?_
  rintro _ _ ⟨_, ⟨rfl, rfl⟩, rfl⟩
  refine ⟨?_, ?_⟩
  ·rw [List.forall_mem_cons, List.forall_mem_cons]
   refine ⟨?_, ?_, fun _ h => (by cases h)⟩
   ·refine Look.app ?_
    exact Look.mk rfl rfl rfl (QR.load rfl rfl g41 (Tlv.enc_sub _))
   ·refine Look.app ?_
    exact Look.mk rfl rfl rfl (QR.load rfl rfl g41 (Tlv.enc_sub _))
  refine ?_
  refine J.app ?_
  refine De 12 <| One.mk (o := _) (l := []) rfl Kr (Want.yes rfl rfl rfl rfl) rfl (ltN rfl) (EF.call rfl ce15 rfl Takes.nil (fun F' hle hr => rsame_spec F' x y (hx.mono hle) (hy.mono hle) (by omega))) Kr ?_
  rintro _ _ ⟨_, ⟨rfl, rfl⟩, rfl⟩
  refine ⟨fun _ h => (by cases h), ?_⟩
  refine J.app ?_
  refine Dy 13 rfl rfl rfl (QP.eqlB rfl rfl rfl Try.underlying4) <| J.boolT (beq_self_eq_true _) ?_
  refine Dp 14 rfl rfl (QP.pick_t rfl rfl rfl) <| Dp 15 rfl rfl (QP.move rfl rfl) <| Dz 16 rfl rfl rfl (QR.load rfl rfl g41 (Tlv.enc_sub _)) ?_
  refine Dz 17 rfl rfl rfl (QR.load rfl rfl g41 (Tlv.enc_sub _)) ?_
  refine De 18 <| One.mk (o := _) (l := []) rfl Kr (Want.yes rfl rfl rfl rfl) rfl (ltN rfl) (EF.call rfl ce14 rfl Takes.nil (fun F' hle hr => psame_spec F' x x (hx.mono hle) (hx.mono hle) (by omega))) Kr ?_
  rintro _ _ ⟨_, ⟨rfl, rfl⟩, rfl⟩
  refine ⟨fun _ h => (by cases h), ?_⟩
  refine J.app ?_
  refine J.boolT (eqX_iff.2 rfl) ?_
  refine Dp 19 rfl rfl (QP.pick_t rfl rfl rfl) <| Dp 20 rfl rfl (QP.move rfl rfl) <| De 21 <| One.mk (o := _) (l := []) rfl Kr (Want.yes rfl rfl rfl rfl) rfl (ltN rfl) (EF.call rfl ce7 rfl Takes.nil (fun F' hle hr => live_spec F')) Kr ?_
  rintro _ _ ⟨_, ⟨rfl, rfl⟩, rfl⟩
  refine ⟨fun _ h => (by cases h), ?_⟩
  refine J.app ?_
  refine Dp 22 rfl rfl (QP.pick_t rfl rfl rfl) <| De 23 <| Om [] rfl rfl ((QP.assign rfl rfl).eff) ?_
  rintro _ _ ⟨rfl, rfl⟩
  refine ⟨fun _ h => (by cases h), ?_⟩
  refine Dn <| hk5 _ _ <| Run.ret ?_
  exact J.ends (res_tmp rfl rfl) Takes.nil ⟨rfl, rfl⟩
end Slb
