/- I36: a part of the proof that a law of this package holds for every input; no condition. -/
import Derived.Test.YtfokodhfjdhdaaaM2
import Derived.Test.YtfokodhfjdhdaaaI35
namespace Slb
open Go Go.Proofs
set_option maxRecDepth 20000
/-- Whether a packet can carry it. -/
def fitsF (src : Bs 16) (mtu : Int) (t : Tlv) (st : List Int) : Int :=
  if checkF t ≠ 0 then checkF t
  else if (t.type = 8 ∧ t.metric ≠ 65535) ∧ familyB t.addr ≠ pfamilyB t.pair.dst then 2
  else if ((addL (toldB src) t st).length : Int) + 4 ≤ mtu then 0 else 70

theorem addR_fit {td : PackTold} {t : Tlv} {st : List Int} {mtu : Int} (h : (addR td t st [] mtu).2.2 = true) : ((addL td t st).length : Int) + 4 ≤ mtu := by
  unfold addR at h
  split at h
  · rename_i h1; simp at h1; omega
  · cases h
theorem addR_not {td : PackTold} {t : Tlv} {st : List Int} {mtu : Int} (h : (addR td t st [] mtu).2.2 = false) : ¬ ((addL td t st).length : Int) + 4 ≤ mtu := by
  unfold addR at h
  split at h
  · cases h
  · rename_i h1; simp at h1; omega

set_option maxHeartbeats 1000000 in
theorem fits_spec (F : Fr) (src : Bs 16) {mtu : Int} (hm1 : 0 ≤ mtu) (hm2 : mtu ≤ 1000000) (x : TlvX) (hw : (tlvS x).WF) (hx : TlvIn F x) (hr32 : ∀ n ∈ x.l, 0 ≤ n ∧ n < 4294967296)  : Spec Try.prog 39 #[.agg (Bs.enc src).toArray, .int .i64 mtu, .agg (Tlv.enc (tlvS x)).toArray] [] F (fun v S => v = .int .i64 (fitsF src mtu (tlvS x) x.l) ∧ S = []) := by
 refine Spec.intro (N := 40) (args := [.agg (Bs.enc src).toArray, .int .i64 mtu, .agg (Tlv.enc (tlvS x)).toArray]) Try.func39 rfl rfl (by simp) ?_
 refine Run.seq fun k1 hk1 => Run.region ?_
 show Sq _ _ _ [0, 1, 2] _ _ _ _
 refine Ef 0 rfl rfl (EF.boxA rfl rfl) ?_
 rintro _ _ ⟨b3, rfl, rfl⟩
 refine Ef 1 rfl rfl (EF.boxA rfl rfl) ?_
 rintro _ _ ⟨b5, rfl, rfl⟩
 refine Sg 2 rfl rfl rfl <| Sq.nil <| hk1 _ _ <| Run.seq fun k2 hk2 => Run.seq fun k3 hk3 => Run.region ?_
 show Sq _ _ _ [0, 1, 2] _ _ _ _
 refine Qq 0 rfl rfl (QR.load rfl rfl g46 (Tlv.enc_sub _)) ?_
 refine Ef 1 rfl rfl (EF.call rfl ce54 rfl Takes.nil (fun F' hle hr => check_tlv F' (tlvS x))) ?_
 rintro _ _ ⟨_, ⟨rfl, rfl⟩, rfl⟩
 refine J.app ?_
 refine Sg 2 rfl rfl rfl <| Sq.nil <| hk3 _ _ <| Run.block <| Run.seq fun k4 hk4 => Run.region ?_
 show Sq _ _ _ [0, 1, 2] _ _ _ _
 refine Mv 0 rfl rfl rfl <| Qp 1 rfl rfl (QP.neq rfl rfl rfl) <| J.caseD (fun c12 => ?_) (fun c12 => ?_)
 ·refine Sg 2 rfl rfl rfl <| Sq.nil <| hk4 _ _ <| Run.cond_t rfl <| Run.seq fun k5 hk5 => Run.region ?_
  show Sq _ _ _ [0, 1] _ _ _ _
  refine Mv 0 rfl rfl rfl <| Sg 1 rfl rfl rfl <| Sq.nil <| hk5 _ _ <| Run.ret ?_
  exact J.ends (res_tmp rfl rfl) Takes.nil ⟨congrArg (Value.int .i64) (by unfold fitsF; rw [if_pos c12]), rfl⟩
 ·refine Sg 2 rfl rfl rfl <| Sq.nil <| hk4 _ _ <| Run.cond_f rfl <| Run.seq fun k6 hk6 => Run.regionD (M := [0, 1, 3, 7, 15, 31, 63, 127, 255, 511, 1023, 2047, 511, 4607, 12799, 32767, 65535, 131071, 262143]) (q := 227327) (r := 17442) Kr ?_
  refine Dp 0 rfl rfl (QP.fieldAddr rfl rfl f46_0) <| Dr 1 rfl rfl (QR.load1 rfl rfl g5 (Tlv.sub_type _)) ?_
  refine Dp 2 rfl rfl (QP.eql rfl rfl rfl) <| J.caseD (fun c17 => ?_) (fun c17 => ?_)
  ·refine Dp 3 rfl rfl (QP.move rfl rfl) <| Dy 4 rfl rfl rfl (QP.fieldAddr rfl rfl f46_5) <| Dz 5 rfl rfl rfl (QR.load1 rfl rfl g37 (Tlv.sub_metric _)) ?_
   refine Dy 6 rfl rfl rfl (QP.neq rfl rfl rfl) <| J.caseD (fun c21 => ?_) (fun c21 => ?_)
   ·refine Dp 7 rfl rfl (QP.pick_t rfl rfl rfl) <| Dp 8 rfl rfl (QP.move rfl rfl) <| Dy 9 rfl rfl rfl (QP.fieldAddr rfl rfl f46_10) <| Dz 10 rfl rfl rfl (QR.load rfl rfl g23 (Tlv.sub_addr _)) ?_
    refine Dy 12 rfl rfl rfl (QP.fieldAddr rfl rfl f46_11) <| Dy 13 rfl rfl rfl (QP.fieldAddr rfl rfl f43_0) <| Dz 14 rfl rfl rfl (QR.load rfl rfl g41 ((Tlv.sub_pair _).trans (Pair.sub_dst _))) ?_
    refine De 11 <| One.mk (o := _) (l := [14]) rfl Kr (Want.yes rfl rfl rfl rfl) rfl (ltN rfl) (EF.call rfl ce55 rfl Takes.nil (fun F' hle hr => family_spec F' (tlvS x).addr)) Kr ?_
    rintro _ _ ⟨_, ⟨rfl, rfl⟩, rfl⟩
    refine ⟨?_, ?_⟩
    ·rw [List.forall_mem_cons]
     refine ⟨?_, fun _ h => (by cases h)⟩
     ·refine Look.app ?_
      exact Look.mk rfl rfl rfl (QR.load rfl rfl g41 ((Tlv.sub_pair _).trans (Pair.sub_dst _)))
    refine ?_
    refine J.app ?_
    refine De 15 <| One.mk (o := _) (l := []) rfl Kr (Want.yes rfl rfl rfl rfl) rfl (ltN rfl) (EF.call rfl ce56 rfl Takes.nil (fun F' hle hr => pfamily_spec F' (tlvS x).pair.dst)) Kr ?_
    rintro _ _ ⟨_, ⟨rfl, rfl⟩, rfl⟩
    refine ⟨fun _ h => (by cases h), ?_⟩
    refine J.app ?_
    refine Dy 16 rfl rfl rfl (QP.neq rfl rfl rfl) <| J.caseD (fun c31 => ?_) (fun c31 => ?_)
    ·refine Dp 17 rfl rfl (QP.pick_t rfl rfl rfl) <| De 18 <| Om [] rfl rfl ((QP.assign rfl rfl).eff) ?_
     rintro _ _ ⟨rfl, rfl⟩
     refine ⟨fun _ h => (by cases h), ?_⟩
     refine Dn <| hk6 _ _ <| Run.cond_t rfl <| Run.seq fun k7 hk7 => Run.region ?_
     show Sq _ _ _ [0] _ _ _ _
     refine Sg 0 rfl rfl rfl <| Sq.nil <| hk7 _ _ <| Run.ret ?_
     exact J.ends (res_tmp rfl rfl) Takes.nil ⟨congrArg (Value.int .i64) (by unfold fitsF; rw [if_neg c12, if_pos ⟨⟨c17, c21⟩, c31⟩]), rfl⟩
    ·refine Dp 17 rfl rfl (QP.pick_t rfl rfl rfl) <| De 18 <| Om [] rfl rfl ((QP.assign rfl rfl).eff) ?_
     rintro _ _ ⟨rfl, rfl⟩
     refine ⟨fun _ h => (by cases h), ?_⟩
     refine Dn <| hk6 _ _ <| Run.cond_f rfl <| Run.seq fun k8 hk8 => Run.regionD (M := [0, 1, 0, 0, 15, 31, 63]) (q := 45) (r := 5) Kr ?_
     refine Dr 0 rfl rfl (QR.load rfl rfl g23 (Bs.sub _)) ?_
     refine Dr 2 rfl rfl (QR.load rfl rfl g46 (Tlv.enc_sub _)) ?_
     refine Dp 3 rfl rfl (QP.move rfl rfl) <| De 1 <| Om [2] rfl rfl (EF.call rfl ce44 rfl Takes.nil (fun F' hle hr => begin_spec F' src)) ?_
     rintro _ _ ⟨_, ⟨b35, rfl, rfl⟩, rfl⟩
     refine ⟨?_, ?_⟩
     ·rw [List.forall_mem_cons]
      refine ⟨?_, fun _ h => (by cases h)⟩
      ·refine Look.app ?_
       exact Look.mk rfl rfl rfl (QR.load rfl rfl g46 (Tlv.enc_sub _))
     refine ?_
     refine J.app ?_
     refine De 4 <| Om [] rfl rfl (EF.call rfl ce47 rfl Tk2 (fun F' hle hr => add_spec F' x hw (TlvIn.mono hx hle) hr32 (Decidable.of_not_not c12) (td := toldB src) (l := []) hm1 hm2 (by simp))) ?_
     rintro _ _ ⟨_, ⟨a38, c38_, rfl, rfl⟩, rfl⟩
     refine ⟨fun _ h => (by cases h), ?_⟩
     refine J.app ?_
     refine J.caseB (fun c38 => ?_) (fun c38 => ?_)
     ·refine Dp 5 rfl rfl (QP.not rfl rfl) <| De 6 <| Om [] rfl rfl ((QP.assign rfl rfl).eff) ?_
      rintro _ _ ⟨rfl, rfl⟩
      refine ⟨fun _ h => (by cases h), ?_⟩
      refine Dn <| hk8 _ _ <| Run.cond_f rfl <| Run.skip <| hk2 _ _ <| Run.seq fun k9 hk9 => Run.region ?_
      show Sq _ _ _ [0] _ _ _ _
      refine Sg 0 rfl rfl rfl <| Sq.nil <| hk9 _ _ <| Run.ret ?_
      exact J.ends (res_tmp rfl rfl) Takes.nil ⟨congrArg (Value.int .i64) (by unfold fitsF; rw [if_neg c12, if_neg (by rintro ⟨⟨h1, h2⟩, h3⟩; first | exact c17 h1 | exact c21 h2 | exact c31 h3), if_pos (addR_fit c38)]), rfl⟩
     ·refine Dp 5 rfl rfl (QP.not rfl rfl) <| De 6 <| Om [] rfl rfl ((QP.assign rfl rfl).eff) ?_
      rintro _ _ ⟨rfl, rfl⟩
      refine ⟨fun _ h => (by cases h), ?_⟩
      refine Dn <| hk8 _ _ <| Run.cond_t rfl <| Run.seq fun k10 hk10 => Run.region ?_
      show Sq _ _ _ [0] _ _ _ _
      refine Sg 0 rfl rfl rfl <| Sq.nil <| hk10 _ _ <| Run.ret ?_
      exact J.ends (res_tmp rfl rfl) Takes.nil ⟨congrArg (Value.int .i64) (by unfold fitsF; rw [if_neg c12, if_neg (by rintro ⟨⟨h1, h2⟩, h3⟩; first | exact c17 h1 | exact c21 h2 | exact c31 h3), if_neg (addR_not c38)]), rfl⟩
   ·refine Dp 7 rfl rfl (QP.pick_t rfl rfl rfl) <| Dp 8 rfl rfl (QP.move rfl rfl) <| Ds 9 rfl rfl rfl <| Ds 10 rfl rfl rfl <| Ds 12 rfl rfl rfl <| Ds 13 rfl rfl rfl <| Ds 14 rfl rfl rfl <| De 11 <| One.skipD (o := _) rfl Kr (Want.no rfl rfl rfl rfl) rfl (ltN rfl) ?_
    refine De 15 <| One.skipD (o := _) rfl Kr (Want.no rfl rfl rfl rfl) rfl (ltN rfl) ?_
    refine Ds 16 rfl rfl rfl <| Dp 17 rfl rfl (QP.pick_f rfl rfl rfl) <| De 18 <| Om [] rfl rfl ((QP.assign rfl rfl).eff) ?_
    rintro _ _ ⟨rfl, rfl⟩
    refine ⟨fun _ h => (by cases h), ?_⟩
    refine Dn <| hk6 _ _ <| Run.cond_f rfl <| Run.seq fun k11 hk11 => Run.regionD (M := [0, 1, 0, 0, 15, 31, 63]) (q := 45) (r := 5) Kr ?_
    refine Dr 0 rfl rfl (QR.load rfl rfl g23 (Bs.sub _)) ?_
    refine Dr 2 rfl rfl (QR.load rfl rfl g46 (Tlv.enc_sub _)) ?_
    refine Dp 3 rfl rfl (QP.move rfl rfl) <| De 1 <| Om [2] rfl rfl (EF.call rfl ce44 rfl Takes.nil (fun F' hle hr => begin_spec F' src)) ?_
    rintro _ _ ⟨_, ⟨b35, rfl, rfl⟩, rfl⟩
    refine ⟨?_, ?_⟩
    ·rw [List.forall_mem_cons]
     refine ⟨?_, fun _ h => (by cases h)⟩
     ·refine Look.app ?_
      exact Look.mk rfl rfl rfl (QR.load rfl rfl g46 (Tlv.enc_sub _))
    refine ?_
    refine J.app ?_
    refine De 4 <| Om [] rfl rfl (EF.call rfl ce47 rfl Tk2 (fun F' hle hr => add_spec F' x hw (TlvIn.mono hx hle) hr32 (Decidable.of_not_not c12) (td := toldB src) (l := []) hm1 hm2 (by simp))) ?_
    rintro _ _ ⟨_, ⟨a38, c38_, rfl, rfl⟩, rfl⟩
    refine ⟨fun _ h => (by cases h), ?_⟩
    refine J.app ?_
    refine J.caseB (fun c38 => ?_) (fun c38 => ?_)
    ·refine Dp 5 rfl rfl (QP.not rfl rfl) <| De 6 <| Om [] rfl rfl ((QP.assign rfl rfl).eff) ?_
     rintro _ _ ⟨rfl, rfl⟩
     refine ⟨fun _ h => (by cases h), ?_⟩
     refine Dn <| hk11 _ _ <| Run.cond_f rfl <| Run.skip <| hk2 _ _ <| Run.seq fun k12 hk12 => Run.region ?_
     show Sq _ _ _ [0] _ _ _ _
     refine Sg 0 rfl rfl rfl <| Sq.nil <| hk12 _ _ <| Run.ret ?_
     exact J.ends (res_tmp rfl rfl) Takes.nil ⟨congrArg (Value.int .i64) (by unfold fitsF; rw [if_neg c12, if_neg (by rintro ⟨⟨h1, h2⟩, h3⟩; first | exact c17 h1 | exact c21 h2 | exact c31 h3), if_pos (addR_fit c38)]), rfl⟩
    ·refine Dp 5 rfl rfl (QP.not rfl rfl) <| De 6 <| Om [] rfl rfl ((QP.assign rfl rfl).eff) ?_
     rintro _ _ ⟨rfl, rfl⟩
     refine ⟨fun _ h => (by cases h), ?_⟩
     refine Dn <| hk11 _ _ <| Run.cond_t rfl <| Run.seq fun k13 hk13 => Run.region ?_
     show Sq _ _ _ [0] _ _ _ _
     refine Sg 0 rfl rfl rfl <| Sq.nil <| hk13 _ _ <| Run.ret ?_
     exact J.ends (res_tmp rfl rfl) Takes.nil ⟨congrArg (Value.int .i64) (by unfold fitsF; rw [if_neg c12, if_neg (by rintro ⟨⟨h1, h2⟩, h3⟩; first | exact c17 h1 | exact c21 h2 | exact c31 h3), if_neg (addR_not c38)]), rfl⟩
  ·refine Dp 3 rfl rfl (QP.move rfl rfl) <| Ds 4 rfl rfl rfl <| Ds 5 rfl rfl rfl <| Ds 6 rfl rfl rfl <| Dp 7 rfl rfl (QP.pick_f rfl rfl rfl) <| Dp 8 rfl rfl (QP.move rfl rfl) <| Ds 9 rfl rfl rfl <| Ds 10 rfl rfl rfl <| Ds 12 rfl rfl rfl <| Ds 13 rfl rfl rfl <| Ds 14 rfl rfl rfl <| De 11 <| One.skipD (o := _) rfl Kr (Want.no rfl rfl rfl rfl) rfl (ltN rfl) ?_
   refine De 15 <| One.skipD (o := _) rfl Kr (Want.no rfl rfl rfl rfl) rfl (ltN rfl) ?_
   refine Ds 16 rfl rfl rfl <| Dp 17 rfl rfl (QP.pick_f rfl rfl rfl) <| De 18 <| Om [] rfl rfl ((QP.assign rfl rfl).eff) ?_
   rintro _ _ ⟨rfl, rfl⟩
   refine ⟨fun _ h => (by cases h), ?_⟩
   refine Dn <| hk6 _ _ <| Run.cond_f rfl <| Run.seq fun k14 hk14 => Run.regionD (M := [0, 1, 0, 0, 15, 31, 63]) (q := 45) (r := 5) Kr ?_
   refine Dr 0 rfl rfl (QR.load rfl rfl g23 (Bs.sub _)) ?_
   refine Dr 2 rfl rfl (QR.load rfl rfl g46 (Tlv.enc_sub _)) ?_
   refine Dp 3 rfl rfl (QP.move rfl rfl) <| De 1 <| Om [2] rfl rfl (EF.call rfl ce44 rfl Takes.nil (fun F' hle hr => begin_spec F' src)) ?_
   rintro _ _ ⟨_, ⟨b35, rfl, rfl⟩, rfl⟩
   refine ⟨?_, ?_⟩
   ·rw [List.forall_mem_cons]
    refine ⟨?_, fun _ h => (by cases h)⟩
    ·refine Look.app ?_
     exact Look.mk rfl rfl rfl (QR.load rfl rfl g46 (Tlv.enc_sub _))
   refine ?_
   refine J.app ?_
   refine De 4 <| Om [] rfl rfl (EF.call rfl ce47 rfl Tk2 (fun F' hle hr => add_spec F' x hw (TlvIn.mono hx hle) hr32 (Decidable.of_not_not c12) (td := toldB src) (l := []) hm1 hm2 (by simp))) ?_
   rintro _ _ ⟨_, ⟨a38, c38_, rfl, rfl⟩, rfl⟩
   refine ⟨fun _ h => (by cases h), ?_⟩
   refine J.app ?_
   refine J.caseB (fun c38 => ?_) (fun c38 => ?_)
   ·refine Dp 5 rfl rfl (QP.not rfl rfl) <| De 6 <| Om [] rfl rfl ((QP.assign rfl rfl).eff) ?_
    rintro _ _ ⟨rfl, rfl⟩
    refine ⟨fun _ h => (by cases h), ?_⟩
    refine Dn <| hk14 _ _ <| Run.cond_f rfl <| Run.skip <| hk2 _ _ <| Run.seq fun k15 hk15 => Run.region ?_
    show Sq _ _ _ [0] _ _ _ _
    refine Sg 0 rfl rfl rfl <| Sq.nil <| hk15 _ _ <| Run.ret ?_
    exact J.ends (res_tmp rfl rfl) Takes.nil ⟨congrArg (Value.int .i64) (by unfold fitsF; rw [if_neg c12, if_neg (by rintro ⟨⟨h1, h2⟩, h3⟩; first | exact c17 h1 | exact c21 h2 | exact c31 h3), if_pos (addR_fit c38)]), rfl⟩
   ·refine Dp 5 rfl rfl (QP.not rfl rfl) <| De 6 <| Om [] rfl rfl ((QP.assign rfl rfl).eff) ?_
    rintro _ _ ⟨rfl, rfl⟩
    refine ⟨fun _ h => (by cases h), ?_⟩
    refine Dn <| hk14 _ _ <| Run.cond_t rfl <| Run.seq fun k16 hk16 => Run.region ?_
    show Sq _ _ _ [0] _ _ _ _
    refine Sg 0 rfl rfl rfl <| Sq.nil <| hk16 _ _ <| Run.ret ?_
    exact J.ends (res_tmp rfl rfl) Takes.nil ⟨congrArg (Value.int .i64) (by unfold fitsF; rw [if_neg c12, if_neg (by rintro ⟨⟨h1, h2⟩, h3⟩; first | exact c17 h1 | exact c21 h2 | exact c31 h3), if_neg (addR_not c38)]), rfl⟩

theorem new_spec (F : Fr) (src : Bs 16) (mtu : Int) : Spec Try.prog 23 #[.agg (Bs.enc src).toArray, .int .i64 mtu] [] F (fun v S => if mtu < 64 ∨ mtu > 65539 then v = .tuple #[.pointer none, .int .i64 2] ∧ S = [] else ∃ b, v = .tuple #[.pointer (some ⟨b, 0, none⟩), .int .i64 0] ∧ S = [blk b (PackBuffer.enc ⟨src, mtu, Slc.zero⟩) 108]) := by
 refine Spec.intro (N := 16) (args := [.agg (Bs.enc src).toArray, .int .i64 mtu]) Try.func23 rfl rfl (by simp) ?_
 refine Run.seq fun k1 hk1 => Run.region ?_
 show Sq _ _ _ [0, 1, 2] _ _ _ _
 refine Ef 0 rfl rfl (EF.boxA rfl rfl) ?_
 rintro _ _ ⟨b2, rfl, rfl⟩
 refine Sg 1 rfl rfl rfl <| Sg 2 rfl rfl rfl <| Sq.nil <| hk1 _ _ <| Run.seq fun k2 hk2 => Run.seq fun k3 hk3 => Run.region ?_
 show Sq _ _ _ [0, 1, 2, 3, 4, 5] _ _ _ _
 refine Mv 0 rfl rfl rfl <| Qp 1 rfl rfl (QP.lss rfl rfl rfl) <| J.caseD (fun c7 => ?_) (fun c7 => ?_)
 ·refine Mv 2 rfl rfl rfl <| Sk 3 rfl rfl rfl <| Sk 4 rfl rfl rfl <| Pt 5 rfl rfl rfl rfl <| Sq.nil <| hk3 _ _ <| Run.cond_t rfl <| Run.seq fun k4 hk4 => Run.region ?_
  show Sq _ _ _ [0, 1] _ _ _ _
  refine Sg 0 rfl rfl rfl <| Sg 1 rfl rfl rfl <| Sq.nil <| hk4 _ _ <| Run.ret ?_
  exact J.ends (m := []) (res_tmp2 rfl rfl rfl) Takes.nil (by rw [if_pos (by first | exact .inl c7 | exact .inr c10)]; exact ⟨rfl, rfl⟩)
 ·refine Mv 2 rfl rfl rfl <| Ym 3 rfl rfl rfl rfl <| Yp 4 rfl rfl rfl (QP.gtr rfl rfl rfl) <| J.caseD (fun c10 => ?_) (fun c10 => ?_)
  ·refine Pf 5 rfl rfl rfl rfl <| Sq.nil <| hk3 _ _ <| Run.cond_t rfl <| Run.seq fun k5 hk5 => Run.region ?_
   show Sq _ _ _ [0, 1] _ _ _ _
   refine Sg 0 rfl rfl rfl <| Sg 1 rfl rfl rfl <| Sq.nil <| hk5 _ _ <| Run.ret ?_
   exact J.ends (m := []) (res_tmp2 rfl rfl rfl) Takes.nil (by rw [if_pos (by first | exact .inl c7 | exact .inr c10)]; exact ⟨rfl, rfl⟩)
  ·refine Pf 5 rfl rfl rfl rfl <| Sq.nil <| hk3 _ _ <| Run.cond_f rfl <| Run.skip <| hk2 _ _ <| Run.seq fun k6 hk6 => Run.region ?_
   show Sq _ _ _ [0, 1, 2, 3, 4, 5] _ _ _ _
   refine Qq 0 rfl rfl (QR.load rfl rfl g23 (Bs.sub _)) ?_
   refine Mv 1 rfl rfl rfl <| Qp 2 rfl rfl (QP.build (l := PackBuffer.enc ⟨(src), (mtu), Slc.zero⟩) rfl st108 rfl (by exact ⟨(congrArg some (Bs.len _).symm), ⟨rfl, trivial⟩⟩) rfl) <| Ef 3 rfl rfl (EF.boxA rfl rfl) ?_
   rintro _ _ ⟨b15, rfl, rfl⟩
   refine Sg 4 rfl rfl rfl <| Sg 5 rfl rfl rfl <| Sq.nil <| hk6 _ _ <| Run.ret ?_
   exact J.ends (m := [blk b15 (PackBuffer.enc ⟨src, mtu, Slc.zero⟩) 108]) (res_tmp2 rfl rfl rfl) Tk1 (by rw [if_neg (by rintro (h | h); exact c7 h; exact c10 h)]; exact ⟨b15, rfl, rfl⟩)
end Slb
