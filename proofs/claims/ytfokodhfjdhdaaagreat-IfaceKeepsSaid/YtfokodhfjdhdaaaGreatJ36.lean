/- J36: a part of the proof that a law of this package holds for every input; no condition. -/
import Derived.Test.YtfokodhfjdhdaaaGreatM2
import Derived.Test.YtfokodhfjdhdaaaGreatJ35
namespace Slb
open Go Go.Proofs
set_option maxRecDepth 20000
/-- Whether a packet can carry it. -/
def fitsF (src : Bs 16) (mtu : Int) (t : Tlv) (st : List Int) : Int :=
 if checkF t ≠ 0 then checkF t
 else if (t.type = 8 ∧ t.metric ≠ 65535) ∧ familyB t.addr ≠ pfamilyB t.pair.dst then 2
 else if ((addL (toldB src) t st).length : Int) + 4 ≤ mtu then 0 else 70

theorem addR_fit {td : PackTold} {t : Tlv} {st : List Int} {mtu : Int} (h : (addR td t st [] mtu).2.2 = true) : ((addL td t st).length : Int) + 4 ≤ mtu := by
 unfold addR at h
 split at h
 · rename_i h1; simp at h1; omega
 · cases h
theorem addR_not {td : PackTold} {t : Tlv} {st : List Int} {mtu : Int} (h : (addR td t st [] mtu).2.2 = false) : ¬ ((addL td t st).length : Int) + 4 ≤ mtu := by
 unfold addR at h
 split at h
 · cases h
 · rename_i h1; simp at h1; omega

set_option maxHeartbeats 1000000 in
theorem fits_spec (F : Fr) (src : Bs 16) {mtu : Int} (hm1 : 0 ≤ mtu) (hm2 : mtu ≤ 1000000) (x : TlvX) (hw : (tlvS x).WF) (hx : TlvIn F x) (hr32 : ∀ n ∈ x.l, 0 ≤ n ∧ n < 4294967296)  : Spec Tryz.prog 57 #[.agg (Bs.enc src).toArray, .int .i64 mtu, .agg (Tlv.enc (tlvS x)).toArray] [] F (fun v S => v = .int .i64 (fitsF src mtu (tlvS x) x.l) ∧ S = []) := by
 refine Spec.intro (N := 40) (args := [.agg (Bs.enc src).toArray, .int .i64 mtu, .agg (Tlv.enc (tlvS x)).toArray]) Tryz.func57 rfl rfl (by simp) ?_
 refine Zs fun _ hk1 => Ef 0 E2 (EF.boxA rfl rfl) ?_
 rintro _ _ ⟨b3, rfl, rfl⟩
 refine Ef 1 E2 (EF.boxA rfl rfl) ?_
 rintro _ _ ⟨b5, rfl, rfl⟩
 refine Sg 2 E3 <| Zl hk1 <| Run.seq fun _ hk2 => Zs fun _ hk3 => Qq 0 E2 (Z0 E2 g49 (Tlv.enc_sub _)) ?_
 refine Ef 1 E2 (Zc E2 ce90 TN (fun F' hle hr => check_tlv F' (tlvS x))) ?_
 rintro _ _ ⟨_, ⟨rfl, rfl⟩, rfl⟩
 refine J.app <| Sg 2 E3 <| Zl hk3 <| Run.block <| Zs fun _ hk4 => Mv 0 E3 <| Qp 1 E2 (Zq E3) <| J.caseD (fun c12 => ?_) (fun c12 => ?_)
 ·exact Sg 2 E3 <| Zl hk4 <| Zt <| Zs fun _ hk5 => Mv 0 E3 <| Sg 1 E3 <| Zl hk5 <| Run.ret <| Je E2 ⟨congrArg (Value.int .i64) (by unfold fitsF; rw [if_pos c12]), rfl⟩
 ·refine Sg 2 E3 <| Zl hk4 <| Zf <| Run.seq fun _ hk6 => Run.regionD (M := [0, 1, 3, 7, 15, 31, 63, 127, 255, 511, 1023, 2047, 511, 4607, 12799, 32767, 65535, 131071, 262143]) (q := 227327) (r := 17442) Kr ?_
  refine Dp 0 E2 (Za E2 f49_0) <| Dr 1 E2 (Z1 E2 g5 (Tlv.sub_type _)) ?_
  refine Dp 2 E2 (Ze E3) <| J.caseD (fun c17 => ?_) (fun c17 => ?_)
  ·refine Dp 3 E2 (Zm E2) <| Dy 4 E3 (Za E2 f49_5) <| Dz 5 E3 (Z1 E2 g40 (Tlv.sub_metric _)) ?_
   refine Dy 6 E3 (Zq E3) <| J.caseD (fun c21 => ?_) (fun c21 => ?_)
   ·refine Dp 7 E2 (QP.pick_t rfl rfl rfl) <| Dp 8 E2 (Zm E2) <| Dy 9 E3 (Za E2 f49_10) <| Dz 10 E3 (Z0 E2 g32 (Tlv.sub_addr _)) ?_
    refine Dy 12 E3 (Za E2 f49_11) <| Dy 13 E3 (Za E2 f46_0) <| Dz 14 E3 (Z0 E2 g44 ((Tlv.sub_pair _).trans (Pair.sub_dst _))) ?_
    refine De 11 <| One.mk (o := _) (l := [14]) rfl Kr (Want.yes rfl rfl rfl rfl) rfl (ltN rfl) (Zc E2 ce49 TN (fun F' hle hr => family_spec F' (tlvS x).addr)) Kr ?_
    rintro _ _ ⟨_, ⟨rfl, rfl⟩, rfl⟩
    refine ⟨?_, ?_⟩
    ·rw [FM]
     refine ⟨?_, NO⟩
     ·refine Look.app ?_
      exact Lk E3 (Z0 E2 g44 ((Tlv.sub_pair _).trans (Pair.sub_dst _)))
    refine ?_
    refine J.app <| De 15 <| One.mk (o := _) (l := []) rfl Kr (Want.yes rfl rfl rfl rfl) rfl (ltN rfl) (Zc E2 ce91 TN (fun F' hle hr => pfamily_spec F' (tlvS x).pair.dst)) Kr ?_
    rintro _ _ ⟨_, ⟨rfl, rfl⟩, rfl⟩
    refine N0 <| J.app <| Dy 16 E3 (Zq E3) <| J.caseD (fun c31 => ?_) (fun c31 => ?_)
    ·refine Dp 17 E2 (QP.pick_t rfl rfl rfl) <| De 18 <| Om [] rfl rfl ((Zg E2).eff) ?_
     rintro _ _ ⟨rfl, rfl⟩
     exact N0 <| Dn <| hk6 _ _ <| Zt <| Zs fun _ hk7 => Sg 0 E3 <| Zl hk7 <| Run.ret <| Je E2 ⟨congrArg (Value.int .i64) (by unfold fitsF; rw [if_neg c12, if_pos ⟨⟨c17, c21⟩, c31⟩]), rfl⟩
    ·refine Dp 17 E2 (QP.pick_t rfl rfl rfl) <| De 18 <| Om [] rfl rfl ((Zg E2).eff) ?_
     rintro _ _ ⟨rfl, rfl⟩
     refine N0 <| Dn <| hk6 _ _ <| Zf <| Run.seq fun _ hk8 => Run.regionD (M := [0, 1, 0, 0, 15, 31, 63]) (q := 45) (r := 5) Kr ?_
     refine Dr 0 E2 (Z0 E2 g32 (Bs.sub _)) ?_
     refine Dr 2 E2 (Z0 E2 g49 (Tlv.enc_sub _)) ?_
     refine Dp 3 E2 (Zm E2) <| De 1 <| Om [2] rfl rfl (Zc E2 ce66 TN (fun F' hle hr => begin_spec F' src)) ?_
     rintro _ _ ⟨_, ⟨b35, rfl, rfl⟩, rfl⟩
     refine ⟨?_, ?_⟩
     ·rw [FM]
      refine ⟨?_, NO⟩
      ·refine Look.app ?_
       exact Lk E3 (Z0 E2 g49 (Tlv.enc_sub _))
     refine ?_
     refine J.app <| De 4 <| Om [] rfl rfl (Zc E2 ce69 Tk2 (fun F' hle hr => add_spec F' x hw (TlvIn.mono hx hle) hr32 (Decidable.of_not_not c12) (td := toldB src) (l := []) hm1 hm2 (by simp))) ?_
     rintro _ _ ⟨_, ⟨a38, c38_, rfl, rfl⟩, rfl⟩
     refine N0 <| J.app <| J.caseB (fun c38 => ?_) (fun c38 => ?_)
     ·refine Dp 5 E2 (Zu E2) <| De 6 <| Om [] rfl rfl ((Zg E2).eff) ?_
      rintro _ _ ⟨rfl, rfl⟩
      exact N0 <| Dn <| hk8 _ _ <| Zf <| Run.skip <| hk2 _ _ <| Zs fun _ hk9 => Sg 0 E3 <| Zl hk9 <| Run.ret <| Je E2 ⟨congrArg (Value.int .i64) (by unfold fitsF; rw [if_neg c12, if_neg (by rintro ⟨⟨h1, h2⟩, h3⟩; first | exact c17 h1 | exact c21 h2 | exact c31 h3), if_pos (addR_fit c38)]), rfl⟩
     ·refine Dp 5 E2 (Zu E2) <| De 6 <| Om [] rfl rfl ((Zg E2).eff) ?_
      rintro _ _ ⟨rfl, rfl⟩
      exact N0 <| Dn <| hk8 _ _ <| Zt <| Zs fun _ hk10 => Sg 0 E3 <| Zl hk10 <| Run.ret <| Je E2 ⟨congrArg (Value.int .i64) (by unfold fitsF; rw [if_neg c12, if_neg (by rintro ⟨⟨h1, h2⟩, h3⟩; first | exact c17 h1 | exact c21 h2 | exact c31 h3), if_neg (addR_not c38)]), rfl⟩
   ·refine Dp 7 E2 (QP.pick_t rfl rfl rfl) <| Dp 8 E2 (Zm E2) <| Ds 9 E3 <| Ds 10 E3 <| Ds 12 E3 <| Ds 13 E3 <| Ds 14 E3 <| De 11 <| One.skipD (o := _) rfl Kr (Want.no rfl rfl rfl rfl) rfl (ltN rfl) ?_
    refine De 15 <| One.skipD (o := _) rfl Kr (Want.no rfl rfl rfl rfl) rfl (ltN rfl) ?_
    refine Ds 16 E3 <| Dp 17 E2 (QP.pick_f rfl rfl rfl) <| De 18 <| Om [] rfl rfl ((Zg E2).eff) ?_
    rintro _ _ ⟨rfl, rfl⟩
    refine N0 <| Dn <| hk6 _ _ <| Zf <| Run.seq fun _ hk11 => Run.regionD (M := [0, 1, 0, 0, 15, 31, 63]) (q := 45) (r := 5) Kr ?_
    refine Dr 0 E2 (Z0 E2 g32 (Bs.sub _)) ?_
    refine Dr 2 E2 (Z0 E2 g49 (Tlv.enc_sub _)) ?_
    refine Dp 3 E2 (Zm E2) <| De 1 <| Om [2] rfl rfl (Zc E2 ce66 TN (fun F' hle hr => begin_spec F' src)) ?_
    rintro _ _ ⟨_, ⟨b35, rfl, rfl⟩, rfl⟩
    refine ⟨?_, ?_⟩
    ·rw [FM]
     refine ⟨?_, NO⟩
     ·refine Look.app ?_
      exact Lk E3 (Z0 E2 g49 (Tlv.enc_sub _))
    refine ?_
    refine J.app <| De 4 <| Om [] rfl rfl (Zc E2 ce69 Tk2 (fun F' hle hr => add_spec F' x hw (TlvIn.mono hx hle) hr32 (Decidable.of_not_not c12) (td := toldB src) (l := []) hm1 hm2 (by simp))) ?_
    rintro _ _ ⟨_, ⟨a38, c38_, rfl, rfl⟩, rfl⟩
    refine N0 <| J.app <| J.caseB (fun c38 => ?_) (fun c38 => ?_)
    ·refine Dp 5 E2 (Zu E2) <| De 6 <| Om [] rfl rfl ((Zg E2).eff) ?_
     rintro _ _ ⟨rfl, rfl⟩
     exact N0 <| Dn <| hk11 _ _ <| Zf <| Run.skip <| hk2 _ _ <| Zs fun _ hk12 => Sg 0 E3 <| Zl hk12 <| Run.ret <| Je E2 ⟨congrArg (Value.int .i64) (by unfold fitsF; rw [if_neg c12, if_neg (by rintro ⟨⟨h1, h2⟩, h3⟩; first | exact c17 h1 | exact c21 h2 | exact c31 h3), if_pos (addR_fit c38)]), rfl⟩
    ·refine Dp 5 E2 (Zu E2) <| De 6 <| Om [] rfl rfl ((Zg E2).eff) ?_
     rintro _ _ ⟨rfl, rfl⟩
     exact N0 <| Dn <| hk11 _ _ <| Zt <| Zs fun _ hk13 => Sg 0 E3 <| Zl hk13 <| Run.ret <| Je E2 ⟨congrArg (Value.int .i64) (by unfold fitsF; rw [if_neg c12, if_neg (by rintro ⟨⟨h1, h2⟩, h3⟩; first | exact c17 h1 | exact c21 h2 | exact c31 h3), if_neg (addR_not c38)]), rfl⟩
  ·refine Dp 3 E2 (Zm E2) <| Ds 4 E3 <| Ds 5 E3 <| Ds 6 E3 <| Dp 7 E2 (QP.pick_f rfl rfl rfl) <| Dp 8 E2 (Zm E2) <| Ds 9 E3 <| Ds 10 E3 <| Ds 12 E3 <| Ds 13 E3 <| Ds 14 E3 <| De 11 <| One.skipD (o := _) rfl Kr (Want.no rfl rfl rfl rfl) rfl (ltN rfl) ?_
   refine De 15 <| One.skipD (o := _) rfl Kr (Want.no rfl rfl rfl rfl) rfl (ltN rfl) ?_
   refine Ds 16 E3 <| Dp 17 E2 (QP.pick_f rfl rfl rfl) <| De 18 <| Om [] rfl rfl ((Zg E2).eff) ?_
   rintro _ _ ⟨rfl, rfl⟩
   refine N0 <| Dn <| hk6 _ _ <| Zf <| Run.seq fun _ hk14 => Run.regionD (M := [0, 1, 0, 0, 15, 31, 63]) (q := 45) (r := 5) Kr ?_
   refine Dr 0 E2 (Z0 E2 g32 (Bs.sub _)) ?_
   refine Dr 2 E2 (Z0 E2 g49 (Tlv.enc_sub _)) ?_
   refine Dp 3 E2 (Zm E2) <| De 1 <| Om [2] rfl rfl (Zc E2 ce66 TN (fun F' hle hr => begin_spec F' src)) ?_
   rintro _ _ ⟨_, ⟨b35, rfl, rfl⟩, rfl⟩
   refine ⟨?_, ?_⟩
   ·rw [FM]
    refine ⟨?_, NO⟩
    ·refine Look.app ?_
     exact Lk E3 (Z0 E2 g49 (Tlv.enc_sub _))
   refine ?_
   refine J.app <| De 4 <| Om [] rfl rfl (Zc E2 ce69 Tk2 (fun F' hle hr => add_spec F' x hw (TlvIn.mono hx hle) hr32 (Decidable.of_not_not c12) (td := toldB src) (l := []) hm1 hm2 (by simp))) ?_
   rintro _ _ ⟨_, ⟨a38, c38_, rfl, rfl⟩, rfl⟩
   refine N0 <| J.app <| J.caseB (fun c38 => ?_) (fun c38 => ?_)
   ·refine Dp 5 E2 (Zu E2) <| De 6 <| Om [] rfl rfl ((Zg E2).eff) ?_
    rintro _ _ ⟨rfl, rfl⟩
    exact N0 <| Dn <| hk14 _ _ <| Zf <| Run.skip <| hk2 _ _ <| Zs fun _ hk15 => Sg 0 E3 <| Zl hk15 <| Run.ret <| Je E2 ⟨congrArg (Value.int .i64) (by unfold fitsF; rw [if_neg c12, if_neg (by rintro ⟨⟨h1, h2⟩, h3⟩; first | exact c17 h1 | exact c21 h2 | exact c31 h3), if_pos (addR_fit c38)]), rfl⟩
   ·refine Dp 5 E2 (Zu E2) <| De 6 <| Om [] rfl rfl ((Zg E2).eff) ?_
    rintro _ _ ⟨rfl, rfl⟩
    exact N0 <| Dn <| hk14 _ _ <| Zt <| Zs fun _ hk16 => Sg 0 E3 <| Zl hk16 <| Run.ret <| Je E2 ⟨congrArg (Value.int .i64) (by unfold fitsF; rw [if_neg c12, if_neg (by rintro ⟨⟨h1, h2⟩, h3⟩; first | exact c17 h1 | exact c21 h2 | exact c31 h3), if_neg (addR_not c38)]), rfl⟩

theorem new_spec (F : Fr) (src : Bs 16) (mtu : Int) : Spec Tryz.prog 36 #[.agg (Bs.enc src).toArray, .int .i64 mtu] [] F (fun v S => if mtu < 64 ∨ mtu > 65539 then v = .tuple #[.pointer none, .int .i64 2] ∧ S = [] else ∃ b, v = .tuple #[.pointer (some ⟨b, 0, none⟩), .int .i64 0] ∧ S = [blk b (PackBuffer.enc ⟨src, mtu, Slc.zero⟩) 150]) := by
 refine Spec.intro (N := 16) (args := [.agg (Bs.enc src).toArray, .int .i64 mtu]) Tryz.func36 rfl rfl (by simp) ?_
 refine Zs fun _ hk1 => Ef 0 E2 (EF.boxA rfl rfl) ?_
 rintro _ _ ⟨b2, rfl, rfl⟩
 refine Sg 1 E3 <| Sg 2 E3 <| Zl hk1 <| Run.seq fun _ hk2 => Zs fun _ hk3 => Mv 0 E3 <| Qp 1 E2 (Zb E3) <| J.caseD (fun c7 => ?_) (fun c7 => ?_)
 ·exact Mv 2 E3 <| Sk 3 E3 <| Sk 4 E3 <| Pt 5 E4 <| Zl hk3 <| Zt <| Zs fun _ hk4 => Sg 0 E3 <| Sg 1 E3 <| Zl hk4 <| Run.ret <| J.ends (m := []) (res_tmp2 rfl rfl rfl) TN (by rw [if_pos (by first | exact .inl c7 | exact .inr c10)]; exact ⟨rfl, rfl⟩)
 ·refine Mv 2 E3 <| Ym 3 E4 <| Yp 4 E3 (QP.gtr rfl rfl rfl) <| J.caseD (fun c10 => ?_) (fun c10 => ?_)
  ·exact Pf 5 E4 <| Zl hk3 <| Zt <| Zs fun _ hk5 => Sg 0 E3 <| Sg 1 E3 <| Zl hk5 <| Run.ret <| J.ends (m := []) (res_tmp2 rfl rfl rfl) TN (by rw [if_pos (by first | exact .inl c7 | exact .inr c10)]; exact ⟨rfl, rfl⟩)
  ·refine Pf 5 E4 <| Zl hk3 <| Zf <| Run.skip <| hk2 _ _ <| Zs fun _ hk6 => Qq 0 E2 (Z0 E2 g32 (Bs.sub _)) ?_
   refine Mv 1 E3 <| Qp 2 E2 (QP.build (l := PackBuffer.enc ⟨(src), (mtu), Slc.zero⟩) rfl st150 rfl (by exact ⟨(congrArg some (Bs.len _).symm), ⟨rfl, trivial⟩⟩) rfl) <| Ef 3 E2 (EF.boxA rfl rfl) ?_
   rintro _ _ ⟨b15, rfl, rfl⟩
   exact Sg 4 E3 <| Sg 5 E3 <| Zl hk6 <| Run.ret <| J.ends (m := [blk b15 (PackBuffer.enc ⟨src, mtu, Slc.zero⟩) 150]) (res_tmp2 rfl rfl rfl) Tk1 (by rw [if_neg (by rintro (h | h); exact c7 h; exact c10 h)]; exact ⟨b15, rfl, rfl⟩)
end Slb
