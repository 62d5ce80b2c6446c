/- I80: a part of the proof that a law of this package holds for every input; no condition. -/
import Derived.Test.YtfokodhfjdhdaaaM2
import Derived.Test.YtfokodhfjdhdaaaI79
namespace Slb
open Go Go.Proofs
set_option maxRecDepth 20000
theorem conf_nil (F : Fr) (k : Int) : Spec Try.prog 17 #[.pointer none, .int .i64 k] [] F (fun v S => v = .tuple #[.agg (IfConf.enc IfConf.zero).toArray, .int .i64 7] ∧ S = []) := by
 refine Spec.intro (N := 22) (args := [.pointer none, .int .i64 k]) Try.func17 rfl rfl (by simp) ?_
 refine Run.seq fun k1 hk1 => Run.region ?_
 show Sq _ _ _ [0, 1] _ _ _ _
 refine Ef 0 rfl rfl (EF.allocA (l := IfConf.enc IfConf.zero) rfl zero27) ?_
 rintro _ _ ⟨b4, rfl, rfl⟩
 refine Sg 1 rfl rfl rfl <| Sq.nil <| hk1 _ _ <| Run.seq fun k2 hk2 => Run.region ?_
 show Sq _ _ _ [0, 1, 2, 3, 4, 5, 6, 7] _ _ _ _
 refine Mv 0 rfl rfl rfl <| Mv 1 rfl rfl rfl <| Ef 2 rfl rfl (EF.call rfl ce25 rfl Takes.nil (fun F' hle hr => get_nil F' k)) ?_
 rintro _ _ ⟨_, ⟨rfl, rfl⟩, rfl⟩
 refine J.app ?_
 refine Mv 3 rfl rfl rfl <| Qp 4 rfl rfl (QP.extract rfl rfl rfl) <| Qp 5 rfl rfl (QP.extract rfl rfl rfl) <| Sg 6 rfl rfl rfl <| Sg 7 rfl rfl rfl <| Sq.nil <| hk2 _ _ <| Run.seq fun k3 hk3 => Run.seq fun k4 hk4 => Run.region ?_
 show Sq _ _ _ [0, 1] _ _ _ _
 refine Mv 0 rfl rfl rfl <| Qp 1 rfl rfl (QP.neq rfl rfl rfl) <| Sq.nil <| hk4 _ _ <| Run.cond_t rfl <| Run.seq fun k5 hk5 => Run.region ?_
 show Sq _ _ _ [0, 1, 2, 3] _ _ _ _
 refine Qp 0 rfl rfl (QP.build (l := IfConf.enc IfConf.zero) rfl st27 rfl (by exact trivial) rfl) <| Mv 1 rfl rfl rfl <| Ac 2 rfl (EF.storeA rfl rfl rfl z27 (SetL.all (IfConf.enc_len _) (IfConf.enc_len _)) (IfConf.enc_cell _)) ?_
 rintro _ _ rfl
 refine Sg 3 rfl rfl rfl <| Sq.nil <| hk5 _ _ <| Run.ret ?_
 exact J.ends (res_cell2 rfl rfl g27 (IfConf.enc_sub _) rfl) Takes.nil ⟨rfl, rfl⟩

theorem find_nil (F : Fr) (s : ByteArray) : Spec Try.prog 18 #[.pointer none, .string s] [] F (fun v S => v = .tuple #[.int .i64 0, .bool false] ∧ S = []) := by
 refine Spec.intro (N := 19) (args := [.pointer none, .string s]) Try.func18 rfl rfl (by simp) ?_
 refine Run.seq fun k1 hk1 => Run.region ?_
 show Sq _ _ _ [0, 1, 2] _ _ _ _
 refine Ef 0 rfl rfl (EF.box1 rfl rfl rfl) ?_
 rintro _ _ ⟨b3, rfl, rfl⟩
 refine Sg 1 rfl rfl rfl <| Sg 2 rfl rfl rfl <| Sq.nil <| hk1 _ _ <| Run.seq fun k2 hk2 => Run.seq fun k3 hk3 => Run.region ?_
 show Sq _ _ _ [0, 1] _ _ _ _
 refine Mv 0 rfl rfl rfl <| Qp 1 rfl rfl (QP.ptr_eq_nil rfl rfl rfl Try.underlying31) <| Sq.nil <| hk3 _ _ <| Run.cond_t rfl <| Run.seq fun k4 hk4 => Run.region ?_
 show Sq _ _ _ [0, 1] _ _ _ _
 refine Sg 0 rfl rfl rfl <| Sg 1 rfl rfl rfl <| Sq.nil <| hk4 _ _ <| Run.ret ?_
 exact J.ends (res_tmp2 rfl rfl rfl) Takes.nil ⟨rfl, rfl⟩

theorem queue_nil (F : Fr) (k : Int) (to : Bs 16) {a3 : Option Addr} {n3 c3 : Nat}  : Spec Try.prog 11 #[.pointer none, .int .i64 k, .agg (Bs.enc to).toArray, .slice a3 n3 c3] [] F (fun v S => v = .int .i64 7 ∧ S = []) := by
 refine Spec.intro (N := 69) (args := [.pointer none, .int .i64 k, .agg (Bs.enc to).toArray, .slice a3 n3 c3]) Try.func11 rfl rfl (by simp) ?_
 refine Run.seq fun k1 hk1 => Run.region ?_
 show Sq _ _ _ [0, 1] _ _ _ _
 refine Ef 0 rfl rfl (EF.boxA rfl rfl) ?_
 rintro _ _ ⟨b6, rfl, rfl⟩
 refine Sg 1 rfl rfl rfl <| Sq.nil <| hk1 _ _ <| Run.seq fun k2 hk2 => Run.region ?_
 show Sq _ _ _ [0, 1, 2, 3, 4, 5, 6, 7] _ _ _ _
 refine Mv 0 rfl rfl rfl <| Mv 1 rfl rfl rfl <| Ef 2 rfl rfl (EF.call rfl ce22 rfl Takes.nil (fun F' hle hr => ready_nil F' k)) ?_
 rintro _ _ ⟨_, ⟨rfl, rfl⟩, rfl⟩
 refine J.app ?_
 refine Mv 3 rfl rfl rfl <| Qp 4 rfl rfl (QP.extract rfl rfl rfl) <| Qp 5 rfl rfl (QP.extract rfl rfl rfl) <| Sg 6 rfl rfl rfl <| Sg 7 rfl rfl rfl <| Sq.nil <| hk2 _ _ <| Run.seq fun k3 hk3 => Run.seq fun k4 hk4 => Run.region ?_
 show Sq _ _ _ [0, 1] _ _ _ _
 refine Mv 0 rfl rfl rfl <| Qp 1 rfl rfl (QP.neq rfl rfl rfl) <| Sq.nil <| hk4 _ _ <| Run.cond_t rfl <| Run.seq fun k5 hk5 => Run.region ?_
 show Sq _ _ _ [0, 1] _ _ _ _
 refine Mv 0 rfl rfl rfl <| Sg 1 rfl rfl rfl <| Sq.nil <| hk5 _ _ <| Run.ret ?_
 exact J.ends (res_tmp rfl rfl) Takes.nil ⟨rfl, rfl⟩

theorem flushNil_spec (F : Fr)  : Spec Try.prog 14 #[.pointer none] [] F (fun v S => v = .slice none 0 0 ∧ S = []) := by
 refine Spec.intro (N := 58) (args := [.pointer none]) Try.func14 rfl rfl (by simp) ?_
 refine Run.seq fun k1 hk1 => Run.region ?_
 show Sq _ _ _ [0] _ _ _ _
 refine Sg 0 rfl rfl rfl <| Sq.nil <| hk1 _ _ <| Run.seq fun k2 hk2 => Run.seq fun k3 hk3 => Run.region ?_
 show Sq _ _ _ [0, 1] _ _ _ _
 refine Mv 0 rfl rfl rfl <| Qp 1 rfl rfl (QP.ptr_eq_nil rfl rfl rfl Try.underlying31) <| Sq.nil <| hk3 _ _ <| Run.cond_t rfl <| Run.seq fun k4 hk4 => Run.region ?_
 show Sq _ _ _ [0] _ _ _ _
 refine Sg 0 rfl rfl rfl <| Sq.nil <| hk4 _ _ <| Run.ret ?_
 exact J.ends (res_tmp rfl rfl) Takes.nil ⟨rfl, rfl⟩

set_option maxHeartbeats 1000000 in
theorem law_nil14 (F : Fr) (k : Int) (to : Bs 16) : Spec Try.prog 5 #[.int .i64 k, .agg (Bs.enc to).toArray] [] F (fun v S => v = .bool true ∧ S = []) := by
 refine Spec.intro (N := 95) (args := [.int .i64 k, .agg (Bs.enc to).toArray]) Try.func5 rfl rfl (by simp) ?_
 refine Run.seq fun k1 hk1 => Run.region ?_
 show Sq _ _ _ [0, 1] _ _ _ _
 refine Ef 0 rfl rfl (EF.boxA rfl rfl) ?_
 rintro _ _ ⟨b3, rfl, rfl⟩
 refine Sg 1 rfl rfl rfl <| Sq.nil <| hk1 _ _ <| Run.seq fun k2 hk2 => Run.region ?_
 show Sq _ _ _ [0] _ _ _ _
 refine Sg 0 rfl rfl rfl <| Sq.nil <| hk2 _ _ <| Run.seq fun k3 hk3 => Run.region ?_
 show Sq _ _ _ [0, 1, 2, 3, 4, 5, 6, 7, 8] _ _ _ _
 refine Mv 0 rfl rfl rfl <| Mv 1 rfl rfl rfl <| Ef 2 rfl rfl (EF.call rfl ce17 rfl Takes.nil (fun F' hle hr => conf_nil F' k)) ?_
 rintro _ _ ⟨_, ⟨rfl, rfl⟩, rfl⟩
 refine J.app ?_
 refine Mv 3 rfl rfl rfl <| Qp 4 rfl rfl (QP.extract rfl rfl rfl) <| Qp 5 rfl rfl (QP.extract rfl rfl rfl) <| Ef 6 rfl rfl (EF.allocA (l := IfConf.enc IfConf.zero) rfl zero27) ?_
 rintro _ _ ⟨b6, rfl, rfl⟩
 refine Ac 7 rfl (EF.storeA rfl rfl rfl z27 (SetL.all (IfConf.enc_len _) (IfConf.enc_len _)) (IfConf.enc_cell _)) ?_
 rintro _ _ rfl
 refine Sg 8 rfl rfl rfl <| Sq.nil <| hk3 _ _ <| Run.seq fun k4 hk4 => Run.region ?_
 show Sq _ _ _ [0, 1, 2, 3, 4, 5, 6] _ _ _ _
 refine Mv 0 rfl rfl rfl <| Ef 1 rfl rfl (EF.call rfl ce18 rfl Takes.nil (fun F' hle hr => find_nil F' _)) ?_
 rintro _ _ ⟨_, ⟨rfl, rfl⟩, rfl⟩
 refine J.app ?_
 refine Mv 2 rfl rfl rfl <| Qp 3 rfl rfl (QP.extract rfl rfl rfl) <| Qp 4 rfl rfl (QP.extract rfl rfl rfl) <| Sg 5 rfl rfl rfl <| Sg 6 rfl rfl rfl <| Sq.nil <| hk4 _ _ <| Run.seq fun k5 hk5 => Run.region ?_
 show Sq _ _ _ [0, 1, 2, 3, 4, 5, 6, 7, 8] _ _ _ _
 refine Mv 0 rfl rfl rfl <| Mv 1 rfl rfl rfl <| Ef 2 rfl rfl (EF.call rfl ce15 rfl Takes.nil (fun F' hle hr => hello_nil F' 0 k)) ?_
 rintro _ _ ⟨_, ⟨rfl, rfl⟩, rfl⟩
 refine J.app ?_
 refine Mv 3 rfl rfl rfl <| Qp 4 rfl rfl (QP.extract rfl rfl rfl) <| Qp 5 rfl rfl (QP.extract rfl rfl rfl) <| Ef 6 rfl rfl (EF.allocA (l := Tlv.enc Tlv.zero) rfl zero46) ?_
 rintro _ _ ⟨b10, rfl, rfl⟩
 refine Ac 7 rfl (EF.storeA rfl rfl rfl z46 (SetL.all (Tlv.enc_len _) (Tlv.enc_len _)) (Tlv.enc_cell _)) ?_
 rintro _ _ rfl
 refine Sg 8 rfl rfl rfl <| Sq.nil <| hk5 _ _ <| Run.seq fun k6 hk6 => Run.region ?_
 show Sq _ _ _ [0] _ _ _ _
 refine Sg 0 rfl rfl rfl <| Sq.nil <| hk6 _ _ <| Run.seq fun k7 hk7 => Run.region ?_
 show Sq _ _ _ [0, 1, 2, 3, 4, 5, 6, 7, 8, 9, 10, 11, 12, 13, 14, 15, 16, 17, 18, 19, 20, 21, 22, 23, 24, 25, 26, 27, 28, 29, 30, 31, 32, 33, 34, 35, 36, 37, 38, 39, 40, 41, 42, 43, 44, 45, 46, 47, 48, 49, 50, 51, 52, 53, 54, 55, 56, 57, 58, 59, 60, 61, 62, 63, 64, 65] _ _ _ _
 refine Mv 0 rfl rfl rfl <| Mv 1 rfl rfl rfl <| Ef 2 rfl rfl (EF.call rfl ce10 rfl Takes.nil (fun F' hle hr => up_nil F' k)) ?_
 rintro _ _ ⟨_, ⟨rfl, rfl⟩, rfl⟩
 refine J.app ?_
 refine Ef 3 rfl rfl (EF.call rfl ce9 rfl Takes.nil (fun F' hle hr => num14_spec F' _)) ?_
 rintro _ _ ⟨_, ⟨rfl, rfl⟩, rfl⟩
 refine J.app ?_
 refine Mv 4 rfl rfl rfl <| Qp 5 rfl rfl (QP.eql rfl rfl rfl) <| Mv 6 rfl rfl rfl <| Ym 7 rfl rfl rfl rfl <| Ym 8 rfl rfl rfl rfl <| Ye 9 rfl rfl rfl (EF.call rfl ce13 rfl Takes.nil (fun F' hle hr => down_nil F' k)) ?_
 rintro _ _ ⟨_, ⟨rfl, rfl⟩, rfl⟩
 refine J.app ?_
 refine Ye 10 rfl rfl rfl (EF.call rfl ce9 rfl Takes.nil (fun F' hle hr => num14_spec F' _)) ?_
 rintro _ _ ⟨_, ⟨rfl, rfl⟩, rfl⟩
 refine J.app ?_
 refine Ym 11 rfl rfl rfl rfl <| Yp 12 rfl rfl rfl (QP.eql rfl rfl rfl) <| Pt 13 rfl rfl rfl rfl <| Mv 14 rfl rfl rfl <| Ym 15 rfl rfl rfl rfl <| Ym 16 rfl rfl rfl rfl <| Ye 17 rfl rfl rfl (EF.call rfl ce16 rfl Takes.nil (fun F' hle hr => isUp_nil F' k)) ?_
 rintro _ _ ⟨_, ⟨rfl, rfl⟩, rfl⟩
 refine J.app ?_
 refine Yp 18 rfl rfl rfl (QP.not rfl rfl) <| Pt 19 rfl rfl rfl rfl <| Mv 20 rfl rfl rfl <| Ym 21 rfl rfl rfl rfl <| Ye 22 rfl rfl rfl (EF.call rfl ce9 rfl Takes.nil (fun F' hle hr => num14_spec F' _)) ?_
 rintro _ _ ⟨_, ⟨rfl, rfl⟩, rfl⟩
 refine J.app ?_
 refine Ym 23 rfl rfl rfl rfl <| Yp 24 rfl rfl rfl (QP.eql rfl rfl rfl) <| Pt 25 rfl rfl rfl rfl <| Mv 26 rfl rfl rfl <| Ym 27 rfl rfl rfl rfl <| Yp 28 rfl rfl rfl (QP.not rfl rfl) <| Pt 29 rfl rfl rfl rfl <| Mv 30 rfl rfl rfl <| Ym 31 rfl rfl rfl rfl <| Ye 32 rfl rfl rfl (EF.call rfl ce9 rfl Takes.nil (fun F' hle hr => num14_spec F' _)) ?_
 rintro _ _ ⟨_, ⟨rfl, rfl⟩, rfl⟩
 refine J.app ?_
 refine Ym 33 rfl rfl rfl rfl <| Yp 34 rfl rfl rfl (QP.eql rfl rfl rfl) <| Pt 35 rfl rfl rfl rfl <| Mv 36 rfl rfl rfl <| Yq 37 rfl rfl rfl (QR.load rfl rfl g46 (Tlv.enc_sub _)) ?_
 refine Yp 38 rfl rfl rfl (QP.build (l := Tlv.enc Tlv.zero) rfl st46 rfl (by exact trivial) rfl) <| Ye 39 rfl rfl rfl (EF.call rfl ce19 rfl Takes.nil (fun F' hle hr => rsame_spec F' (⟨Tlv.zero, none, 0, []⟩ : TlvX) (⟨Tlv.zero, none, 0, []⟩ : TlvX) (tlvIn_nil rfl) (tlvIn_nil rfl) (by simp))) ?_
 rintro _ _ ⟨_, ⟨rfl, rfl⟩, rfl⟩
 refine J.app ?_
 refine J.boolT (eqX_iff.2 rfl) ?_
 refine Pt 40 rfl rfl rfl rfl <| Mv 41 rfl rfl rfl <| Ym 42 rfl rfl rfl rfl <| Ym 43 rfl rfl rfl rfl <| Yq 44 rfl rfl rfl (QR.load rfl rfl g23 (Bs.sub _)) ?_
 refine Ye 45 rfl rfl rfl (EF.call rfl ce11 rfl Takes.nil (fun F' hle hr => queue_nil F' k to)) ?_
 rintro _ _ ⟨_, ⟨rfl, rfl⟩, rfl⟩
 refine J.app ?_
 refine Ye 46 rfl rfl rfl (EF.call rfl ce9 rfl Takes.nil (fun F' hle hr => num14_spec F' _)) ?_
 rintro _ _ ⟨_, ⟨rfl, rfl⟩, rfl⟩
 refine J.app ?_
 refine Ym 47 rfl rfl rfl rfl <| Yp 48 rfl rfl rfl (QP.eql rfl rfl rfl) <| Pt 49 rfl rfl rfl rfl <| Mv 50 rfl rfl rfl <| Ym 51 rfl rfl rfl rfl <| Ye 52 rfl rfl rfl (EF.call rfl ce14 rfl Takes.nil (fun F' hle hr => flushNil_spec F')) ?_
 rintro _ _ ⟨_, ⟨rfl, rfl⟩, rfl⟩
 refine J.app ?_
 refine Yp 53 rfl rfl rfl (QP.len rfl rfl rfl Try.underlying48) <| Yp 54 rfl rfl rfl (QP.eql rfl rfl rfl) <| J.decT (rfl) ?_
 refine Pt 55 rfl rfl rfl rfl <| Mv 56 rfl rfl rfl <| Ym 57 rfl rfl rfl rfl <| Ym 58 rfl rfl rfl rfl <| Ye 59 rfl rfl rfl (EF.call rfl ce12 rfl Takes.nil (fun F' hle hr => waiting_nil F' k)) ?_
 rintro _ _ ⟨_, ⟨rfl, rfl⟩, rfl⟩
 refine J.app ?_
 refine Yp 60 rfl rfl rfl (QP.eql rfl rfl rfl) <| Pt 61 rfl rfl rfl rfl <| Mv 62 rfl rfl rfl <| Ye 63 rfl rfl rfl (EF.call rfl ce7 rfl Takes.nil (fun F' hle hr => live14_spec F')) ?_
 rintro _ _ ⟨_, ⟨rfl, rfl⟩, rfl⟩
 refine J.app ?_
 refine Pt 64 rfl rfl rfl rfl <| Sg 65 rfl rfl rfl <| Sq.nil <| hk7 _ _ <| Run.ret ?_
 exact J.ends (res_tmp rfl rfl) Takes.nil ⟨rfl, rfl⟩

end Slb
