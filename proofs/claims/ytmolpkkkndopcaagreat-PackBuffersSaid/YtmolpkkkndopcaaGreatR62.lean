/- R62: a part of the proof that a law of this package holds for every input; no condition. -/
import Derived.Test.YtmolpkkkndopcaaGreatM2
import Derived.Test.YtmolpkkkndopcaaGreatR61
namespace Slb
open Go Go.Proofs
set_option maxRecDepth 20000
theorem raddr_spec (F : Fr) (a : Bs 16) : Spec Tryz.prog 30 #[.agg (Bs.enc a).toArray] [] F (fun v S => ∃ sv, v = .tuple #[.int .u8 ((adF a).1.toNat : Int), sv] ∧ S = [slA 23 1 bytE sv (adF a).2]) := by
 refine Spec.intro (N := 14) (args := [.agg (Bs.enc a).toArray]) Tryz.func30 rfl rfl (by simp) ?_
 refine Zs fun _ hk1 => Ef 0 E2 (EF.boxA rfl rfl) ?_
 rintro _ _ ⟨b1, rfl, rfl⟩
 refine Sg 1 E3 <| Sg 2 E3 <| Zl hk1 <| Run.seq fun _ hk2 => Run.block <| Zs fun _ hk3 => Qq 0 E2 (Z0 E2 g23 (Bs.sub _)) ?_
 refine Ef 1 E2 (EF.call rfl ce50 rfl Takes.nil (fun F' hle hr => rlocal_spec F' a)) ?_
 rintro _ _ ⟨_, ⟨rfl, rfl⟩, rfl⟩
 refine J.app <| J.caseB (fun c6 => ?_) (fun c6 => ?_)
 ·refine Sg 2 E3 <| Zl hk3 <| Zt <| Run.seq fun _ hk4 => Run.regionM (M := [0, 0, 3]) (q := 1) (r := 0) mixedT Kr ?_
  refine Dp 0 E2 (QP.sliceArrLo rfl rfl rfl Tryz.underlying23 z5 (by decide) (by decide)) ?_
  rw [off8]
  refine De 1 <| Om [] rfl rfl ((Zg E2).eff) ?_
  rintro _ _ ⟨rfl, rfl⟩
  refine ⟨fun _ h => (by cases h), ?_⟩
  refine De 2 <| Om [] rfl rfl ((Zg E2).eff) ?_
  rintro _ _ ⟨rfl, rfl⟩
  refine ⟨fun _ h => (by cases h), ?_⟩
  refine Dn <| hk4 _ _ <| Run.ret ?_
  have hA : adF a = (3, (a.l.drop 8).take 8) := by unfold adF; rw [if_pos (of_decide_eq_true c6)]
  rw [hA]
  refine J.close (A := slA 23 1 bytE (.slice (some ⟨b1, 0 + 8, none⟩) 8 (16 - 8)) ((a.l.drop 8).take 8)) (m := [blk b1 (Bs.enc a) 23]) Tk1 (fun _ q => slA_arr (x := a) (Bs.sub a) (by omega) q) ?_
  exact J.ends (res_tmp2 rfl rfl rfl) Tk1 ⟨_, rfl, rfl⟩
 ·refine Sg 2 E3 <| Zl hk3 <| Zf <| Zs fun _ hk5 => Qq 0 E2 (Z0 E2 g23 (Bs.sub _)) ?_
  refine Ef 1 E2 (EF.call rfl ce44 rfl Takes.nil (fun F' hle hr => rfamily_spec F' a)) ?_
  rintro _ _ ⟨_, ⟨rfl, rfl⟩, rfl⟩
  refine J.app <| Qp 2 E2 (Ze E3) <| J.caseD (fun c11 => ?_) (fun c11 => ?_)
  ·refine Sg 3 E3 <| Zl hk5 <| Zt <| Run.seq fun _ hk6 => Run.regionM (M := [0, 0, 3]) (q := 1) (r := 0) mixedT Kr ?_
   refine Dp 0 E2 (QP.sliceArrLo rfl rfl rfl Tryz.underlying23 z5 (by decide) (by decide)) ?_
   rw [off12]
   refine De 1 <| Om [] rfl rfl ((Zg E2).eff) ?_
   rintro _ _ ⟨rfl, rfl⟩
   refine ⟨fun _ h => (by cases h), ?_⟩
   refine De 2 <| Om [] rfl rfl ((Zg E2).eff) ?_
   rintro _ _ ⟨rfl, rfl⟩
   refine ⟨fun _ h => (by cases h), ?_⟩
   refine Dn <| hk6 _ _ <| Run.ret ?_
   have hA : adF a = (1, (a.l.drop 12).take 4) := by unfold adF; rw [if_neg (of_decide_eq_false c6), if_pos c11]
   rw [hA]
   refine J.close (A := slA 23 1 bytE (.slice (some ⟨b1, 0 + 12, none⟩) 4 (16 - 12)) ((a.l.drop 12).take 4)) (m := [blk b1 (Bs.enc a) 23]) Tk1 (fun _ q => slA_arr (x := a) (Bs.sub a) (by omega) q) ?_
   exact J.ends (res_tmp2 rfl rfl rfl) Tk1 ⟨_, rfl, rfl⟩
  ·refine Sg 3 E3 <| Zl hk5 <| Zf <| Run.skip <| hk2 _ _ <| Run.seq fun _ hk7 => Run.regionM (M := [0, 0, 3]) (q := 1) (r := 0) mixedT Kr ?_
   refine Dp 0 E2 (QP.sliceArr rfl rfl Tryz.underlying23 z5) <| De 1 <| Om [] rfl rfl ((Zg E2).eff) ?_
   rintro _ _ ⟨rfl, rfl⟩
   refine ⟨fun _ h => (by cases h), ?_⟩
   refine De 2 <| Om [] rfl rfl ((Zg E2).eff) ?_
   rintro _ _ ⟨rfl, rfl⟩
   refine ⟨fun _ h => (by cases h), ?_⟩
   refine Dn <| hk7 _ _ <| Run.ret ?_
   have hA : adF a = (2, (a.l.drop 0).take 16) := by unfold adF; rw [if_neg (of_decide_eq_false c6), if_neg c11]
   rw [hA]
   refine J.close (A := slA 23 1 bytE (.slice (some ⟨b1, 0 + 0, none⟩) 16 (16 - 0)) ((a.l.drop 0).take 16)) (m := [blk b1 (Bs.enc a) 23]) Tk1 (fun _ q => slA_arr (x := a) (Bs.sub a) (by omega) q) ?_
   exact J.ends (res_tmp2 rfl rfl rfl) Tk1 ⟨_, rfl, rfl⟩

theorem rprefix_spec (F : Fr) {p : Prefix} (hp : checkB p = true)  : Spec Tryz.prog 51 #[.agg (Prefix.enc p).toArray] [] F (fun v S => ∃ sv, v = .tuple #[.int .u8 ((pxF p).1.toNat : Int), .int .u8 ((pxF p).2.1.toNat : Int), sv] ∧ S = [slA 40 1 bytE sv (pxF p).2.2]) := by
 have hv := checkB_len hp
 refine Spec.intro (N := 29) (args := [.agg (Prefix.enc p).toArray]) Tryz.func51 rfl rfl (by simp) ?_
 refine Zs fun _ hk1 => Ef 0 E2 (EF.boxA rfl rfl) ?_
 rintro _ _ ⟨b1, rfl, rfl⟩
 refine Sg 1 E3 <| Sg 2 E3 <| Sg 3 E3 <| Zl hk1 <| Run.seq fun _ hk2 => Zs fun _ hk3 => Qq 0 E2 (Z0 E2 g40 (Prefix.enc_sub _)) ?_
 refine Ef 1 E2 (EF.call rfl ce45 rfl Takes.nil (fun F' hle hr => rpfamily_spec F' p)) ?_
 rintro _ _ ⟨_, ⟨rfl, rfl⟩, rfl⟩
 refine J.app <| Qp 2 E2 (Ze E3) <| J.caseD (fun c8 => ?_) (fun c8 => ?_)
 ·refine Zl hk3 <| Zt <| Run.seq fun _ hk4 => Run.region ?_
  have h96 := pfam4 c8
  refine Fa 0 E3 f40_1 <| Qq 1 E2 (Z1 E2 g3 (Prefix.sub_len _)) ?_
  refine Qp 2 E2 (QP.sub64 rfl rfl rfl Og Og) <| Sg 3 E3 <| Zl hk4 <| Run.seq fun _ hk5 => Run.regionM (M := [0, 1, 0, 0, 8, 24, 56, 124, 0, 259, 1023]) (q := 255) (r := 0) mixedT Kr ?_
  refine Dp 0 E2 (Zm E2) <| Dp 1 E2 (QP.conv rfl rfl Tryz.underlying3 Tryz.underlying5) ?_
  rw [wrap_u8n (n := p.len.val - 96) (by omega)]
  refine Dp 2 E2 (Za E2 f40_0) <| Dp 3 E2 (Zm E2) <| Dp 4 E2 (QP.add64 rfl rfl rfl Og Og) <| Dp 5 E2 (QP.quo rfl rfl rfl (by decide)) ?_
  rw [quo8p (by omega) (by omega)]
  refine Dp 6 E2 (QP.add64 rfl rfl rfl Og Og) <| Dp 7 E2 (QP.sliceArrLoHi rfl rfl rfl rfl Tryz.underlying23 z5 (by decide) (by omega) (by omega)) ?_
  rw [show slOff (some ⟨b1, 0, none⟩) 16 (Int.toNat 12) 1 = some ⟨b1, 0 + 12, none⟩ from rfl, show (12 + (p.len.val - 96 + 7) / 8).toNat - Int.toNat 12 = ((p.len.val - 96 + 7) / 8).toNat by omega, show 16 - Int.toNat 12 = 16 - 12 from rfl]
  refine De 8 <| Om [] rfl rfl ((Zg E2).eff) ?_
  rintro _ _ ⟨rfl, rfl⟩
  refine ⟨fun _ h => (by cases h), ?_⟩
  refine De 9 <| Om [] rfl rfl ((Zg E2).eff) ?_
  rintro _ _ ⟨rfl, rfl⟩
  refine ⟨fun _ h => (by cases h), ?_⟩
  refine De 10 <| Om [] rfl rfl ((Zg E2).eff) ?_
  rintro _ _ ⟨rfl, rfl⟩
  refine ⟨fun _ h => (by cases h), ?_⟩
  refine Dn <| hk5 _ _ <| Run.ret ?_
  have hA : pxF p = (1, UInt8.ofNat (p.len.val - 96).toNat, (p.a.l.drop 12).take ((p.len.val - 96 + 7) / 8).toNat) := by unfold pxF; rw [if_pos c8]
  rw [hA]
  refine J.close (A := slA 40 1 bytE (.slice (some ⟨b1, 0 + 12, none⟩) ((p.len.val - 96 + 7) / 8).toNat (16 - 12)) ((p.a.l.drop 12).take ((p.len.val - 96 + 7) / 8).toNat)) (m := [blk b1 (Prefix.enc p) 40]) Tk1 (fun _ q => slA_arr (x := p.a) (Prefix.sub_a p) (by omega) q) ?_
  exact J.ends (res_tmp3 rfl rfl rfl rfl) Tk1 ⟨_, rfl, rfl⟩
 ·refine Zl hk3 <| Zf <| Run.skip <| hk2 _ _ <| Run.seq fun _ hk6 => Run.regionM (M := [0, 1, 3, 0, 0, 16, 48, 112, 248, 0, 519, 2047]) (q := 511) (r := 34) mixedT Kr ?_
  refine Dp 0 E2 (Za E2 f40_1) <| Dr 1 E2 (Z1 E2 g3 (Prefix.sub_len _)) ?_
  refine Dp 2 E2 (QP.conv rfl rfl Tryz.underlying3 Tryz.underlying5) ?_
  rw [wrap_u8n (n := p.len.val) (by omega)]
  refine Dp 3 E2 (Za E2 f40_0) <| Dp 4 E2 (Za E2 f40_1) <| Dr 5 E2 (Z1 E2 g3 (Prefix.sub_len _)) ?_
  refine Dp 6 E2 (QP.add64 rfl rfl rfl Og Og) <| Dp 7 E2 (QP.quo rfl rfl rfl (by decide)) ?_
  rw [quo8p (by omega) (by omega)]
  refine Dp 8 E2 (QP.sliceArrHi rfl rfl rfl Tryz.underlying23 z5 (by omega) (by omega) (by decide)) ?_
  rw [show (((p.len.val + 7) / 8 : Int)).toNat = ((p.len.val + 7) / 8).toNat from rfl]
  refine De 9 <| Om [5, 1] rfl rfl ((Zg E2).eff) ?_
  rintro _ _ ⟨rfl, rfl⟩
  refine ⟨?_, ?_⟩
  ·rw [List.forall_mem_cons, List.forall_mem_cons]
   refine ⟨?_, ?_, fun _ h => (by cases h)⟩
   ·exact Look.mk rfl rfl rfl (Z1 E2 g3 (Prefix.sub_len _))
   ·exact Look.mk rfl rfl rfl (Z1 E2 g3 (Prefix.sub_len _))
  refine ?_
  refine De 10 <| Om [5] rfl rfl ((Zg E2).eff) ?_
  rintro _ _ ⟨rfl, rfl⟩
  refine ⟨?_, ?_⟩
  ·rw [List.forall_mem_cons]
   refine ⟨?_, fun _ h => (by cases h)⟩
   ·exact Look.mk rfl rfl rfl (Z1 E2 g3 (Prefix.sub_len _))
  refine ?_
  refine De 11 <| Om [] rfl rfl ((Zg E2).eff) ?_
  rintro _ _ ⟨rfl, rfl⟩
  refine ⟨fun _ h => (by cases h), ?_⟩
  refine Dn <| hk6 _ _ <| Run.ret ?_
  have hA : pxF p = (2, UInt8.ofNat p.len.val.toNat, (p.a.l.drop 0).take ((p.len.val + 7) / 8).toNat) := by unfold pxF; rw [if_neg c8]
  rw [hA]
  refine J.close (A := slA 40 1 bytE (.slice (some ⟨b1, 0 + 0, none⟩) ((p.len.val + 7) / 8).toNat (16 - 0)) ((p.a.l.drop 0).take ((p.len.val + 7) / 8).toNat)) (m := [blk b1 (Prefix.enc p) 40]) Tk1 (fun _ q => slA_arr (x := p.a) (Prefix.sub_a p) (by omega) q) ?_
  exact J.ends (res_tmp3 rfl rfl rfl rfl) Tk1 ⟨_, rfl, rfl⟩
end Slb
