/- J72: a part of the proof that a law of this package holds for every input; no condition. -/
import Derived.Test.YtfokodhfjdhdaaaGreatM2
import Derived.Test.YtfokodhfjdhdaaaGreatJ71
namespace Slb
open Go Go.Proofs
set_option maxRecDepth 20000
def hIv (c : IfConf) : Int := IntKind.u16.wrap (if 65535 < IntKind.i64.wrap (c.hello.tdiv 10) then 65535 else IntKind.i64.wrap (c.hello.tdiv 10))
/-- A hello. -/
def helloT (c : IfConf) (next : Int) : Tlv := { Tlv.zero with type := 4, seqno := next, interval := hIv c }
def helloM (c : IfConf) (next now : Int) : Tlv × List Int := (helloT c next, if c.rtt.on_ = true then [IntKind.u32.wrap (IntKind.u32.wrap now * 1000)] else [])

theorem hello_up (F : Fr) {b : Nat} {a : Option Addr} {c : Nat} {bs : List Nat} (hS : InS F b a c bs) {i bi : Nat} (hi : bs[i]? = some bi) {o : IfaceOne} (hup : o.up = true) (now : Int)  : Spec Tryz.prog 14 #[.pointer (some ⟨b, 0, none⟩), .int .i64 now, .int .i64 (i : Int)] [blk bi (IfaceOne.enc o) 91] F (fun v S => ∃ y : TlvX, v = .tuple #[.agg (Tlv.enc (tlvS y)).toArray, .int .i64 0] ∧ tlvM y = helloM o.ifConf o.next now ∧ S = [blk bi (IfaceOne.enc ({ o with next := IntKind.u16.wrap (o.next + 1) } : IfaceOne)) 91, stA y]) := by
 refine Spec.intro (N := 52) (args := [.pointer (some ⟨b, 0, none⟩), .int .i64 now, .int .i64 (i : Int)]) Tryz.func14 rfl rfl (by simp) ?_
 refine Zs fun _ hk1 => Ef 0 E2 (EF.allocA (l := Tlv.enc Tlv.zero) rfl zero49) ?_
 rintro _ _ ⟨b6, rfl, rfl⟩
 refine Sg 1 E3 <| Zl hk1 <| Zs fun _ hk2 => Mv 0 E3 <| Mv 1 E3 <| Ef 2 E2 (Zc E2 ce33 Tk1 (fun F' hle hr => (ready_ok F' (hS.mono hle) hi).mono (fun v S hv => (show v = .tuple #[.pointer (some ⟨bi, 0, none⟩), .int .i64 0] ∧ S = [blk bi (IfaceOne.enc o) 91] from ⟨by rw [hv.1, if_pos hup], hv.2⟩)))) ?_
 rintro _ _ ⟨_, ⟨rfl, rfl⟩, rfl⟩
 refine J.app <| Mv 3 E3 <| Qp 4 E2 (Zx E3) <| Qp 5 E2 (Zx E3) <| Sg 6 E3 <| Sg 7 E3 <| Zl hk2 <| Run.seq fun _ hk3 => Zs fun _ hk4 => Mv 0 E3 <| Qp 1 E2 (Zq E3) <| Zl hk4 <| Zf <| Run.skip <| hk3 _ _ <| Run.seq fun _ hk5 => Run.regionD (M := [0, 1, 3, 7, 0, 16, 48, 112, 240, 496, 1008, 2032, 4095, 0, 16383]) (q := 8191) (r := 264) Kr ?_
 refine Dp 0 E2 (Zm E2) <| Dp 1 E2 (Zn E2) <| Dp 2 E2 (Za E2 f91_2) <| Dr 3 E2 (Z1 E2 g40 (IfaceOne.sub_next _)) ?_
 refine Dp 4 E2 (Zm E2) <| Dp 5 E2 (Zn E2) <| Dp 6 E2 (Za E2 f91_0) <| Dp 7 E2 (Za E2 f65_3) <| Dr 8 E2 (Z1 E2 g3 ((IfaceOne.sub_ifConf _).trans (IfConf.sub_hello _))) ?_
 refine Dp 9 E2 (QP.quo rfl rfl rfl (by decide)) <| Dp 10 E2 (QP.min2 rfl rfl rfl) <| Dp 11 E2 (QP.conv rfl rfl Tryz.underlying3 Tryz.underlying40) <| Dp 12 E2 (QP.build (l := Tlv.enc (helloT o.ifConf o.next)) rfl st49 rfl (by exact ⟨rfl, rfl, rfl, trivial⟩) rfl) <| De 13 <| Om [8, 3] rfl rfl (EF.allocA (l := Tlv.enc Tlv.zero) rfl zero49) ?_
 rintro _ _ ⟨b10, rfl, rfl⟩
 refine ⟨?_, ?_⟩
 ·rw [FM, FM]
  refine ⟨?_, ?_, NO⟩
  ·exact Lk E3 (Z1 E2 g3 ((IfaceOne.sub_ifConf _).trans (IfConf.sub_hello _)))
  ·exact Lk E3 (Z1 E2 g40 (IfaceOne.sub_next _))
 refine ?_
 refine De 14 <| Oa [] rfl (EF.storeA rfl rfl rfl z49 (SetL.all (Tlv.enc_len _) (Tlv.enc_len _)) (Tlv.enc_cell _)) ?_
 rintro _ _ rfl
 refine N0 <| Dn <| hk5 _ _ <| Zs fun _ hk6 => Mv 0 E3 <| Qp 1 E2 (Zn E2) <| Fa 2 E3 f91_2 <| Qq 3 E2 (Z1 E2 g40 (IfaceOne.sub_next _)) ?_
 refine Qp 4 E2 (QP.add rfl rfl rfl) <| Qp 5 E2 (Zn E2) <| Fa 6 E3 f91_2 <| Ac 7 rfl (EF.store rfl rfl rfl z40 (IfaceOne.set_next _ _) (cell_one rfl)) ?_
 rintro _ _ rfl
 refine Zl hk6 <| Run.seq fun _ hk7 => Zs fun _ hk8 => Mv 0 E3 <| Qp 1 E2 (Zn E2) <| Fa 2 E3 f91_0 <| Fa 3 E3 f65_8 <| Fa 4 E3 f63_0 <| Qq 5 E2 (Z1 E2 g4 (((IfaceOne.sub_ifConf _).trans (IfConf.sub_rtt _)).trans (Rtt.sub_on_ _))) ?_
 refine J.caseB (fun c46 => ?_) (fun c46 => ?_)
 ·refine Zl hk8 <| Zt <| Run.region <| Mv 0 E3 <| Ef 1 E2 (Zc E2 ce34 TN (fun F' hle hr => clock_spec F' now)) ?_
  rintro _ _ ⟨_, ⟨m, rfl, hm, hmc, rfl⟩, rfl⟩
  refine J.app <| Ef 2 E2 (EF.buildSliceS rfl Tryz.underlying47 z101 zero101 rfl (by decide) rfl rfl rfl rfl) ?_
  rintro _ _ ⟨b49, rfl, rfl⟩
  refine Fa 3 E3 f49_12 <| Ac 4 rfl (EF.store rfl rfl rfl z47 (Tlv.set_stamps _ (⟨some ⟨b49, 0, none⟩, 1, 1⟩ : Slc)) (cell_one rfl)) ?_
  rintro _ _ rfl
  refine Zl hk7 <| Zs fun _ hk9 => Qq 0 E2 (Z0 E2 g49 (Tlv.enc_sub _)) ?_
  refine Ac 1 rfl (EF.storeA rfl rfl rfl z49 (SetL.all (Tlv.enc_len _) (Tlv.enc_len _)) (Tlv.enc_cell _)) ?_
  rintro _ _ rfl
  refine Sg 2 E3 <| Zl hk9 <| Run.ret <| J.close (A := slA 101 1 u32E (.slice (some ⟨b49, 0, none⟩) 1 1) [m]) (m := [blk b49 [.int .u32 m] 101]) Tk1 (fun _ q => slA_blk (xs := [m]) rfl q) ?_
  exact J.ends (res_cell2 rfl rfl g49 (Tlv.enc_sub _) rfl) Tk2 ⟨⟨(helloT o.ifConf o.next), some ⟨b49, 0, none⟩, 1, [m]⟩, rfl, by unfold helloM; rw [if_pos c46, ← hmc]; rfl, rfl⟩
 ·refine Zl hk8 <| Zf <| Run.skip <| hk7 _ _ <| Zs fun _ hk10 => Qq 0 E2 (Z0 E2 g49 (Tlv.enc_sub _)) ?_
  refine Ac 1 rfl (EF.storeA rfl rfl rfl z49 (SetL.all (Tlv.enc_len _) (Tlv.enc_len _)) (Tlv.enc_cell _)) ?_
  rintro _ _ rfl
  refine Sg 2 E3 <| Zl hk10 <| Run.ret <| J.addSl 101 1 u32E ?_
  exact J.ends (res_cell2 rfl rfl g49 (Tlv.enc_sub _) rfl) Tk2 ⟨⟨(helloT o.ifConf o.next), none, 0, []⟩, rfl, by unfold helloM; rw [if_neg (by rw [show o.ifConf.rtt.on_ = false from c46]; simp)]; rfl, rfl⟩

end Slb
