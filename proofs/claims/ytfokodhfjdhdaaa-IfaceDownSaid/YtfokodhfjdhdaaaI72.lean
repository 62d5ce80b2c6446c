/- I72: a part of the proof that a law of this package holds for every input; no condition. -/
import Derived.Test.YtfokodhfjdhdaaaM2
import Derived.Test.YtfokodhfjdhdaaaI71
namespace Slb
open Go Go.Proofs
set_option maxRecDepth 20000
def hIv (c : IfConf) : Int := IntKind.u16.wrap (if 65535 < IntKind.i64.wrap (c.hello.tdiv 10) then 65535 else IntKind.i64.wrap (c.hello.tdiv 10))
/-- A hello. -/
def helloT (c : IfConf) (next : Int) : Tlv := { Tlv.zero with type := 4, seqno := next, interval := hIv c }
def helloM (c : IfConf) (next now : Int) : Tlv × List Int := (helloT c next, if c.rtt.on_ = true then [IntKind.u32.wrap (IntKind.u32.wrap now * 1000)] else [])

theorem hello_up (F : Fr) {b : Nat} {a : Option Addr} {c : Nat} {bs : List Nat} (hS : InS F b a c bs) {i bi : Nat} (hi : bs[i]? = some bi) {o : IfaceOne} (hup : o.up = true) (now : Int)  : Spec Try.prog 15 #[.pointer (some ⟨b, 0, none⟩), .int .i64 now, .int .i64 (i : Int)] [blk bi (IfaceOne.enc o) 76] F (fun v S => ∃ y : TlvX, v = .tuple #[.agg (Tlv.enc (tlvS y)).toArray, .int .i64 0] ∧ tlvM y = helloM o.ifConf o.next now ∧ S = [blk bi (IfaceOne.enc ({ o with next := IntKind.u16.wrap (o.next + 1) } : IfaceOne)) 76, stA y]) := by
 refine Spec.intro (N := 52) (args := [.pointer (some ⟨b, 0, none⟩), .int .i64 now, .int .i64 (i : Int)]) Try.func15 rfl rfl (by simp) ?_
 refine Run.seq fun k1 hk1 => Run.region ?_
 show Sq _ _ _ [0, 1] _ _ _ _
 refine Ef 0 rfl rfl (EF.allocA (l := Tlv.enc Tlv.zero) rfl zero46) ?_
 rintro _ _ ⟨b6, rfl, rfl⟩
 refine Sg 1 rfl rfl rfl <| Sq.nil <| hk1 _ _ <| Run.seq fun k2 hk2 => Run.region ?_
 show Sq _ _ _ [0, 1, 2, 3, 4, 5, 6, 7] _ _ _ _
 refine Mv 0 rfl rfl rfl <| Mv 1 rfl rfl rfl <| Ef 2 rfl rfl (EF.call rfl ce22 rfl Tk1 (fun F' hle hr => (ready_ok F' (hS.mono hle) hi).mono (fun v S hv => (show v = .tuple #[.pointer (some ⟨bi, 0, none⟩), .int .i64 0] ∧ S = [blk bi (IfaceOne.enc o) 76] from ⟨by rw [hv.1, if_pos hup], hv.2⟩)))) ?_
 rintro _ _ ⟨_, ⟨rfl, rfl⟩, rfl⟩
 refine J.app ?_
 refine Mv 3 rfl rfl rfl <| Qp 4 rfl rfl (QP.extract rfl rfl rfl) <| Qp 5 rfl rfl (QP.extract rfl rfl rfl) <| Sg 6 rfl rfl rfl <| Sg 7 rfl rfl rfl <| Sq.nil <| hk2 _ _ <| Run.seq fun k3 hk3 => Run.seq fun k4 hk4 => Run.region ?_
 show Sq _ _ _ [0, 1] _ _ _ _
 refine Mv 0 rfl rfl rfl <| Qp 1 rfl rfl (QP.neq rfl rfl rfl) <| Sq.nil <| hk4 _ _ <| Run.cond_f rfl <| Run.skip <| hk3 _ _ <| Run.seq fun k5 hk5 => Run.regionD (M := [0, 1, 3, 7, 0, 16, 48, 112, 240, 496, 1008, 2032, 4095, 0, 16383]) (q := 8191) (r := 264) Kr ?_
 refine Dp 0 rfl rfl (QP.move rfl rfl) <| Dp 1 rfl rfl (QP.nilCheck rfl rfl) <| Dp 2 rfl rfl (QP.fieldAddr rfl rfl f76_2) <| Dr 3 rfl rfl (QR.load1 rfl rfl g37 (IfaceOne.sub_next _)) ?_
 refine Dp 4 rfl rfl (QP.move rfl rfl) <| Dp 5 rfl rfl (QP.nilCheck rfl rfl) <| Dp 6 rfl rfl (QP.fieldAddr rfl rfl f76_0) <| Dp 7 rfl rfl (QP.fieldAddr rfl rfl f27_3) <| Dr 8 rfl rfl (QR.load1 rfl rfl g3 ((IfaceOne.sub_ifConf _).trans (IfConf.sub_hello _))) ?_
 refine Dp 9 rfl rfl (QP.quo rfl rfl rfl (by decide)) <| Dp 10 rfl rfl (QP.min2 rfl rfl rfl) <| Dp 11 rfl rfl (QP.conv rfl rfl Try.underlying3 Try.underlying37) <| Dp 12 rfl rfl (QP.build (l := Tlv.enc (helloT o.ifConf o.next)) rfl st46 rfl (by exact ⟨rfl, rfl, rfl, trivial⟩) rfl) <| De 13 <| Om [8, 3] rfl rfl (EF.allocA (l := Tlv.enc Tlv.zero) rfl zero46) ?_
 rintro _ _ ⟨b10, rfl, rfl⟩
 refine ⟨?_, ?_⟩
 ·rw [List.forall_mem_cons, List.forall_mem_cons]
  refine ⟨?_, ?_, fun _ h => (by cases h)⟩
  ·exact Look.mk rfl rfl rfl (QR.load1 rfl rfl g3 ((IfaceOne.sub_ifConf _).trans (IfConf.sub_hello _)))
  ·exact Look.mk rfl rfl rfl (QR.load1 rfl rfl g37 (IfaceOne.sub_next _))
 refine ?_
 refine De 14 <| Oa [] rfl (EF.storeA rfl rfl rfl z46 (SetL.all (Tlv.enc_len _) (Tlv.enc_len _)) (Tlv.enc_cell _)) ?_
 rintro _ _ rfl
 refine ⟨fun _ h => (by cases h), ?_⟩
 refine Dn <| hk5 _ _ <| Run.seq fun k6 hk6 => Run.region ?_
 show Sq _ _ _ [0, 1, 2, 3, 4, 5, 6, 7] _ _ _ _
 refine Mv 0 rfl rfl rfl <| Qp 1 rfl rfl (QP.nilCheck rfl rfl) <| Fa 2 rfl rfl rfl f76_2 <| Qq 3 rfl rfl (QR.load1 rfl rfl g37 (IfaceOne.sub_next _)) ?_
 refine Qp 4 rfl rfl (QP.add rfl rfl rfl) <| Qp 5 rfl rfl (QP.nilCheck rfl rfl) <| Fa 6 rfl rfl rfl f76_2 <| Ac 7 rfl (EF.store rfl rfl rfl z37 (IfaceOne.set_next _ _) (cell_one rfl)) ?_
 rintro _ _ rfl
 refine Sq.nil <| hk6 _ _ <| Run.seq fun k7 hk7 => Run.seq fun k8 hk8 => Run.region ?_
 show Sq _ _ _ [0, 1, 2, 3, 4, 5] _ _ _ _
 refine Mv 0 rfl rfl rfl <| Qp 1 rfl rfl (QP.nilCheck rfl rfl) <| Fa 2 rfl rfl rfl f76_0 <| Fa 3 rfl rfl rfl f27_8 <| Fa 4 rfl rfl rfl f25_0 <| Qq 5 rfl rfl (QR.load1 rfl rfl g4 (((IfaceOne.sub_ifConf _).trans (IfConf.sub_rtt _)).trans (Rtt.sub_on_ _))) ?_
 refine J.caseB (fun c46 => ?_) (fun c46 => ?_)
 ·refine Sq.nil <| hk8 _ _ <| Run.cond_t rfl <| Run.region ?_
  show Sq _ _ _ [0, 1, 2, 3, 4] _ _ _ _
  refine Mv 0 rfl rfl rfl <| Ef 1 rfl rfl (EF.call rfl ce31 rfl Takes.nil (fun F' hle hr => clock_spec F' now)) ?_
  rintro _ _ ⟨_, ⟨m, rfl, hm, hmc, rfl⟩, rfl⟩
  refine J.app ?_
  refine Ef 2 rfl rfl (EF.buildSliceS rfl Try.underlying44 z94 zero94 rfl (by decide) rfl rfl rfl rfl) ?_
  rintro _ _ ⟨b49, rfl, rfl⟩
  refine Fa 3 rfl rfl rfl f46_12 <| Ac 4 rfl (EF.store rfl rfl rfl z44 (Tlv.set_stamps _ (⟨some ⟨b49, 0, none⟩, 1, 1⟩ : Slc)) (cell_one rfl)) ?_
  rintro _ _ rfl
  refine Sq.nil <| hk7 _ _ <| Run.seq fun k9 hk9 => Run.region ?_
  show Sq _ _ _ [0, 1, 2] _ _ _ _
  refine Qq 0 rfl rfl (QR.load rfl rfl g46 (Tlv.enc_sub _)) ?_
  refine Ac 1 rfl (EF.storeA rfl rfl rfl z46 (SetL.all (Tlv.enc_len _) (Tlv.enc_len _)) (Tlv.enc_cell _)) ?_
  rintro _ _ rfl
  refine Sg 2 rfl rfl rfl <| Sq.nil <| hk9 _ _ <| Run.ret <| J.close (A := slA 94 1 u32E (.slice (some ⟨b49, 0, none⟩) 1 1) [m]) (m := [blk b49 [.int .u32 m] 94]) Tk1 (fun _ q => slA_blk (xs := [m]) rfl q) ?_
  exact J.ends (res_cell2 rfl rfl g46 (Tlv.enc_sub _) rfl) Tk2 ⟨⟨(helloT o.ifConf o.next), some ⟨b49, 0, none⟩, 1, [m]⟩, rfl, by unfold helloM; rw [if_pos c46, ← hmc]; rfl, rfl⟩
 ·refine Sq.nil <| hk8 _ _ <| Run.cond_f rfl <| Run.skip <| hk7 _ _ <| Run.seq fun k10 hk10 => Run.region ?_
  show Sq _ _ _ [0, 1, 2] _ _ _ _
  refine Qq 0 rfl rfl (QR.load rfl rfl g46 (Tlv.enc_sub _)) ?_
  refine Ac 1 rfl (EF.storeA rfl rfl rfl z46 (SetL.all (Tlv.enc_len _) (Tlv.enc_len _)) (Tlv.enc_cell _)) ?_
  rintro _ _ rfl
  refine Sg 2 rfl rfl rfl <| Sq.nil <| hk10 _ _ <| Run.ret <| J.addSl 94 1 u32E ?_
  exact J.ends (res_cell2 rfl rfl g46 (Tlv.enc_sub _) rfl) Tk2 ⟨⟨(helloT o.ifConf o.next), none, 0, []⟩, rfl, by unfold helloM; rw [if_neg (by rw [show o.ifConf.rtt.on_ = false from c46]; simp)]; rfl, rfl⟩

end Slb
