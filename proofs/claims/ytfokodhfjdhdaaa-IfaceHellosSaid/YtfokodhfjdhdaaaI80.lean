/- I80: a part of the proof that a law of this package holds for every input; no condition. -/
import Derived.Test.YtfokodhfjdhdaaaM2
import Derived.Test.YtfokodhfjdhdaaaI79
namespace Slb
open Go Go.Proofs
set_option maxRecDepth 20000
theorem turn_up (x : OneX) (u : Bool) : (turnX x u).up = u := by unfold turnX; split <;> simp_all
theorem turn_next (x : OneX) (u : Bool) : (turnX x u).next = x.next := by unfold turnX; split <;> rfl
theorem wrap16_succ (n : Nat) : IntKind.u16.wrap (IntKind.u16.wrap (n : Int) + 1) = IntKind.u16.wrap ((n + 1 : Nat) : Int) := by
  unfold IntKind.wrap
  simp only [show (IntKind.u16.bits : Nat) = 16 from rfl, show IntKind.u16.signed = false from rfl]
  simp

set_option maxHeartbeats 2000000 in
theorem law_hellos (F : Fr) (x : IfConf) {fs : List Bool} {a3 : Option Addr} {c3 : Nat} (hf : ArgSl F a3 1 (fun b : Bool => [Value.bool b]) fs) (hfn : fs.length ≤ 9223372036854775807)  : Spec Try.prog 4 #[.agg (IfConf.enc x).toArray, .slice a3 fs.length c3] [] F (fun v S => v = .bool true ∧ S = []) := by
 refine Spec.intro (N := 82) (args := [.agg (IfConf.enc x).toArray, .slice a3 fs.length c3]) Try.func4 rfl rfl (by simp) ?_
 refine Run.seq fun k1 hk1 => Run.region ?_
 show Sq _ _ _ [0, 1] _ _ _ _
 refine Ef 0 rfl rfl (EF.boxA rfl rfl) ?_
 rintro _ _ ⟨b2, rfl, rfl⟩
 refine Sg 1 rfl rfl rfl <| Sq.nil <| hk1 _ _ <| Run.seq fun k2 hk2 => Run.seq fun k3 hk3 => Run.region ?_
 show Sq _ _ _ [0, 1, 2, 3, 4, 5, 6, 7, 8] _ _ _ _
 refine Qq 0 rfl rfl (QR.load rfl rfl g27 (IfConf.enc_sub _)) ?_
 refine Ef 1 rfl rfl (EF.buildSlice1 rfl Try.underlying29 z27 zero27 (by simp [Value.cells, IfConf.enc_len]) (by decide) rfl rfl (IfConf.enc_len _) (by decide)) ?_
 rintro _ _ ⟨b11, rfl, rfl⟩
 refine Ef 2 rfl rfl (EF.call rfl ce6 rfl Takes.nil (fun F' hle hr => may_spec F' (cs := [x]) (a := some ⟨b11, 0, none⟩) (c := 1) (by simp) (argSl_all (xs := [x]) IfConf.enc_len (by have h9 := hr b11 (.cells (IfConf.enc x).toArray 27 (0, 0)) Rc; rw [show [x].flatMap IfConf.enc = IfConf.enc x by simp]; exact h9)) (by simp))) ?_
 rintro _ _ ⟨_, ⟨r12, rfl, hr12, rfl⟩, rfl⟩
 refine J.app ?_
 refine J.caseB (fun c12 => ?_) (fun c12 => ?_)
 ·refine Qp 3 rfl rfl (QP.not rfl rfl) <| Mv 4 rfl rfl rfl <| Ym 5 rfl rfl rfl rfl <| Yp 6 rfl rfl rfl (QP.len rfl rfl rfl Try.underlying54) <| Yp 7 rfl rfl rfl (QP.gtr rfl rfl rfl) <| J.caseD (fun c17 => ?_) (fun c17 => ?_)
  ·refine Pf 8 rfl rfl rfl rfl <| Sq.nil <| hk3 _ _ <| Run.cond_t rfl <| Run.seq fun k4 hk4 => Run.region ?_
   show Sq _ _ _ [0, 1] _ _ _ _
   refine Ef 0 rfl rfl (EF.call rfl ce7 rfl Takes.nil (fun F' hle hr => live14_spec F')) ?_
   rintro _ _ ⟨_, ⟨rfl, rfl⟩, rfl⟩
   refine J.app ?_
   refine Sg 1 rfl rfl rfl <| Sq.nil <| hk4 _ _ <| Run.ret ?_
   exact J.ends (res_tmp rfl rfl) Takes.nil ⟨rfl, rfl⟩
  ·refine Pf 8 rfl rfl rfl rfl <| Sq.nil <| hk3 _ _ <| Run.cond_f rfl <| Run.skip <| hk2 _ _ <| Run.seq fun k5 hk5 => Run.region ?_
   show Sq _ _ _ [0, 1, 2, 3] _ _ _ _
   refine Qq 0 rfl rfl (QR.load rfl rfl g27 (IfConf.enc_sub _)) ?_
   refine Ef 1 rfl rfl (EF.buildSlice1 rfl Try.underlying29 z27 zero27 (by simp [Value.cells, IfConf.enc_len]) (by decide) rfl rfl (IfConf.enc_len _) (by decide)) ?_
   rintro _ _ ⟨b21, rfl, rfl⟩
   refine Ef 2 rfl rfl (EF.call rfl ce8 rfl Takes.nil (fun F' hle hr => newS_spec F' (cs := [x]) (a := some ⟨b21, 0, none⟩) (c := 1) (argSl_all (xs := [x]) IfConf.enc_len (by have h9 := hr b21 (.cells (IfConf.enc x).toArray 27 (0, 0)) Rc; rw [show [x].flatMap IfConf.enc = IfConf.enc x by simp]; exact h9)) (by simp))) ?_
   rintro _ _ ⟨_, ⟨b0, rfl, rfl⟩, rfl⟩
   refine J.app ?_
   refine Sg 3 rfl rfl rfl <| Sq.nil <| hk5 _ _ <| Run.seq fun k6 hk6 => Run.seq fun k7 hk7 => Run.region ?_
   show Sq _ _ _ [0, 1] _ _ _ _
   refine Mv 0 rfl rfl rfl <| Qp 1 rfl rfl (QP.ptr_eq_nil rfl rfl rfl Try.underlying31) <| Sq.nil <| hk7 _ _ <| Run.cond_f rfl <| Run.skip <| hk6 _ _ <| Run.seq fun k8 hk8 => Run.region ?_
   show Sq _ _ _ [0] _ _ _ _
   refine Sg 0 rfl rfl rfl <| Sq.nil <| hk8 _ _ <| Run.seq fun k9 hk9 => Run.seq fun k10 hk10 => Run.region ?_
   show Sq _ _ _ [0] _ _ _ _
   refine Sg 0 rfl rfl rfl <| Sq.nil <| hk10 _ _ <| Run.block <| Run.loop3 (fun (i : Nat) (n : Nat) (x1 : OneX) => i ≤ fs.length ∧ x1.next = IntKind.u16.wrap (n : Int) ∧ n ≤ i) (fun i n x1 => .cons 1 (.slice a3 fs.length c3) (.cons 5 (.pointer (some ⟨b0, 0, none⟩)) (.cons 6 (.int .i64 n) (.cons 7 (.int .i64 i) (.nil))))) (fun i n x1 => [QS b0 [x1]]) (fun i n x1 => fs.length - i) (0) (0) (newX x) (⟨Nat.zero_le _, rfl, Nat.le_refl _⟩) ?_ ?_
   ·exact fun _ j => J.envJ (J.keep Tk1 j) ⟨rfl, rfl, rfl, rfl, trivial⟩
   rintro i n x1 ⟨hile, hnx, hni⟩ kl11 hl11
   refine Run.seq fun k12 hk12 => Run.seq fun k13 hk13 => Run.region ?_
   show Sq _ _ _ [0, 1, 2, 3] _ _ _ _
   refine Mv 0 rfl rfl rfl <| Mv 1 rfl rfl rfl <| Qp 2 rfl rfl (QP.len rfl rfl rfl Try.underlying54) <| Qp 3 rfl rfl (QP.lss rfl rfl rfl) <| J.caseD (fun c28 => ?_) (fun c28 => ?_)
   ·refine Sq.nil <| hk13 _ _ <| Run.cond_t rfl <| Run.skip <| hk12 _ _ <| Run.seq fun k14 hk14 => Run.block <| Run.seq fun k15 hk15 => Run.seq fun k16 hk16 => Run.region ?_
    show Sq _ _ _ [0, 1, 2, 3] _ _ _ _
    obtain ⟨fb, hif⟩ : ∃ b, fs[i]? = some b := ⟨_, List.getElem?_eq_getElem (by omega)⟩
    obtain ⟨q3, o3, rfl, hs3⟩ := hf.get (by omega)
    have hfl : fs.length ≤ 120 := by have h9 : ¬ (fs.length : Int) > 120 := c17; omega
    refine Mv 0 rfl rfl rfl <| Mv 1 rfl rfl rfl <| Qp 2 rfl rfl (QP.indexAddr rfl rfl rfl Try.underlying54 z4 Og Og) <| Qq 3 rfl rfl (QR.loadSl1 (ev := fun b : Bool => Value.bool b) rfl rfl g4 (hs3 _) hif) ?_
    refine J.caseB (fun c34 => ?_) (fun c34 => ?_)
    ·refine Sq.nil <| hk16 _ _ <| Run.cond_t rfl <| Run.region ?_
     show Sq _ _ _ [0, 1] _ _ _ _
     refine Mv 0 rfl rfl rfl <| Ef 1 rfl rfl (EF.call rfl ce10 rfl Tk1 (fun F' hle hr => upQ F' (b := b0) (i := 0) (M := [x1]) (x := x1) rfl)) ?_
     rintro _ _ ⟨_, ⟨rfl, rfl⟩, rfl⟩
     refine J.app ?_
     refine Sq.nil <| hk15 _ _ <| Run.seq fun k17 hk17 => Run.region ?_
     show Sq _ _ _ [0, 1, 2, 3, 4, 5, 6, 7, 8] _ _ _ _
     subst c34
     refine Mv 0 rfl rfl rfl <| Mv 1 rfl rfl rfl <| Ef 2 rfl rfl (EF.call rfl ce15 rfl Tk1 (fun F' hle hr => helloQ F' (b := b0) (i := 0) (M := [(turnX x1 true)]) (x := (turnX x1 true)) rfl (turn_up x1 true) (i : Int))) ?_
     rintro _ _ ⟨_, ⟨y, rfl, hy, rfl⟩, rfl⟩
     refine J.app ?_
     refine Mv 3 rfl rfl rfl <| Qp 4 rfl rfl (QP.extract rfl rfl rfl) <| Qp 5 rfl rfl (QP.extract rfl rfl rfl) <| Ef 6 rfl rfl (EF.allocA (l := Tlv.enc Tlv.zero) rfl zero46) ?_
     rintro _ _ ⟨b8, rfl, rfl⟩
     refine Ac 7 rfl (EF.storeA rfl rfl rfl z46 (SetL.all (Tlv.enc_len _) (Tlv.enc_len _)) (Tlv.enc_cell _)) ?_
     rintro _ _ rfl
     refine Sg 8 rfl rfl rfl <| Sq.nil <| hk17 _ _ <| Run.seq fun k18 hk18 => Run.seq fun k19 hk19 => Run.regionD (M := [0, 1, 3, 0, 0, 24, 56, 127, 255, 511, 1023, 511, 511, 6655, 14847, 32767, 65535, 131071, 262143, 262143, 1048575, 2097151, 4194303, 8388607, 16777215, 8388607, 41943039, 134217727, 268435455, 536870911]) (q := 1073740797) (r := 18890816) Kr ?_
     refine Dp 0 rfl rfl (QP.move rfl rfl) <| Dp 3 rfl rfl (QP.move rfl rfl) <| Dp 4 rfl rfl (QP.move rfl rfl) <| Dp 5 rfl rfl (QP.indexAddr rfl rfl rfl Try.underlying54 z4 Og Og) <| Dr 6 rfl rfl (QR.loadSl1 (ev := fun b : Bool => Value.bool b) rfl rfl g4 (hs3 _) hif) ?_
     refine De 1 <| Om [6] rfl rfl (EF.call rfl ce9 rfl Takes.nil (fun F' hle hr => num14_spec F' _)) ?_
     rintro _ _ ⟨_, ⟨rfl, rfl⟩, rfl⟩
     refine ⟨?_, ?_⟩
     ·rw [List.forall_mem_cons]
      refine ⟨?_, fun _ h => (by cases h)⟩
      ·refine Look.app ?_
       exact Look.mk rfl rfl rfl (QR.loadSl1 (ev := fun b : Bool => Value.bool b) rfl rfl g4 (hs3 _) hif)
     refine ?_
     refine J.app ?_
     refine Dp 2 rfl rfl (QP.eql rfl rfl rfl) <| Dp 7 rfl rfl (QP.neqB rfl rfl rfl Try.underlying4) <| J.boolF (rfl) ?_
     refine Dp 8 rfl rfl (QP.move rfl rfl) <| Dy 9 rfl rfl rfl (QP.move rfl rfl) <| Dy 11 rfl rfl rfl (QP.move rfl rfl) <| Dy 12 rfl rfl rfl (QP.move rfl rfl) <| Dy 13 rfl rfl rfl (QP.indexAddr rfl rfl rfl Try.underlying54 z4 Og Og) <| Dz 14 rfl rfl rfl (QR.loadSl1 (ev := fun b : Bool => Value.bool b) rfl rfl g4 (hs3 _) hif) ?_
     refine De 10 <| One.mk (o := _) (l := [14]) rfl Kr (Want.yes rfl rfl rfl rfl) rfl (ltN rfl) (EF.call rfl ce16 rfl Tk1 (fun F' hle hr => isUpQ F' (b := b0) (i := 0) (M := [(nextX (turnX x1 true))]) (x := (nextX (turnX x1 true))) rfl)) Kr ?_
     rintro _ _ ⟨_, ⟨rfl, rfl⟩, rfl⟩
     refine ⟨?_, ?_⟩
     ·rw [List.forall_mem_cons]
      refine ⟨?_, fun _ h => (by cases h)⟩
      ·refine Look.app ?_
       exact Look.mk rfl rfl rfl (QR.loadSl1 (ev := fun b : Bool => Value.bool b) rfl rfl g4 (hs3 _) hif)
     refine ?_
     refine J.app ?_
     refine J.boolT (turn_up x1 true) ?_
     refine Dy 15 rfl rfl rfl (QP.neqB rfl rfl rfl Try.underlying4) <| J.boolF (rfl) ?_
     refine Dp 16 rfl rfl (QP.pick_f rfl rfl rfl) <| Dp 17 rfl rfl (QP.move rfl rfl) <| Dy 18 rfl rfl rfl (QP.move rfl rfl) <| Dy 19 rfl rfl rfl (QP.move rfl rfl) <| Dy 20 rfl rfl rfl (QP.indexAddr rfl rfl rfl Try.underlying54 z4 Og Og) <| Dz 21 rfl rfl rfl (QR.loadSl1 (ev := fun b : Bool => Value.bool b) rfl rfl g4 (hs3 _) hif) ?_
     refine Dy 22 rfl rfl rfl (QP.move rfl rfl) <| Dy 23 rfl rfl rfl (QP.fieldAddr rfl rfl f46_3) <| Dz 24 rfl rfl rfl (QR.load1 rfl rfl g37 (Tlv.sub_seqno _)) ?_
     refine Dy 25 rfl rfl rfl (QP.move rfl rfl) <| Dy 26 rfl rfl rfl (QP.conv rfl rfl Try.underlying3 Try.underlying37) <| Dy 27 rfl rfl rfl (QP.neq rfl rfl rfl) <| J.decF (by have h8 : (tlvS y).seqno = (turnX x1 true).next := congrArg (fun p : Tlv × List Int => p.1.seqno) hy; rw [h8, turn_next, hnx]; simp) ?_
     refine Dy 28 rfl rfl rfl (QP.pick_t rfl rfl rfl) <| Dp 29 rfl rfl (QP.pick_f rfl rfl rfl) <| Dn <| hk19 _ _ <| Run.cond_f rfl <| Run.skip <| hk18 _ _ <| Run.seq fun k20 hk20 => Run.region ?_
     show Sq _ _ _ [0, 1, 2, 3] _ _ _ _
     refine Mv 0 rfl rfl rfl <| Mv 1 rfl rfl rfl <| Qp 2 rfl rfl (QP.indexAddr rfl rfl rfl Try.underlying54 z4 Og Og) <| Qq 3 rfl rfl (QR.loadSl1 (ev := fun b : Bool => Value.bool b) rfl rfl g4 (hs3 _) hif) ?_
     refine Sq.nil <| hk20 _ _ <| Run.cond_t rfl <| Run.region ?_
     show Sq _ _ _ [0, 1, 2] _ _ _ _
     refine Mv 0 rfl rfl rfl <| Qp 1 rfl rfl (QP.add64 rfl rfl rfl Og Og) <| Sg 2 rfl rfl rfl <| Sq.nil <| hk14 _ _ <| Run.region ?_
     show Sq _ _ _ [0, 1, 2] _ _ _ _
     refine Mv 0 rfl rfl rfl <| Qp 1 rfl rfl (QP.add64 rfl rfl rfl Og Og) <| Sg 2 rfl rfl rfl <| Sq.nil ?_
     exact J.envJ (J.keep Tk1 (hl11 (i + 1) (n + 1) (nextX (turnX x1 true)) (⟨by omega, by show IntKind.u16.wrap ((turnX x1 true).next + 1) = _; rw [turn_next, hnx, wrap16_succ], by omega⟩) (by omega))) ⟨rfl, rfl, rfl, rfl, trivial⟩
    ·refine Sq.nil <| hk16 _ _ <| Run.cond_f rfl <| Run.region ?_
     show Sq _ _ _ [0, 1] _ _ _ _
     refine Mv 0 rfl rfl rfl <| Ef 1 rfl rfl (EF.call rfl ce13 rfl Tk1 (fun F' hle hr => downQ F' (b := b0) (i := 0) (M := [x1]) (x := x1) rfl)) ?_
     rintro _ _ ⟨_, ⟨rfl, rfl⟩, rfl⟩
     refine J.app ?_
     refine Sq.nil <| hk15 _ _ <| Run.seq fun k21 hk21 => Run.region ?_
     show Sq _ _ _ [0, 1, 2, 3, 4, 5, 6, 7, 8] _ _ _ _
     subst c34
     refine Mv 0 rfl rfl rfl <| Mv 1 rfl rfl rfl <| Ef 2 rfl rfl (EF.call rfl ce15 rfl Tk1 (fun F' hle hr => hello0Q F' (b := b0) (i := 0) (M := [(turnX x1 false)]) (x := (turnX x1 false)) rfl (by rw [turn_up]; simp) (i : Int))) ?_
     rintro _ _ ⟨_, ⟨rfl, rfl⟩, rfl⟩
     refine J.app ?_
     refine Mv 3 rfl rfl rfl <| Qp 4 rfl rfl (QP.extract rfl rfl rfl) <| Qp 5 rfl rfl (QP.extract rfl rfl rfl) <| Ef 6 rfl rfl (EF.allocA (l := Tlv.enc Tlv.zero) rfl zero46) ?_
     rintro _ _ ⟨b8, rfl, rfl⟩
     refine Ac 7 rfl (EF.storeA rfl rfl rfl z46 (SetL.all (Tlv.enc_len _) (Tlv.enc_len _)) (Tlv.enc_cell _)) ?_
     rintro _ _ rfl
     refine Sg 8 rfl rfl rfl <| Sq.nil <| hk21 _ _ <| Run.seq fun k22 hk22 => Run.seq fun k23 hk23 => Run.regionD (M := [0, 1, 3, 0, 0, 24, 56, 127, 255, 511, 1023, 511, 511, 6655, 14847, 32767, 65535, 131071, 262143, 262143, 1048575, 2097151, 4194303, 8388607, 16777215, 8388607, 41943039, 134217727, 268435455, 536870911]) (q := 1073740797) (r := 18890816) Kr ?_
     refine Dp 0 rfl rfl (QP.move rfl rfl) <| Dp 3 rfl rfl (QP.move rfl rfl) <| Dp 4 rfl rfl (QP.move rfl rfl) <| Dp 5 rfl rfl (QP.indexAddr rfl rfl rfl Try.underlying54 z4 Og Og) <| Dr 6 rfl rfl (QR.loadSl1 (ev := fun b : Bool => Value.bool b) rfl rfl g4 (hs3 _) hif) ?_
     refine De 1 <| Om [6] rfl rfl (EF.call rfl ce9 rfl Takes.nil (fun F' hle hr => num14_spec F' _)) ?_
     rintro _ _ ⟨_, ⟨rfl, rfl⟩, rfl⟩
     refine ⟨?_, ?_⟩
     ·rw [List.forall_mem_cons]
      refine ⟨?_, fun _ h => (by cases h)⟩
      ·refine Look.app ?_
       exact Look.mk rfl rfl rfl (QR.loadSl1 (ev := fun b : Bool => Value.bool b) rfl rfl g4 (hs3 _) hif)
     refine ?_
     refine J.app ?_
     refine Dp 2 rfl rfl (QP.eql rfl rfl rfl) <| Dp 7 rfl rfl (QP.neqB rfl rfl rfl Try.underlying4) <| J.boolF (rfl) ?_
     refine Dp 8 rfl rfl (QP.move rfl rfl) <| Dy 9 rfl rfl rfl (QP.move rfl rfl) <| Dy 11 rfl rfl rfl (QP.move rfl rfl) <| Dy 12 rfl rfl rfl (QP.move rfl rfl) <| Dy 13 rfl rfl rfl (QP.indexAddr rfl rfl rfl Try.underlying54 z4 Og Og) <| Dz 14 rfl rfl rfl (QR.loadSl1 (ev := fun b : Bool => Value.bool b) rfl rfl g4 (hs3 _) hif) ?_
     refine De 10 <| One.mk (o := _) (l := [14]) rfl Kr (Want.yes rfl rfl rfl rfl) rfl (ltN rfl) (EF.call rfl ce16 rfl Tk1 (fun F' hle hr => isUpQ F' (b := b0) (i := 0) (M := [(turnX x1 false)]) (x := (turnX x1 false)) rfl)) Kr ?_
     rintro _ _ ⟨_, ⟨rfl, rfl⟩, rfl⟩
     refine ⟨?_, ?_⟩
     ·rw [List.forall_mem_cons]
      refine ⟨?_, fun _ h => (by cases h)⟩
      ·refine Look.app ?_
       exact Look.mk rfl rfl rfl (QR.loadSl1 (ev := fun b : Bool => Value.bool b) rfl rfl g4 (hs3 _) hif)
     refine ?_
     refine J.app ?_
     refine J.boolF (turn_up x1 false) ?_
     refine Dy 15 rfl rfl rfl (QP.neqB rfl rfl rfl Try.underlying4) <| J.boolF (rfl) ?_
     refine Dp 16 rfl rfl (QP.pick_f rfl rfl rfl) <| Dp 17 rfl rfl (QP.move rfl rfl) <| Dy 18 rfl rfl rfl (QP.move rfl rfl) <| Dy 19 rfl rfl rfl (QP.move rfl rfl) <| Dy 20 rfl rfl rfl (QP.indexAddr rfl rfl rfl Try.underlying54 z4 Og Og) <| Dz 21 rfl rfl rfl (QR.loadSl1 (ev := fun b : Bool => Value.bool b) rfl rfl g4 (hs3 _) hif) ?_
     refine Dy 22 rfl rfl rfl (QP.move rfl rfl) <| Ds 23 rfl rfl rfl <| Ds 24 rfl rfl rfl <| Ds 25 rfl rfl rfl <| Ds 26 rfl rfl rfl <| Ds 27 rfl rfl rfl <| Dy 28 rfl rfl rfl (QP.pick_f rfl rfl rfl) <| Dp 29 rfl rfl (QP.pick_f rfl rfl rfl) <| Dn <| hk23 _ _ <| Run.cond_f rfl <| Run.skip <| hk22 _ _ <| Run.seq fun k24 hk24 => Run.region ?_
     show Sq _ _ _ [0, 1, 2, 3] _ _ _ _
     refine Mv 0 rfl rfl rfl <| Mv 1 rfl rfl rfl <| Qp 2 rfl rfl (QP.indexAddr rfl rfl rfl Try.underlying54 z4 Og Og) <| Qq 3 rfl rfl (QR.loadSl1 (ev := fun b : Bool => Value.bool b) rfl rfl g4 (hs3 _) hif) ?_
     refine Sq.nil <| hk24 _ _ <| Run.cond_f rfl <| Run.skip <| hk14 _ _ <| Run.region ?_
     show Sq _ _ _ [0, 1, 2] _ _ _ _
     refine Mv 0 rfl rfl rfl <| Qp 1 rfl rfl (QP.add64 rfl rfl rfl Og Og) <| Sg 2 rfl rfl rfl <| Sq.nil ?_
     exact J.envJ (J.keep Tk1 (hl11 (i + 1) (n) ((turnX x1 false)) (⟨by omega, by rw [turn_next]; exact hnx, by omega⟩) (by omega))) ⟨rfl, rfl, rfl, rfl, trivial⟩
   ·refine Sq.nil <| hk13 _ _ <| Run.cond_f rfl <| Run.exit rfl ?_
    refine hk9 _ _ <| Run.seq fun k25 hk25 => Run.region ?_
    show Sq _ _ _ [0, 1] _ _ _ _
    refine Ef 0 rfl rfl (EF.call rfl ce7 rfl Takes.nil (fun F' hle hr => live14_spec F')) ?_
    rintro _ _ ⟨_, ⟨rfl, rfl⟩, rfl⟩
    refine J.app ?_
    refine Sg 1 rfl rfl rfl <| Sq.nil <| hk25 _ _ <| Run.ret ?_
    exact J.ends (res_tmp rfl rfl) Takes.nil ⟨rfl, rfl⟩
 ·refine Qp 3 rfl rfl (QP.not rfl rfl) <| Mv 4 rfl rfl rfl <| Sk 5 rfl rfl rfl <| Sk 6 rfl rfl rfl <| Sk 7 rfl rfl rfl <| Pt 8 rfl rfl rfl rfl <| Sq.nil <| hk3 _ _ <| Run.cond_t rfl <| Run.seq fun k26 hk26 => Run.region ?_
  show Sq _ _ _ [0, 1] _ _ _ _
  refine Ef 0 rfl rfl (EF.call rfl ce7 rfl Takes.nil (fun F' hle hr => live14_spec F')) ?_
  rintro _ _ ⟨_, ⟨rfl, rfl⟩, rfl⟩
  refine J.app ?_
  refine Sg 1 rfl rfl rfl <| Sq.nil <| hk26 _ _ <| Run.ret ?_
  exact J.ends (res_tmp rfl rfl) Takes.nil ⟨rfl, rfl⟩
end Slb
