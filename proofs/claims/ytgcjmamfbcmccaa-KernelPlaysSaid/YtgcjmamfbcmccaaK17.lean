/- K17: a part of the proof that a law of this package holds for every input; no condition. -/
import Derived.Test.YtgcjmamfbcmccaaK16
namespace Slb
open Go Go.Proofs
set_option maxRecDepth 20000
def FindR (L : List Entry) (p : Pair) (n : Int) : Prop := (n = -1 ∧ ∀ e ∈ L, e.pair ≠ p) ∨ ∃ (i : Nat) (e : Entry), n = i ∧ L[i]? = some e ∧ e.pair = p
theorem find_iff {M : TabE} {L : List Entry} (h : OrdE M L) {p : Pair} {n : Int} (hf : FindR L p n) : (0 ≤ n ↔ (alook M p).isSome = true) := by
  rcases hf with ⟨rfl, h1⟩ | ⟨i, e, rfl, h1, h2⟩
  · rw [h.look_none.2 h1]; simp
  · have := h.mem.1 (List.mem_of_getElem? h1)
    rw [h2] at this
    rw [this]
    simp

theorem rimport_spec (F : Fr) {b : Nat} {al ai : Option Addr} {cl ci : Nat} {n : Int} {L JJ : List Entry} {M1 M2 : TabE} (hoL : OrdE M1 L) (hoJ : OrdE M2 JJ) (hhl : SlH al cl L) (hhi : SlH ai ci JJ) (hlL : L.length ≤ 100000) (hlJ : JJ.length ≤ 100000) (e : Entry)  : Spec Try.prog 25 #[.pointer (some ⟨b, 0, none⟩), .agg (Entry.enc e).toArray] [blk b (Ref20Kernel.enc ⟨⟨al, L.length, cl⟩, ⟨ai, JJ.length, ci⟩, n⟩) 55, slA 38 51 Entry.enc (.slice al L.length cl) L, slA 38 51 Entry.enc (.slice ai JJ.length ci) JJ] F (fun v S => ∃ a2 c2, ∃ J2 : List Entry, v = .int .i64 (if impOk M1 M2 e then 1 else 0) ∧ SlH a2 c2 J2 ∧ OrdE (impK M1 M2 e) J2 ∧ S = [blk b (Ref20Kernel.enc ⟨⟨al, L.length, cl⟩, ⟨a2, J2.length, c2⟩, n⟩) 55, slA 38 51 Entry.enc (.slice al L.length cl) L, slA 38 51 Entry.enc (.slice a2 J2.length c2) J2]) := by
 refine Spec.intro (N := 38) (args := [.pointer (some ⟨b, 0, none⟩), .agg (Entry.enc e).toArray]) Try.func25 rfl rfl (by simp) ?_
 refine Run.seq fun k1 hk1 => ?_
 refine Run.region ?_
 show Sq _ _ _ [0, 1] _ _ _ _
 refine Sq.eff (i := 0) rfl (Want.none rfl) rfl (ltN rfl) (EF.boxA rfl rfl) ?_
 rintro _ _ ⟨b3, rfl, rfl⟩
 refine Sq.quiet (i := 1) rfl (Want.none rfl) rfl (ltN rfl) (QP.assign rfl rfl).read ?_
 refine Sq.nil ?_
 refine hk1 _ _ ?_
 refine Run.seq fun k2 hk2 => ?_
 refine Run.seq fun k3 hk3 => ?_
 refine Run.regionD (M := [0, 1, 3, 7, 15, 31, 63, 127, 255, 31, 543, 2047, 4095, 8191, 16383, 32767, 65535, 131071, 262143, 32767, 557055, 2097151, 4194303, 8388607]) (q := 14678011) (r := 1312002) (by kernel_rfl) ?_
 refine Dw.pure (i := 0) rfl (by kernel_rfl) (Want.none rfl) rfl (ltN rfl) (QP.fieldAddr rfl rfl f38_0) ?_
 refine Dw.read (i := 1) rfl (by kernel_rfl) (Want.none rfl) rfl (ltN rfl) (QR.load rfl rfl g36 (Entry.sub_pair _)) ?_
 refine Dw.eff (i := 2) (by kernel_rfl) (by kernel_rfl) ?_
 refine One.mk (o := _) (l := []) rfl (by kernel_rfl) (Want.none rfl) rfl (ltN rfl) (EF.call rfl ce32 rfl Takes.nil (fun F' hle hr => rcheckPair_spec F' ((e).pair))) (by kernel_rfl) ?_
 rintro _ _ ⟨_, ⟨rfl, rfl⟩, rfl⟩
 refine ⟨fun _ h => (by cases h), ?_⟩
 refine J.app ?_
 refine Dw.pure (i := 3) rfl (by kernel_rfl) (Want.none rfl) rfl (ltN rfl) (QP.neq rfl rfl rfl) ?_
 refine J.caseD (fun c8 => ?_) (fun c8 => ?_)
 ·skip
  refine Dw.pure (i := 4) rfl (by kernel_rfl) (Want.none rfl) rfl (ltN rfl) (QP.move rfl rfl) ?_
  refine Dw.skip (i := 5) rfl (by kernel_rfl) (Want.no rfl rfl rfl rfl) rfl (ltN rfl) ?_
  refine Dw.skip (i := 6) rfl (by kernel_rfl) (Want.no rfl rfl rfl rfl) rfl (ltN rfl) ?_
  refine Dw.skip (i := 7) rfl (by kernel_rfl) (Want.no rfl rfl rfl rfl) rfl (ltN rfl) ?_
  refine Dw.skip (i := 8) rfl (by kernel_rfl) (Want.no rfl rfl rfl rfl) rfl (ltN rfl) ?_
  refine Dw.skip (i := 9) rfl (by kernel_rfl) (Want.no rfl rfl rfl rfl) rfl (ltN rfl) ?_
  refine Dw.skip (i := 10) rfl (by kernel_rfl) (Want.no rfl rfl rfl rfl) rfl (ltN rfl) ?_
  refine Dw.eff (i := 11) (by kernel_rfl) (by kernel_rfl) ?_
  refine One.skipD (o := _) rfl (by kernel_rfl) (Want.no rfl rfl rfl rfl) rfl (ltN rfl) ?_
  refine Dw.skip (i := 12) rfl (by kernel_rfl) (Want.no rfl rfl rfl rfl) rfl (ltN rfl) ?_
  refine Dw.pure (i := 13) rfl (by kernel_rfl) (Want.none rfl) rfl (ltN rfl) (QP.pick_t rfl rfl rfl) ?_
  refine Dw.pure (i := 14) rfl (by kernel_rfl) (Want.none rfl) rfl (ltN rfl) (QP.move rfl rfl) ?_
  refine Dw.skip (i := 15) rfl (by kernel_rfl) (Want.no rfl rfl rfl rfl) rfl (ltN rfl) ?_
  refine Dw.skip (i := 16) rfl (by kernel_rfl) (Want.no rfl rfl rfl rfl) rfl (ltN rfl) ?_
  refine Dw.skip (i := 17) rfl (by kernel_rfl) (Want.no rfl rfl rfl rfl) rfl (ltN rfl) ?_
  refine Dw.skip (i := 18) rfl (by kernel_rfl) (Want.no rfl rfl rfl rfl) rfl (ltN rfl) ?_
  refine Dw.skip (i := 19) rfl (by kernel_rfl) (Want.no rfl rfl rfl rfl) rfl (ltN rfl) ?_
  refine Dw.skip (i := 20) rfl (by kernel_rfl) (Want.no rfl rfl rfl rfl) rfl (ltN rfl) ?_
  refine Dw.eff (i := 21) (by kernel_rfl) (by kernel_rfl) ?_
  refine One.skipD (o := _) rfl (by kernel_rfl) (Want.no rfl rfl rfl rfl) rfl (ltN rfl) ?_
  refine Dw.skip (i := 22) rfl (by kernel_rfl) (Want.no rfl rfl rfl rfl) rfl (ltN rfl) ?_
  refine Dw.pure (i := 23) rfl (by kernel_rfl) (Want.none rfl) rfl (ltN rfl) (QP.pick_t rfl rfl rfl) ?_
  refine Dw.nil (by kernel_rfl) ?_
  refine hk3 _ _ ?_
  refine Run.cond_t rfl ?_
  refine Run.seq fun k4 hk4 => ?_
  refine Run.region ?_
  show Sq _ _ _ [0] _ _ _ _
  refine Sq.quiet (i := 0) rfl (Want.none rfl) rfl (ltN rfl) (QP.assign rfl rfl).read ?_
  refine Sq.nil ?_
  refine hk4 _ _ ?_
  refine Run.ret ?_
  have hno : impOk M1 M2 e = false := by unfold impOk; rw [show checkPairB e.pair = false by cases hq : checkPairB e.pair with | false => rfl | true => exact absurd (erno_zero.2 hq) c8]; simp
  exact J.ends (res_tmp rfl rfl) (.cons (by repeat constructor) (.cons (by repeat constructor) (.cons (by repeat constructor) Takes.nil))) ⟨_, _, JJ, by rw [hno]; rfl, hhi, by rw [impK_no hno]; exact hoJ, rfl⟩
 ·skip
  refine Dw.pure (i := 4) rfl (by kernel_rfl) (Want.none rfl) rfl (ltN rfl) (QP.move rfl rfl) ?_
  refine Dw.pure (i := 5) rfl (by kernel_rfl) (Want.yes rfl rfl rfl rfl) rfl (ltN rfl) (QP.move rfl rfl) ?_
  refine Dw.pure (i := 6) rfl (by kernel_rfl) (Want.yes rfl rfl rfl rfl) rfl (ltN rfl) (QP.nilCheck rfl rfl) ?_
  refine Dw.pure (i := 7) rfl (by kernel_rfl) (Want.yes rfl rfl rfl rfl) rfl (ltN rfl) (QP.fieldAddr rfl rfl f55_0) ?_
  refine Dw.read (i := 8) rfl (by kernel_rfl) (Want.yes rfl rfl rfl rfl) rfl (ltN rfl) (QR.load1 (v := .slice _ L.length _) rfl rfl g22 (Ref20Kernel.sub_l _)) ?_
  refine Dw.pure (i := 9) rfl (by kernel_rfl) (Want.yes rfl rfl rfl rfl) rfl (ltN rfl) (QP.fieldAddr rfl rfl f38_0) ?_
  refine Dw.read (i := 10) rfl (by kernel_rfl) (Want.yes rfl rfl rfl rfl) rfl (ltN rfl) (QR.load rfl rfl g36 (Entry.sub_pair _)) ?_
  refine Dw.eff (i := 11) (by kernel_rfl) (by kernel_rfl) ?_
  refine One.mk (o := _) (l := []) rfl (by kernel_rfl) (Want.yes rfl rfl rfl rfl) rfl (ltN rfl) (EF.call rfl ce15 rfl (.cons (by repeat constructor) Takes.nil) (fun F' hle hr => find_spec F' (by omega) hhl _)) (by kernel_rfl) ?_
  rintro _ _ ⟨_, ⟨rfl, n16, rfl, hf16⟩, rfl⟩
  refine ⟨fun _ h => (by cases h), ?_⟩
  refine J.app ?_
  refine Dw.pure (i := 12) rfl (by kernel_rfl) (Want.yes rfl rfl rfl rfl) rfl (ltN rfl) (QP.geq rfl rfl rfl) ?_
  refine J.caseD (fun c17 => ?_) (fun c17 => ?_)
  ·skip
   refine Dw.pure (i := 13) rfl (by kernel_rfl) (Want.none rfl) rfl (ltN rfl) (QP.pick_f rfl rfl rfl) ?_
   refine Dw.pure (i := 14) rfl (by kernel_rfl) (Want.none rfl) rfl (ltN rfl) (QP.move rfl rfl) ?_
   refine Dw.skip (i := 15) rfl (by kernel_rfl) (Want.no rfl rfl rfl rfl) rfl (ltN rfl) ?_
   refine Dw.skip (i := 16) rfl (by kernel_rfl) (Want.no rfl rfl rfl rfl) rfl (ltN rfl) ?_
   refine Dw.skip (i := 17) rfl (by kernel_rfl) (Want.no rfl rfl rfl rfl) rfl (ltN rfl) ?_
   refine Dw.skip (i := 18) rfl (by kernel_rfl) (Want.no rfl rfl rfl rfl) rfl (ltN rfl) ?_
   refine Dw.skip (i := 19) rfl (by kernel_rfl) (Want.no rfl rfl rfl rfl) rfl (ltN rfl) ?_
   refine Dw.skip (i := 20) rfl (by kernel_rfl) (Want.no rfl rfl rfl rfl) rfl (ltN rfl) ?_
   refine Dw.eff (i := 21) (by kernel_rfl) (by kernel_rfl) ?_
   refine One.skipD (o := _) rfl (by kernel_rfl) (Want.no rfl rfl rfl rfl) rfl (ltN rfl) ?_
   refine Dw.skip (i := 22) rfl (by kernel_rfl) (Want.no rfl rfl rfl rfl) rfl (ltN rfl) ?_
   refine Dw.pure (i := 23) rfl (by kernel_rfl) (Want.none rfl) rfl (ltN rfl) (QP.pick_t rfl rfl rfl) ?_
   refine Dw.nil (by kernel_rfl) ?_
   refine hk3 _ _ ?_
   refine Run.cond_t rfl ?_
   refine Run.seq fun k5 hk5 => ?_
   refine Run.region ?_
   show Sq _ _ _ [0] _ _ _ _
   refine Sq.quiet (i := 0) rfl (Want.none rfl) rfl (ltN rfl) (QP.assign rfl rfl).read ?_
   refine Sq.nil ?_
   refine hk5 _ _ ?_
   refine Run.ret ?_
   have hno : impOk M1 M2 e = false := by unfold impOk; rw [(find_iff hoL hf16).1 (by omega)]; rfl
   exact J.ends (res_tmp rfl rfl) (.cons (by repeat constructor) (.cons (by repeat constructor) (.cons (by repeat constructor) Takes.nil))) ⟨_, _, JJ, by rw [hno]; rfl, hhi, by rw [impK_no hno]; exact hoJ, rfl⟩
  ·skip
   refine Dw.pure (i := 13) rfl (by kernel_rfl) (Want.none rfl) rfl (ltN rfl) (QP.pick_f rfl rfl rfl) ?_
   refine Dw.pure (i := 14) rfl (by kernel_rfl) (Want.none rfl) rfl (ltN rfl) (QP.move rfl rfl) ?_
   refine Dw.pure (i := 15) rfl (by kernel_rfl) (Want.yes rfl rfl rfl rfl) rfl (ltN rfl) (QP.move rfl rfl) ?_
   refine Dw.pure (i := 16) rfl (by kernel_rfl) (Want.yes rfl rfl rfl rfl) rfl (ltN rfl) (QP.nilCheck rfl rfl) ?_
   refine Dw.pure (i := 17) rfl (by kernel_rfl) (Want.yes rfl rfl rfl rfl) rfl (ltN rfl) (QP.fieldAddr rfl rfl f55_1) ?_
   refine Dw.read (i := 18) rfl (by kernel_rfl) (Want.yes rfl rfl rfl rfl) rfl (ltN rfl) (QR.load1 (v := .slice _ JJ.length _) rfl rfl g22 (Ref20Kernel.sub_i _)) ?_
   refine Dw.pure (i := 19) rfl (by kernel_rfl) (Want.yes rfl rfl rfl rfl) rfl (ltN rfl) (QP.fieldAddr rfl rfl f38_0) ?_
   refine Dw.read (i := 20) rfl (by kernel_rfl) (Want.yes rfl rfl rfl rfl) rfl (ltN rfl) (QR.load rfl rfl g36 (Entry.sub_pair _)) ?_
   refine Dw.eff (i := 21) (by kernel_rfl) (by kernel_rfl) ?_
   refine One.mk (o := _) (l := []) rfl (by kernel_rfl) (Want.yes rfl rfl rfl rfl) rfl (ltN rfl) (EF.call rfl ce15 rfl (.cons (by repeat constructor) Takes.nil) (fun F' hle hr => find_spec F' (by omega) hhi _)) (by kernel_rfl) ?_
   rintro _ _ ⟨_, ⟨rfl, n26, rfl, hf26⟩, rfl⟩
   refine ⟨fun _ h => (by cases h), ?_⟩
   refine J.app ?_
   refine Dw.pure (i := 22) rfl (by kernel_rfl) (Want.yes rfl rfl rfl rfl) rfl (ltN rfl) (QP.geq rfl rfl rfl) ?_
   refine J.caseD (fun c27 => ?_) (fun c27 => ?_)
   ·skip
    refine Dw.pure (i := 23) rfl (by kernel_rfl) (Want.none rfl) rfl (ltN rfl) (QP.pick_f rfl rfl rfl) ?_
    refine Dw.nil (by kernel_rfl) ?_
    refine hk3 _ _ ?_
    refine Run.cond_t rfl ?_
    refine Run.seq fun k6 hk6 => ?_
    refine Run.region ?_
    show Sq _ _ _ [0] _ _ _ _
    refine Sq.quiet (i := 0) rfl (Want.none rfl) rfl (ltN rfl) (QP.assign rfl rfl).read ?_
    refine Sq.nil ?_
    refine hk6 _ _ ?_
    refine Run.ret ?_
    have hno : impOk M1 M2 e = false := by unfold impOk; rw [(find_iff hoJ hf26).1 (by omega)]; simp
    exact J.ends (res_tmp rfl rfl) (.cons (by repeat constructor) (.cons (by repeat constructor) (.cons (by repeat constructor) Takes.nil))) ⟨_, _, JJ, by rw [hno]; rfl, hhi, by rw [impK_no hno]; exact hoJ, rfl⟩
   ·skip
    refine Dw.pure (i := 23) rfl (by kernel_rfl) (Want.none rfl) rfl (ltN rfl) (QP.pick_f rfl rfl rfl) ?_
    refine Dw.nil (by kernel_rfl) ?_
    refine hk3 _ _ ?_
    refine Run.cond_f rfl ?_
    refine Run.skip ?_
    refine hk2 _ _ ?_
    refine Run.seq fun k7 hk7 => ?_
    refine Run.regionD (M := [0, 0, 2, 6, 14, 0, 62, 127, 255, 511]) (q := 447) (r := 48) (by kernel_rfl) ?_
    refine Dw.pure (i := 0) rfl (by kernel_rfl) (Want.none rfl) rfl (ltN rfl) (QP.move rfl rfl) ?_
    refine Dw.pure (i := 1) rfl (by kernel_rfl) (Want.none rfl) rfl (ltN rfl) (QP.move rfl rfl) ?_
    refine Dw.pure (i := 2) rfl (by kernel_rfl) (Want.none rfl) rfl (ltN rfl) (QP.nilCheck rfl rfl) ?_
    refine Dw.pure (i := 3) rfl (by kernel_rfl) (Want.none rfl) rfl (ltN rfl) (QP.fieldAddr rfl rfl f55_1) ?_
    refine Dw.read (i := 4) rfl (by kernel_rfl) (Want.none rfl) rfl (ltN rfl) (QR.load1 (v := .slice _ JJ.length _) rfl rfl g22 (Ref20Kernel.sub_i _)) ?_
    refine Dw.read (i := 5) rfl (by kernel_rfl) (Want.none rfl) rfl (ltN rfl) (QR.load rfl rfl g38 (Entry.enc_sub _)) ?_
    refine Dw.eff (i := 6) (by kernel_rfl) (by kernel_rfl) ?_
    refine One.mk (o := _) (l := []) rfl (by kernel_rfl) (Want.none rfl) rfl (ltN rfl) (EF.call rfl ce33 rfl (.cons (by repeat constructor) Takes.nil) (fun F' hle hr => put_spec F' hhi (by omega) hoJ.sort e)) (by kernel_rfl) ?_
    rintro v35 _ ⟨_, ⟨L2, hput, rfl⟩, rfl⟩
    refine ⟨fun _ h => (by cases h), ?_⟩
    refine J.app ?_
    refine Dw.slCase (v := v35) (xs := L2) (by repeat constructor) (fun a35 c35 hv35 hh35 => ?_)
    subst hv35
    refine Dw.pure (i := 7) rfl (by kernel_rfl) (Want.none rfl) rfl (ltN rfl) (QP.nilCheck rfl rfl) ?_
    refine Dw.pure (i := 8) rfl (by kernel_rfl) (Want.none rfl) rfl (ltN rfl) (QP.fieldAddr rfl rfl f55_1) ?_
    refine Dw.eff (i := 9) (by kernel_rfl) (by kernel_rfl) ?_
    refine One.act (o := _) (l := []) rfl (by kernel_rfl) (Want.none rfl) rfl (EF.store rfl rfl rfl z22 (Ref20Kernel.set_i _ ⟨a35, L2.length, c35⟩) (cell_one rfl)) (by kernel_rfl) ?_
    rintro _ _ rfl
    refine ⟨fun _ h => (by cases h), ?_⟩
    refine Dw.nil (by kernel_rfl) ?_
    refine hk7 _ _ ?_
    refine Run.seq fun k8 hk8 => ?_
    refine Run.region ?_
    show Sq _ _ _ [0] _ _ _ _
    refine Sq.quiet (i := 0) rfl (Want.none rfl) rfl (ltN rfl) (QP.assign rfl rfl).read ?_
    refine Sq.nil ?_
    refine hk8 _ _ ?_
    refine Run.ret ?_
    have hyes : impOk M1 M2 e = true := by
      have h1 : ¬ 0 ≤ n16 := by omega
      have h2 : ¬ 0 ≤ n26 := by omega
      unfold impOk
      rw [erno_zero.1 (Classical.not_not.1 c8), show (alook M1 e.pair).isSome = false from Bool.eq_false_iff.2 fun h => h1 ((find_iff hoL hf16).2 h), show (alook M2 e.pair).isSome = false from Bool.eq_false_iff.2 fun h => h2 ((find_iff hoJ hf26).2 h)]; rfl
    exact J.ends (res_tmp rfl rfl) (.cons (by repeat constructor) (.cons (by repeat constructor) (.cons (by repeat constructor) Takes.nil))) ⟨_, _, L2, by rw [hyes]; rfl, hh35, by rw [impK_yes hyes]; exact hput.ord hoJ, rfl⟩

set_option maxHeartbeats 1600000 in
theorem rdo_spec (F : Fr) {b : Nat} {al ai : Option Addr} {cl ci : Nat} {n : Int} {L JJ : List Entry} {M1 M2 : TabE} (hoL : OrdE M1 L) (hoJ : OrdE M2 JJ) (hhl : SlH al cl L) (hhi : SlH ai ci JJ) (hlL : L.length ≤ 100000) (hlJ : JJ.length ≤ 100000) (hn : 0 ≤ n ∧ n ≤ 9223372036854775807) (o : Op)  : Spec Try.prog 24 #[.pointer (some ⟨b, 0, none⟩), .agg (Op.enc o).toArray] [blk b (Ref20Kernel.enc ⟨⟨al, L.length, cl⟩, ⟨ai, JJ.length, ci⟩, n⟩) 55, slA 38 51 Entry.enc (.slice al L.length cl) L, slA 38 51 Entry.enc (.slice ai JJ.length ci) JJ] F (fun v S => ∃ a2 c2, ∃ L3 : List Entry, v = .bool (doK n M1 M2 o).1 ∧ SlH a2 c2 L3 ∧ OrdE (doK n M1 M2 o).2.2 L3 ∧ S = [blk b (Ref20Kernel.enc ⟨⟨a2, L3.length, c2⟩, ⟨ai, JJ.length, ci⟩, (doK n M1 M2 o).2.1⟩) 55, slA 38 51 Entry.enc (.slice a2 L3.length c2) L3, slA 38 51 Entry.enc (.slice ai JJ.length ci) JJ]) := by
 have hcle := hhl.le
 refine Spec.intro (N := 93) (args := [.pointer (some ⟨b, 0, none⟩), .agg (Op.enc o).toArray]) Try.func24 rfl rfl (by simp) ?_
 refine Run.seq fun k1 hk1 => ?_
 refine Run.region ?_
 show Sq _ _ _ [0, 1] _ _ _ _
 refine Sq.eff (i := 0) rfl (Want.none rfl) rfl (ltN rfl) (EF.boxA rfl rfl) ?_
 rintro _ _ ⟨b3, rfl, rfl⟩
 refine Sq.quiet (i := 1) rfl (Want.none rfl) rfl (ltN rfl) (QP.assign rfl rfl).read ?_
 refine Sq.nil ?_
 refine hk1 _ _ ?_
 refine Run.seq fun k2 hk2 => ?_
 refine Run.seq fun k3 hk3 => ?_
 refine Run.region ?_
 show Sq _ _ _ [0, 1, 2, 3, 4] _ _ _ _
 refine Sq.quiet (i := 0) rfl (Want.none rfl) rfl (ltN rfl) (QP.move rfl rfl).read ?_
 refine Sq.quiet (i := 1) rfl (Want.none rfl) rfl (ltN rfl) (QP.nilCheck rfl rfl).read ?_
 refine Sq.quiet (i := 2) rfl (Want.none rfl) rfl (ltN rfl) (QP.fieldAddr rfl rfl f55_2).read ?_
 refine Sq.quiet (i := 3) rfl (Want.none rfl) rfl (ltN rfl) (QR.load1 rfl rfl g3 (Ref20Kernel.sub_n _)) ?_
 refine Sq.quiet (i := 4) rfl (Want.none rfl) rfl (ltN rfl) (QP.gtr rfl rfl rfl).read ?_
 refine J.caseD (fun c11 => ?_) (fun c11 => ?_)
 ·skip
  refine Sq.nil ?_
  refine hk3 _ _ ?_
  refine Run.cond_t rfl ?_
  refine Run.seq fun k4 hk4 => ?_
  refine Run.region ?_
  show Sq _ _ _ [0, 1, 2, 3, 4, 5, 6, 7] _ _ _ _
  refine Sq.quiet (i := 0) rfl (Want.none rfl) rfl (ltN rfl) (QP.move rfl rfl).read ?_
  refine Sq.quiet (i := 1) rfl (Want.none rfl) rfl (ltN rfl) (QP.nilCheck rfl rfl).read ?_
  refine Sq.quiet (i := 2) rfl (Want.none rfl) rfl (ltN rfl) (QP.fieldAddr rfl rfl f55_2).read ?_
  refine Sq.quiet (i := 3) rfl (Want.none rfl) rfl (ltN rfl) (QR.load1 rfl rfl g3 (Ref20Kernel.sub_n _)) ?_
  refine Sq.quiet (i := 4) rfl (Want.none rfl) rfl (ltN rfl) (QP.sub64 rfl rfl rfl (by first | omega | (simp <;> omega)) (by first | omega | (simp <;> omega))).read ?_
  refine Sq.quiet (i := 5) rfl (Want.none rfl) rfl (ltN rfl) (QP.nilCheck rfl rfl).read ?_
  refine Sq.quiet (i := 6) rfl (Want.none rfl) rfl (ltN rfl) (QP.fieldAddr rfl rfl f55_2).read ?_
  refine Sq.act (i := 7) rfl (Want.none rfl) rfl (EF.store rfl rfl rfl z3 (Ref20Kernel.set_n _ _) (cell_one rfl)) ?_
  rintro _ _ rfl
  refine Sq.nil ?_
  refine hk4 _ _ ?_
  refine Run.seq fun k5 hk5 => ?_
  refine Run.region ?_
  show Sq _ _ _ [0] _ _ _ _
  refine Sq.quiet (i := 0) rfl (Want.none rfl) rfl (ltN rfl) (QP.assign rfl rfl).read ?_
  refine Sq.nil ?_
  refine hk5 _ _ ?_
  refine Run.ret ?_
  have hdk : doK n M1 M2 o = (false, n - 1, M1) := by unfold doK; rw [if_pos (show n > 0 by omega)]
  exact J.ends (m := [blk b (Ref20Kernel.enc ⟨⟨al, L.length, cl⟩, ⟨ai, JJ.length, ci⟩, (n - 1)⟩) 55, slA 38 51 Entry.enc (.slice al L.length cl) L, slA 38 51 Entry.enc (.slice ai JJ.length ci) JJ]) (res_tmp rfl rfl) (.cons (by repeat constructor) (.cons (by repeat constructor) (.cons (by repeat constructor) Takes.nil))) ⟨_, _, L, by rw [hdk], hhl, by rw [hdk]; exact hoL, by rw [hdk]⟩
 ·skip
  refine Sq.nil ?_
  refine hk3 _ _ ?_
  refine Run.cond_f rfl ?_
  refine Run.skip ?_
  refine hk2 _ _ ?_
  refine Run.seq fun k6 hk6 => ?_
  refine Run.region ?_
  show Sq _ _ _ [0, 1, 2, 3, 4] _ _ _ _
  refine Sq.quiet (i := 0) rfl (Want.none rfl) rfl (ltN rfl) (QP.fieldAddr rfl rfl f42_1).read ?_
  refine Sq.quiet (i := 1) rfl (Want.none rfl) rfl (ltN rfl) (QP.fieldAddr rfl rfl f38_0).read ?_
  refine Sq.quiet (i := 2) rfl (Want.none rfl) rfl (ltN rfl) (QR.load rfl rfl g36 ((Op.sub_entry _).trans (Entry.sub_pair _))) ?_
  refine Sq.eff (i := 3) rfl (Want.none rfl) rfl (ltN rfl) (EF.allocA (l := Pair.enc Pair.zero) rfl zero36) ?_
  rintro _ _ ⟨b5, rfl, rfl⟩
  refine Sq.act (i := 4) rfl (Want.none rfl) rfl (EF.storeA rfl rfl rfl z36 (SetL.all (Pair.enc_len _) (Pair.enc_len _)) (Pair.enc_cell _)) ?_
  rintro _ _ rfl
  refine Sq.nil ?_
  refine hk6 _ _ ?_
  refine Run.seq fun k7 hk7 => ?_
  refine Run.seq fun k8 hk8 => ?_
  refine Run.region ?_
  show Sq _ _ _ [0, 1, 2] _ _ _ _
  refine Sq.quiet (i := 0) rfl (Want.none rfl) rfl (ltN rfl) (QR.load rfl rfl g36 (Pair.enc_sub _)) ?_
  refine Sq.eff (i := 1) rfl (Want.none rfl) rfl (ltN rfl) (EF.call rfl ce32 rfl Takes.nil (fun F' hle hr => rcheckPair_spec F' (((o).entry).pair))) ?_
  rintro _ _ ⟨_, ⟨rfl, rfl⟩, rfl⟩
  refine J.app ?_
  refine Sq.quiet (i := 2) rfl (Want.none rfl) rfl (ltN rfl) (QP.neq rfl rfl rfl).read ?_
  refine J.caseD (fun c24 => ?_) (fun c24 => ?_)
  ·skip
   refine Sq.nil ?_
   refine hk8 _ _ ?_
   refine Run.cond_t rfl ?_
   refine Run.seq fun k9 hk9 => ?_
   refine Run.region ?_
   show Sq _ _ _ [0] _ _ _ _
   refine Sq.quiet (i := 0) rfl (Want.none rfl) rfl (ltN rfl) (QP.assign rfl rfl).read ?_
   refine Sq.nil ?_
   refine hk9 _ _ ?_
   refine Run.ret ?_
   have hdk : doK n M1 M2 o = (false, n, M1) := by unfold doK; rw [if_neg (show ¬ n > 0 by omega)]; rw [if_neg (fun h => c24 (erno_zero.2 h))]
   exact J.ends (m := [blk b (Ref20Kernel.enc ⟨⟨al, L.length, cl⟩, ⟨ai, JJ.length, ci⟩, n⟩) 55, slA 38 51 Entry.enc (.slice al L.length cl) L, slA 38 51 Entry.enc (.slice ai JJ.length ci) JJ]) (res_tmp rfl rfl) (.cons (by repeat constructor) (.cons (by repeat constructor) (.cons (by repeat constructor) Takes.nil))) ⟨_, _, L, by rw [hdk], hhl, by rw [hdk]; exact hoL, by rw [hdk]⟩
  ·skip
   refine Sq.nil ?_
   refine hk8 _ _ ?_
   refine Run.cond_f rfl ?_
   refine Run.skip ?_
   refine hk7 _ _ ?_
   refine Run.seq fun k10 hk10 => ?_
   refine Run.regionD (M := [0, 1, 3, 7, 0, 31, 63]) (q := 31) (r := 24) (by kernel_rfl) ?_
   refine Dw.pure (i := 0) rfl (by kernel_rfl) (Want.none rfl) rfl (ltN rfl) (QP.move rfl rfl) ?_
   refine Dw.pure (i := 1) rfl (by kernel_rfl) (Want.none rfl) rfl (ltN rfl) (QP.nilCheck rfl rfl) ?_
   refine Dw.pure (i := 2) rfl (by kernel_rfl) (Want.none rfl) rfl (ltN rfl) (QP.fieldAddr rfl rfl f55_0) ?_
   refine Dw.read (i := 3) rfl (by kernel_rfl) (Want.none rfl) rfl (ltN rfl) (QR.load1 (v := .slice _ L.length _) rfl rfl g22 (Ref20Kernel.sub_l _)) ?_
   refine Dw.read (i := 4) rfl (by kernel_rfl) (Want.none rfl) rfl (ltN rfl) (QR.load rfl rfl g36 (Pair.enc_sub _)) ?_
   refine Dw.eff (i := 5) (by kernel_rfl) (by kernel_rfl) ?_
   refine One.mk (o := _) (l := []) rfl (by kernel_rfl) (Want.none rfl) rfl (ltN rfl) (EF.call rfl ce15 rfl (.cons (by repeat constructor) Takes.nil) (fun F' hle hr => find_spec F' (by omega) hhl _)) (by kernel_rfl) ?_
   rintro _ _ ⟨_, ⟨rfl, n30, rfl, hf30⟩, rfl⟩
   refine ⟨fun _ h => (by cases h), ?_⟩
   refine J.app ?_
   refine Dw.eff (i := 6) (by kernel_rfl) (by kernel_rfl) ?_
   refine One.mk (o := _) (l := []) rfl (by kernel_rfl) (Want.none rfl) rfl (ltN rfl) ((QP.assign rfl rfl).eff) (by kernel_rfl) ?_
   rintro _ _ ⟨rfl, rfl⟩
   refine ⟨fun _ h => (by cases h), ?_⟩
   refine Dw.nil (by kernel_rfl) ?_
   refine hk10 _ _ ?_
   refine Run.seq fun k11 hk11 => ?_
   refine Run.seq fun k12 hk12 => ?_
   refine Run.region ?_
   show Sq _ _ _ [0, 1] _ _ _ _
   refine Sq.quiet (i := 0) rfl (Want.none rfl) rfl (ltN rfl) (QP.fieldAddr rfl rfl f42_0).read ?_
   refine Sq.quiet (i := 1) rfl (Want.none rfl) rfl (ltN rfl) (QR.load1 rfl rfl g3 (Op.sub_kind _)) ?_
   refine Sq.nil ?_
   refine hk12 _ _ ?_
   refine Run.block ?_
   refine Run.seq fun k13 hk13 => ?_
   refine Run.region ?_
   show Sq _ _ _ [0, 1] _ _ _ _
   refine Sq.quiet (i := 0) rfl (Want.none rfl) rfl (ltN rfl) (QP.eql rfl rfl rfl).read ?_
   refine J.caseD (fun c34 => ?_) (fun c34 => ?_)
   ·skip
    refine Sq.quiet (i := 1) rfl (Want.none rfl) rfl (ltN rfl) (QP.assign rfl rfl).read ?_
    refine Sq.nil ?_
    refine hk13 _ _ ?_
    refine Run.cond_t rfl ?_
    refine Run.seq fun k14 hk14 => ?_
    refine Run.seq fun k15 hk15 => ?_
    refine Run.regionD (M := [0, 1, 3, 7, 15, 31, 63, 7, 255, 511, 1023]) (q := 1791) (r := 192) (by kernel_rfl) ?_
    refine Dw.pure (i := 0) rfl (by kernel_rfl) (Want.none rfl) rfl (ltN rfl) (QP.move rfl rfl) ?_
    refine Dw.pure (i := 1) rfl (by kernel_rfl) (Want.none rfl) rfl (ltN rfl) (QP.geq rfl rfl rfl) ?_
    refine J.caseD (fun c36 => ?_) (fun c36 => ?_)
    ·skip
     refine Dw.pure (i := 2) rfl (by kernel_rfl) (Want.none rfl) rfl (ltN rfl) (QP.move rfl rfl) ?_
     refine Dw.skip (i := 3) rfl (by kernel_rfl) (Want.no rfl rfl rfl rfl) rfl (ltN rfl) ?_
     refine Dw.skip (i := 4) rfl (by kernel_rfl) (Want.no rfl rfl rfl rfl) rfl (ltN rfl) ?_
     refine Dw.skip (i := 5) rfl (by kernel_rfl) (Want.no rfl rfl rfl rfl) rfl (ltN rfl) ?_
     refine Dw.skip (i := 6) rfl (by kernel_rfl) (Want.no rfl rfl rfl rfl) rfl (ltN rfl) ?_
     refine Dw.skip (i := 7) rfl (by kernel_rfl) (Want.no rfl rfl rfl rfl) rfl (ltN rfl) ?_
     refine Dw.eff (i := 8) (by kernel_rfl) (by kernel_rfl) ?_
     refine One.skipD (o := _) rfl (by kernel_rfl) (Want.no rfl rfl rfl rfl) rfl (ltN rfl) ?_
     refine Dw.skip (i := 9) rfl (by kernel_rfl) (Want.no rfl rfl rfl rfl) rfl (ltN rfl) ?_
     refine Dw.pure (i := 10) rfl (by kernel_rfl) (Want.none rfl) rfl (ltN rfl) (QP.pick_t rfl rfl rfl) ?_
     refine Dw.nil (by kernel_rfl) ?_
     refine hk15 _ _ ?_
     refine Run.cond_t rfl ?_
     refine Run.seq fun k16 hk16 => ?_
     refine Run.region ?_
     show Sq _ _ _ [0] _ _ _ _
     refine Sq.quiet (i := 0) rfl (Want.none rfl) rfl (ltN rfl) (QP.assign rfl rfl).read ?_
     refine Sq.nil ?_
     refine hk16 _ _ ?_
     refine Run.ret ?_
     have hdk : doK n M1 M2 o = (false, n, M1) := by
       unfold doK; rw [if_neg (show ¬ n > 0 by omega)]; rw [if_pos (erno_zero.1 (Classical.not_not.1 c24))]
       rw [if_neg (by rintro (⟨_, h, _⟩ | ⟨h, _⟩); rw [(show (alook M1 o.entry.pair).isSome = true from (find_iff hoL hf30).1 (by omega))] at h; cases h; omega), if_neg (by rintro ⟨h, _⟩; omega)]
     exact J.ends (m := [blk b (Ref20Kernel.enc ⟨⟨al, L.length, cl⟩, ⟨ai, JJ.length, ci⟩, n⟩) 55, slA 38 51 Entry.enc (.slice al L.length cl) L, slA 38 51 Entry.enc (.slice ai JJ.length ci) JJ]) (res_tmp rfl rfl) (.cons (by repeat constructor) (.cons (by repeat constructor) (.cons (by repeat constructor) Takes.nil))) ⟨_, _, L, by rw [hdk], hhl, by rw [hdk]; exact hoL, by rw [hdk]⟩
    ·skip
     refine Dw.pure (i := 2) rfl (by kernel_rfl) (Want.none rfl) rfl (ltN rfl) (QP.move rfl rfl) ?_
     refine Dw.pure (i := 3) rfl (by kernel_rfl) (Want.yes rfl rfl rfl rfl) rfl (ltN rfl) (QP.move rfl rfl) ?_
     refine Dw.pure (i := 4) rfl (by kernel_rfl) (Want.yes rfl rfl rfl rfl) rfl (ltN rfl) (QP.nilCheck rfl rfl) ?_
     refine Dw.pure (i := 5) rfl (by kernel_rfl) (Want.yes rfl rfl rfl rfl) rfl (ltN rfl) (QP.fieldAddr rfl rfl f55_1) ?_
     refine Dw.read (i := 6) rfl (by kernel_rfl) (Want.yes rfl rfl rfl rfl) rfl (ltN rfl) (QR.load1 (v := .slice _ JJ.length _) rfl rfl g22 (Ref20Kernel.sub_i _)) ?_
     refine Dw.read (i := 7) rfl (by kernel_rfl) (Want.yes rfl rfl rfl rfl) rfl (ltN rfl) (QR.load rfl rfl g36 (Pair.enc_sub _)) ?_
     refine Dw.eff (i := 8) (by kernel_rfl) (by kernel_rfl) ?_
     refine One.mk (o := _) (l := []) rfl (by kernel_rfl) (Want.yes rfl rfl rfl rfl) rfl (ltN rfl) (EF.call rfl ce15 rfl (.cons (by repeat constructor) Takes.nil) (fun F' hle hr => find_spec F' (by omega) hhi _)) (by kernel_rfl) ?_
     rintro _ _ ⟨_, ⟨rfl, n43, rfl, hf43⟩, rfl⟩
     refine ⟨fun _ h => (by cases h), ?_⟩
     refine J.app ?_
     refine Dw.pure (i := 9) rfl (by kernel_rfl) (Want.yes rfl rfl rfl rfl) rfl (ltN rfl) (QP.geq rfl rfl rfl) ?_
     refine J.caseD (fun c44 => ?_) (fun c44 => ?_)
     ·skip
      refine Dw.pure (i := 10) rfl (by kernel_rfl) (Want.none rfl) rfl (ltN rfl) (QP.pick_f rfl rfl rfl) ?_
      refine Dw.nil (by kernel_rfl) ?_
      refine hk15 _ _ ?_
      refine Run.cond_t rfl ?_
      refine Run.seq fun k17 hk17 => ?_
      refine Run.region ?_
      show Sq _ _ _ [0] _ _ _ _
      refine Sq.quiet (i := 0) rfl (Want.none rfl) rfl (ltN rfl) (QP.assign rfl rfl).read ?_
      refine Sq.nil ?_
      refine hk17 _ _ ?_
      refine Run.ret ?_
      have hdk : doK n M1 M2 o = (false, n, M1) := by
        unfold doK; rw [if_neg (show ¬ n > 0 by omega)]; rw [if_pos (erno_zero.1 (Classical.not_not.1 c24))]
        rw [if_neg (by rintro (⟨_, _, h⟩ | ⟨h, _⟩); rw [(find_iff hoJ hf43).1 (by omega)] at h; cases h; omega), if_neg (by rintro ⟨h, _⟩; omega)]
      exact J.ends (m := [blk b (Ref20Kernel.enc ⟨⟨al, L.length, cl⟩, ⟨ai, JJ.length, ci⟩, n⟩) 55, slA 38 51 Entry.enc (.slice al L.length cl) L, slA 38 51 Entry.enc (.slice ai JJ.length ci) JJ]) (res_tmp rfl rfl) (.cons (by repeat constructor) (.cons (by repeat constructor) (.cons (by repeat constructor) Takes.nil))) ⟨_, _, L, by rw [hdk], hhl, by rw [hdk]; exact hoL, by rw [hdk]⟩
     ·skip
      refine Dw.pure (i := 10) rfl (by kernel_rfl) (Want.none rfl) rfl (ltN rfl) (QP.pick_f rfl rfl rfl) ?_
      refine Dw.nil (by kernel_rfl) ?_
      refine hk15 _ _ ?_
      refine Run.cond_f rfl ?_
      refine Run.skip ?_
      refine hk14 _ _ ?_
      refine Run.seq fun k18 hk18 => ?_
      refine Run.regionD (M := [0, 0, 2, 6, 14, 0, 32, 126, 255, 511, 1023]) (q := 895) (r := 80) (by kernel_rfl) ?_
      refine Dw.pure (i := 0) rfl (by kernel_rfl) (Want.none rfl) rfl (ltN rfl) (QP.move rfl rfl) ?_
      refine Dw.pure (i := 1) rfl (by kernel_rfl) (Want.none rfl) rfl (ltN rfl) (QP.move rfl rfl) ?_
      refine Dw.pure (i := 2) rfl (by kernel_rfl) (Want.none rfl) rfl (ltN rfl) (QP.nilCheck rfl rfl) ?_
      refine Dw.pure (i := 3) rfl (by kernel_rfl) (Want.none rfl) rfl (ltN rfl) (QP.fieldAddr rfl rfl f55_0) ?_
      refine Dw.read (i := 4) rfl (by kernel_rfl) (Want.none rfl) rfl (ltN rfl) (QR.load1 (v := .slice _ L.length _) rfl rfl g22 (Ref20Kernel.sub_l _)) ?_
      refine Dw.pure (i := 5) rfl (by kernel_rfl) (Want.none rfl) rfl (ltN rfl) (QP.fieldAddr rfl rfl f42_1) ?_
      refine Dw.read (i := 6) rfl (by kernel_rfl) (Want.none rfl) rfl (ltN rfl) (QR.load rfl rfl g38 (Op.sub_entry _)) ?_
      refine Dw.eff (i := 7) (by kernel_rfl) (by kernel_rfl) ?_
      refine One.mk (o := _) (l := []) rfl (by kernel_rfl) (Want.none rfl) rfl (ltN rfl) (EF.call rfl ce33 rfl (.cons (by repeat constructor) Takes.nil) (fun F' hle hr => put_spec F' hhl (by omega) hoL.sort o.entry)) (by kernel_rfl) ?_
      rintro v53 _ ⟨_, ⟨L2, hput, rfl⟩, rfl⟩
      refine ⟨fun _ h => (by cases h), ?_⟩
      refine J.app ?_
      refine Dw.slCase (v := v53) (xs := L2) (by repeat constructor) (fun a53 c53 hv53 hh53 => ?_)
      subst hv53
      refine Dw.pure (i := 8) rfl (by kernel_rfl) (Want.none rfl) rfl (ltN rfl) (QP.nilCheck rfl rfl) ?_
      refine Dw.pure (i := 9) rfl (by kernel_rfl) (Want.none rfl) rfl (ltN rfl) (QP.fieldAddr rfl rfl f55_0) ?_
      refine Dw.eff (i := 10) (by kernel_rfl) (by kernel_rfl) ?_
      refine One.act (o := _) (l := []) rfl (by kernel_rfl) (Want.none rfl) rfl (EF.store rfl rfl rfl z22 (Ref20Kernel.set_l _ ⟨a53, L2.length, c53⟩) (cell_one rfl)) (by kernel_rfl) ?_
      rintro _ _ rfl
      refine ⟨fun _ h => (by cases h), ?_⟩
      refine Dw.nil (by kernel_rfl) ?_
      refine hk18 _ _ ?_
      refine Run.seq fun k19 hk19 => ?_
      refine Run.region ?_
      show Sq _ _ _ [0] _ _ _ _
      refine Sq.quiet (i := 0) rfl (Want.none rfl) rfl (ltN rfl) (QP.assign rfl rfl).read ?_
      refine Sq.nil ?_
      refine hk19 _ _ ?_
      refine Run.ret ?_
      have hdk : doK n M1 M2 o = (true, n, aset M1 o.entry.pair o.entry) := by
        unfold doK; rw [if_neg (show ¬ n > 0 by omega)]; rw [if_pos (erno_zero.1 (Classical.not_not.1 c24))]
        rw [if_pos (.inl ⟨c34, (show (alook M1 o.entry.pair).isSome = false from Bool.eq_false_iff.2 fun h => by have := (find_iff hoL hf30).2 h; omega), Bool.eq_false_iff.2 fun h => by have := (find_iff hoJ hf43).2 h; omega⟩)]
      exact J.ends (m := [blk b (Ref20Kernel.enc ⟨⟨a53, L2.length, c53⟩, ⟨ai, JJ.length, ci⟩, n⟩) 55, slA 38 51 Entry.enc (.slice a53 L2.length c53) L2, slA 38 51 Entry.enc (.slice ai JJ.length ci) JJ]) (res_tmp rfl rfl) (.cons (by repeat constructor) (.cons (by repeat constructor) (.cons (by repeat constructor) Takes.nil))) ⟨_, _, L2, by rw [hdk], hh53, by rw [hdk]; exact hput.ord hoL, by rw [hdk]⟩
   ·skip
    refine Sq.quiet (i := 1) rfl (Want.none rfl) rfl (ltN rfl) (QP.assign rfl rfl).read ?_
    refine Sq.nil ?_
    refine hk13 _ _ ?_
    refine Run.cond_f rfl ?_
    refine Run.seq fun k20 hk20 => ?_
    refine Run.region ?_
    show Sq _ _ _ [0, 1] _ _ _ _
    refine Sq.quiet (i := 0) rfl (Want.none rfl) rfl (ltN rfl) (QP.eql rfl rfl rfl).read ?_
    refine J.caseD (fun c57 => ?_) (fun c57 => ?_)
    ·skip
     refine Sq.quiet (i := 1) rfl (Want.none rfl) rfl (ltN rfl) (QP.assign rfl rfl).read ?_
     refine Sq.nil ?_
     refine hk20 _ _ ?_
     refine Run.cond_t rfl ?_
     refine Run.seq fun k21 hk21 => ?_
     refine Run.seq fun k22 hk22 => ?_
     refine Run.region ?_
     show Sq _ _ _ [0, 1] _ _ _ _
     refine Sq.quiet (i := 0) rfl (Want.none rfl) rfl (ltN rfl) (QP.move rfl rfl).read ?_
     refine Sq.quiet (i := 1) rfl (Want.none rfl) rfl (ltN rfl) (QP.lss rfl rfl rfl).read ?_
     refine J.caseD (fun c59 => ?_) (fun c59 => ?_)
     ·skip
      refine Sq.nil ?_
      refine hk22 _ _ ?_
      refine Run.cond_t rfl ?_
      refine Run.seq fun k23 hk23 => ?_
      refine Run.region ?_
      show Sq _ _ _ [0] _ _ _ _
      refine Sq.quiet (i := 0) rfl (Want.none rfl) rfl (ltN rfl) (QP.assign rfl rfl).read ?_
      refine Sq.nil ?_
      refine hk23 _ _ ?_
      refine Run.ret ?_
      have hdk : doK n M1 M2 o = (false, n, M1) := by
        unfold doK; rw [if_neg (show ¬ n > 0 by omega)]; rw [if_pos (erno_zero.1 (Classical.not_not.1 c24))]
        rw [if_neg (by rintro (⟨h, _⟩ | ⟨_, h⟩); omega; rw [(show (alook M1 o.entry.pair).isSome = false from Bool.eq_false_iff.2 fun h => by have := (find_iff hoL hf30).2 h; omega)] at h; cases h), if_neg (by rintro ⟨h, _⟩; omega)]
      exact J.ends (m := [blk b (Ref20Kernel.enc ⟨⟨al, L.length, cl⟩, ⟨ai, JJ.length, ci⟩, n⟩) 55, slA 38 51 Entry.enc (.slice al L.length cl) L, slA 38 51 Entry.enc (.slice ai JJ.length ci) JJ]) (res_tmp rfl rfl) (.cons (by repeat constructor) (.cons (by repeat constructor) (.cons (by repeat constructor) Takes.nil))) ⟨_, _, L, by rw [hdk], hhl, by rw [hdk]; exact hoL, by rw [hdk]⟩
     ·skip
      refine Sq.nil ?_
      refine hk22 _ _ ?_
      refine Run.cond_f rfl ?_
      refine Run.skip ?_
      refine hk21 _ _ ?_
      refine Run.seq fun k24 hk24 => ?_
      refine Run.regionD (M := [0, 0, 2, 6, 14, 0, 32, 126, 255, 511, 1023]) (q := 895) (r := 80) (by kernel_rfl) ?_
      refine Dw.pure (i := 0) rfl (by kernel_rfl) (Want.none rfl) rfl (ltN rfl) (QP.move rfl rfl) ?_
      refine Dw.pure (i := 1) rfl (by kernel_rfl) (Want.none rfl) rfl (ltN rfl) (QP.move rfl rfl) ?_
      refine Dw.pure (i := 2) rfl (by kernel_rfl) (Want.none rfl) rfl (ltN rfl) (QP.nilCheck rfl rfl) ?_
      refine Dw.pure (i := 3) rfl (by kernel_rfl) (Want.none rfl) rfl (ltN rfl) (QP.fieldAddr rfl rfl f55_0) ?_
      refine Dw.read (i := 4) rfl (by kernel_rfl) (Want.none rfl) rfl (ltN rfl) (QR.load1 (v := .slice _ L.length _) rfl rfl g22 (Ref20Kernel.sub_l _)) ?_
      refine Dw.pure (i := 5) rfl (by kernel_rfl) (Want.none rfl) rfl (ltN rfl) (QP.fieldAddr rfl rfl f42_1) ?_
      refine Dw.read (i := 6) rfl (by kernel_rfl) (Want.none rfl) rfl (ltN rfl) (QR.load rfl rfl g38 (Op.sub_entry _)) ?_
      refine Dw.eff (i := 7) (by kernel_rfl) (by kernel_rfl) ?_
      refine One.mk (o := _) (l := []) rfl (by kernel_rfl) (Want.none rfl) rfl (ltN rfl) (EF.call rfl ce33 rfl (.cons (by repeat constructor) Takes.nil) (fun F' hle hr => put_spec F' hhl (by omega) hoL.sort o.entry)) (by kernel_rfl) ?_
      rintro v67 _ ⟨_, ⟨L2, hput, rfl⟩, rfl⟩
      refine ⟨fun _ h => (by cases h), ?_⟩
      refine J.app ?_
      refine Dw.slCase (v := v67) (xs := L2) (by repeat constructor) (fun a67 c67 hv67 hh67 => ?_)
      subst hv67
      refine Dw.pure (i := 8) rfl (by kernel_rfl) (Want.none rfl) rfl (ltN rfl) (QP.nilCheck rfl rfl) ?_
      refine Dw.pure (i := 9) rfl (by kernel_rfl) (Want.none rfl) rfl (ltN rfl) (QP.fieldAddr rfl rfl f55_0) ?_
      refine Dw.eff (i := 10) (by kernel_rfl) (by kernel_rfl) ?_
      refine One.act (o := _) (l := []) rfl (by kernel_rfl) (Want.none rfl) rfl (EF.store rfl rfl rfl z22 (Ref20Kernel.set_l _ ⟨a67, L2.length, c67⟩) (cell_one rfl)) (by kernel_rfl) ?_
      rintro _ _ rfl
      refine ⟨fun _ h => (by cases h), ?_⟩
      refine Dw.nil (by kernel_rfl) ?_
      refine hk24 _ _ ?_
      refine Run.seq fun k25 hk25 => ?_
      refine Run.region ?_
      show Sq _ _ _ [0] _ _ _ _
      refine Sq.quiet (i := 0) rfl (Want.none rfl) rfl (ltN rfl) (QP.assign rfl rfl).read ?_
      refine Sq.nil ?_
      refine hk25 _ _ ?_
      refine Run.ret ?_
      have hdk : doK n M1 M2 o = (true, n, aset M1 o.entry.pair o.entry) := by
        unfold doK; rw [if_neg (show ¬ n > 0 by omega)]; rw [if_pos (erno_zero.1 (Classical.not_not.1 c24))]
        rw [if_pos (.inr ⟨c57, (show (alook M1 o.entry.pair).isSome = true from (find_iff hoL hf30).1 (by omega))⟩)]
      exact J.ends (m := [blk b (Ref20Kernel.enc ⟨⟨a67, L2.length, c67⟩, ⟨ai, JJ.length, ci⟩, n⟩) 55, slA 38 51 Entry.enc (.slice a67 L2.length c67) L2, slA 38 51 Entry.enc (.slice ai JJ.length ci) JJ]) (res_tmp rfl rfl) (.cons (by repeat constructor) (.cons (by repeat constructor) (.cons (by repeat constructor) Takes.nil))) ⟨_, _, L2, by rw [hdk], hh67, by rw [hdk]; exact hput.ord hoL, by rw [hdk]⟩
    ·skip
     refine Sq.quiet (i := 1) rfl (Want.none rfl) rfl (ltN rfl) (QP.assign rfl rfl).read ?_
     refine Sq.nil ?_
     refine hk20 _ _ ?_
     refine Run.cond_f rfl ?_
     refine Run.seq fun k26 hk26 => ?_
     refine Run.region ?_
     show Sq _ _ _ [0, 1] _ _ _ _
     refine Sq.quiet (i := 0) rfl (Want.none rfl) rfl (ltN rfl) (QP.eql rfl rfl rfl).read ?_
     refine J.caseD (fun c71 => ?_) (fun c71 => ?_)
     ·skip
      refine Sq.quiet (i := 1) rfl (Want.none rfl) rfl (ltN rfl) (QP.assign rfl rfl).read ?_
      refine Sq.nil ?_
      refine hk26 _ _ ?_
      refine Run.cond_t rfl ?_
      refine Run.seq fun k27 hk27 => ?_
      refine Run.seq fun k28 hk28 => ?_
      refine Run.region ?_
      show Sq _ _ _ [0, 1] _ _ _ _
      refine Sq.quiet (i := 0) rfl (Want.none rfl) rfl (ltN rfl) (QP.move rfl rfl).read ?_
      refine Sq.quiet (i := 1) rfl (Want.none rfl) rfl (ltN rfl) (QP.lss rfl rfl rfl).read ?_
      refine J.caseD (fun c73 => ?_) (fun c73 => ?_)
      ·skip
       refine Sq.nil ?_
       refine hk28 _ _ ?_
       refine Run.cond_t rfl ?_
       refine Run.seq fun k29 hk29 => ?_
       refine Run.region ?_
       show Sq _ _ _ [0] _ _ _ _
       refine Sq.quiet (i := 0) rfl (Want.none rfl) rfl (ltN rfl) (QP.assign rfl rfl).read ?_
       refine Sq.nil ?_
       refine hk29 _ _ ?_
       refine Run.ret ?_
       have hdk : doK n M1 M2 o = (false, n, M1) := by
         unfold doK; rw [if_neg (show ¬ n > 0 by omega)]; rw [if_pos (erno_zero.1 (Classical.not_not.1 c24))]
         rw [if_neg (by rintro (⟨h, _⟩ | ⟨h, _⟩) <;> omega), if_neg (by rintro ⟨_, h⟩; rw [(show (alook M1 o.entry.pair).isSome = false from Bool.eq_false_iff.2 fun h => by have := (find_iff hoL hf30).2 h; omega)] at h; cases h)]
       exact J.ends (m := [blk b (Ref20Kernel.enc ⟨⟨al, L.length, cl⟩, ⟨ai, JJ.length, ci⟩, n⟩) 55, slA 38 51 Entry.enc (.slice al L.length cl) L, slA 38 51 Entry.enc (.slice ai JJ.length ci) JJ]) (res_tmp rfl rfl) (.cons (by repeat constructor) (.cons (by repeat constructor) (.cons (by repeat constructor) Takes.nil))) ⟨_, _, L, by rw [hdk], hhl, by rw [hdk]; exact hoL, by rw [hdk]⟩
      ·skip
       refine Sq.nil ?_
       refine hk28 _ _ ?_
       refine Run.cond_f rfl ?_
       refine Run.skip ?_
       refine hk27 _ _ ?_
       refine Run.seq fun k30 hk30 => ?_
       refine Run.regionD (M := [0, 0, 0, 4, 12, 28, 0, 124, 254, 0, 512, 1536, 3584, 0, 8192, 32256, 65534, 131071, 262143, 524287]) (q := 458493) (r := 4128) (by kernel_rfl) ?_
       obtain ⟨ix, y, rfl, hiy, hpy⟩ : ∃ (ix : Nat) (y : Entry), n30 = (ix : Int) ∧ L[ix]? = some y ∧ y.pair = o.entry.pair := by
         rcases hf30 with ⟨h1, h2⟩ | h1
         · omega
         · exact h1
       have hixl : ix < L.length := (List.getElem?_eq_some_iff.1 hiy).1
       have hdelo : OrdE (adel M1 o.entry.pair) (([] ++ ((L.take ix).drop 0)) ++ ((L.take L.length).drop (ix + 1))) := by
         have h := hoL.del keyCmpE hiy
         rw [List.eraseIdx_eq_take_drop_succ, hpy] at h
         simpa using h
       refine Dw.pure (i := 0) rfl (by kernel_rfl) (Want.none rfl) rfl (ltN rfl) (QP.move rfl rfl) ?_
       refine Dw.pure (i := 2) rfl (by kernel_rfl) (Want.none rfl) rfl (ltN rfl) (QP.move rfl rfl) ?_
       refine Dw.pure (i := 3) rfl (by kernel_rfl) (Want.none rfl) rfl (ltN rfl) (QP.nilCheck rfl rfl) ?_
       refine Dw.pure (i := 4) rfl (by kernel_rfl) (Want.none rfl) rfl (ltN rfl) (QP.fieldAddr rfl rfl f55_0) ?_
       refine Dw.read (i := 5) rfl (by kernel_rfl) (Want.none rfl) rfl (ltN rfl) (QR.load1 (v := .slice _ L.length _) rfl rfl g22 (Ref20Kernel.sub_l _)) ?_
       refine Dw.pure (i := 6) rfl (by kernel_rfl) (Want.none rfl) rfl (ltN rfl) (QP.move rfl rfl) ?_
       refine Dw.pure (i := 7) rfl (by kernel_rfl) (Want.none rfl) rfl (ltN rfl) (QP.sliceHi rfl rfl rfl Try.underlying22 z38 (by first | omega | (simp <;> omega)) (by first | omega | (simp <;> omega))) ?_
       refine Dw.pure (i := 9) rfl (by kernel_rfl) (Want.none rfl) rfl (ltN rfl) (QP.move rfl rfl) ?_
       refine Dw.pure (i := 10) rfl (by kernel_rfl) (Want.none rfl) rfl (ltN rfl) (QP.nilCheck rfl rfl) ?_
       refine Dw.pure (i := 11) rfl (by kernel_rfl) (Want.none rfl) rfl (ltN rfl) (QP.fieldAddr rfl rfl f55_0) ?_
       refine Dw.read (i := 12) rfl (by kernel_rfl) (Want.none rfl) rfl (ltN rfl) (QR.load1 (v := .slice _ L.length _) rfl rfl g22 (Ref20Kernel.sub_l _)) ?_
       refine Dw.pure (i := 13) rfl (by kernel_rfl) (Want.none rfl) rfl (ltN rfl) (QP.move rfl rfl) ?_
       refine Dw.pure (i := 14) rfl (by kernel_rfl) (Want.none rfl) rfl (ltN rfl) (QP.add64 rfl rfl rfl (by first | omega | (simp <;> omega)) (by first | omega | (simp <;> omega))) ?_
       refine Dw.pure (i := 15) rfl (by kernel_rfl) (Want.none rfl) rfl (ltN rfl) (QP.sliceLo rfl rfl rfl Try.underlying22 z38 (by first | omega | (simp <;> omega)) (by first | omega | (simp <;> omega))) ?_
       refine Dw.eff (i := 1) (by kernel_rfl) (by kernel_rfl) ?_
       refine One.mk (o := _) (l := [12, 5]) rfl (by kernel_rfl) (Want.none rfl) rfl (ltN rfl) (EF.buildSlice0 (enc := Entry.enc) rfl Try.underlying22 z38 zero38 (by simp [Value.cells, Entry.enc_len]) (by decide)) (by kernel_rfl) ?_
       rintro _ _ ⟨b75, rfl, rfl⟩
       refine ⟨?_, ?_⟩
       ·rw [List.forall_mem_cons, List.forall_mem_cons]
        refine ⟨?_, ?_, fun _ h => (by cases h)⟩
        ·exact Look.mk rfl rfl rfl (QR.load1 (v := .slice _ L.length _) rfl rfl g22 (Ref20Kernel.sub_l _))
        ·exact Look.mk rfl rfl rfl (QR.load1 (v := .slice _ L.length _) rfl rfl g22 (Ref20Kernel.sub_l _))
       refine ?_
       refine Dw.eff (i := 8) (by kernel_rfl) (by kernel_rfl) ?_
       refine One.mk (o := _) (l := [12]) rfl (by kernel_rfl) (Want.none rfl) rfl (ltN rfl) (EF.append (xs := []) (ys := ((L.take ix).drop 0)) el38 Entry.enc_len Entry.enc_cell rfl rfl rfl Try.underlying22 Try.underlying22 rfl rfl (by repeat constructor) (RowsAt.cutOwn (i := 0) (j := ix) Entry.enc_len hhl (by repeat constructor) (by omega) (by omega)) (by first | omega | (simp <;> omega))) (by kernel_rfl) ?_
       rintro sl82 _ rfl
       refine ⟨?_, ?_⟩
       ·rw [List.forall_mem_cons]
        refine ⟨?_, fun _ h => (by cases h)⟩
        ·exact Look.mk rfl rfl rfl (QR.load1 (v := .slice _ L.length _) rfl rfl g22 (Ref20Kernel.sub_l _))
       refine ?_
       refine Dw.slCase (v := sl82) (xs := _) (by repeat constructor) (fun a82 c82 hv82 hh82 => ?_)
       subst hv82
       refine Dw.eff (i := 16) (by kernel_rfl) (by kernel_rfl) ?_
       refine One.mk (o := _) (l := []) rfl (by kernel_rfl) (Want.none rfl) rfl (ltN rfl) (EF.append (xs := _) (ys := ((L.take L.length).drop (ix + 1))) el38 Entry.enc_len Entry.enc_cell rfl rfl rfl Try.underlying22 Try.underlying22 rfl rfl (by repeat constructor) (RowsAt.cutOwn (i := ix + 1) (j := L.length) Entry.enc_len hhl (by repeat constructor) (by omega) (by omega)) (by first | omega | (simp <;> omega))) (by kernel_rfl) ?_
       rintro sl90 _ rfl
       refine ⟨fun _ h => (by cases h), ?_⟩
       refine Dw.slCase (v := sl90) (xs := _) (by repeat constructor) (fun a90 c90 hv90 hh90 => ?_)
       subst hv90
       refine Dw.pure (i := 17) rfl (by kernel_rfl) (Want.none rfl) rfl (ltN rfl) (QP.nilCheck rfl rfl) ?_
       refine Dw.pure (i := 18) rfl (by kernel_rfl) (Want.none rfl) rfl (ltN rfl) (QP.fieldAddr rfl rfl f55_0) ?_
       refine Dw.eff (i := 19) (by kernel_rfl) (by kernel_rfl) ?_
       refine One.act (o := _) (l := []) rfl (by kernel_rfl) (Want.none rfl) rfl (EF.store rfl rfl rfl z22 (Ref20Kernel.set_l _ ⟨a90, _, c90⟩) (cell_one rfl)) (by kernel_rfl) ?_
       rintro _ _ rfl
       refine ⟨fun _ h => (by cases h), ?_⟩
       refine Dw.nil (by kernel_rfl) ?_
       refine hk30 _ _ ?_
       refine Run.seq fun k31 hk31 => ?_
       refine Run.region ?_
       show Sq _ _ _ [0] _ _ _ _
       refine Sq.quiet (i := 0) rfl (Want.none rfl) rfl (ltN rfl) (QP.assign rfl rfl).read ?_
       refine Sq.nil ?_
       refine hk31 _ _ ?_
       refine Run.ret ?_
       have hdk : doK n M1 M2 o = (true, n, adel M1 o.entry.pair) := by
         unfold doK; rw [if_neg (show ¬ n > 0 by omega)]; rw [if_pos (erno_zero.1 (Classical.not_not.1 c24))]
         rw [if_neg (by rintro (⟨h, _⟩ | ⟨h, _⟩) <;> omega), if_pos ⟨c71, (show (alook M1 o.entry.pair).isSome = true from (find_iff hoL hf30).1 (by omega))⟩]
       exact J.ends (m := [blk b (Ref20Kernel.enc ⟨⟨a90, ([] ++ (L.take ix).drop 0 ++ (L.take L.length).drop (ix + 1)).length, c90⟩, ⟨ai, JJ.length, ci⟩, n⟩) 55, slA 38 51 Entry.enc (.slice a90 ([] ++ (L.take ix).drop 0 ++ (L.take L.length).drop (ix + 1)).length c90) ([] ++ (L.take ix).drop 0 ++ (L.take L.length).drop (ix + 1)), slA 38 51 Entry.enc (.slice ai JJ.length ci) JJ]) (res_tmp rfl rfl) (.cons (by repeat constructor) (.cons (by repeat constructor) (.cons (by repeat constructor) Takes.nil))) ⟨_, _, _, by rw [hdk], hh90, by rw [hdk]; exact hdelo, by rw [hdk]⟩
     ·skip
      refine Sq.quiet (i := 1) rfl (Want.none rfl) rfl (ltN rfl) (QP.assign rfl rfl).read ?_
      refine Sq.nil ?_
      refine hk26 _ _ ?_
      refine Run.cond_f rfl ?_
      refine Run.skip ?_
      refine hk11 _ _ ?_
      refine Run.seq fun k32 hk32 => ?_
      refine Run.region ?_
      show Sq _ _ _ [0] _ _ _ _
      refine Sq.quiet (i := 0) rfl (Want.none rfl) rfl (ltN rfl) (QP.assign rfl rfl).read ?_
      refine Sq.nil ?_
      refine hk32 _ _ ?_
      refine Run.ret ?_
      have hdk : doK n M1 M2 o = (false, n, M1) := by
        unfold doK; rw [if_neg (show ¬ n > 0 by omega)]; rw [if_pos (erno_zero.1 (Classical.not_not.1 c24))]
        rw [if_neg (by rintro (⟨h, _⟩ | ⟨h, _⟩) <;> omega), if_neg (by rintro ⟨h, _⟩; omega)]
      exact J.ends (m := [blk b (Ref20Kernel.enc ⟨⟨al, L.length, cl⟩, ⟨ai, JJ.length, ci⟩, n⟩) 55, slA 38 51 Entry.enc (.slice al L.length cl) L, slA 38 51 Entry.enc (.slice ai JJ.length ci) JJ]) (res_tmp rfl rfl) (.cons (by repeat constructor) (.cons (by repeat constructor) (.cons (by repeat constructor) Takes.nil))) ⟨_, _, L, by rw [hdk], hhl, by rw [hdk]; exact hoL, by rw [hdk]⟩
end Slb
