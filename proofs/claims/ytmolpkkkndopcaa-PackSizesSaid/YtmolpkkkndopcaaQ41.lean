/- Q41: a part of the proof that a law of this package holds for every input; no condition. -/
import Derived.Test.YtmolpkkkndopcaaM2
import Derived.Test.YtmolpkkkndopcaaQ40
namespace Slb
open Go Go.Proofs
set_option maxRecDepth 20000
theorem wrapL_len (bs : List UInt8) : (wrapL bs).length = 4 + bs.length := by unfold wrapL; simp; omega
theorem sizes_law {src : Bs 16} {x : TlvX} (h : packErr src 1000 [x] = 0) : packF src 1000 [x] = [wrapL (addL (toldB src) (tlvS x) x.l)] ∧ checkF (tlvS x) = 0 ∧ sizeF (tlvS x) x.l = (pieceF (tlvS x) x.l).length := by
  have h1 : addErr src 1000 [x] = 0 := by unfold packErr at h; rw [if_neg (by omega)] at h; exact h
  have hf := addErr_zero h1 x (by simp)
  have hc := fits_chk hf
  refine ⟨?_, hc, by unfold sizeF; rw [if_neg (by rw [hc]; simp)]⟩
  have hlen : ((addL (toldB src) (tlvS x) x.l).length : Int) + 4 ≤ 1000 := by
    unfold fitsF at hf
    rw [if_neg (by rw [hc]; simp)] at hf
    split at hf
    · cases hf
    · split at hf
      · assumption
      · cases hf
  unfold packF
  rw [if_neg (by rw [h]; simp)]
  unfold flushF
  rw [if_neg (by simp)]
  have hr : pkRun src 1000 ([x].map tlvM) = ((ahead (toldB src) (tlvS x)).1, addL (toldB src) (tlvS x) x.l, []) := by
    show pkStep src 1000 (toldB src, [], []) (tlvM x) = _
    have ha : addR (toldB src) (tlvM x).1 (tlvM x).2 [] 1000 = ((ahead (toldB src) (tlvS x)).1, addL (toldB src) (tlvS x) x.l, true) := by
      show addR (toldB src) (tlvS x) x.l [] 1000 = _
      unfold addR
      rw [if_pos (by simp; omega)]
      simp
    unfold pkStep
    show (if (addR (toldB src) (tlvM x).1 (tlvM x).2 [] 1000).2.2 = true then _ else _) = _
    rw [ha]
    rfl
  rw [hr]
  rfl
theorem ahead_zero {src : Bs 16} {t : Tlv} (hc : checkF t = 0) : (ahead (toldB src) t).2.length = 0 ↔ ¬ (t.type = 8 ∧ t.metric ≠ 65535) := by
  unfold ahead
  split
  · rename_i h8
    refine iff_of_false ?_ (fun h => h h8)
    have h2 := (chk_own hc).2.2.2.2.1
    unfold chk2 at h2
    have hn : namedB t.id_ = true := by
      simp only [h8.1, h8.2, ne_eq, not_false_eq_true, decide_true, Bool.and_self, Bool.true_and, Bool.or_eq_false_iff, Bool.not_eq_false'] at h2
      exact h2.2
    have hz : (toldB src).id_ ≠ t.id_ := by
      intro he
      have h0 : (toldB src).id_ = Bs.zero 8 := by
        unfold toldB PackTold.setHas PackTold.setHop
        split <;> rfl
      rw [← he, h0] at hn
      exact absurd hn (by decide)
    show ¬ ((add1 (toldB src) t).2 ++ (add2 (add1 (toldB src) t).1 t).2).length = 0
    unfold add1
    rw [if_neg hz, List.length_append, rawF_len]
    omega
  · rename_i h8
    exact iff_of_true rfl h8

set_option maxHeartbeats 2000000 in
theorem law_sizes (F : Fr) (src : Bs 16) (x : TlvX) (hw : (tlvS x).WF) (hx : TlvIn F x) (hr32 : ∀ n ∈ x.l, 0 ≤ n ∧ n < 4294967296) (hxn : x.l.length ≤ 9223372036854775807)  : Spec Try.prog 5 #[.agg (Bs.enc src).toArray, .agg (Tlv.enc (tlvS x)).toArray] [] F (fun v S => v = .bool true ∧ S = []) := by
 refine Spec.intro (N := 68) (args := [.agg (Bs.enc src).toArray, .agg (Tlv.enc (tlvS x)).toArray]) Try.func5 rfl rfl (by simp) ?_
 refine Run.seq fun k1 hk1 => Run.region ?_
 show Sq _ _ _ [0, 1, 2] _ _ _ _
 refine Ef 0 rfl rfl (EF.boxA rfl rfl) ?_
 rintro _ _ ⟨b2, rfl, rfl⟩
 refine Ef 1 rfl rfl (EF.boxA rfl rfl) ?_
 rintro _ _ ⟨b3, rfl, rfl⟩
 refine Sg 2 rfl rfl rfl <| Sq.nil <| hk1 _ _ <| Run.seq fun k2 hk2 => Run.seq fun k3 hk3 => Run.region ?_
 show Sq _ _ _ [0, 1, 2, 3] _ _ _ _
 refine Fa 0 rfl rfl rfl f46_12 <| Qq 1 rfl rfl (QR.load1 (v := .slice x.a x.l.length x.c) rfl rfl g44 (Tlv.sub_stamps _)) ?_
 refine Qp 2 rfl rfl (QP.len rfl rfl rfl Try.underlying44) <| Qp 3 rfl rfl (QP.gtr rfl rfl rfl) <| J.caseD (fun c12 => ?_) (fun c12 => ?_)
 ·refine Sq.nil <| hk3 _ _ <| Run.cond_t rfl <| Run.seq fun k4 hk4 => Run.region ?_
  show Sq _ _ _ [0, 1] _ _ _ _
  refine Ef 0 rfl rfl (EF.call rfl ce7 rfl Takes.nil (fun F' hle hr => live7_spec F')) ?_
  rintro _ _ ⟨_, ⟨rfl, rfl⟩, rfl⟩
  refine J.app ?_
  refine Sg 1 rfl rfl rfl <| Sq.nil <| hk4 _ _ <| Run.ret ?_
  exact J.ends (res_tmp rfl rfl) Takes.nil ⟨rfl, rfl⟩
 ·refine Sq.nil <| hk3 _ _ <| Run.cond_f rfl <| Run.skip <| hk2 _ _ <| Run.seq fun k5 hk5 => Run.region ?_
  show Sq _ _ _ [0, 1, 2, 3, 4, 5, 6, 7, 8] _ _ _ _
  refine Qq 0 rfl rfl (QR.load rfl rfl g23 (Bs.sub _)) ?_
  refine Qq 1 rfl rfl (QR.load rfl rfl g46 (Tlv.enc_sub _)) ?_
  refine Ef 2 rfl rfl (EF.buildSlice1 rfl Try.underlying24 z46 zero46 (by simp [Value.cells, Tlv.enc_len]) (by decide) rfl rfl (Tlv.enc_len _) (by decide)) ?_
  rintro _ _ ⟨b17, rfl, rfl⟩
  refine Ef 3 rfl rfl (EF.call rfl ce8 rfl Takes.nil (fun F' hle hr => pack_spec F' src (mtu := 1000) (ts := [x]) (a := some ⟨b17, 0, none⟩) (c := 1) (argSl_all (xs := [x]) tlvE_len (by have h9 := hr b17 (.cells (Tlv.enc (tlvS x)).toArray 46 (0, 0)) Rc; rw [show [x].flatMap tlvE = Tlv.enc (tlvS x) by simp]; exact h9)) (fun z hz => by rw [List.mem_singleton.1 hz]; exact hx.mono hle) (fun z hz => by rw [List.mem_singleton.1 hz]; exact hw) (fun z hz => by rw [List.mem_singleton.1 hz]; exact hr32) (by simp))) ?_
  rintro _ _ ⟨_, ⟨os, oa, oc, rfl, hos, rfl⟩, rfl⟩
  refine J.app ?_
  refine Mv 4 rfl rfl rfl <| Qp 5 rfl rfl (QP.extract rfl rfl rfl) <| Qp 6 rfl rfl (QP.extract rfl rfl rfl) <| Sg 7 rfl rfl rfl <| Sg 8 rfl rfl rfl <| Sq.nil <| hk5 _ _ <| Run.seq fun k6 hk6 => Run.region ?_
  show Sq _ _ _ [0, 1, 2] _ _ _ _
  refine Qq 0 rfl rfl (QR.load rfl rfl g46 (Tlv.enc_sub _)) ?_
  refine Ef 1 rfl rfl (EF.call rfl ce12 rfl Takes.nil (fun F' hle hr => size_spec F' x hw (hx.mono hle) hr32)) ?_
  rintro _ _ ⟨_, ⟨rfl, rfl⟩, rfl⟩
  refine J.app ?_
  refine Sg 2 rfl rfl rfl <| Sq.nil <| hk6 _ _ <| Run.seq fun k7 hk7 => Run.seq fun k8 hk8 => Run.region ?_
  show Sq _ _ _ [0, 1, 2] _ _ _ _
  refine Mv 0 rfl rfl rfl <| Ef 1 rfl rfl (EF.call rfl ce9 rfl Takes.nil (fun F' hle hr => num7_spec F' _)) ?_
  rintro _ _ ⟨_, ⟨rfl, rfl⟩, rfl⟩
  refine J.app ?_
  refine Qp 2 rfl rfl (QP.neq rfl rfl rfl) <| J.caseD (fun c25 => ?_) (fun c25 => ?_)
  ·refine Sq.nil <| hk8 _ _ <| Run.cond_t rfl <| Run.seq fun k9 hk9 => Run.region ?_
   show Sq _ _ _ [0, 1, 2, 3, 4, 5, 6] _ _ _ _
   have hnil : os = [] := by unfold packF at hos; rw [if_pos c25] at hos; exact List.map_eq_nil_iff.1 hos
   refine Mv 0 rfl rfl rfl <| Qp 1 rfl rfl (QP.len rfl rfl rfl Try.underlying27) <| Qp 2 rfl rfl (QP.eql rfl rfl rfl) <| J.decT (by rw [hnil]; rfl) ?_
   refine Mv 3 rfl rfl rfl <| Ye 4 rfl rfl rfl (EF.call rfl ce7 rfl Takes.nil (fun F' hle hr => live7_spec F')) ?_
   rintro _ _ ⟨_, ⟨rfl, rfl⟩, rfl⟩
   refine J.app ?_
   refine Pt 5 rfl rfl rfl rfl <| Sg 6 rfl rfl rfl <| Sq.nil <| hk9 _ _ <| Run.ret ?_
   exact J.ends (res_tmp rfl rfl) Takes.nil ⟨rfl, rfl⟩
  ·refine Sq.nil <| hk8 _ _ <| Run.cond_f rfl <| Run.skip <| hk7 _ _ <| Run.seq fun k10 hk10 => Run.seq fun k11 hk11 => Run.region ?_
   show Sq _ _ _ [0, 1, 2, 3, 4, 5, 6] _ _ _ _
   have hpe : packErr src 1000 [x] = 0 := Decidable.of_not_not c25
   obtain ⟨hpf, hck, hsz⟩ := sizes_law hpe
   rw [hpf] at hos
   have hol : os.length = 1 := by have := congrArg List.length hos; rwa [List.length_map] at this
   have hpl : (pieceF (tlvS x) x.l).length = (bodyF (tlvS x) x.l).length + 2 := rfl
   have hpl2 := piece_len (tlvS x) (chk_facts hck).1
   have hal := ahead_len (toldB src) (tlvS x)
   have haz := ahead_zero (src := src) hck
   refine Mv 0 rfl rfl rfl <| Qp 1 rfl rfl (QP.len rfl rfl rfl Try.underlying27) <| Qp 2 rfl rfl (QP.neq rfl rfl rfl) <| J.decF (by omega) ?_
   refine Mv 3 rfl rfl rfl <| Ym 4 rfl rfl rfl rfl <| Yp 5 rfl rfl rfl (QP.eql rfl rfl rfl) <| J.decF (by omega) ?_
   refine Pf 6 rfl rfl rfl rfl <| Sq.nil <| hk11 _ _ <| Run.cond_f rfl <| Run.skip <| hk10 _ _ <| Run.seq fun k12 hk12 => Run.region ?_
   show Sq _ _ _ [0, 1, 2, 3, 4, 5, 6, 7] _ _ _ _
   refine Sq.slCase (v := .slice oa os.length oc) (xs := os) Rc (fun aq cq hvq hhq => ?_)
   cases hvq
   obtain ⟨y, hiy⟩ : ∃ y, os[Int.toNat 0]? = some y := ⟨_, List.getElem?_eq_getElem (by show 0 < os.length; omega)⟩
   obtain ⟨bq, oq, rfl⟩ := hhq.get (by omega)
   have hyl : y.l = wrapL (addL (toldB src) (tlvS x) x.l) := by have h9 := congrArg (fun q => q[0]?) hos; simp only [List.getElem?_map] at h9; rw [show os[0]? = some y from hiy] at h9; exact Option.some.inj h9
   have hyn : y.n = 4 + ((ahead (toldB src) (tlvS x)).2.length + (sizeF (tlvS x) x.l)) := by rw [y.h, hyl, wrapL_len]; unfold addL; rw [List.length_append, hsz]
   refine Mv 0 rfl rfl rfl <| Qp 1 rfl rfl (QP.indexAddr rfl rfl rfl Try.underlying27 z34 Og Og) <| Qq 2 rfl rfl (QR.loadSl1 (ev := fun y : SlX => Value.slice y.a y.n y.c) rfl rfl g34 (SlAt.own (fun _ => rfl) Rc) hiy) ?_
   refine Qp 3 rfl rfl (QP.len rfl rfl rfl Try.underlying34) <| Qp 4 rfl rfl (QP.sub64 rfl rfl rfl Og Og) <| Mv 5 rfl rfl rfl <| Qp 6 rfl rfl (QP.sub64 rfl rfl rfl Og Og) <| Sg 7 rfl rfl rfl <| Sq.nil <| hk12 _ _ <| Run.seq fun k13 hk13 => Run.region ?_
   show Sq _ _ _ [0, 1, 2, 3, 4, 5, 6, 7, 8, 9, 10, 11, 12, 13, 14, 15, 16, 17, 18, 19, 20, 21, 22] _ _ _ _
   refine Mv 0 rfl rfl rfl <| Qp 1 rfl rfl (QP.eql rfl rfl rfl) <| Fa 2 rfl rfl rfl f46_0 <| Qq 3 rfl rfl (QR.load1 rfl rfl g5 (Tlv.sub_type _)) ?_
   refine Qp 4 rfl rfl (QP.neq rfl rfl rfl) <| J.caseD (fun c50 => ?_) (fun c50 => ?_)
   ·refine Mv 5 rfl rfl rfl <| Sk 6 rfl rfl rfl <| Sk 7 rfl rfl rfl <| Sk 8 rfl rfl rfl <| Pt 9 rfl rfl rfl rfl <| Qp 10 rfl rfl (QP.eqlB rfl rfl rfl Try.underlying4) <| J.boolT (by first | (rw [beq_iff_eq]; exact decide_eq_true (by have := haz.2 (fun h => c50 h.1); omega)) | (rw [beq_iff_eq, decide_eq_decide]; exact ⟨fun h => Decidable.byContradiction fun hm => (haz.1 (by omega)) ⟨Decidable.of_not_not c50, hm⟩, fun h => by have := haz.2 (fun h9 => h9.2 h); omega⟩)) ?_
    refine Mv 11 rfl rfl rfl <| Ym 12 rfl rfl rfl rfl <| Yp 13 rfl rfl rfl (QP.leq rfl rfl rfl) <| J.decT (by omega) ?_
    refine Pt 14 rfl rfl rfl rfl <| Mv 15 rfl rfl rfl <| Ym 16 rfl rfl rfl rfl <| Yp 17 rfl rfl rfl (QP.leq rfl rfl rfl) <| J.decT (by omega) ?_
    refine Pt 18 rfl rfl rfl rfl <| Mv 19 rfl rfl rfl <| Ye 20 rfl rfl rfl (EF.call rfl ce7 rfl Takes.nil (fun F' hle hr => live7_spec F')) ?_
    rintro _ _ ⟨_, ⟨rfl, rfl⟩, rfl⟩
    refine J.app ?_
    refine Pt 21 rfl rfl rfl rfl <| Sg 22 rfl rfl rfl <| Sq.nil <| hk13 _ _ <| Run.ret ?_
    exact J.ends (res_tmp rfl rfl) Takes.nil ⟨rfl, rfl⟩
   ·refine Mv 5 rfl rfl rfl <| Yf 6 rfl rfl rfl rfl f46_5 <| Yq 7 rfl rfl rfl (QR.load1 rfl rfl g37 (Tlv.sub_metric _)) ?_
    refine Yp 8 rfl rfl rfl (QP.eql rfl rfl rfl) <| Pf 9 rfl rfl rfl rfl <| Qp 10 rfl rfl (QP.eqlB rfl rfl rfl Try.underlying4) <| J.boolT (by first | (rw [beq_iff_eq]; exact decide_eq_true (by have := haz.2 (fun h => c50 h.1); omega)) | (rw [beq_iff_eq, decide_eq_decide]; exact ⟨fun h => Decidable.byContradiction fun hm => (haz.1 (by omega)) ⟨Decidable.of_not_not c50, hm⟩, fun h => by have := haz.2 (fun h9 => h9.2 h); omega⟩)) ?_
    refine Mv 11 rfl rfl rfl <| Ym 12 rfl rfl rfl rfl <| Yp 13 rfl rfl rfl (QP.leq rfl rfl rfl) <| J.decT (by omega) ?_
    refine Pt 14 rfl rfl rfl rfl <| Mv 15 rfl rfl rfl <| Ym 16 rfl rfl rfl rfl <| Yp 17 rfl rfl rfl (QP.leq rfl rfl rfl) <| J.decT (by omega) ?_
    refine Pt 18 rfl rfl rfl rfl <| Mv 19 rfl rfl rfl <| Ye 20 rfl rfl rfl (EF.call rfl ce7 rfl Takes.nil (fun F' hle hr => live7_spec F')) ?_
    rintro _ _ ⟨_, ⟨rfl, rfl⟩, rfl⟩
    refine J.app ?_
    refine Pt 21 rfl rfl rfl rfl <| Sg 22 rfl rfl rfl <| Sq.nil <| hk13 _ _ <| Run.ret ?_
    exact J.ends (res_tmp rfl rfl) Takes.nil ⟨rfl, rfl⟩
end Slb
