/- Q52: a part of the proof that a law of this package holds for every input; no condition. -/
import Derived.Test.YtmolpkkkndopcaaM2
import Derived.Test.YtmolpkkkndopcaaQ51
namespace Slb
open Go Go.Proofs
set_option maxRecDepth 20000
set_option maxHeartbeats 2000000 in
theorem law_full (F : Fr) (src : Bs 16) (mtu : Int) {ts : List TlvX} {a : Option Addr} {c : Nat} (ha : ArgSl F a 68 tlvE ts) (hin : ∀ x ∈ ts, TlvIn F x) (hwf : ∀ x ∈ ts, (tlvS x).WF) (hr32 : ∀ x ∈ ts, ∀ n ∈ x.l, 0 ≤ n ∧ n < 4294967296) (hnn : ts.length ≤ 9223372036854775807) (hcap : ts.length ≤ c)  : Spec Try.prog 4 #[.agg (Bs.enc src).toArray, .int .i64 mtu, .slice a ts.length c] [] F (fun v S => v = .bool true ∧ S = []) := by
 refine Spec.intro (N := 89) (args := [.agg (Bs.enc src).toArray, .int .i64 mtu, .slice a ts.length c]) Try.func4 rfl rfl (by simp) ?_
 refine Run.seq fun k1 hk1 => Run.region ?_
 show Sq _ _ _ [0, 1] _ _ _ _
 refine Ef 0 rfl rfl (EF.boxA rfl rfl) ?_
 rintro _ _ ⟨b3, rfl, rfl⟩
 refine Sg 1 rfl rfl rfl <| Sq.nil <| hk1 _ _ <| Run.seq fun k2 hk2 => Run.seq fun k3 hk3 => Run.region ?_
 show Sq _ _ _ [0, 1, 2, 3, 4, 5, 6] _ _ _ _
 refine Mv 0 rfl rfl rfl <| Ef 1 rfl rfl (EF.call rfl ce6 rfl Takes.nil (fun F' hle hr => huge_spec F' (ha.mono hle) hnn)) ?_
 rintro _ _ ⟨_, ⟨bh, rfl, hbh, rfl⟩, rfl⟩
 refine J.app ?_
 refine J.caseB (fun c16 => ?_) (fun c16 => ?_)
 ·refine Mv 2 rfl rfl rfl <| Sk 3 rfl rfl rfl <| Sk 4 rfl rfl rfl <| Sk 5 rfl rfl rfl <| Pt 6 rfl rfl rfl rfl <| Sq.nil <| hk3 _ _ <| Run.cond_t rfl <| Run.seq fun k4 hk4 => Run.region ?_
  show Sq _ _ _ [0, 1] _ _ _ _
  refine Ef 0 rfl rfl (EF.call rfl ce7 rfl Takes.nil (fun F' hle hr => live7_spec F')) ?_
  rintro _ _ ⟨_, ⟨rfl, rfl⟩, rfl⟩
  refine J.app ?_
  refine Sg 1 rfl rfl rfl <| Sq.nil <| hk4 _ _ <| Run.ret ?_
  exact J.ends (res_tmp rfl rfl) Takes.nil ⟨rfl, rfl⟩
 ·refine Mv 2 rfl rfl rfl <| Ym 3 rfl rfl rfl rfl <| Yp 4 rfl rfl rfl (QP.len rfl rfl rfl Try.underlying24) <| Yp 5 rfl rfl rfl (QP.gtr rfl rfl rfl) <| J.caseD (fun c20 => ?_) (fun c20 => ?_)
  ·refine Pf 6 rfl rfl rfl rfl <| Sq.nil <| hk3 _ _ <| Run.cond_t rfl <| Run.seq fun k5 hk5 => Run.region ?_
   show Sq _ _ _ [0, 1] _ _ _ _
   refine Ef 0 rfl rfl (EF.call rfl ce7 rfl Takes.nil (fun F' hle hr => live7_spec F')) ?_
   rintro _ _ ⟨_, ⟨rfl, rfl⟩, rfl⟩
   refine J.app ?_
   refine Sg 1 rfl rfl rfl <| Sq.nil <| hk5 _ _ <| Run.ret ?_
   exact J.ends (res_tmp rfl rfl) Takes.nil ⟨rfl, rfl⟩
  ·refine Pf 6 rfl rfl rfl rfl <| Sq.nil <| hk3 _ _ <| Run.cond_f rfl <| Run.skip <| hk2 _ _ <| Run.seq fun k6 hk6 => Run.region ?_
   show Sq _ _ _ [0, 1, 2, 3, 4, 5, 6, 7, 8] _ _ _ _
   have hbl := (hbh c16).1
   have hb40 : ts.length ≤ 40 := by omega
   refine Qq 0 rfl rfl (QR.load rfl rfl g23 (Bs.sub _)) ?_
   refine Mv 1 rfl rfl rfl <| Mv 2 rfl rfl rfl <| Ef 3 rfl rfl (EF.call rfl ce8 rfl Takes.nil (fun F' hle hr => pack_spec F' src (mtu := mtu) (ha.mono hle) (fun x hx => TlvIn.mono (hin x hx) hle) hwf hr32 (by omega))) ?_
   rintro _ _ ⟨_, ⟨os, oa, oc, rfl, hos, rfl⟩, rfl⟩
   refine J.app ?_
   refine Mv 4 rfl rfl rfl <| Qp 5 rfl rfl (QP.extract rfl rfl rfl) <| Qp 6 rfl rfl (QP.extract rfl rfl rfl) <| Sg 7 rfl rfl rfl <| Sg 8 rfl rfl rfl <| Sq.nil <| hk6 _ _ <| Run.seq fun k7 hk7 => Run.seq fun k8 hk8 => Run.region ?_
   show Sq _ _ _ [0, 1, 2] _ _ _ _
   refine Mv 0 rfl rfl rfl <| Ef 1 rfl rfl (EF.call rfl ce9 rfl Takes.nil (fun F' hle hr => num7_spec F' _)) ?_
   rintro _ _ ⟨_, ⟨rfl, rfl⟩, rfl⟩
   refine J.app ?_
   refine Qp 2 rfl rfl (QP.neq rfl rfl rfl) <| J.caseD (fun c32 => ?_) (fun c32 => ?_)
   ·refine Sq.nil <| hk8 _ _ <| Run.cond_t rfl <| Run.seq fun k9 hk9 => Run.region ?_
    show Sq _ _ _ [0, 1] _ _ _ _
    refine Ef 0 rfl rfl (EF.call rfl ce7 rfl Takes.nil (fun F' hle hr => live7_spec F')) ?_
    rintro _ _ ⟨_, ⟨rfl, rfl⟩, rfl⟩
    refine J.app ?_
    refine Sg 1 rfl rfl rfl <| Sq.nil <| hk9 _ _ <| Run.ret ?_
    exact J.ends (res_tmp rfl rfl) Takes.nil ⟨rfl, rfl⟩
   ·refine Sq.nil <| hk8 _ _ <| Run.cond_f rfl <| Run.skip <| hk7 _ _ <| Run.seq fun k10 hk10 => Run.region ?_
    show Sq _ _ _ [0] _ _ _ _
    have hpe : packErr src mtu ts = 0 := Decidable.of_not_not c32
    obtain ⟨hmt1, hmt2⟩ := err_mtu hpe
    obtain ⟨gs, hgs, hgf, hgn, hgl, hgfull⟩ := back_law hpe hwf hr32
    have hgo := groups_len hos hgs
    have hol : os.length ≤ 200 := by have h9 := groups_few hgn; rw [hgf, List.length_map] at h9; omega
    refine Sq.slCase (v := .slice oa os.length oc) (xs := os) Rc (fun aq cq hvq hhq => ?_)
    cases hvq
    refine Sg 0 rfl rfl rfl <| Sq.nil <| hk10 _ _ <| Run.seq fun k11 hk11 => Run.seq fun k12 hk12 => Run.region ?_
    show Sq _ _ _ [0] _ _ _ _
    refine Sg 0 rfl rfl rfl <| Sq.nil <| hk12 _ _ <| Run.block <| Run.loop1 (fun (i : Nat) => i ≤ os.length) (fun i => .cons 1 (.int .i64 mtu) (.cons 2 (.slice a ts.length c) (.cons 3 (fp b3) (.cons 7 (.slice oa os.length oc) (.cons 9 (.int .i64 ((gs.take i).flatten.length : Nat)) (.cons 10 (.int .i64 i) (.nil))))))) (fun i => [blk b3 (Bs.enc src) 23, slA 34 1 slE (.slice oa os.length oc) os, rowsS os]) (fun i => os.length - i) (0) (Nat.zero_le _) ?_ ?_
    ·exact fun _ j => J.envJ (J.keep Tk3 j) ⟨rfl, rfl, rfl, rfl, rfl, rfl, trivial⟩
    rintro i hile kl13 hl13
    refine Run.seq fun k14 hk14 => Run.seq fun k15 hk15 => Run.region ?_
    show Sq _ _ _ [0, 1, 2, 3, 4] _ _ _ _
    refine Mv 0 rfl rfl rfl <| Qp 1 rfl rfl (QP.add64 rfl rfl rfl Og Og) <| Mv 2 rfl rfl rfl <| Qp 3 rfl rfl (QP.len rfl rfl rfl Try.underlying27) <| Qp 4 rfl rfl (QP.lss rfl rfl rfl) <| J.caseD (fun c38 => ?_) (fun c38 => ?_)
    ·refine Sq.nil <| hk15 _ _ <| Run.cond_t rfl <| Run.skip <| hk14 _ _ <| Run.seq fun k16 hk16 => Run.block <| Run.seq fun k17 hk17 => Run.regionM (M := [0, 0, 0, 6, 14, 31, 63, 127, 127, 255, 1023]) (q := 479) (r := 17) mixedT Kr ?_
     obtain ⟨y, hiy⟩ : ∃ y, os[i]? = some y := ⟨_, List.getElem?_eq_getElem (by omega)⟩
     obtain ⟨bq, oq, rfl⟩ := hhq.get (by omega)
     have hmy : y ∈ os := List.mem_of_getElem? hiy
     obtain ⟨q, hq, hpq, hyp⟩ := group_at hos hgs hiy
     obtain ⟨q2, p, r, hq2, hp, hfb⟩ := hgfull i (by omega)
     obtain rfl : q2 = q := Option.some.inj (hq2.symm.trans hq)
     obtain ⟨hfe, hfo⟩ := full_law hpe hgf hq hp hfb
     have hlt := (full_at hq hp).2
     rw [hgf, List.length_map] at hlt
     have hql : q2.length ≠ 0 := fun h7 => hgn q2 (List.mem_of_getElem? hq) (List.length_eq_zero_iff.1 h7)
     refine Dr 0 rfl rfl (QR.load rfl rfl g23 (Bs.sub _)) ?_
     refine Dp 1 rfl rfl (QP.move rfl rfl) <| Dp 2 rfl rfl (QP.move rfl rfl) <| Dp 3 rfl rfl (QP.indexAddr rfl rfl rfl Try.underlying27 z34 Og Og) <| Dr 4 rfl rfl (QR.loadSl1 (ev := fun y : SlX => Value.slice y.a y.n y.c) rfl rfl g34 (SlAt.own (fun _ => rfl) Rc) hiy) ?_
     refine De 5 <| Om [] rfl rfl (EF.call rfl ce10 rfl Tk1 (fun F' hle hr => parse_held F' src hmy (by have := hgl y.l hyp; omega))) ?_
     rintro _ _ ⟨_, ⟨ts1, va, rfl, hm1, rfl⟩, rfl⟩
     refine ⟨fun _ h => (by cases h), ?_⟩
     refine J.app ?_
     refine Dp 6 rfl rfl (QP.move rfl rfl) ?_
     rw [hpq]
     rw [hpq] at hm1
     refine Dp 7 rfl rfl (QP.extract rfl rfl rfl) <| Dp 8 rfl rfl (QP.extract rfl rfl rfl) <| De 9 <| Om [] rfl rfl ((QP.assign rfl rfl).eff) ?_
     rintro va _ ⟨rfl, rfl⟩
     refine ⟨fun _ h => (by cases h), ?_⟩
     refine De 10 <| Om [] rfl rfl ((QP.assign rfl rfl).eff) ?_
     rintro _ _ ⟨rfl, rfl⟩
     refine ⟨fun _ h => (by cases h), ?_⟩
     refine Dn <| hk17 _ _ <| Run.seq fun k18 hk18 => Run.seq fun k19 hk19 => Run.region ?_
     show Sq _ _ _ [0, 1, 2, 3, 4, 5, 6, 7, 8, 9, 10, 11] _ _ _ _
     refine Sq.slCase (v := va) (xs := ts1) Rc (fun ap1 cp1 hvp1 hhp1 => ?_)
     subst hvp1
     have hk : ts1.length = q2.length := by have h9 := congrArg List.length hm1; rw [List.length_map] at h9; exact h9
     have hnx : (gs.take (i + 1)).flatten.length = (gs.take i).flatten.length + q2.length := by rw [flat_take hq, List.length_append]
     refine Mv 0 rfl rfl rfl <| Qp 1 rfl rfl (QP.len rfl rfl rfl Try.underlying24) <| Qp 2 rfl rfl (QP.eql rfl rfl rfl) <| J.decF (by omega) ?_
     refine Mv 3 rfl rfl rfl <| Ym 4 rfl rfl rfl rfl <| Ym 5 rfl rfl rfl rfl <| Yp 6 rfl rfl rfl (QP.len rfl rfl rfl Try.underlying24) <| Yp 7 rfl rfl rfl (QP.add64 rfl rfl rfl Og Og) <| Ym 8 rfl rfl rfl rfl <| Yp 9 rfl rfl rfl (QP.len rfl rfl rfl Try.underlying24) <| Yp 10 rfl rfl rfl (QP.geq rfl rfl rfl) <| J.decF (by omega) ?_
     refine Pf 11 rfl rfl rfl rfl <| Sq.nil <| hk19 _ _ <| Run.cond_f rfl <| Run.skip <| hk18 _ _ <| Run.seq fun k20 hk20 => Run.regionM (M := [0, 0, 0, 0, 0, 0, 32, 112, 240, 508, 1023, 2047, 4095, 4095, 8191, 32767]) (q := 15359) (r := 1) mixedT Kr ?_
     obtain ⟨bt, ot, rfl, _⟩ := ha.get (by omega)
     have hsl : (((ts.drop (gs.take i).flatten.length).take (q2.length + 1))).length = q2.length + 1 := by rw [List.length_take, List.length_drop]; omega
     refine Dr 0 rfl rfl (QR.load rfl rfl g23 (Bs.sub _)) ?_
     refine Dp 1 rfl rfl (QP.move rfl rfl) <| Dp 2 rfl rfl (QP.move rfl rfl) <| Dp 3 rfl rfl (QP.move rfl rfl) <| Dp 4 rfl rfl (QP.move rfl rfl) <| Dp 5 rfl rfl (QP.move rfl rfl) <| Dp 6 rfl rfl (QP.len rfl rfl rfl Try.underlying24) <| Dp 7 rfl rfl (QP.add64 rfl rfl rfl Og Og) <| Dp 8 rfl rfl (QP.add64 rfl rfl rfl Og Og) <| Dp 9 rfl rfl (QP.sliceLoHi rfl rfl rfl rfl Try.underlying24 z46 (by omega) (by omega) (by omega)) ?_
     rw [show slOff (some ⟨bt, ot, none⟩) c ((((gs.take i).flatten.length : Nat) : Int)).toNat 68 = some ⟨bt, ot + (gs.take i).flatten.length * 68, none⟩ by unfold slOff; rw [if_neg (by omega), Option.map_some, add_lit, Int.toNat_natCast]]
     rw [show ((((gs.take i).flatten.length : Nat) : Int) + (ts1.length : Int) + 1).toNat - ((((gs.take i).flatten.length : Nat) : Int)).toNat = (((ts.drop (gs.take i).flatten.length).take (q2.length + 1))).length by rw [hsl]; omega]
     refine De 10 <| Om [] rfl rfl (EF.call rfl ce8 rfl Takes.nil (fun F' hle hr => pack_spec F' src (mtu := mtu) (ts := ((ts.drop (gs.take i).flatten.length).take (q2.length + 1))) (a := (some ⟨bt, ot + (gs.take i).flatten.length * 68, none⟩)) (c := c - (gs.take i).flatten.length) (ArgSl.sub tlvE_len (ha.mono hle) (by omega)) (fun x hx => TlvIn.mono (hin x (List.mem_of_mem_drop (List.mem_of_mem_take hx))) hle) (fun x hx => hwf x (List.mem_of_mem_drop (List.mem_of_mem_take hx))) (fun x hx => hr32 x (List.mem_of_mem_drop (List.mem_of_mem_take hx))) (by rw [hsl]; omega))) ?_
     rintro _ _ ⟨_, ⟨os2, oa2, oc2, rfl, hos2, rfl⟩, rfl⟩
     refine ⟨fun _ h => (by cases h), ?_⟩
     refine J.app ?_
     refine Dp 11 rfl rfl (QP.move rfl rfl) ?_
     rw [hfe]
     refine Dp 12 rfl rfl (QP.extract rfl rfl rfl) <| Dp 13 rfl rfl (QP.extract rfl rfl rfl) <| De 14 <| Om [] rfl rfl ((QP.assign rfl rfl).eff) ?_
     rintro _ _ ⟨rfl, rfl⟩
     refine ⟨fun _ h => (by cases h), ?_⟩
     refine De 15 <| Om [] rfl rfl ((QP.assign rfl rfl).eff) ?_
     rintro _ _ ⟨rfl, rfl⟩
     refine ⟨fun _ h => (by cases h), ?_⟩
     refine Dn <| hk20 _ _ <| Run.seq fun k21 hk21 => Run.seq fun k22 hk22 => Run.region ?_
     show Sq _ _ _ [0, 1, 2, 3, 4, 5, 6, 7] _ _ _ _
     have ho2 : os2.length = 2 := by have h9 := congrArg List.length hos2; rw [List.length_map] at h9; omega
     refine Mv 0 rfl rfl rfl <| Ef 1 rfl rfl (EF.call rfl ce9 rfl Takes.nil (fun F' hle hr => num7_spec F' _)) ?_
     rintro _ _ ⟨_, ⟨rfl, rfl⟩, rfl⟩
     refine J.app ?_
     refine Qp 2 rfl rfl (QP.neq rfl rfl rfl) <| Mv 3 rfl rfl rfl <| Ym 4 rfl rfl rfl rfl <| Yp 5 rfl rfl rfl (QP.len rfl rfl rfl Try.underlying27) <| Yp 6 rfl rfl rfl (QP.neq rfl rfl rfl) <| J.decF (by omega) ?_
     refine Pf 7 rfl rfl rfl rfl <| Sq.nil <| hk22 _ _ <| Run.cond_f rfl <| Run.skip <| hk21 _ _ <| Run.region ?_
     show Sq _ _ _ [0, 1, 2, 3, 4] _ _ _ _
     refine Mv 0 rfl rfl rfl <| Mv 1 rfl rfl rfl <| Qp 2 rfl rfl (QP.len rfl rfl rfl Try.underlying24) <| Qp 3 rfl rfl (QP.add64 rfl rfl rfl Og Og) <| Sg 4 rfl rfl rfl <| Sq.nil <| hk16 _ _ <| Run.region ?_
     show Sq _ _ _ [0, 1, 2] _ _ _ _
     refine Mv 0 rfl rfl rfl <| Qp 1 rfl rfl (QP.add64 rfl rfl rfl Og Og) <| Sg 2 rfl rfl rfl <| Sq.nil ?_
     rw [hk, ← Int.natCast_add, ← hnx]
     exact J.envJ (J.keep Tk3 (hl13 (i + 1) (by omega) (by omega))) ⟨rfl, rfl, rfl, rfl, rfl, rfl, trivial⟩
    ·refine Sq.nil <| hk15 _ _ <| Run.cond_f rfl <| Run.exit rfl ?_
     refine hk11 _ _ <| Run.seq fun k23 hk23 => Run.region ?_
     show Sq _ _ _ [0, 1] _ _ _ _
     refine Ef 0 rfl rfl (EF.call rfl ce7 rfl Takes.nil (fun F' hle hr => live7_spec F')) ?_
     rintro _ _ ⟨_, ⟨rfl, rfl⟩, rfl⟩
     refine J.app ?_
     refine Sg 1 rfl rfl rfl <| Sq.nil <| hk23 _ _ <| Run.ret ?_
     exact J.ends (res_tmp rfl rfl) Takes.nil ⟨rfl, rfl⟩
end Slb
