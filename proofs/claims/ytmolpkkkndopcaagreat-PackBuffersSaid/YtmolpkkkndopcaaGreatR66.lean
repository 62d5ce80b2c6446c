/- R66: a part of the proof that a law of this package holds for every input; no condition. -/
import Derived.Test.YtmolpkkkndopcaaGreatM2
import Derived.Test.YtmolpkkkndopcaaGreatR65
namespace Slb
open Go Go.Proofs
set_option maxRecDepth 20000
set_option maxHeartbeats 4000000 in
theorem rpiece_spec (F : Fr) (x : TlvX) (hw : (tlvS x).WF) (hx : TlvIn F x) (hn : x.l.length ≤ 2) (hr32 : ∀ n ∈ x.l, 0 ≤ n ∧ n < 4294967296) (h0 : (tlvS x).type ≠ 0) (hd : checkB (tlvS x).pair.dst = true) (hs : checkB (tlvS x).pair.src = true) (ht : (tlvS x).type = 2 ∨ (tlvS x).type = 3 ∨ (tlvS x).type = 4 ∨ (tlvS x).type = 5 ∨ (tlvS x).type = 8 ∨ (tlvS x).type = 9 ∨ (tlvS x).type = 10)  : Spec Tryz.prog 12 #[.agg (Tlv.enc (tlvS x)).toArray] [] F (fun v S => S = [slA 5 1 bytE v (pieceF (tlvS x) x.l)]) := by
 have hw9 := hw
 obtain ⟨hw0, hw1, hw2, hw3, hw4, hw5, hw6, _⟩ := hw
 have hv0 := hw0
 try dsimp only at hv0
 have hv1 := hw1
 try dsimp only at hv1
 have hv2 := hw2
 try dsimp only at hv2
 have hv3 := hw3
 try dsimp only at hv3
 have hv4 := hw4
 try dsimp only at hv4
 have hv5 := hw5
 try dsimp only at hv5
 have hv6 := hw6
 try dsimp only at hv6
 have hty0 : ((UInt8.ofNat (tlvS x).type.toNat).toNat : Int) = (tlvS x).type := by rw [UInt8.toNat_ofNat']; omega
 have hsub : SubL (Tlv.enc (tlvS x)) 0 1 [.int .u8 ((UInt8.ofNat (tlvS x).type.toNat).toNat : Int)] := by have h9 := Tlv.sub_type (tlvS x); rw [← hty0] at h9; exact h9
 refine Spec.intro (N := 70) (args := [.agg (Tlv.enc (tlvS x)).toArray]) Tryz.func12 rfl rfl (by simp) ?_
 refine Zs fun _ hk1 => Ef 0 E2 (EF.boxA rfl rfl) ?_
 rintro _ _ ⟨b1, rfl, rfl⟩
 refine Sg 1 E3 <| Zl hk1 <| Zs fun _ hk2 => Sg 0 E3 <| Zl hk2 <| Run.cut2 (fun (vo : Value) (zs : List UInt8) => zs = bodyF (tlvS x) x.l) (fun vo zs => .cons 1 (fp b1) (.cons 3 (vo) (.nil))) (fun vo zs => [slA 5 1 bytE vo zs, blk b1 (Tlv.enc (tlvS x)) 45]) ?_ ?_
 ·rintro vo zs hz
  refine Run.seq fun _ hk4 => Run.region ?_
  subst hz
  refine Sq.slCase (v := vo) (xs := (bodyF (tlvS x) x.l)) Rc (fun ab cb hvb hhb => ?_)
  subst hvb
  have hty : ((UInt8.ofNat (tlvS x).type.toNat).toNat : Int) = (tlvS x).type := by rw [UInt8.toNat_ofNat']; omega
  refine Fa 0 E3 f45_0 <| Qq 1 E2 (Z1 E2 g5 hsub) ?_
  refine Mv 2 E3 <| Qp 3 E2 (QP.build (l := Raw.enc ⟨((UInt8.ofNat (tlvS x).type.toNat).toNat : Int), ⟨ab, (bodyF (tlvS x) x.l).length, cb⟩⟩) rfl st81 rfl (by exact ⟨rfl, ⟨rfl, trivial⟩⟩) rfl) <| Ef 4 E2 (EF.call rfl ce32 rfl Tk1 (fun F' hle hr => Spec.lendSl (e := 5) (z := 1) (enc := bytE) (xs := bodyF (tlvS x) x.l) (fun _ => rfl) (fun F2 _ hb2 => rjoin_spec F2 (UInt8.ofNat (tlvS x).type.toNat) (fun h => by have h9 := congrArg UInt8.toNat h; rw [UInt8.toNat_ofNat'] at h9; have h8 : UInt8.toNat 0 = 0 := rfl; rw [h8] at h9; have h7 := h0; omega) (by have := body_len (tlvS x) hn; omega) hb2))) ?_
  rintro v69 _ ⟨_, ⟨_, rfl, rfl⟩, rfl⟩
  exact J.app <| Sg 5 E3 <| Zl hk4 <| Run.ret <| J.ends (res_tmp rfl rfl) Tk1 rfl
 ·intro ku3 hu3
  refine Zs fun _ hk5 => Fa 0 E3 f45_0 <| Qq 1 E2 (Z1 E2 g5 (Tlv.sub_type _)) ?_
  refine Zl hk5 <| Run.block <| Zs fun _ hk6 => Qp 0 E2 (Ze E3) <| J.caseD (fun c12 => ?_) (fun c12 => ?_)
  ·refine Sg 1 E3 <| Zl hk6 <| Zt <| Run.region <| Fa 0 E3 f45_1 <| Qq 1 E2 (Z1 E2 g36 (Tlv.sub_nonce _)) ?_
   refine Fa 2 E3 f45_2 <| Qq 3 E2 (Z1 E2 g36 (Tlv.sub_interval _)) ?_
   refine Ef 4 E2 (EF.buildSliceS rfl Tryz.underlying122 z36 zero36 rfl (by decide) rfl rfl rfl rfl) ?_
   rintro _ _ ⟨b17, rfl, rfl⟩
   refine J.addSl 5 1 bytE ?_
   refine Ef 5 E2 (EF.call rfl ce28 rfl Tk1 (fun F' hle hr => rtwo_spec F' (xs := []) (ns := [0, (tlvS x).nonce, (tlvS x).interval]) (argSl_all (enc := u16E) (xs := [0, (tlvS x).nonce, (tlvS x).interval]) (fun _ => rfl) (hr b17 _ Rc)) (fun n hn => by simp only [List.mem_cons, List.not_mem_nil, or_false] at hn; omega) (by simp))) ?_
   rintro v18 _ ⟨_, rfl, rfl⟩
   exact J.app <| Sg 6 E3 <| Sq.nil <| J.envJ (J.keep Tk2 (hu3 (v18) (nums 2 [0, (tlvS x).nonce, (tlvS x).interval]) (by unfold bodyF; rw [if_pos c12]))) ⟨rfl, rfl, trivial⟩
  ·refine Sg 1 E3 <| Zl hk6 <| Zf <| Zs fun _ hk7 => Qp 0 E2 (Ze E3) <| J.caseD (fun c20 => ?_) (fun c20 => ?_)
   ·refine Sg 1 E3 <| Zl hk7 <| Zt <| Run.region <| Fa 0 E3 f45_1 <| Qq 1 E2 (Z1 E2 g36 (Tlv.sub_nonce _)) ?_
    refine Ef 2 E2 (EF.buildSliceS rfl Tryz.underlying122 z36 zero36 rfl (by decide) rfl rfl rfl rfl) ?_
    rintro _ _ ⟨b23, rfl, rfl⟩
    refine J.addSl 5 1 bytE ?_
    refine Ef 3 E2 (EF.call rfl ce28 rfl Tk1 (fun F' hle hr => rtwo_spec F' (xs := []) (ns := [(tlvS x).nonce]) (argSl_all (enc := u16E) (xs := [(tlvS x).nonce]) (fun _ => rfl) (hr b23 _ Rc)) (fun n hn => by simp only [List.mem_cons, List.not_mem_nil, or_false] at hn; omega) (by simp))) ?_
    rintro v24 _ ⟨_, rfl, rfl⟩
    exact J.app <| Sg 4 E3 <| Sq.nil <| J.envJ (J.keep Tk2 (hu3 (v24) (nums 2 [(tlvS x).nonce]) (by unfold bodyF; rw [if_neg c12, if_pos c20]))) ⟨rfl, rfl, trivial⟩
   ·refine Sg 1 E3 <| Zl hk7 <| Zf <| Zs fun _ hk8 => Qp 0 E2 (Ze E3) <| J.caseD (fun c26 => ?_) (fun c26 => ?_)
    ·refine Sg 1 E3 <| Zl hk8 <| Zt <| Zs fun _ hk9 => Sg 0 E3 <| Zl hk9 <| Run.cut1 (fun (fl : Int) => fl = flagF (tlvS x) ∧ 0 ≤ fl ∧ fl ≤ 65535) (fun fl => .cons 1 (fp b1) (.cons 4 (.int .u16 fl) (.nil))) (fun fl => [blk b1 (Tlv.enc (tlvS x)) 45]) ?_ ?_
     ·rintro fl ⟨hfl, hf0, hf1⟩
      refine Run.regionD (M := [0, 0, 2, 0, 8, 31, 63, 0, 128, 511, 1023, 2047]) (q := 415) (r := 276) Kr ?_
      refine J.addSl 5 1 bytE ?_
      refine Dp 0 E2 (Zm E2) <| Dp 1 E2 (Za E2 f45_3) <| Dr 2 E2 (Z1 E2 g36 (Tlv.sub_seqno _)) ?_
      refine Dp 3 E2 (Za E2 f45_2) <| Dr 4 E2 (Z1 E2 g36 (Tlv.sub_interval _)) ?_
      refine Dp 7 E2 (Za E2 f45_12) <| Dr 8 E2 (QR.load1 (v := .slice x.a x.l.length x.c) rfl rfl g43 (Tlv.sub_stamps _)) ?_
      refine De 5 <| Om [8] rfl rfl (EF.buildSliceS rfl Tryz.underlying122 z36 zero36 rfl (by decide) rfl rfl rfl rfl) ?_
      rintro _ _ ⟨b34, rfl, rfl⟩
      refine ⟨?_, ?_⟩
      ·rw [List.forall_mem_cons]
       refine ⟨?_, fun _ h => (by cases h)⟩
       ·exact Look.mk rfl rfl rfl (QR.load1 (v := .slice x.a x.l.length x.c) rfl rfl g43 (Tlv.sub_stamps _))
      refine ?_
      refine De 6 <| Om [8] rfl rfl (EF.call rfl ce28 rfl Tk1 (fun F' hle hr => rtwo_spec F' (xs := []) (ns := [fl, (tlvS x).seqno, (tlvS x).interval]) (argSl_all (enc := u16E) (xs := [fl, (tlvS x).seqno, (tlvS x).interval]) (fun _ => rfl) (hr b34 _ Rc)) (fun n hn => by simp only [List.mem_cons, List.not_mem_nil, or_false] at hn; omega) (by simp))) ?_
      rintro v35 _ ⟨_, rfl, rfl⟩
      refine ⟨?_, ?_⟩
      ·rw [List.forall_mem_cons]
       refine ⟨?_, fun _ h => (by cases h)⟩
       ·refine Look.app ?_
        exact Look.mk rfl rfl rfl (QR.load1 (v := .slice x.a x.l.length x.c) rfl rfl g43 (Tlv.sub_stamps _))
      refine ?_
      refine J.app <| De 9 <| Om [] rfl rfl (EF.call rfl ce29 rfl Takes.nil (fun F' hle hr => rstamps_spec F' (ns := x.l) (ArgSl.mono hx hle) hr32 hn)) ?_
      rintro v38 _ ⟨_, rfl, rfl⟩
      refine ⟨fun _ h => (by cases h), ?_⟩
      refine J.app <| Dw.slCase (v := v38) (xs := (timesF x.l)) Rc (fun a38 c38 hv38 hh38 => ?_)
      subst hv38
      refine De 10 <| Om [] rfl rfl (EF.append (xs := (nums 2 [fl, (tlvS x).seqno, (tlvS x).interval])) (ys := timesF x.l) (enc := bytE) el5 (fun _ => rfl) (fun _ => cell_one rfl) rfl rfl rfl Tryz.underlying46 Tryz.underlying46 rfl rfl Rc (RowsAt.ownH (e := 5) (fun _ => rfl) hh38 (by repeat (first | exact List.Mem.head _ | apply List.Mem.tail))) (by have := times_len hn; simp [nums_len]; omega)) ?_
      rintro sl39 _ rfl
      refine ⟨fun _ h => (by cases h), ?_⟩
      refine De 11 <| Om [] rfl rfl ((Zg E2).eff) ?_
      rintro sl39 _ ⟨rfl, rfl⟩
      refine ⟨fun _ h => (by cases h), ?_⟩
      exact Dn <| J.envJ (J.keep Tk2 (hu3 (sl39) (((nums 2 [fl, (tlvS x).seqno, (tlvS x).interval]) ++ timesF x.l)) (by unfold bodyF; rw [if_neg c12, if_neg c20, if_pos c26, hfl]))) ⟨rfl, rfl, trivial⟩
     ·intro ku10 hu10
      refine Zs fun _ hk11 => Fa 0 E3 f45_7 <| Qq 1 E2 (Z1 E2 g4 (Tlv.sub_unicast _)) ?_
      refine J.caseB (fun c28 => ?_) (fun c28 => ?_)
      ·exact Zl hk11 <| Zt <| Run.region <| Sg 0 E3 <| Sq.nil <| J.envJ (J.keep Tk1 (hu10 (32768) (⟨by unfold flagF; rw [if_pos (show (tlvS x).unicast = true from c28)], by decide, by decide⟩))) ⟨rfl, rfl, trivial⟩
      ·exact Zl hk11 <| Zf <| Run.skip <| J.envJ (J.keep Tk1 (hu10 (0) (⟨by unfold flagF; rw [if_neg (by rw [show (tlvS x).unicast = false from c28]; simp)], by decide, by decide⟩))) ⟨rfl, rfl, trivial⟩
    ·refine Sg 1 E3 <| Zl hk8 <| Zf <| Zs fun _ hk12 => Qp 0 E2 (Ze E3) <| J.caseD (fun c41 => ?_) (fun c41 => ?_)
     ·refine Sg 1 E3 <| Zl hk12 <| Zt <| Zs fun _ hk13 => Fa 0 E3 f45_10 <| Qq 1 E2 (Z0 E2 g23 (Tlv.sub_addr _)) ?_
      refine Ef 2 E2 (EF.call rfl ce30 rfl Takes.nil (fun F' hle hr => raddr_spec F' (tlvS x).addr)) ?_
      rintro _ _ ⟨_, ⟨v6, rfl, rfl⟩, rfl⟩
      refine J.app <| Mv 3 E3 <| Qp 4 E2 (Zx E3) <| Qp 5 E2 (Zx E3) <| Sg 6 E3 <| Sg 7 E3 <| Zl hk13 <| Run.cut2 (fun (ae : UInt8) (D : SlX) => (ae, D.l) = ihuF (tlvS x)) (fun ae D => .cons 1 (fp b1) (.cons 5 (.int .u8 (ae.toNat : Int)) (.cons 6 (.slice D.a D.n D.c) (.nil)))) (fun ae D => [blk b1 (Tlv.enc (tlvS x)) 45, slA 23 1 bytE (.slice D.a D.n D.c) D.l]) ?_ ?_
      ·rintro ae D hD
       refine Zs fun _ hk15 => Mv 0 E3 <| Ef 1 E2 (EF.buildSliceS rfl Tryz.underlying46 z5 zero5 rfl (by decide) rfl rfl rfl rfl) ?_
       rintro _ _ ⟨b51, rfl, rfl⟩
       refine J.close (A := slA 5 1 bytE (.slice (some ⟨b51, 0, none⟩) 2 2) [ae, 0]) (m := [blk b51 [.int .u8 (ae.toNat : Int), .int .u8 0] 5]) Tk1 (fun _ q => slA_blk (xs := [ae, 0]) rfl q) ?_
       refine Fa 2 E3 f45_4 <| Qq 3 E2 (Z1 E2 g36 (Tlv.sub_rxcost _)) ?_
       refine Fa 4 E3 f45_2 <| Qq 5 E2 (Z1 E2 g36 (Tlv.sub_interval _)) ?_
       refine Ef 6 E2 (EF.buildSliceS rfl Tryz.underlying122 z36 zero36 rfl (by decide) rfl rfl rfl rfl) ?_
       rintro _ _ ⟨b56, rfl, rfl⟩
       refine Ef 7 E2 (EF.call rfl ce28 rfl Tk1 (fun F' hle hr => rtwo_spec F' (xs := [ae, 0]) (ns := [(tlvS x).rxcost, (tlvS x).interval]) (argSl_all (enc := u16E) (xs := [(tlvS x).rxcost, (tlvS x).interval]) (fun _ => rfl) (hr b56 _ Rc)) (fun n hn => by simp only [List.mem_cons, List.not_mem_nil, or_false] at hn; omega) (by simp))) ?_
       rintro v57 _ ⟨_, rfl, rfl⟩
       refine J.app <| Sq.slCase (v := .slice D.a D.n D.c) (xs := D.l) Rc (fun ad cd hvd hhd => ?_)
       rw [hvd]
       refine Mv 8 E3 <| Ef 9 E2 (EF.append (xs := ([ae, 0] ++ nums 2 [(tlvS x).rxcost, (tlvS x).interval])) (ys := D.l) (enc := bytE) el5 (fun _ => rfl) (fun _ => cell_one rfl) rfl rfl rfl Tryz.underlying46 Tryz.underlying46 rfl rfl Rc (RowsAt.ownH (e := 23) (fun _ => rfl) hhd (by repeat (first | exact List.Mem.head _ | apply List.Mem.tail))) (by have := ihu_len (tlvS x); have hD2 : D.l = (ihuF (tlvS x)).2 := (by rw [← hD]); rw [hD2]; simp [nums_len]; omega)) ?_
       rintro sl59 _ rfl
       refine Sg 10 E3 <| Zl hk15 <| Run.region <| Mv 0 E3 <| Fa 1 E3 f45_12 <| Qq 2 E2 (QR.load1 (v := .slice x.a x.l.length x.c) rfl rfl g43 (Tlv.sub_stamps _)) ?_
       refine Ef 3 E2 (EF.call rfl ce29 rfl Takes.nil (fun F' hle hr => rstamps_spec F' (ns := x.l) (ArgSl.mono hx hle) hr32 hn)) ?_
       rintro v63 _ ⟨_, rfl, rfl⟩
       refine J.app <| Sq.slCase (v := v63) (xs := (timesF x.l)) Rc (fun a63 c63 hv63 hh63 => ?_)
       subst hv63
       refine Ef 4 E2 (EF.append (xs := (([ae, 0] ++ nums 2 [(tlvS x).rxcost, (tlvS x).interval]) ++ D.l)) (ys := timesF x.l) (enc := bytE) el5 (fun _ => rfl) (fun _ => cell_one rfl) rfl rfl rfl Tryz.underlying46 Tryz.underlying46 rfl rfl Rc (RowsAt.ownH (e := 5) (fun _ => rfl) hh63 (by repeat (first | exact List.Mem.head _ | apply List.Mem.tail))) (by have := times_len hn; have := ihu_len (tlvS x); have hD2 : D.l = (ihuF (tlvS x)).2 := (by rw [← hD]); rw [hD2]; simp [nums_len]; omega)) ?_
       rintro sl64 _ rfl
       exact Sg 5 E3 <| Sq.nil <| J.envJ (J.keep Tk2 (hu3 (sl64) (((([ae, 0] ++ nums 2 [(tlvS x).rxcost, (tlvS x).interval]) ++ D.l) ++ timesF x.l)) (by unfold bodyF; rw [if_neg c12, if_neg c20, if_neg c26, if_pos c41, ← hD]; simp))) ⟨rfl, rfl, trivial⟩
      ·intro ku14 hu14
       refine Zs fun _ hk16 => Sq.slCase (v := v6) (xs := (adF (tlvS x).addr).2) Rc (fun a6 c6 hv6 hh6 => ?_)
       subst hv6
       refine Fa 0 E3 f45_8 <| Qq 1 E2 (Z1 E2 g4 (Tlv.sub_all _)) ?_
       refine J.caseB (fun c49 => ?_) (fun c49 => ?_)
       ·refine Zl hk16 <| Zt <| Run.region <| Sg 0 E3 <| Sg 1 E3 <| Sq.nil <| J.addSl 23 1 bytE ?_
        exact J.envJ (J.keep Tk2 (hu14 (0) (⟨none, 0, 0, [], rfl⟩) (by unfold ihuF; rw [if_pos (show (tlvS x).all = true from c49)]))) ⟨rfl, rfl, rfl, trivial⟩
       ·exact Zl hk16 <| Zf <| Run.skip <| J.envJ (J.keep Tk2 (hu14 ((adF (tlvS x).addr).1) (⟨a6, _, c6, (adF (tlvS x).addr).2, rfl⟩) (by unfold ihuF; rw [if_neg (by rw [show (tlvS x).all = false from c49]; simp)]))) ⟨rfl, rfl, rfl, trivial⟩
     ·refine Sg 1 E3 <| Zl hk12 <| Zf <| Run.region <| Qq 0 E2 (Z0 E2 g45 (Tlv.enc_sub _)) ?_
      refine Ef 1 E2 (EF.call rfl ce31 rfl Takes.nil (fun F' hle hr => rrouted_spec F' (t := (tlvS x)) hw9 hd hs (by omega))) ?_
      rintro v10 _ ⟨_, rfl, rfl⟩
      exact J.app <| Sg 2 E3 <| Sq.nil <| J.envJ (J.keep Tk2 (hu3 (v10) ((routedF (tlvS x))) (by unfold bodyF; rw [if_neg c12, if_neg c20, if_neg c26, if_neg c41]))) ⟨rfl, rfl, trivial⟩
end Slb
