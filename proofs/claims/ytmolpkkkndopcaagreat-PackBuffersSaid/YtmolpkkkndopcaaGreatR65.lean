/- R65: a part of the proof that a law of this package holds for every input; no condition. -/
import Derived.Test.YtmolpkkkndopcaaGreatM2
import Derived.Test.YtmolpkkkndopcaaGreatR64
namespace Slb
open Go Go.Proofs
set_option maxRecDepth 20000
set_option maxHeartbeats 4000000 in
theorem rrouted_spec (F : Fr) {t : Tlv} (hw : t.WF) (hd : checkB t.pair.dst = true) (hs : checkB t.pair.src = true) (h3 : t.type = 8 ∨ t.type = 9 ∨ t.type = 10)  : Spec Tryz.prog 31 #[.agg (Tlv.enc t).toArray] [] F (fun v S => S = [slA 5 1 bytE v (routedF t)]) := by
 have hhop : t.hops = ((UInt8.ofNat t.hops.toNat).toNat : Int) := by have := hw.2.2.2.2.2.2.1; simp; omega
 have hsub : SubL (Tlv.enc t) 6 1 [.int .u8 ((UInt8.ofNat t.hops.toNat).toNat : Int)] := by have h9 := Tlv.sub_hops t; rw [hhop] at h9; exact h9
 obtain ⟨hw0, hw1, hw2, hw3, hw4, hw5, hw6, _⟩ := hw
 refine Spec.intro (N := 69) (args := [.agg (Tlv.enc t).toArray]) Tryz.func31 rfl rfl (by simp) ?_
 refine Zs fun _ hk1 => Ef 0 E2 (EF.boxA rfl rfl) ?_
 rintro _ _ ⟨b1, rfl, rfl⟩
 refine Sg 1 E3 <| Zl hk1 <| Zs fun _ hk2 => Fa 0 E3 f45_11 <| Fa 1 E3 f42_0 <| Qq 2 E2 (Z0 E2 g40 ((Tlv.sub_pair _).trans (Pair.sub_dst _))) ?_
 refine Ef 3 E2 (EF.call rfl ce51 rfl Takes.nil (fun F' hle hr => rprefix_spec F' (p := t.pair.dst) hd)) ?_
 rintro _ _ ⟨_, ⟨v5, rfl, rfl⟩, rfl⟩
 refine J.app <| Mv 4 E3 <| Qp 5 E2 (Zx E3) <| Qp 6 E2 (Zx E3) <| Qp 7 E2 (Zx E3) <| Sg 8 E3 <| Sg 9 E3 <| Sg 10 E3 <| Zl hk2 <| Zs fun _ hk3 => Sq.slCase (v := v5) (xs := (pxF t.pair.dst).2.2) Rc (fun a5 c5 hv5 hh5 => ?_)
 subst hv5
 refine Fa 0 E3 f45_11 <| Qq 1 E2 (Z0 E2 g42 (Tlv.sub_pair _)) ?_
 refine Ef 2 E2 (EF.call rfl ce52 rfl Takes.nil (fun F' hle hr => rsource_spec F' t.pair hs)) ?_
 rintro v6 _ ⟨_, rfl, rfl⟩
 refine J.app <| Sg 3 E3 <| Zl hk3 <| Run.cut4 (fun (ae : UInt8) (plen : UInt8) (D : SlX) (Z : SlX) => (ae, plen, D.l) = dstF t ∧ Z.l = srcF t) (fun ae plen D Z => .cons 1 (fp b1) (.cons 3 (.int .u8 (ae.toNat : Int)) (.cons 4 (.int .u8 (plen.toNat : Int)) (.cons 5 (.slice D.a D.n D.c) (.cons 6 (.slice Z.a Z.n Z.c) (.nil)))))) (fun ae plen D Z => [blk b1 (Tlv.enc t) 45, slA 40 1 bytE (.slice D.a D.n D.c) D.l, slA 5 1 bytE (.slice Z.a Z.n Z.c) Z.l]) ?_ ?_
 ·rintro ae plen D Z ⟨hdt, hsl⟩
  refine Zs fun _ hk5 => Sg 0 E3 <| Zl hk5 <| Run.cut2 (fun (vo : Value) (zs : List UInt8) => zs = headF t ae plen) (fun vo zs => .cons 5 (.slice D.a D.n D.c) (.cons 6 (.slice Z.a Z.n Z.c) (.cons 7 (vo) (.nil)))) (fun vo zs => [slA 5 1 bytE vo zs, slA 40 1 bytE (.slice D.a D.n D.c) D.l, slA 5 1 bytE (.slice Z.a Z.n Z.c) Z.l]) ?_ ?_
  ·rintro vo zs hz
   refine Run.seq fun _ hk7 => Run.region ?_
   have hdl : D.l = (dstF t).2.2 := by rw [← hdt]
   refine Sq.slCase (v := .slice D.a D.n D.c) (xs := D.l) Rc (fun ad cd hvd hhd => ?_)
   rw [hvd]
   refine Sq.slCase (v := .slice Z.a Z.n Z.c) (xs := Z.l) Rc (fun az cz hvz hhz => ?_)
   rw [hvz]
   refine Mv 0 E3 <| Mv 1 E3 <| Ef 2 E2 (EF.append (xs := zs) (ys := D.l) (enc := bytE) el5 (fun _ => rfl) (fun _ => cell_one rfl) rfl rfl rfl Tryz.underlying46 Tryz.underlying46 rfl rfl Rc (RowsAt.ownH (e := 40) (fun _ => rfl) hhd (by repeat (first | exact List.Mem.head _ | apply List.Mem.tail))) (by have := dst_len t; have := head_len8 t ae plen; rw [hz, hdl]; omega)) ?_
   rintro sl66 _ rfl
   refine Mv 3 E3 <| Ef 4 E2 (EF.append (xs := zs ++ D.l) (ys := Z.l) (enc := bytE) el5 (fun _ => rfl) (fun _ => cell_one rfl) rfl rfl rfl Tryz.underlying46 Tryz.underlying46 rfl rfl Rc (RowsAt.ownH (e := 5) (fun _ => rfl) hhz (by repeat (first | exact List.Mem.head _ | apply List.Mem.tail))) (by have := dst_len t; have := src_len t; have := head_len8 t ae plen; rw [List.length_append, hz, hdl, hsl]; omega)) ?_
   rintro sl68 _ rfl
   refine Sg 5 E3 <| Zl hk7 <| Run.ret ?_
   have hR : routedF t = (zs ++ D.l) ++ Z.l := by
     unfold routedF
     rw [← hdt, hz, ← hsl, List.append_assoc]
   rw [hR]
   exact J.ends (res_tmp rfl rfl) Tk1 rfl
  ·intro ku6 hu6
   refine Zs fun _ hk8 => Fa 0 E3 f45_0 <| Qq 1 E2 (Z1 E2 g5 (Tlv.sub_type _)) ?_
   refine Zl hk8 <| Run.block <| Zs fun _ hk9 => Qp 0 E2 (Ze E3) <| J.caseD (fun c47 => ?_) (fun c47 => ?_)
   ·refine Sg 1 E3 <| Zl hk9 <| Zt <| Run.region <| Mv 0 E3 <| Mv 1 E3 <| Ef 2 E2 (EF.buildSliceS rfl Tryz.underlying46 z5 zero5 rfl (by decide) rfl rfl rfl rfl) ?_
    rintro _ _ ⟨b50, rfl, rfl⟩
    refine J.close (A := slA 5 1 bytE (.slice (some ⟨b50, 0, none⟩) 4 4) [ae, 0, plen, 0]) (m := [blk b50 [.int .u8 (ae.toNat : Int), .int .u8 0, .int .u8 (plen.toNat : Int), .int .u8 0] 5]) Tk1 (fun _ q => slA_blk (xs := [ae, 0, plen, 0]) rfl q) ?_
    refine Fa 3 E3 f45_2 <| Qq 4 E2 (Z1 E2 g36 (Tlv.sub_interval _)) ?_
    refine Fa 5 E3 f45_3 <| Qq 6 E2 (Z1 E2 g36 (Tlv.sub_seqno _)) ?_
    refine Fa 7 E3 f45_5 <| Qq 8 E2 (Z1 E2 g36 (Tlv.sub_metric _)) ?_
    refine Ef 9 E2 (EF.buildSliceS rfl Tryz.underlying122 z36 zero36 rfl (by decide) rfl rfl rfl rfl) ?_
    rintro _ _ ⟨b57, rfl, rfl⟩
    refine Ef 10 E2 (EF.call rfl ce28 rfl Tk1 (fun F' hle hr => rtwo_spec F' (xs := [ae, 0, plen, 0]) (ns := [t.interval, t.seqno, t.metric]) (argSl_all (enc := u16E) (xs := [t.interval, t.seqno, t.metric]) (fun _ => rfl) (hr b57 _ Rc)) (fun n hn => by simp only [List.mem_cons, List.not_mem_nil, or_false] at hn; omega) (by simp))) ?_
    rintro v58 _ ⟨_, rfl, rfl⟩
    exact J.app <| Sg 11 E3 <| Sq.nil <| J.envJ (J.keep Tk3 (hu6 (v58) ((([ae] ++ [0, plen, 0]) ++ nums 2 [t.interval, t.seqno, t.metric])) (by unfold headF; rw [if_pos c47]))) ⟨rfl, rfl, rfl, trivial⟩
   ·refine Sg 1 E3 <| Zl hk9 <| Zf <| Zs fun _ hk10 => Qp 0 E2 (Ze E3) <| J.caseD (fun c60 => ?_) (fun c60 => ?_)
    ·refine Sg 1 E3 <| Zl hk10 <| Zt <| Run.region <| Mv 0 E3 <| Mv 1 E3 <| Ef 2 E2 (EF.buildSliceS rfl Tryz.underlying46 z5 zero5 rfl (by decide) rfl rfl rfl rfl) ?_
     rintro _ _ ⟨b63, rfl, rfl⟩
     refine J.close (A := slA 5 1 bytE (.slice (some ⟨b63, 0, none⟩) 2 2) [ae, plen]) (m := [blk b63 [.int .u8 (ae.toNat : Int), .int .u8 (plen.toNat : Int)] 5]) Tk1 (fun _ q => slA_blk (xs := [ae, plen]) rfl q) ?_
     exact Sg 3 E3 <| Sq.nil <| J.envJ (J.keep Tk3 (hu6 (.slice (some ⟨b63, 0, none⟩) 2 2) (([ae] ++ [plen])) (by unfold headF; rw [if_neg c47, if_pos c60]))) ⟨rfl, rfl, rfl, trivial⟩
    ·refine Sg 1 E3 <| Zl hk10 <| Zf <| Run.cut2 (fun (vj : Value) (zj : List UInt8) => zj = ((([ae] ++ [plen]) ++ nums 2 [t.seqno]) ++ [UInt8.ofNat t.hops.toNat, 0])) (fun vj zj => .cons 1 (fp b1) (.cons 5 (.slice D.a D.n D.c) (.cons 6 (.slice Z.a Z.n Z.c) (.cons 7 (vj) (.nil))))) (fun vj zj => [slA 5 1 bytE vj zj, blk b1 (Tlv.enc t) 45, slA 40 1 bytE (.slice D.a D.n D.c) D.l, slA 5 1 bytE (.slice Z.a Z.n Z.c) Z.l]) ?_ ?_
     ·rintro vj zj hj
      refine Zs fun _ hk12 => Sg 0 E3 <| Zl hk12 <| Run.block <| Run.loop3 (fun (i : Nat) (vi : Value) (zi : List UInt8) => i ≤ 8 ∧ zi = ((([ae] ++ [plen]) ++ nums 2 [t.seqno]) ++ [UInt8.ofNat t.hops.toNat, 0]) ++ t.id_.l.take i) (fun i vi zi => .cons 1 (fp b1) (.cons 5 (.slice D.a D.n D.c) (.cons 6 (.slice Z.a Z.n Z.c) (.cons 7 (vi) (.cons 8 (.int .i64 i) (.nil)))))) (fun i vi zi => [slA 5 1 bytE vi zi, blk b1 (Tlv.enc t) 45, slA 40 1 bytE (.slice D.a D.n D.c) D.l, slA 5 1 bytE (.slice Z.a Z.n Z.c) Z.l]) (fun i vi zi => 8 - i) (0) (vj) (zj) (⟨by decide, by rw [List.take_zero, List.append_nil]; exact hj⟩) ?_ ?_
      ·exact fun _ j => J.envJ (J.keep Tk4 j) ⟨rfl, rfl, rfl, rfl, rfl, trivial⟩
      rintro i vi zi ⟨hi8, hzi⟩ kl13 hl13
      refine Run.seq fun _ hk14 => Zs fun _ hk15 => Mv 0 E3 <| Qp 1 E2 (Zb E3) <| J.caseD (fun c36 => ?_) (fun c36 => ?_)
      ·refine Zl hk15 <| Zt <| Run.skip <| hk14 _ _ <| Run.seq fun _ hk16 => Run.block <| Run.region ?_
       obtain ⟨cb, hcb⟩ : ∃ c, t.id_.l[i]? = some c := ⟨_, List.getElem?_eq_getElem (by rw [t.id_.h]; omega)⟩
       have hzl : zi.length ≤ 100 := by rw [hzi]; simp [nums_len]; omega
       refine Mv 0 E3 <| Mv 1 E3 <| Fa 2 E3 f45_9 <| Qp 3 E2 (QP.indexArr rfl rfl rfl Tryz.underlying38 z5 Og Og) <| Qq 4 E2 (Z1 E2 g5 (SubL.trans (Tlv.sub_id_ _) (Bs.subAt _ hcb (by simp)))) ?_
       refine Ef 5 E2 (EF.buildSliceS rfl Tryz.underlying46 z5 zero5 rfl (by decide) rfl rfl rfl rfl) ?_
       rintro _ _ ⟨b44, rfl, rfl⟩
       refine Ef 6 E2 (EF.append1 (xs := zi) (s := cb) (enc := bytE) el5 (fun _ => rfl) (fun _ => cell_one rfl) rfl rfl rfl Tryz.underlying46 Tryz.underlying46 rfl rfl Rc Rc (by first | omega | (simp only [List.length_append]; omega))) ?_
       rintro sl45 _ rfl
       exact Sg 7 E3 <| Zl hk16 <| Run.region <| Mv 0 E3 <| Qp 1 E2 (QP.add64 rfl rfl rfl Og Og) <| Sg 2 E3 <| Sq.nil <| J.envJ (J.keep Tk4 (hl13 (i + 1) (sl45) (zi ++ [cb]) (⟨by omega, by rw [hzi, take_succ_get hcb, List.append_assoc]⟩) (by omega))) ⟨rfl, rfl, rfl, rfl, rfl, trivial⟩
      ·exact Zl hk15 <| Zf <| Run.exit rfl <| J.envJ (J.keep Tk3 (hu6 (vi) (zi) (by unfold headF; rw [if_neg c47, if_neg c60, if_pos (by omega), hzi, List.take_of_length_le (by rw [t.id_.h]; omega)]))) ⟨rfl, rfl, rfl, trivial⟩
     ·intro ku11 hu11
      refine Run.regionD (M := [0, 0, 3, 0, 8, 24, 63, 0, 128, 384, 1023, 2047]) (q := 411) (r := 272) Kr ?_
      refine Dp 0 E2 (Zm E2) <| Dp 1 E2 (Zm E2) <| Dp 3 E2 (Za E2 f45_3) <| Dr 4 E2 (Z1 E2 g36 (Tlv.sub_seqno _)) ?_
      refine Dp 7 E2 (Za E2 f45_6) <| Dr 8 E2 (Z1 E2 g5 hsub) ?_
      refine Dw.effs (l := [2, 5, 9]) Kr Kr ?_
      rw [List.forall_mem_cons, List.forall_mem_cons, List.forall_mem_cons]
      refine ⟨?_, ?_, ?_, fun _ h => (by cases h)⟩
      ·refine Om [8, 4] rfl rfl (EF.buildSliceS rfl Tryz.underlying46 z5 zero5 rfl (by decide) rfl rfl rfl rfl) ?_
       rintro _ _ ⟨b26, rfl, rfl⟩
       refine ⟨?_, ?_⟩
       ·rw [List.forall_mem_cons, List.forall_mem_cons]
        refine ⟨?_, ?_, fun _ h => (by cases h)⟩
        ·exact Look.mk rfl rfl rfl (Z1 E2 g5 hsub)
        ·exact Look.mk rfl rfl rfl (Z1 E2 g36 (Tlv.sub_seqno _))
       refine ?_
       refine Dw.close (A := slA 5 1 bytE (.slice (some ⟨b26, 0, none⟩) 2 2) [ae, plen]) (m := [blk b26 [.int .u8 (ae.toNat : Int), .int .u8 (plen.toNat : Int)] 5]) Tk1 (fun _ q => slA_blk (xs := [ae, plen]) rfl q) ?_
       refine Dw.effs (l := [5, 9]) Kr Kr ?_
       rw [List.forall_mem_cons, List.forall_mem_cons]
       refine ⟨?_, ?_, fun _ h => (by cases h)⟩
       ·refine Om [8] rfl rfl (EF.buildSliceS rfl Tryz.underlying122 z36 zero36 rfl (by decide) rfl rfl rfl rfl) ?_
        rintro _ _ ⟨b29, rfl, rfl⟩
        refine ⟨?_, ?_⟩
        ·rw [List.forall_mem_cons]
         refine ⟨?_, fun _ h => (by cases h)⟩
         ·exact Look.mk rfl rfl rfl (Z1 E2 g5 hsub)
        refine ?_
        refine Dw.effs (l := [6, 9]) Kr Kr ?_
        rw [List.forall_mem_cons, List.forall_mem_cons]
        refine ⟨?_, ?_, fun _ h => (by cases h)⟩
        ·refine Om [8] rfl rfl (EF.call rfl ce28 rfl Tk1 (fun F' hle hr => rtwo_spec F' (xs := [ae, plen]) (ns := [t.seqno]) (argSl_all (enc := u16E) (xs := [t.seqno]) (fun _ => rfl) (hr b29 _ Rc)) (fun n hn => by simp only [List.mem_cons, List.not_mem_nil, or_false] at hn; omega) (by simp))) ?_
         rintro v30 _ ⟨_, rfl, rfl⟩
         refine ⟨?_, ?_⟩
         ·rw [List.forall_mem_cons]
          refine ⟨?_, fun _ h => (by cases h)⟩
          ·refine Look.app ?_
           exact Look.mk rfl rfl rfl (Z1 E2 g5 hsub)
         refine ?_
         refine J.app <| De 9 <| Om [4] rfl rfl (EF.buildSliceS rfl Tryz.underlying46 z5 zero5 rfl (by decide) rfl rfl rfl rfl) ?_
         rintro _ _ ⟨b33, rfl, rfl⟩
         refine ⟨?_, ?_⟩
         ·rw [List.forall_mem_cons]
          refine ⟨?_, fun _ h => (by cases h)⟩
          ·exact Look.mk rfl rfl rfl (Z1 E2 g36 (Tlv.sub_seqno _))
         refine ?_
         refine De 10 <| Om [] rfl rfl (EF.append (xs := [ae, plen] ++ nums 2 [t.seqno]) (ys := [UInt8.ofNat t.hops.toNat, 0]) (enc := bytE) el5 (fun _ => rfl) (fun _ => cell_one rfl) rfl rfl rfl Tryz.underlying46 Tryz.underlying46 rfl rfl Rc (by rw [flat_byt]; exact RowsAt.lit (ys := [UInt8.ofNat t.hops.toNat, 0]) (ty := 5) Rc) (by simp [nums_len])) ?_
         rintro sl34 _ rfl
         refine ⟨fun _ h => (by cases h), ?_⟩
         refine De 11 <| Om [] rfl rfl ((Zg E2).eff) ?_
         rintro sl34 _ ⟨rfl, rfl⟩
         refine ⟨fun _ h => (by cases h), ?_⟩
         exact Dn <| J.envJ (J.keep Tk4 (hu11 (sl34) ((([ae, plen] ++ nums 2 [t.seqno]) ++ [UInt8.ofNat t.hops.toNat, 0])) (rfl))) ⟨rfl, rfl, rfl, rfl, trivial⟩
        ·refine Om [4] rfl rfl (EF.buildSliceS rfl Tryz.underlying46 z5 zero5 rfl (by decide) rfl rfl rfl rfl) ?_
         rintro _ _ ⟨b33, rfl, rfl⟩
         refine ⟨?_, ?_⟩
         ·rw [List.forall_mem_cons]
          refine ⟨?_, fun _ h => (by cases h)⟩
          ·exact Look.mk rfl rfl rfl (Z1 E2 g36 (Tlv.sub_seqno _))
         refine ?_
         refine De 6 <| Om [8] rfl rfl (EF.call rfl ce28 rfl Tk1 (fun F' hle hr => rtwo_spec F' (xs := [ae, plen]) (ns := [t.seqno]) (argSl_all (enc := u16E) (xs := [t.seqno]) (fun _ => rfl) (hr b29 _ Rc)) (fun n hn => by simp only [List.mem_cons, List.not_mem_nil, or_false] at hn; omega) (by simp))) ?_
         rintro v30 _ ⟨_, rfl, rfl⟩
         refine ⟨?_, ?_⟩
         ·rw [List.forall_mem_cons]
          refine ⟨?_, fun _ h => (by cases h)⟩
          ·refine Look.app ?_
           exact Look.mk rfl rfl rfl (Z1 E2 g5 hsub)
         refine ?_
         refine J.app <| De 10 <| Om [] rfl rfl (EF.append (xs := [ae, plen] ++ nums 2 [t.seqno]) (ys := [UInt8.ofNat t.hops.toNat, 0]) (enc := bytE) el5 (fun _ => rfl) (fun _ => cell_one rfl) rfl rfl rfl Tryz.underlying46 Tryz.underlying46 rfl rfl Rc (by rw [flat_byt]; exact RowsAt.lit (ys := [UInt8.ofNat t.hops.toNat, 0]) (ty := 5) Rc) (by simp [nums_len])) ?_
         rintro sl34 _ rfl
         refine ⟨fun _ h => (by cases h), ?_⟩
         refine De 11 <| Om [] rfl rfl ((Zg E2).eff) ?_
         rintro sl34 _ ⟨rfl, rfl⟩
         refine ⟨fun _ h => (by cases h), ?_⟩
         exact Dn <| J.envJ (J.keep Tk4 (hu11 (sl34) ((([ae, plen] ++ nums 2 [t.seqno]) ++ [UInt8.ofNat t.hops.toNat, 0])) (rfl))) ⟨rfl, rfl, rfl, rfl, trivial⟩
       ·refine Om [4] rfl rfl (EF.buildSliceS rfl Tryz.underlying46 z5 zero5 rfl (by decide) rfl rfl rfl rfl) ?_
        rintro _ _ ⟨b33, rfl, rfl⟩
        refine ⟨?_, ?_⟩
        ·rw [List.forall_mem_cons]
         refine ⟨?_, fun _ h => (by cases h)⟩
         ·exact Look.mk rfl rfl rfl (Z1 E2 g36 (Tlv.sub_seqno _))
        refine ?_
        refine De 5 <| Om [8] rfl rfl (EF.buildSliceS rfl Tryz.underlying122 z36 zero36 rfl (by decide) rfl rfl rfl rfl) ?_
        rintro _ _ ⟨b29, rfl, rfl⟩
        refine ⟨?_, ?_⟩
        ·rw [List.forall_mem_cons]
         refine ⟨?_, fun _ h => (by cases h)⟩
         ·exact Look.mk rfl rfl rfl (Z1 E2 g5 hsub)
        refine ?_
        refine De 6 <| Om [8] rfl rfl (EF.call rfl ce28 rfl Tk1 (fun F' hle hr => rtwo_spec F' (xs := [ae, plen]) (ns := [t.seqno]) (argSl_all (enc := u16E) (xs := [t.seqno]) (fun _ => rfl) (hr b29 _ Rc)) (fun n hn => by simp only [List.mem_cons, List.not_mem_nil, or_false] at hn; omega) (by simp))) ?_
        rintro v30 _ ⟨_, rfl, rfl⟩
        refine ⟨?_, ?_⟩
        ·rw [List.forall_mem_cons]
         refine ⟨?_, fun _ h => (by cases h)⟩
         ·refine Look.app ?_
          exact Look.mk rfl rfl rfl (Z1 E2 g5 hsub)
        refine ?_
        refine J.app <| De 10 <| Om [] rfl rfl (EF.append (xs := [ae, plen] ++ nums 2 [t.seqno]) (ys := [UInt8.ofNat t.hops.toNat, 0]) (enc := bytE) el5 (fun _ => rfl) (fun _ => cell_one rfl) rfl rfl rfl Tryz.underlying46 Tryz.underlying46 rfl rfl Rc (by rw [flat_byt]; exact RowsAt.lit (ys := [UInt8.ofNat t.hops.toNat, 0]) (ty := 5) Rc) (by simp [nums_len])) ?_
        rintro sl34 _ rfl
        refine ⟨fun _ h => (by cases h), ?_⟩
        refine De 11 <| Om [] rfl rfl ((Zg E2).eff) ?_
        rintro sl34 _ ⟨rfl, rfl⟩
        refine ⟨fun _ h => (by cases h), ?_⟩
        exact Dn <| J.envJ (J.keep Tk4 (hu11 (sl34) ((([ae, plen] ++ nums 2 [t.seqno]) ++ [UInt8.ofNat t.hops.toNat, 0])) (rfl))) ⟨rfl, rfl, rfl, rfl, trivial⟩
      ·refine Om [8] rfl rfl (EF.buildSliceS rfl Tryz.underlying122 z36 zero36 rfl (by decide) rfl rfl rfl rfl) ?_
       rintro _ _ ⟨b29, rfl, rfl⟩
       refine ⟨?_, ?_⟩
       ·rw [List.forall_mem_cons]
        refine ⟨?_, fun _ h => (by cases h)⟩
        ·exact Look.mk rfl rfl rfl (Z1 E2 g5 hsub)
       refine ?_
       refine Dw.effs (l := [2, 9]) Kr Kr ?_
       rw [List.forall_mem_cons, List.forall_mem_cons]
       refine ⟨?_, ?_, fun _ h => (by cases h)⟩
       ·refine Om [8, 4] rfl rfl (EF.buildSliceS rfl Tryz.underlying46 z5 zero5 rfl (by decide) rfl rfl rfl rfl) ?_
        rintro _ _ ⟨b26, rfl, rfl⟩
        refine ⟨?_, ?_⟩
        ·rw [List.forall_mem_cons, List.forall_mem_cons]
         refine ⟨?_, ?_, fun _ h => (by cases h)⟩
         ·exact Look.mk rfl rfl rfl (Z1 E2 g5 hsub)
         ·exact Look.mk rfl rfl rfl (Z1 E2 g36 (Tlv.sub_seqno _))
        refine ?_
        refine Dw.close (A := slA 5 1 bytE (.slice (some ⟨b26, 0, none⟩) 2 2) [ae, plen]) (m := [blk b26 [.int .u8 (ae.toNat : Int), .int .u8 (plen.toNat : Int)] 5]) Tk1 (fun _ q => slA_blk (xs := [ae, plen]) rfl q) ?_
        refine Dw.effs (l := [6, 9]) Kr Kr ?_
        rw [List.forall_mem_cons, List.forall_mem_cons]
        refine ⟨?_, ?_, fun _ h => (by cases h)⟩
        ·refine Om [8] rfl rfl (EF.call rfl ce28 rfl Tk1 (fun F' hle hr => rtwo_spec F' (xs := [ae, plen]) (ns := [t.seqno]) (argSl_all (enc := u16E) (xs := [t.seqno]) (fun _ => rfl) (hr b29 _ Rc)) (fun n hn => by simp only [List.mem_cons, List.not_mem_nil, or_false] at hn; omega) (by simp))) ?_
         rintro v30 _ ⟨_, rfl, rfl⟩
         refine ⟨?_, ?_⟩
         ·rw [List.forall_mem_cons]
          refine ⟨?_, fun _ h => (by cases h)⟩
          ·refine Look.app ?_
           exact Look.mk rfl rfl rfl (Z1 E2 g5 hsub)
         refine ?_
         refine J.app <| De 9 <| Om [4] rfl rfl (EF.buildSliceS rfl Tryz.underlying46 z5 zero5 rfl (by decide) rfl rfl rfl rfl) ?_
         rintro _ _ ⟨b33, rfl, rfl⟩
         refine ⟨?_, ?_⟩
         ·rw [List.forall_mem_cons]
          refine ⟨?_, fun _ h => (by cases h)⟩
          ·exact Look.mk rfl rfl rfl (Z1 E2 g36 (Tlv.sub_seqno _))
         refine ?_
         refine De 10 <| Om [] rfl rfl (EF.append (xs := [ae, plen] ++ nums 2 [t.seqno]) (ys := [UInt8.ofNat t.hops.toNat, 0]) (enc := bytE) el5 (fun _ => rfl) (fun _ => cell_one rfl) rfl rfl rfl Tryz.underlying46 Tryz.underlying46 rfl rfl Rc (by rw [flat_byt]; exact RowsAt.lit (ys := [UInt8.ofNat t.hops.toNat, 0]) (ty := 5) Rc) (by simp [nums_len])) ?_
         rintro sl34 _ rfl
         refine ⟨fun _ h => (by cases h), ?_⟩
         refine De 11 <| Om [] rfl rfl ((Zg E2).eff) ?_
         rintro sl34 _ ⟨rfl, rfl⟩
         refine ⟨fun _ h => (by cases h), ?_⟩
         exact Dn <| J.envJ (J.keep Tk4 (hu11 (sl34) ((([ae, plen] ++ nums 2 [t.seqno]) ++ [UInt8.ofNat t.hops.toNat, 0])) (rfl))) ⟨rfl, rfl, rfl, rfl, trivial⟩
        ·refine Om [4] rfl rfl (EF.buildSliceS rfl Tryz.underlying46 z5 zero5 rfl (by decide) rfl rfl rfl rfl) ?_
         rintro _ _ ⟨b33, rfl, rfl⟩
         refine ⟨?_, ?_⟩
         ·rw [List.forall_mem_cons]
          refine ⟨?_, fun _ h => (by cases h)⟩
          ·exact Look.mk rfl rfl rfl (Z1 E2 g36 (Tlv.sub_seqno _))
         refine ?_
         refine De 6 <| Om [8] rfl rfl (EF.call rfl ce28 rfl Tk1 (fun F' hle hr => rtwo_spec F' (xs := [ae, plen]) (ns := [t.seqno]) (argSl_all (enc := u16E) (xs := [t.seqno]) (fun _ => rfl) (hr b29 _ Rc)) (fun n hn => by simp only [List.mem_cons, List.not_mem_nil, or_false] at hn; omega) (by simp))) ?_
         rintro v30 _ ⟨_, rfl, rfl⟩
         refine ⟨?_, ?_⟩
         ·rw [List.forall_mem_cons]
          refine ⟨?_, fun _ h => (by cases h)⟩
          ·refine Look.app ?_
           exact Look.mk rfl rfl rfl (Z1 E2 g5 hsub)
         refine ?_
         refine J.app <| De 10 <| Om [] rfl rfl (EF.append (xs := [ae, plen] ++ nums 2 [t.seqno]) (ys := [UInt8.ofNat t.hops.toNat, 0]) (enc := bytE) el5 (fun _ => rfl) (fun _ => cell_one rfl) rfl rfl rfl Tryz.underlying46 Tryz.underlying46 rfl rfl Rc (by rw [flat_byt]; exact RowsAt.lit (ys := [UInt8.ofNat t.hops.toNat, 0]) (ty := 5) Rc) (by simp [nums_len])) ?_
         rintro sl34 _ rfl
         refine ⟨fun _ h => (by cases h), ?_⟩
         refine De 11 <| Om [] rfl rfl ((Zg E2).eff) ?_
         rintro sl34 _ ⟨rfl, rfl⟩
         refine ⟨fun _ h => (by cases h), ?_⟩
         exact Dn <| J.envJ (J.keep Tk4 (hu11 (sl34) ((([ae, plen] ++ nums 2 [t.seqno]) ++ [UInt8.ofNat t.hops.toNat, 0])) (rfl))) ⟨rfl, rfl, rfl, rfl, trivial⟩
       ·refine Om [4] rfl rfl (EF.buildSliceS rfl Tryz.underlying46 z5 zero5 rfl (by decide) rfl rfl rfl rfl) ?_
        rintro _ _ ⟨b33, rfl, rfl⟩
        refine ⟨?_, ?_⟩
        ·rw [List.forall_mem_cons]
         refine ⟨?_, fun _ h => (by cases h)⟩
         ·exact Look.mk rfl rfl rfl (Z1 E2 g36 (Tlv.sub_seqno _))
        refine ?_
        refine De 2 <| Om [8, 4] rfl rfl (EF.buildSliceS rfl Tryz.underlying46 z5 zero5 rfl (by decide) rfl rfl rfl rfl) ?_
        rintro _ _ ⟨b26, rfl, rfl⟩
        refine ⟨?_, ?_⟩
        ·rw [List.forall_mem_cons, List.forall_mem_cons]
         refine ⟨?_, ?_, fun _ h => (by cases h)⟩
         ·exact Look.mk rfl rfl rfl (Z1 E2 g5 hsub)
         ·exact Look.mk rfl rfl rfl (Z1 E2 g36 (Tlv.sub_seqno _))
        refine ?_
        refine Dw.close (A := slA 5 1 bytE (.slice (some ⟨b26, 0, none⟩) 2 2) [ae, plen]) (m := [blk b26 [.int .u8 (ae.toNat : Int), .int .u8 (plen.toNat : Int)] 5]) Tk1 (fun _ q => slA_blk (xs := [ae, plen]) rfl q) ?_
        refine De 6 <| Om [8] rfl rfl (EF.call rfl ce28 rfl Tk1 (fun F' hle hr => rtwo_spec F' (xs := [ae, plen]) (ns := [t.seqno]) (argSl_all (enc := u16E) (xs := [t.seqno]) (fun _ => rfl) (hr b29 _ Rc)) (fun n hn => by simp only [List.mem_cons, List.not_mem_nil, or_false] at hn; omega) (by simp))) ?_
        rintro v30 _ ⟨_, rfl, rfl⟩
        refine ⟨?_, ?_⟩
        ·rw [List.forall_mem_cons]
         refine ⟨?_, fun _ h => (by cases h)⟩
         ·refine Look.app ?_
          exact Look.mk rfl rfl rfl (Z1 E2 g5 hsub)
        refine ?_
        refine J.app <| De 10 <| Om [] rfl rfl (EF.append (xs := [ae, plen] ++ nums 2 [t.seqno]) (ys := [UInt8.ofNat t.hops.toNat, 0]) (enc := bytE) el5 (fun _ => rfl) (fun _ => cell_one rfl) rfl rfl rfl Tryz.underlying46 Tryz.underlying46 rfl rfl Rc (by rw [flat_byt]; exact RowsAt.lit (ys := [UInt8.ofNat t.hops.toNat, 0]) (ty := 5) Rc) (by simp [nums_len])) ?_
        rintro sl34 _ rfl
        refine ⟨fun _ h => (by cases h), ?_⟩
        refine De 11 <| Om [] rfl rfl ((Zg E2).eff) ?_
        rintro sl34 _ ⟨rfl, rfl⟩
        refine ⟨fun _ h => (by cases h), ?_⟩
        exact Dn <| J.envJ (J.keep Tk4 (hu11 (sl34) ((([ae, plen] ++ nums 2 [t.seqno]) ++ [UInt8.ofNat t.hops.toNat, 0])) (rfl))) ⟨rfl, rfl, rfl, rfl, trivial⟩
      ·refine Om [4] rfl rfl (EF.buildSliceS rfl Tryz.underlying46 z5 zero5 rfl (by decide) rfl rfl rfl rfl) ?_
       rintro _ _ ⟨b33, rfl, rfl⟩
       refine ⟨?_, ?_⟩
       ·rw [List.forall_mem_cons]
        refine ⟨?_, fun _ h => (by cases h)⟩
        ·exact Look.mk rfl rfl rfl (Z1 E2 g36 (Tlv.sub_seqno _))
       refine ?_
       refine Dw.effs (l := [2, 5]) Kr Kr ?_
       rw [List.forall_mem_cons, List.forall_mem_cons]
       refine ⟨?_, ?_, fun _ h => (by cases h)⟩
       ·refine Om [8, 4] rfl rfl (EF.buildSliceS rfl Tryz.underlying46 z5 zero5 rfl (by decide) rfl rfl rfl rfl) ?_
        rintro _ _ ⟨b26, rfl, rfl⟩
        refine ⟨?_, ?_⟩
        ·rw [List.forall_mem_cons, List.forall_mem_cons]
         refine ⟨?_, ?_, fun _ h => (by cases h)⟩
         ·exact Look.mk rfl rfl rfl (Z1 E2 g5 hsub)
         ·exact Look.mk rfl rfl rfl (Z1 E2 g36 (Tlv.sub_seqno _))
        refine ?_
        refine Dw.close (A := slA 5 1 bytE (.slice (some ⟨b26, 0, none⟩) 2 2) [ae, plen]) (m := [blk b26 [.int .u8 (ae.toNat : Int), .int .u8 (plen.toNat : Int)] 5]) Tk1 (fun _ q => slA_blk (xs := [ae, plen]) rfl q) ?_
        refine De 5 <| Om [8] rfl rfl (EF.buildSliceS rfl Tryz.underlying122 z36 zero36 rfl (by decide) rfl rfl rfl rfl) ?_
        rintro _ _ ⟨b29, rfl, rfl⟩
        refine ⟨?_, ?_⟩
        ·rw [List.forall_mem_cons]
         refine ⟨?_, fun _ h => (by cases h)⟩
         ·exact Look.mk rfl rfl rfl (Z1 E2 g5 hsub)
        refine ?_
        refine De 6 <| Om [8] rfl rfl (EF.call rfl ce28 rfl Tk1 (fun F' hle hr => rtwo_spec F' (xs := [ae, plen]) (ns := [t.seqno]) (argSl_all (enc := u16E) (xs := [t.seqno]) (fun _ => rfl) (hr b29 _ Rc)) (fun n hn => by simp only [List.mem_cons, List.not_mem_nil, or_false] at hn; omega) (by simp))) ?_
        rintro v30 _ ⟨_, rfl, rfl⟩
        refine ⟨?_, ?_⟩
        ·rw [List.forall_mem_cons]
         refine ⟨?_, fun _ h => (by cases h)⟩
         ·refine Look.app ?_
          exact Look.mk rfl rfl rfl (Z1 E2 g5 hsub)
        refine ?_
        refine J.app <| De 10 <| Om [] rfl rfl (EF.append (xs := [ae, plen] ++ nums 2 [t.seqno]) (ys := [UInt8.ofNat t.hops.toNat, 0]) (enc := bytE) el5 (fun _ => rfl) (fun _ => cell_one rfl) rfl rfl rfl Tryz.underlying46 Tryz.underlying46 rfl rfl Rc (by rw [flat_byt]; exact RowsAt.lit (ys := [UInt8.ofNat t.hops.toNat, 0]) (ty := 5) Rc) (by simp [nums_len])) ?_
        rintro sl34 _ rfl
        refine ⟨fun _ h => (by cases h), ?_⟩
        refine De 11 <| Om [] rfl rfl ((Zg E2).eff) ?_
        rintro sl34 _ ⟨rfl, rfl⟩
        refine ⟨fun _ h => (by cases h), ?_⟩
        exact Dn <| J.envJ (J.keep Tk4 (hu11 (sl34) ((([ae, plen] ++ nums 2 [t.seqno]) ++ [UInt8.ofNat t.hops.toNat, 0])) (rfl))) ⟨rfl, rfl, rfl, rfl, trivial⟩
       ·refine Om [8] rfl rfl (EF.buildSliceS rfl Tryz.underlying122 z36 zero36 rfl (by decide) rfl rfl rfl rfl) ?_
        rintro _ _ ⟨b29, rfl, rfl⟩
        refine ⟨?_, ?_⟩
        ·rw [List.forall_mem_cons]
         refine ⟨?_, fun _ h => (by cases h)⟩
         ·exact Look.mk rfl rfl rfl (Z1 E2 g5 hsub)
        refine ?_
        refine De 2 <| Om [8, 4] rfl rfl (EF.buildSliceS rfl Tryz.underlying46 z5 zero5 rfl (by decide) rfl rfl rfl rfl) ?_
        rintro _ _ ⟨b26, rfl, rfl⟩
        refine ⟨?_, ?_⟩
        ·rw [List.forall_mem_cons, List.forall_mem_cons]
         refine ⟨?_, ?_, fun _ h => (by cases h)⟩
         ·exact Look.mk rfl rfl rfl (Z1 E2 g5 hsub)
         ·exact Look.mk rfl rfl rfl (Z1 E2 g36 (Tlv.sub_seqno _))
        refine ?_
        refine Dw.close (A := slA 5 1 bytE (.slice (some ⟨b26, 0, none⟩) 2 2) [ae, plen]) (m := [blk b26 [.int .u8 (ae.toNat : Int), .int .u8 (plen.toNat : Int)] 5]) Tk1 (fun _ q => slA_blk (xs := [ae, plen]) rfl q) ?_
        refine De 6 <| Om [8] rfl rfl (EF.call rfl ce28 rfl Tk1 (fun F' hle hr => rtwo_spec F' (xs := [ae, plen]) (ns := [t.seqno]) (argSl_all (enc := u16E) (xs := [t.seqno]) (fun _ => rfl) (hr b29 _ Rc)) (fun n hn => by simp only [List.mem_cons, List.not_mem_nil, or_false] at hn; omega) (by simp))) ?_
        rintro v30 _ ⟨_, rfl, rfl⟩
        refine ⟨?_, ?_⟩
        ·rw [List.forall_mem_cons]
         refine ⟨?_, fun _ h => (by cases h)⟩
         ·refine Look.app ?_
          exact Look.mk rfl rfl rfl (Z1 E2 g5 hsub)
        refine ?_
        refine J.app <| De 10 <| Om [] rfl rfl (EF.append (xs := [ae, plen] ++ nums 2 [t.seqno]) (ys := [UInt8.ofNat t.hops.toNat, 0]) (enc := bytE) el5 (fun _ => rfl) (fun _ => cell_one rfl) rfl rfl rfl Tryz.underlying46 Tryz.underlying46 rfl rfl Rc (by rw [flat_byt]; exact RowsAt.lit (ys := [UInt8.ofNat t.hops.toNat, 0]) (ty := 5) Rc) (by simp [nums_len])) ?_
        rintro sl34 _ rfl
        refine ⟨fun _ h => (by cases h), ?_⟩
        refine De 11 <| Om [] rfl rfl ((Zg E2).eff) ?_
        rintro sl34 _ ⟨rfl, rfl⟩
        refine ⟨fun _ h => (by cases h), ?_⟩
        exact Dn <| J.envJ (J.keep Tk4 (hu11 (sl34) ((([ae, plen] ++ nums 2 [t.seqno]) ++ [UInt8.ofNat t.hops.toNat, 0])) (rfl))) ⟨rfl, rfl, rfl, rfl, trivial⟩
 ·intro ku4 hu4
  refine Zs fun _ hk17 => Sq.slCase (v := v6) (xs := (srcX t.pair)) Rc (fun a6 c6 hv6 hh6 => ?_)
  subst hv6
  refine Fa 0 E3 f45_8 <| Qq 1 E2 (Z1 E2 g4 (Tlv.sub_all _)) ?_
  refine J.caseB (fun c21 => ?_) (fun c21 => ?_)
  ·refine Zl hk17 <| Zt <| Run.region <| Sg 0 E3 <| Sg 1 E3 <| Sg 2 E3 <| Sg 3 E3 <| Sq.nil <| J.addSl 40 1 bytE ?_
   refine J.addSl 5 1 bytE ?_
   exact J.envJ (J.keep Tk3 (hu4 (0) (0) (⟨none, 0, 0, [], rfl⟩) (⟨none, 0, 0, [], rfl⟩) (⟨by unfold dstF; rw [if_pos c21], by unfold srcF; rw [if_pos c21]⟩))) ⟨rfl, rfl, rfl, rfl, rfl, trivial⟩
  ·exact Zl hk17 <| Zf <| Run.skip <| J.envJ (J.keep Tk3 (hu4 ((pxF t.pair.dst).1) ((pxF t.pair.dst).2.1) (⟨a5, _, c5, (pxF t.pair.dst).2.2, rfl⟩) (⟨a6, _, c6, srcX t.pair, rfl⟩) (⟨by unfold dstF; rw [if_neg (by rw [c21]; simp)], (show srcX t.pair = srcF t by unfold srcF; rw [if_neg (by rw [c21]; simp)]; rfl)⟩))) ⟨rfl, rfl, rfl, rfl, rfl, trivial⟩
end Slb
