/- J33: a part of the proof that a law of this package holds for every input; no condition. -/
import Derived.Test.YtfokodhfjdhdaaaGreatM2
import Derived.Test.YtfokodhfjdhdaaaGreatJ32
namespace Slb
open Go Go.Proofs
set_option maxRecDepth 20000
/-- What stands behind a request's, an update's numbers. -/
def dstF (t : Tlv) : UInt8 × UInt8 × List UInt8 := if t.all = true then (0, 0, []) else pxF t.pair.dst
def srcF (t : Tlv) : List UInt8 := if t.all = true then [] else if specB t.pair = true then rawF 128 ([(pxF t.pair.src).2.1] ++ (pxF t.pair.src).2.2) else []
def headF (t : Tlv) (ae plen : UInt8) : List UInt8 :=
 if t.type = 8 then ([ae] ++ [0, plen, 0]) ++ nums 2 [t.interval, t.seqno, t.metric]
 else if t.type = 9 then [ae] ++ [plen]
 else if t.type = 10 then ((([ae] ++ [plen]) ++ nums 2 [t.seqno]) ++ [UInt8.ofNat t.hops.toNat, 0]) ++ t.id_.l
 else [ae]
def routedF (t : Tlv) : List UInt8 := headF t (dstF t).1 (dstF t).2.1 ++ ((dstF t).2.2 ++ srcF t)
theorem px_len (p : Prefix) : (pxF p).2.2.length ≤ 16 := by
 unfold pxF
 split
 · simp only [List.length_take, List.length_drop, p.a.h]; omega
 · simp only [List.length_take, List.length_drop, p.a.h]; omega
theorem dst_len (t : Tlv) : (dstF t).2.2.length ≤ 16 := by
 unfold dstF
 split
 · simp
 · exact px_len _
theorem src_len (t : Tlv) : (srcF t).length ≤ 19 := by
 unfold srcF
 split
 · simp
 · split
   · rw [rawF_len, List.length_append]; have := px_len t.pair.src; simp; omega
   · simp
theorem head_len8 (t : Tlv) (a p : UInt8) : (headF t a p).length ≤ 14 := by
 unfold headF
 split
 · simp [nums_len]
 · split
   · simp
   · split
     · simp [nums_len, t.id_.h]
     · simp

set_option maxHeartbeats 4000000 in
theorem routed_spec (F : Fr) {t : Tlv} (hw : t.WF) (hd : t.all = false → checkB t.pair.dst = true ∧ checkB t.pair.src = true)  : Spec Tryz.prog 145 #[.agg (Tlv.enc t).toArray] [] F (fun v S => S = [slA 5 1 bytE v (routedF t)]) := by
 have hhop : t.hops = ((UInt8.ofNat t.hops.toNat).toNat : Int) := by have := hw.2.2.2.2.2.2.1; simp; omega
 obtain ⟨hw0, hw1, hw2, hw3, hw4, hw5, hw6, _⟩ := hw
 refine Spec.intro (N := 85) (args := [.agg (Tlv.enc t).toArray]) Tryz.func145 rfl rfl (by simp) ?_
 refine Zs fun _ hk1 => Ef 0 E2 (EF.boxA rfl rfl) ?_
 rintro _ _ ⟨b1, rfl, rfl⟩
 refine Sg 1 E3 <| Zl hk1 <| Zs fun _ hk2 => Sg 0 E3 <| Sg 1 E3 <| Zl hk2 <| Zs fun _ hk3 => Sg 0 E3 <| Sg 1 E3 <| Zl hk3 <| Run.cut4 (fun (ae : UInt8) (plen : UInt8) (D : SlX) (Z : SlX) => (ae, plen, D.l) = dstF t ∧ Z.l = srcF t) (fun ae plen D Z => .cons 1 (fp b1) (.cons 3 (.int .u8 (ae.toNat : Int)) (.cons 4 (.int .u8 (plen.toNat : Int)) (.cons 5 (.slice D.a D.n D.c) (.cons 6 (.slice Z.a Z.n Z.c) (.nil)))))) (fun ae plen D Z => [blk b1 (Tlv.enc t) 49, slA 44 1 bytE (.slice D.a D.n D.c) D.l, slA 5 1 bytE (.slice Z.a Z.n Z.c) Z.l]) ?_ ?_
 ·rintro ae plen D Z ⟨hdt, hsl⟩
  have hdl : D.l = (dstF t).2.2 := by rw [← hdt]
  refine Zs fun _ hk5 => Mv 0 E3 <| Ef 1 E2 (EF.buildSliceS rfl Tryz.underlying75 z5 zero5 rfl (by decide) rfl rfl rfl rfl) ?_
  rintro _ _ ⟨b39, rfl, rfl⟩
  refine Sg 2 E3 <| Zl hk5 <| Run.cut2 (fun (vo : Value) (zs : List UInt8) => zs = headF t ae plen) (fun vo zs => .cons 5 (.slice D.a D.n D.c) (.cons 6 (.slice Z.a Z.n Z.c) (.cons 10 (vo) (.nil)))) (fun vo zs => [slA 5 1 bytE vo zs, slA 44 1 bytE (.slice D.a D.n D.c) D.l, slA 5 1 bytE (.slice Z.a Z.n Z.c) Z.l]) ?_ ?_
  ·rintro vo zs hz
   refine Zs fun _ hk7 => Mv 0 E3 <| Mv 1 E3 <| Mv 2 E3 <| Ef 3 E2 (EF.buildSliceS rfl Tryz.underlying108 z75 zero75 rfl (by decide) rfl rfl rfl rfl) ?_
   rintro _ _ ⟨b83, rfl, rfl⟩
   refine Sq.eff (i := 4) rfl (Want.none rfl) rfl (ltN rfl) (Zc E2 ce101 Tk4 (fun F' hle hr => putbytes_lent F' [blk b83 [.slice D.a D.n D.c, .slice Z.a Z.n Z.c] 75, slA 44 1 bytE (.slice D.a D.n D.c) D.l, slA 5 1 bytE (.slice Z.a Z.n Z.c) Z.l] (b := b83) (fun A => [blk b83 [.slice D.a D.n D.c, .slice Z.a Z.n Z.c] 75, slA 44 1 bytE (.slice D.a D.n D.c) D.l, slA 5 1 bytE (.slice Z.a Z.n Z.c) Z.l, A]) (fun _ => rfl) (xs := zs) [D, Z] rfl (by have := dst_len t; have := src_len t; have := head_len8 t ae plen; simp only [catL, List.flatMap_cons, List.flatMap_nil, List.append_nil, List.length_append]; rw [hz, hdl, hsl]; omega) (by simp) (by simp) (fun F2 q h0 h1 h2 y hy => by
    simp only [List.mem_cons, List.not_mem_nil, or_false] at hy
    rcases hy with rfl | rfl
    · exact slA_frame (e := 44) (n := y.n) (c := y.c) (fun _ => rfl) h1 h2 (by simp)
    · exact slA_frame (e := 5) (n := y.n) (c := y.c) (fun _ => rfl) h1 h2 (by simp)))) ?_
   rintro v84 _ ⟨_, rfl, rfl⟩
   refine J.app <| Sg 5 E3 <| Zl hk7 <| Run.ret ?_
   have hR : routedF t = zs ++ catL [D, Z] := by
     unfold routedF
     rw [← hdt, hz, ← hsl]
     simp [catL]
   rw [hR]
   exact J.ends (res_tmp rfl rfl) Tk1 rfl
  ·intro ku6 hu6
   refine Zs fun _ hk8 => J.close (A := slA 5 1 bytE (.slice (some ⟨b39, 0, none⟩) 1 1) [ae]) (m := [blk b39 [.int .u8 (ae.toNat : Int)] 5]) Tk1 (fun _ q => slA_blk (xs := [ae]) rfl q) ?_
   refine Fa 0 E3 f49_0 <| Qq 1 E2 (Z1 E2 g5 (Tlv.sub_type _)) ?_
   refine Zl hk8 <| Run.block <| Zs fun _ hk9 => Qp 0 E2 (Ze E3) <| J.caseD (fun c43 => ?_) (fun c43 => ?_)
   ·refine Sg 1 E3 <| Zl hk9 <| Zt <| Run.regionD (M := [0, 0, 2, 7, 0, 16, 0, 64, 0, 256, 1008, 2047, 4095]) (q := 1011) (r := 672) Kr ?_
    refine Dp 0 E2 (Zm E2) <| Dp 1 E2 (Zm E2) <| Dp 4 E2 (Za E2 f49_2) <| Dr 5 E2 (Z1 E2 g40 (Tlv.sub_interval _)) ?_
    refine Dp 6 E2 (Za E2 f49_3) <| Dr 7 E2 (Z1 E2 g40 (Tlv.sub_seqno _)) ?_
    refine Dp 8 E2 (Za E2 f49_5) <| Dr 9 E2 (Z1 E2 g40 (Tlv.sub_metric _)) ?_
    refine Dw.effs (l := [2, 10]) Kr Kr ?_
    rw [FM, FM]
    refine ⟨?_, ?_, NO⟩
    ·refine Om [9, 7, 5] rfl rfl (EF.buildSliceS rfl Tryz.underlying75 z5 zero5 rfl (by decide) rfl rfl rfl rfl) ?_
     rintro _ _ ⟨b46, rfl, rfl⟩
     refine ⟨?_, ?_⟩
     ·rw [FM, FM, FM]
      refine ⟨?_, ?_, ?_, NO⟩
      ·exact Lk E3 (Z1 E2 g40 (Tlv.sub_metric _))
      ·exact Lk E3 (Z1 E2 g40 (Tlv.sub_seqno _))
      ·exact Lk E3 (Z1 E2 g40 (Tlv.sub_interval _))
     refine ?_
     refine Dw.effs (l := [3, 10]) Kr Kr ?_
     rw [FM, FM]
     refine ⟨?_, ?_, NO⟩
     ·refine Om [9, 7, 5] rfl rfl (Zc E2 ce103 Tk1 (fun F' hle hr => put8_spec F' (xs := [ae]) (ys := [0, plen, 0]) (argSl_all (enc := bytE) (xs := [0, plen, 0]) (fun _ => rfl) (hr b46 _ Rc)) (by simp))) ?_
      rintro v47 _ ⟨_, rfl, rfl⟩
      refine ⟨?_, ?_⟩
      ·rw [FM, FM, FM]
       refine ⟨?_, ?_, ?_, NO⟩
       ·refine Look.app ?_
        exact Lk E3 (Z1 E2 g40 (Tlv.sub_metric _))
       ·refine Look.app ?_
        exact Lk E3 (Z1 E2 g40 (Tlv.sub_seqno _))
       ·refine Look.app ?_
        exact Lk E3 (Z1 E2 g40 (Tlv.sub_interval _))
      refine ?_
      refine J.app <| De 10 <| Om [] rfl rfl (EF.buildSliceS rfl Tryz.underlying246 z40 zero40 rfl (by decide) rfl rfl rfl rfl) ?_
      rintro _ _ ⟨b54, rfl, rfl⟩
      refine N0 <| De 11 <| Om [] rfl rfl (Zc E2 ce102 Tk1 (fun F' hle hr => put16_spec F' (xs := ([ae] ++ [0, plen, 0])) (ns := [t.interval, t.seqno, t.metric]) (argSl_all (enc := u16E) (xs := [t.interval, t.seqno, t.metric]) (fun _ => rfl) (hr b54 _ Rc)) (fun n hn => by simp only [List.mem_cons, List.not_mem_nil, or_false] at hn; omega) (by simp))) ?_
      rintro v55 _ ⟨_, rfl, rfl⟩
      refine N0 <| J.app <| De 12 <| Om [] rfl rfl ((Zg E2).eff) ?_
      rintro v55 _ ⟨rfl, rfl⟩
      exact N0 <| Dn <| J.envJ (J.keep Tk3 (hu6 (v55) ((([ae] ++ [0, plen, 0]) ++ nums 2 [t.interval, t.seqno, t.metric])) (by unfold headF; rw [if_pos c43]))) ⟨rfl, rfl, rfl, trivial⟩
     ·refine Om [] rfl rfl (EF.buildSliceS rfl Tryz.underlying246 z40 zero40 rfl (by decide) rfl rfl rfl rfl) ?_
      rintro _ _ ⟨b54, rfl, rfl⟩
      refine N0 <| De 3 <| Om [9, 7, 5] rfl rfl (Zc E2 ce103 Tk1 (fun F' hle hr => put8_spec F' (xs := [ae]) (ys := [0, plen, 0]) (argSl_all (enc := bytE) (xs := [0, plen, 0]) (fun _ => rfl) (hr b46 _ Rc)) (by simp))) ?_
      rintro v47 _ ⟨_, rfl, rfl⟩
      refine ⟨?_, ?_⟩
      ·rw [FM, FM, FM]
       refine ⟨?_, ?_, ?_, NO⟩
       ·refine Look.app ?_
        exact Lk E3 (Z1 E2 g40 (Tlv.sub_metric _))
       ·refine Look.app ?_
        exact Lk E3 (Z1 E2 g40 (Tlv.sub_seqno _))
       ·refine Look.app ?_
        exact Lk E3 (Z1 E2 g40 (Tlv.sub_interval _))
      refine ?_
      refine J.app <| De 11 <| Om [] rfl rfl (Zc E2 ce102 Tk1 (fun F' hle hr => put16_spec F' (xs := ([ae] ++ [0, plen, 0])) (ns := [t.interval, t.seqno, t.metric]) (argSl_all (enc := u16E) (xs := [t.interval, t.seqno, t.metric]) (fun _ => rfl) (hr b54 _ Rc)) (fun n hn => by simp only [List.mem_cons, List.not_mem_nil, or_false] at hn; omega) (by simp))) ?_
      rintro v55 _ ⟨_, rfl, rfl⟩
      refine N0 <| J.app <| De 12 <| Om [] rfl rfl ((Zg E2).eff) ?_
      rintro v55 _ ⟨rfl, rfl⟩
      exact N0 <| Dn <| J.envJ (J.keep Tk3 (hu6 (v55) ((([ae] ++ [0, plen, 0]) ++ nums 2 [t.interval, t.seqno, t.metric])) (by unfold headF; rw [if_pos c43]))) ⟨rfl, rfl, rfl, trivial⟩
    ·refine Om [] rfl rfl (EF.buildSliceS rfl Tryz.underlying246 z40 zero40 rfl (by decide) rfl rfl rfl rfl) ?_
     rintro _ _ ⟨b54, rfl, rfl⟩
     refine N0 <| De 2 <| Om [9, 7, 5] rfl rfl (EF.buildSliceS rfl Tryz.underlying75 z5 zero5 rfl (by decide) rfl rfl rfl rfl) ?_
     rintro _ _ ⟨b46, rfl, rfl⟩
     refine ⟨?_, ?_⟩
     ·rw [FM, FM, FM]
      refine ⟨?_, ?_, ?_, NO⟩
      ·exact Lk E3 (Z1 E2 g40 (Tlv.sub_metric _))
      ·exact Lk E3 (Z1 E2 g40 (Tlv.sub_seqno _))
      ·exact Lk E3 (Z1 E2 g40 (Tlv.sub_interval _))
     refine ?_
     refine De 3 <| Om [9, 7, 5] rfl rfl (Zc E2 ce103 Tk1 (fun F' hle hr => put8_spec F' (xs := [ae]) (ys := [0, plen, 0]) (argSl_all (enc := bytE) (xs := [0, plen, 0]) (fun _ => rfl) (hr b46 _ Rc)) (by simp))) ?_
     rintro v47 _ ⟨_, rfl, rfl⟩
     refine ⟨?_, ?_⟩
     ·rw [FM, FM, FM]
      refine ⟨?_, ?_, ?_, NO⟩
      ·refine Look.app ?_
       exact Lk E3 (Z1 E2 g40 (Tlv.sub_metric _))
      ·refine Look.app ?_
       exact Lk E3 (Z1 E2 g40 (Tlv.sub_seqno _))
      ·refine Look.app ?_
       exact Lk E3 (Z1 E2 g40 (Tlv.sub_interval _))
     refine ?_
     refine J.app <| De 11 <| Om [] rfl rfl (Zc E2 ce102 Tk1 (fun F' hle hr => put16_spec F' (xs := ([ae] ++ [0, plen, 0])) (ns := [t.interval, t.seqno, t.metric]) (argSl_all (enc := u16E) (xs := [t.interval, t.seqno, t.metric]) (fun _ => rfl) (hr b54 _ Rc)) (fun n hn => by simp only [List.mem_cons, List.not_mem_nil, or_false] at hn; omega) (by simp))) ?_
     rintro v55 _ ⟨_, rfl, rfl⟩
     refine N0 <| J.app <| De 12 <| Om [] rfl rfl ((Zg E2).eff) ?_
     rintro v55 _ ⟨rfl, rfl⟩
     exact N0 <| Dn <| J.envJ (J.keep Tk3 (hu6 (v55) ((([ae] ++ [0, plen, 0]) ++ nums 2 [t.interval, t.seqno, t.metric])) (by unfold headF; rw [if_pos c43]))) ⟨rfl, rfl, rfl, trivial⟩
   ·refine Sg 1 E3 <| Zl hk9 <| Zf <| Zs fun _ hk10 => Qp 0 E2 (Ze E3) <| J.caseD (fun c57 => ?_) (fun c57 => ?_)
    ·refine Sg 1 E3 <| Zl hk10 <| Zt <| Run.region <| Mv 0 E3 <| Mv 1 E3 <| Ef 2 E2 (EF.buildSliceS rfl Tryz.underlying75 z5 zero5 rfl (by decide) rfl rfl rfl rfl) ?_
     rintro _ _ ⟨b60, rfl, rfl⟩
     refine Ef 3 E2 (Zc E2 ce103 Tk1 (fun F' hle hr => put8_spec F' (xs := [ae]) (ys := [plen]) (argSl_all (enc := bytE) (xs := [plen]) (fun _ => rfl) (hr b60 _ Rc)) (by simp))) ?_
     rintro v61 _ ⟨_, rfl, rfl⟩
     exact J.app <| Sg 4 E3 <| Sq.nil <| J.envJ (J.keep Tk3 (hu6 (v61) (([ae] ++ [plen])) (by unfold headF; rw [if_neg c43, if_pos c57]))) ⟨rfl, rfl, rfl, trivial⟩
    ·refine Sg 1 E3 <| Zl hk10 <| Zf <| Zs fun _ hk11 => Qp 0 E2 (Ze E3) <| J.caseD (fun c63 => ?_) (fun c63 => ?_)
     ·refine Sg 1 E3 <| Zl hk11 <| Zt <| Run.regionD (M := [0, 0, 2, 7, 0, 16, 48, 127, 0, 256, 768, 2047, 0, 4096, 12288, 32767, 65535]) (q := 13107) (r := 544) Kr ?_
      refine Dp 0 E2 (Zm E2) <| Dp 1 E2 (Zm E2) <| Dp 4 E2 (Za E2 f49_3) <| Dr 5 E2 (Z1 E2 g40 (Tlv.sub_seqno _)) ?_
      refine Dp 8 E2 (Za E2 f49_6) <| Dr 9 E2 (Z1 E2 g5 (Tlv.sub_hops _)) ?_
      refine Dp 12 E2 (Za E2 f49_9) <| Dp 13 E2 (QP.sliceArr rfl rfl Tryz.underlying42 z5) <| Dw.memo1 [16, 15, 14, 11, 10, 7, 6, 3, 2, 13, 12, 9, 8, 5, 4, 1, 0] (fun (v79 : Value) => .cons 1 (fp b1) (.cons 5 (.slice D.a D.n D.c) (.cons 6 (.slice Z.a Z.n Z.c) (.cons 68 (.pointer (some ⟨b1, 0 + 3, none⟩)) (.cons 69 (.int .u16 t.seqno) (.cons 72 (.pointer (some ⟨b1, 0 + 6, none⟩)) (.cons 73 (.int .u8 t.hops) (.cons 77 (.slice (some ⟨b1, 0 + 9, none⟩) 8 8) (.cons 79 (v79) (.cons 10 (v79) (.nil))))))))))) (fun (v79 : Value) => [blk b1 (Tlv.enc t) 49, slA 44 1 bytE (.slice D.a D.n D.c) D.l, slA 5 1 bytE (.slice Z.a Z.n Z.c) Z.l, slA 5 1 bytE v79 (((([ae] ++ [plen]) ++ nums 2 [t.seqno]) ++ [UInt8.ofNat t.hops.toNat, 0]) ++ catL [⟨some ⟨b1, 0 + 9, none⟩, 8, 8, t.id_.l, t.id_.h.symm⟩])]) (fun v79 => ?_) (fun hm0_15 => ?_)
      ·exact Dn <| J.envJ (J.keep Tk3 (hu6 (v79) ((((([ae] ++ [plen]) ++ nums 2 [t.seqno]) ++ [UInt8.ofNat t.hops.toNat, 0]) ++ catL [⟨some ⟨b1, 0 + 9, none⟩, 8, 8, t.id_.l, t.id_.h.symm⟩])) (by unfold headF; rw [if_neg c43, if_neg c57, if_pos c63]; simp [catL]))) ⟨rfl, rfl, rfl, trivial⟩
      refine Dw.memo1 [15, 14, 11, 10, 7, 6, 3, 2, 13, 12, 9, 8, 5, 4, 1, 0] (fun (v79 : Value) => .cons 1 (fp b1) (.cons 5 (.slice D.a D.n D.c) (.cons 6 (.slice Z.a Z.n Z.c) (.cons 68 (.pointer (some ⟨b1, 0 + 3, none⟩)) (.cons 69 (.int .u16 t.seqno) (.cons 72 (.pointer (some ⟨b1, 0 + 6, none⟩)) (.cons 73 (.int .u8 t.hops) (.cons 77 (.slice (some ⟨b1, 0 + 9, none⟩) 8 8) (.cons 79 (v79) (.nil)))))))))) (fun (v79 : Value) => [blk b1 (Tlv.enc t) 49, slA 44 1 bytE (.slice D.a D.n D.c) D.l, slA 5 1 bytE (.slice Z.a Z.n Z.c) Z.l, slA 5 1 bytE v79 (((([ae] ++ [plen]) ++ nums 2 [t.seqno]) ++ [UInt8.ofNat t.hops.toNat, 0]) ++ catL [⟨some ⟨b1, 0 + 9, none⟩, 8, 8, t.id_.l, t.id_.h.symm⟩])]) (fun v79 => ?_) (fun hm1_15 => ?_)
      ·refine De 16 <| Om [] rfl rfl ((Zg E2).eff) ?_
       rintro v79 _ ⟨rfl, rfl⟩
       exact N0 <| Dw.use Tk4 (hm0_15 v79) ⟨rfl, rfl, rfl, rfl, rfl, rfl, rfl, rfl, rfl, rfl, trivial⟩
      refine Dw.memo2 [14, 11, 10, 7, 6, 3, 2, 13, 12, 9, 8, 5, 4, 1, 0] (fun (v75 : Value) (b78 : Nat) => .cons 1 (fp b1) (.cons 5 (.slice D.a D.n D.c) (.cons 6 (.slice Z.a Z.n Z.c) (.cons 68 (.pointer (some ⟨b1, 0 + 3, none⟩)) (.cons 69 (.int .u16 t.seqno) (.cons 72 (.pointer (some ⟨b1, 0 + 6, none⟩)) (.cons 73 (.int .u8 t.hops) (.cons 77 (.slice (some ⟨b1, 0 + 9, none⟩) 8 8) (.cons 75 (v75) (.cons 78 (.slice (some ⟨b78, 0, none⟩) 1 1) (.nil))))))))))) (fun (v75 : Value) (b78 : Nat) => [blk b1 (Tlv.enc t) 49, slA 44 1 bytE (.slice D.a D.n D.c) D.l, slA 5 1 bytE (.slice Z.a Z.n Z.c) Z.l, slA 5 1 bytE v75 ((([ae] ++ [plen]) ++ nums 2 [t.seqno]) ++ [UInt8.ofNat t.hops.toNat, 0]), blk b78 [.slice (some ⟨b1, 0 + 9, none⟩) 8 8] 75]) (fun v75 b78 => ?_) (fun hm2_15 => ?_)
      ·refine De 15 <| One.mk (o := _) (l := []) rfl Kr (Want.none rfl) rfl (ltN rfl) (Zc E2 ce101 Tk3 (fun F' hle hr => putbytes_lent F' [blk b78 [.slice (some ⟨b1, 0 + 9, none⟩) 8 8] 75, blk b1 (Tlv.enc t) 49] (b := b78) (fun A => [blk b78 [.slice (some ⟨b1, 0 + 9, none⟩) 8 8] 75, blk b1 (Tlv.enc t) 49, A]) (fun _ => rfl) (xs := ((([ae] ++ [plen]) ++ nums 2 [t.seqno]) ++ [UInt8.ofNat t.hops.toNat, 0])) [⟨some ⟨b1, 0 + 9, none⟩, 8, 8, t.id_.l, t.id_.h.symm⟩] rfl (by simp [catL, nums_len, t.id_.h]) (by simp) (by simp) (fun F2 q h0 h1 h2 y hy => by
    simp only [List.mem_cons, List.not_mem_nil, or_false] at hy
    subst hy
    exact arr_arg (blk_frame (l := Tlv.enc t) (ty := 49) h1 h2 (by simp)) (Tlv.sub_id_ t)))) Kr ?_
       rintro v79 _ ⟨_, rfl, rfl⟩
       exact N0 <| J.app <| Dw.use Tk4 (hm1_15 v79) ⟨rfl, rfl, rfl, rfl, rfl, rfl, rfl, rfl, rfl, trivial⟩
      refine Dw.memo1 [11, 10, 7, 6, 3, 2, 13, 12, 9, 8, 5, 4, 1, 0] (fun (v75 : Value) => .cons 1 (fp b1) (.cons 5 (.slice D.a D.n D.c) (.cons 6 (.slice Z.a Z.n Z.c) (.cons 68 (.pointer (some ⟨b1, 0 + 3, none⟩)) (.cons 69 (.int .u16 t.seqno) (.cons 72 (.pointer (some ⟨b1, 0 + 6, none⟩)) (.cons 73 (.int .u8 t.hops) (.cons 77 (.slice (some ⟨b1, 0 + 9, none⟩) 8 8) (.cons 75 (v75) (.nil)))))))))) (fun (v75 : Value) => [blk b1 (Tlv.enc t) 49, slA 44 1 bytE (.slice D.a D.n D.c) D.l, slA 5 1 bytE (.slice Z.a Z.n Z.c) Z.l, slA 5 1 bytE v75 ((([ae] ++ [plen]) ++ nums 2 [t.seqno]) ++ [UInt8.ofNat t.hops.toNat, 0])]) (fun v75 => ?_) (fun hm3_15 => ?_)
      ·refine De 14 <| Om [9, 5] rfl rfl (EF.buildSliceS rfl Tryz.underlying108 z75 zero75 rfl (by decide) rfl rfl rfl rfl) ?_
       rintro _ _ ⟨b78, rfl, rfl⟩
       refine ⟨?_, ?_⟩
       ·rw [FM, FM]
        refine ⟨?_, ?_, NO⟩
        ·exact Lk E3 (Z1 E2 g5 (Tlv.sub_hops _))
        ·exact Lk E3 (Z1 E2 g40 (Tlv.sub_seqno _))
       refine ?_
       exact Dw.use Tk5 (hm2_15 v75 b78) ⟨rfl, rfl, rfl, rfl, rfl, rfl, rfl, rfl, rfl, rfl, trivial⟩
      refine Dw.memo3 [14, 10, 7, 6, 3, 2, 13, 12, 9, 8, 5, 4, 1, 0] (fun (v71 : Value) (b74 : Nat) (b78 : Nat) => .cons 1 (fp b1) (.cons 5 (.slice D.a D.n D.c) (.cons 6 (.slice Z.a Z.n Z.c) (.cons 68 (.pointer (some ⟨b1, 0 + 3, none⟩)) (.cons 69 (.int .u16 t.seqno) (.cons 72 (.pointer (some ⟨b1, 0 + 6, none⟩)) (.cons 73 (.int .u8 t.hops) (.cons 77 (.slice (some ⟨b1, 0 + 9, none⟩) 8 8) (.cons 71 (v71) (.cons 74 (.slice (some ⟨b74, 0, none⟩) 2 2) (.cons 78 (.slice (some ⟨b78, 0, none⟩) 1 1) (.nil)))))))))))) (fun (v71 : Value) (b74 : Nat) (b78 : Nat) => [blk b1 (Tlv.enc t) 49, slA 44 1 bytE (.slice D.a D.n D.c) D.l, slA 5 1 bytE (.slice Z.a Z.n Z.c) Z.l, slA 5 1 bytE v71 (([ae] ++ [plen]) ++ nums 2 [t.seqno]), blk b74 [.int .u8 t.hops, .int .u8 0] 5, blk b78 [.slice (some ⟨b1, 0 + 9, none⟩) 8 8] 75]) (fun v71 b74 b78 => ?_) (fun hm4_15 => ?_)
      ·refine De 11 <| Om [] rfl rfl (Zc E2 ce103 Tk1 (fun F' hle hr => put8_spec F' (xs := (([ae] ++ [plen]) ++ nums 2 [t.seqno])) (ys := [UInt8.ofNat t.hops.toNat, 0]) (argSl_all (enc := bytE) (xs := [UInt8.ofNat t.hops.toNat, 0]) (fun _ => rfl) (by have h9 := hr b74 (.cells [.int .u8 t.hops, .int .u8 0].toArray 5 (0, 0)) Rc; rw [hhop] at h9; exact h9)) (by simp [nums_len]))) ?_
       rintro v75 _ ⟨_, rfl, rfl⟩
       exact N0 <| J.app <| Dw.use Tk5 (hm2_15 v75 b78) ⟨rfl, rfl, rfl, rfl, rfl, rfl, rfl, rfl, rfl, rfl, trivial⟩
      refine Dw.memo2 [10, 7, 6, 3, 2, 13, 12, 9, 8, 5, 4, 1, 0] (fun (v71 : Value) (b74 : Nat) => .cons 1 (fp b1) (.cons 5 (.slice D.a D.n D.c) (.cons 6 (.slice Z.a Z.n Z.c) (.cons 68 (.pointer (some ⟨b1, 0 + 3, none⟩)) (.cons 69 (.int .u16 t.seqno) (.cons 72 (.pointer (some ⟨b1, 0 + 6, none⟩)) (.cons 73 (.int .u8 t.hops) (.cons 77 (.slice (some ⟨b1, 0 + 9, none⟩) 8 8) (.cons 71 (v71) (.cons 74 (.slice (some ⟨b74, 0, none⟩) 2 2) (.nil))))))))))) (fun (v71 : Value) (b74 : Nat) => [blk b1 (Tlv.enc t) 49, slA 44 1 bytE (.slice D.a D.n D.c) D.l, slA 5 1 bytE (.slice Z.a Z.n Z.c) Z.l, slA 5 1 bytE v71 (([ae] ++ [plen]) ++ nums 2 [t.seqno]), blk b74 [.int .u8 t.hops, .int .u8 0] 5]) (fun v71 b74 => ?_) (fun hm5_15 => ?_)
      ·refine Dw.effs (l := [11, 14]) Kr Kr ?_
       rw [FM, FM]
       refine ⟨?_, ?_, NO⟩
       ·refine Om [] rfl rfl (Zc E2 ce103 Tk1 (fun F' hle hr => put8_spec F' (xs := (([ae] ++ [plen]) ++ nums 2 [t.seqno])) (ys := [UInt8.ofNat t.hops.toNat, 0]) (argSl_all (enc := bytE) (xs := [UInt8.ofNat t.hops.toNat, 0]) (fun _ => rfl) (by have h9 := hr b74 (.cells [.int .u8 t.hops, .int .u8 0].toArray 5 (0, 0)) Rc; rw [hhop] at h9; exact h9)) (by simp [nums_len]))) ?_
        rintro v75 _ ⟨_, rfl, rfl⟩
        exact N0 <| J.app <| Dw.use Tk4 (hm3_15 v75) ⟨rfl, rfl, rfl, rfl, rfl, rfl, rfl, rfl, rfl, trivial⟩
       ·refine Om [9, 5] rfl rfl (EF.buildSliceS rfl Tryz.underlying108 z75 zero75 rfl (by decide) rfl rfl rfl rfl) ?_
        rintro _ _ ⟨b78, rfl, rfl⟩
        refine ⟨?_, ?_⟩
        ·rw [FM, FM]
         refine ⟨?_, ?_, NO⟩
         ·exact Lk E3 (Z1 E2 g5 (Tlv.sub_hops _))
         ·exact Lk E3 (Z1 E2 g40 (Tlv.sub_seqno _))
        refine ?_
        exact Dw.use Tk6 (hm4_15 v71 b74 b78) ⟨rfl, rfl, rfl, rfl, rfl, rfl, rfl, rfl, rfl, rfl, rfl, trivial⟩
      refine Dw.memo2 [14, 7, 6, 3, 2, 13, 12, 9, 8, 5, 4, 1, 0] (fun (v71 : Value) (b78 : Nat) => .cons 1 (fp b1) (.cons 5 (.slice D.a D.n D.c) (.cons 6 (.slice Z.a Z.n Z.c) (.cons 68 (.pointer (some ⟨b1, 0 + 3, none⟩)) (.cons 69 (.int .u16 t.seqno) (.cons 72 (.pointer (some ⟨b1, 0 + 6, none⟩)) (.cons 73 (.int .u8 t.hops) (.cons 77 (.slice (some ⟨b1, 0 + 9, none⟩) 8 8) (.cons 71 (v71) (.cons 78 (.slice (some ⟨b78, 0, none⟩) 1 1) (.nil))))))))))) (fun (v71 : Value) (b78 : Nat) => [blk b1 (Tlv.enc t) 49, slA 44 1 bytE (.slice D.a D.n D.c) D.l, slA 5 1 bytE (.slice Z.a Z.n Z.c) Z.l, slA 5 1 bytE v71 (([ae] ++ [plen]) ++ nums 2 [t.seqno]), blk b78 [.slice (some ⟨b1, 0 + 9, none⟩) 8 8] 75]) (fun v71 b78 => ?_) (fun hm6_15 => ?_)
      ·refine De 10 <| Om [5] rfl rfl (EF.buildSliceS rfl Tryz.underlying75 z5 zero5 rfl (by decide) rfl rfl rfl rfl) ?_
       rintro _ _ ⟨b74, rfl, rfl⟩
       refine ⟨?_, ?_⟩
       ·rw [FM]
        refine ⟨?_, NO⟩
        ·exact Lk E3 (Z1 E2 g40 (Tlv.sub_seqno _))
       refine ?_
       exact Dw.use Tk6 (hm4_15 v71 b74 b78) ⟨rfl, rfl, rfl, rfl, rfl, rfl, rfl, rfl, rfl, rfl, rfl, trivial⟩
      refine Dw.memo4 [14, 10, 6, 3, 2, 13, 12, 9, 8, 5, 4, 1, 0] (fun (v67 : Value) (b70 : Nat) (b74 : Nat) (b78 : Nat) => .cons 1 (fp b1) (.cons 5 (.slice D.a D.n D.c) (.cons 6 (.slice Z.a Z.n Z.c) (.cons 68 (.pointer (some ⟨b1, 0 + 3, none⟩)) (.cons 69 (.int .u16 t.seqno) (.cons 72 (.pointer (some ⟨b1, 0 + 6, none⟩)) (.cons 73 (.int .u8 t.hops) (.cons 77 (.slice (some ⟨b1, 0 + 9, none⟩) 8 8) (.cons 67 (v67) (.cons 70 (.slice (some ⟨b70, 0, none⟩) 1 1) (.cons 74 (.slice (some ⟨b74, 0, none⟩) 2 2) (.cons 78 (.slice (some ⟨b78, 0, none⟩) 1 1) (.nil))))))))))))) (fun (v67 : Value) (b70 : Nat) (b74 : Nat) (b78 : Nat) => [blk b1 (Tlv.enc t) 49, slA 44 1 bytE (.slice D.a D.n D.c) D.l, slA 5 1 bytE (.slice Z.a Z.n Z.c) Z.l, slA 5 1 bytE v67 ([ae] ++ [plen]), blk b70 [.int .u16 t.seqno] 40, blk b74 [.int .u8 t.hops, .int .u8 0] 5, blk b78 [.slice (some ⟨b1, 0 + 9, none⟩) 8 8] 75]) (fun v67 b70 b74 b78 => ?_) (fun hm7_15 => ?_)
      ·refine De 7 <| Om [9] rfl rfl (Zc E2 ce102 Tk1 (fun F' hle hr => put16_spec F' (xs := ([ae] ++ [plen])) (ns := [t.seqno]) (argSl_all (enc := u16E) (xs := [t.seqno]) (fun _ => rfl) (hr b70 _ Rc)) (fun n hn => by simp only [List.mem_cons, List.not_mem_nil, or_false] at hn; omega) (by simp))) ?_
       rintro v71 _ ⟨_, rfl, rfl⟩
       refine ⟨?_, ?_⟩
       ·rw [FM]
        refine ⟨?_, NO⟩
        ·refine Look.app ?_
         exact Lk E3 (Z1 E2 g5 (Tlv.sub_hops _))
       refine ?_
       exact J.app <| Dw.use Tk6 (hm4_15 v71 b74 b78) ⟨rfl, rfl, rfl, rfl, rfl, rfl, rfl, rfl, rfl, rfl, rfl, trivial⟩
      refine Dw.memo1 [7, 6, 3, 2, 13, 12, 9, 8, 5, 4, 1, 0] (fun (v71 : Value) => .cons 1 (fp b1) (.cons 5 (.slice D.a D.n D.c) (.cons 6 (.slice Z.a Z.n Z.c) (.cons 68 (.pointer (some ⟨b1, 0 + 3, none⟩)) (.cons 69 (.int .u16 t.seqno) (.cons 72 (.pointer (some ⟨b1, 0 + 6, none⟩)) (.cons 73 (.int .u8 t.hops) (.cons 77 (.slice (some ⟨b1, 0 + 9, none⟩) 8 8) (.cons 71 (v71) (.nil)))))))))) (fun (v71 : Value) => [blk b1 (Tlv.enc t) 49, slA 44 1 bytE (.slice D.a D.n D.c) D.l, slA 5 1 bytE (.slice Z.a Z.n Z.c) Z.l, slA 5 1 bytE v71 (([ae] ++ [plen]) ++ nums 2 [t.seqno])]) (fun v71 => ?_) (fun hm8_15 => ?_)
      ·refine Dw.effs (l := [10, 14]) Kr Kr ?_
       rw [FM, FM]
       refine ⟨?_, ?_, NO⟩
       ·refine Om [5] rfl rfl (EF.buildSliceS rfl Tryz.underlying75 z5 zero5 rfl (by decide) rfl rfl rfl rfl) ?_
        rintro _ _ ⟨b74, rfl, rfl⟩
        refine ⟨?_, ?_⟩
        ·rw [FM]
         refine ⟨?_, NO⟩
         ·exact Lk E3 (Z1 E2 g40 (Tlv.sub_seqno _))
        refine ?_
        exact Dw.use Tk5 (hm5_15 v71 b74) ⟨rfl, rfl, rfl, rfl, rfl, rfl, rfl, rfl, rfl, rfl, trivial⟩
       ·refine Om [9, 5] rfl rfl (EF.buildSliceS rfl Tryz.underlying108 z75 zero75 rfl (by decide) rfl rfl rfl rfl) ?_
        rintro _ _ ⟨b78, rfl, rfl⟩
        refine ⟨?_, ?_⟩
        ·rw [FM, FM]
         refine ⟨?_, ?_, NO⟩
         ·exact Lk E3 (Z1 E2 g5 (Tlv.sub_hops _))
         ·exact Lk E3 (Z1 E2 g40 (Tlv.sub_seqno _))
        refine ?_
        exact Dw.use Tk5 (hm6_15 v71 b78) ⟨rfl, rfl, rfl, rfl, rfl, rfl, rfl, rfl, rfl, rfl, trivial⟩
      refine Dw.memo3 [10, 6, 3, 2, 13, 12, 9, 8, 5, 4, 1, 0] (fun (v67 : Value) (b70 : Nat) (b74 : Nat) => .cons 1 (fp b1) (.cons 5 (.slice D.a D.n D.c) (.cons 6 (.slice Z.a Z.n Z.c) (.cons 68 (.pointer (some ⟨b1, 0 + 3, none⟩)) (.cons 69 (.int .u16 t.seqno) (.cons 72 (.pointer (some ⟨b1, 0 + 6, none⟩)) (.cons 73 (.int .u8 t.hops) (.cons 77 (.slice (some ⟨b1, 0 + 9, none⟩) 8 8) (.cons 67 (v67) (.cons 70 (.slice (some ⟨b70, 0, none⟩) 1 1) (.cons 74 (.slice (some ⟨b74, 0, none⟩) 2 2) (.nil)))))))))))) (fun (v67 : Value) (b70 : Nat) (b74 : Nat) => [blk b1 (Tlv.enc t) 49, slA 44 1 bytE (.slice D.a D.n D.c) D.l, slA 5 1 bytE (.slice Z.a Z.n Z.c) Z.l, slA 5 1 bytE v67 ([ae] ++ [plen]), blk b70 [.int .u16 t.seqno] 40, blk b74 [.int .u8 t.hops, .int .u8 0] 5]) (fun v67 b70 b74 => ?_) (fun hm9_15 => ?_)
      ·refine Dw.effs (l := [7, 14]) Kr Kr ?_
       rw [FM, FM]
       refine ⟨?_, ?_, NO⟩
       ·refine Om [9] rfl rfl (Zc E2 ce102 Tk1 (fun F' hle hr => put16_spec F' (xs := ([ae] ++ [plen])) (ns := [t.seqno]) (argSl_all (enc := u16E) (xs := [t.seqno]) (fun _ => rfl) (hr b70 _ Rc)) (fun n hn => by simp only [List.mem_cons, List.not_mem_nil, or_false] at hn; omega) (by simp))) ?_
        rintro v71 _ ⟨_, rfl, rfl⟩
        refine ⟨?_, ?_⟩
        ·rw [FM]
         refine ⟨?_, NO⟩
         ·refine Look.app ?_
          exact Lk E3 (Z1 E2 g5 (Tlv.sub_hops _))
        refine ?_
        exact J.app <| Dw.use Tk5 (hm5_15 v71 b74) ⟨rfl, rfl, rfl, rfl, rfl, rfl, rfl, rfl, rfl, rfl, trivial⟩
       ·refine Om [9, 5] rfl rfl (EF.buildSliceS rfl Tryz.underlying108 z75 zero75 rfl (by decide) rfl rfl rfl rfl) ?_
        rintro _ _ ⟨b78, rfl, rfl⟩
        refine ⟨?_, ?_⟩
        ·rw [FM, FM]
         refine ⟨?_, ?_, NO⟩
         ·exact Lk E3 (Z1 E2 g5 (Tlv.sub_hops _))
         ·exact Lk E3 (Z1 E2 g40 (Tlv.sub_seqno _))
        refine ?_
        exact Dw.use Tk7 (hm7_15 v67 b70 b74 b78) ⟨rfl, rfl, rfl, rfl, rfl, rfl, rfl, rfl, rfl, rfl, rfl, rfl, trivial⟩
      refine Dw.memo3 [14, 6, 3, 2, 13, 12, 9, 8, 5, 4, 1, 0] (fun (v67 : Value) (b70 : Nat) (b78 : Nat) => .cons 1 (fp b1) (.cons 5 (.slice D.a D.n D.c) (.cons 6 (.slice Z.a Z.n Z.c) (.cons 68 (.pointer (some ⟨b1, 0 + 3, none⟩)) (.cons 69 (.int .u16 t.seqno) (.cons 72 (.pointer (some ⟨b1, 0 + 6, none⟩)) (.cons 73 (.int .u8 t.hops) (.cons 77 (.slice (some ⟨b1, 0 + 9, none⟩) 8 8) (.cons 67 (v67) (.cons 70 (.slice (some ⟨b70, 0, none⟩) 1 1) (.cons 78 (.slice (some ⟨b78, 0, none⟩) 1 1) (.nil)))))))))))) (fun (v67 : Value) (b70 : Nat) (b78 : Nat) => [blk b1 (Tlv.enc t) 49, slA 44 1 bytE (.slice D.a D.n D.c) D.l, slA 5 1 bytE (.slice Z.a Z.n Z.c) Z.l, slA 5 1 bytE v67 ([ae] ++ [plen]), blk b70 [.int .u16 t.seqno] 40, blk b78 [.slice (some ⟨b1, 0 + 9, none⟩) 8 8] 75]) (fun v67 b70 b78 => ?_) (fun hm10_15 => ?_)
      ·refine Dw.effs (l := [7, 10]) Kr Kr ?_
       rw [FM, FM]
       refine ⟨?_, ?_, NO⟩
       ·refine Om [9] rfl rfl (Zc E2 ce102 Tk1 (fun F' hle hr => put16_spec F' (xs := ([ae] ++ [plen])) (ns := [t.seqno]) (argSl_all (enc := u16E) (xs := [t.seqno]) (fun _ => rfl) (hr b70 _ Rc)) (fun n hn => by simp only [List.mem_cons, List.not_mem_nil, or_false] at hn; omega) (by simp))) ?_
        rintro v71 _ ⟨_, rfl, rfl⟩
        refine ⟨?_, ?_⟩
        ·rw [FM]
         refine ⟨?_, NO⟩
         ·refine Look.app ?_
          exact Lk E3 (Z1 E2 g5 (Tlv.sub_hops _))
        refine ?_
        exact J.app <| Dw.use Tk5 (hm6_15 v71 b78) ⟨rfl, rfl, rfl, rfl, rfl, rfl, rfl, rfl, rfl, rfl, trivial⟩
       ·refine Om [5] rfl rfl (EF.buildSliceS rfl Tryz.underlying75 z5 zero5 rfl (by decide) rfl rfl rfl rfl) ?_
        rintro _ _ ⟨b74, rfl, rfl⟩
        refine ⟨?_, ?_⟩
        ·rw [FM]
         refine ⟨?_, NO⟩
         ·exact Lk E3 (Z1 E2 g40 (Tlv.sub_seqno _))
        refine ?_
        exact Dw.use Tk7 (hm7_15 v67 b70 b74 b78) ⟨rfl, rfl, rfl, rfl, rfl, rfl, rfl, rfl, rfl, rfl, rfl, rfl, trivial⟩
      refine Dw.memo3 [14, 10, 3, 2, 13, 12, 9, 8, 5, 4, 1, 0] (fun (v67 : Value) (b74 : Nat) (b78 : Nat) => .cons 1 (fp b1) (.cons 5 (.slice D.a D.n D.c) (.cons 6 (.slice Z.a Z.n Z.c) (.cons 68 (.pointer (some ⟨b1, 0 + 3, none⟩)) (.cons 69 (.int .u16 t.seqno) (.cons 72 (.pointer (some ⟨b1, 0 + 6, none⟩)) (.cons 73 (.int .u8 t.hops) (.cons 77 (.slice (some ⟨b1, 0 + 9, none⟩) 8 8) (.cons 67 (v67) (.cons 74 (.slice (some ⟨b74, 0, none⟩) 2 2) (.cons 78 (.slice (some ⟨b78, 0, none⟩) 1 1) (.nil)))))))))))) (fun (v67 : Value) (b74 : Nat) (b78 : Nat) => [blk b1 (Tlv.enc t) 49, slA 44 1 bytE (.slice D.a D.n D.c) D.l, slA 5 1 bytE (.slice Z.a Z.n Z.c) Z.l, slA 5 1 bytE v67 ([ae] ++ [plen]), blk b74 [.int .u8 t.hops, .int .u8 0] 5, blk b78 [.slice (some ⟨b1, 0 + 9, none⟩) 8 8] 75]) (fun v67 b74 b78 => ?_) (fun hm11_15 => ?_)
      ·refine De 6 <| Om [9] rfl rfl (EF.buildSliceS rfl Tryz.underlying246 z40 zero40 rfl (by decide) rfl rfl rfl rfl) ?_
       rintro _ _ ⟨b70, rfl, rfl⟩
       refine ⟨?_, ?_⟩
       ·rw [FM]
        refine ⟨?_, NO⟩
        ·exact Lk E3 (Z1 E2 g5 (Tlv.sub_hops _))
       refine ?_
       exact Dw.use Tk7 (hm7_15 v67 b70 b74 b78) ⟨rfl, rfl, rfl, rfl, rfl, rfl, rfl, rfl, rfl, rfl, rfl, rfl, trivial⟩
      refine Dw.memo4 [14, 10, 6, 2, 13, 12, 9, 8, 5, 4, 1, 0] (fun (b66 : Nat) (b70 : Nat) (b74 : Nat) (b78 : Nat) => .cons 1 (fp b1) (.cons 5 (.slice D.a D.n D.c) (.cons 6 (.slice Z.a Z.n Z.c) (.cons 64 (.slice (some ⟨b39, 0, none⟩) 1 1) (.cons 65 (.int .u8 (plen.toNat : Int)) (.cons 68 (.pointer (some ⟨b1, 0 + 3, none⟩)) (.cons 69 (.int .u16 t.seqno) (.cons 72 (.pointer (some ⟨b1, 0 + 6, none⟩)) (.cons 73 (.int .u8 t.hops) (.cons 77 (.slice (some ⟨b1, 0 + 9, none⟩) 8 8) (.cons 66 (.slice (some ⟨b66, 0, none⟩) 1 1) (.cons 70 (.slice (some ⟨b70, 0, none⟩) 1 1) (.cons 74 (.slice (some ⟨b74, 0, none⟩) 2 2) (.cons 78 (.slice (some ⟨b78, 0, none⟩) 1 1) (.nil))))))))))))))) (fun (b66 : Nat) (b70 : Nat) (b74 : Nat) (b78 : Nat) => [blk b1 (Tlv.enc t) 49, slA 44 1 bytE (.slice D.a D.n D.c) D.l, slA 5 1 bytE (.slice Z.a Z.n Z.c) Z.l, slA 5 1 bytE (.slice (some ⟨b39, 0, none⟩) 1 1) [ae], blk b66 [.int .u8 (plen.toNat : Int)] 5, blk b70 [.int .u16 t.seqno] 40, blk b74 [.int .u8 t.hops, .int .u8 0] 5, blk b78 [.slice (some ⟨b1, 0 + 9, none⟩) 8 8] 75]) (fun b66 b70 b74 b78 => ?_) (fun hm12_15 => ?_)
      ·refine De 3 <| Om [9, 5] rfl rfl (Zc E2 ce103 Tk1 (fun F' hle hr => put8_spec F' (xs := [ae]) (ys := [plen]) (argSl_all (enc := bytE) (xs := [plen]) (fun _ => rfl) (hr b66 _ Rc)) (by simp))) ?_
       rintro v67 _ ⟨_, rfl, rfl⟩
       refine ⟨?_, ?_⟩
       ·rw [FM, FM]
        refine ⟨?_, ?_, NO⟩
        ·refine Look.app ?_
         exact Lk E3 (Z1 E2 g5 (Tlv.sub_hops _))
        ·refine Look.app ?_
         exact Lk E3 (Z1 E2 g40 (Tlv.sub_seqno _))
       refine ?_
       exact J.app <| Dw.use Tk7 (hm7_15 v67 b70 b74 b78) ⟨rfl, rfl, rfl, rfl, rfl, rfl, rfl, rfl, rfl, rfl, rfl, rfl, trivial⟩
      refine Dw.memo2 [6, 3, 2, 13, 12, 9, 8, 5, 4, 1, 0] (fun (v67 : Value) (b70 : Nat) => .cons 1 (fp b1) (.cons 5 (.slice D.a D.n D.c) (.cons 6 (.slice Z.a Z.n Z.c) (.cons 68 (.pointer (some ⟨b1, 0 + 3, none⟩)) (.cons 69 (.int .u16 t.seqno) (.cons 72 (.pointer (some ⟨b1, 0 + 6, none⟩)) (.cons 73 (.int .u8 t.hops) (.cons 77 (.slice (some ⟨b1, 0 + 9, none⟩) 8 8) (.cons 67 (v67) (.cons 70 (.slice (some ⟨b70, 0, none⟩) 1 1) (.nil))))))))))) (fun (v67 : Value) (b70 : Nat) => [blk b1 (Tlv.enc t) 49, slA 44 1 bytE (.slice D.a D.n D.c) D.l, slA 5 1 bytE (.slice Z.a Z.n Z.c) Z.l, slA 5 1 bytE v67 ([ae] ++ [plen]), blk b70 [.int .u16 t.seqno] 40]) (fun v67 b70 => ?_) (fun hm13_15 => ?_)
      ·refine Dw.effs (l := [7, 10, 14]) Kr Kr ?_
       rw [FM, FM, FM]
       refine ⟨?_, ?_, ?_, NO⟩
       ·refine Om [9] rfl rfl (Zc E2 ce102 Tk1 (fun F' hle hr => put16_spec F' (xs := ([ae] ++ [plen])) (ns := [t.seqno]) (argSl_all (enc := u16E) (xs := [t.seqno]) (fun _ => rfl) (hr b70 _ Rc)) (fun n hn => by simp only [List.mem_cons, List.not_mem_nil, or_false] at hn; omega) (by simp))) ?_
        rintro v71 _ ⟨_, rfl, rfl⟩
        refine ⟨?_, ?_⟩
        ·rw [FM]
         refine ⟨?_, NO⟩
         ·refine Look.app ?_
          exact Lk E3 (Z1 E2 g5 (Tlv.sub_hops _))
        refine ?_
        exact J.app <| Dw.use Tk4 (hm8_15 v71) ⟨rfl, rfl, rfl, rfl, rfl, rfl, rfl, rfl, rfl, trivial⟩
       ·refine Om [5] rfl rfl (EF.buildSliceS rfl Tryz.underlying75 z5 zero5 rfl (by decide) rfl rfl rfl rfl) ?_
        rintro _ _ ⟨b74, rfl, rfl⟩
        refine ⟨?_, ?_⟩
        ·rw [FM]
         refine ⟨?_, NO⟩
         ·exact Lk E3 (Z1 E2 g40 (Tlv.sub_seqno _))
        refine ?_
        exact Dw.use Tk6 (hm9_15 v67 b70 b74) ⟨rfl, rfl, rfl, rfl, rfl, rfl, rfl, rfl, rfl, rfl, rfl, trivial⟩
       ·refine Om [9, 5] rfl rfl (EF.buildSliceS rfl Tryz.underlying108 z75 zero75 rfl (by decide) rfl rfl rfl rfl) ?_
        rintro _ _ ⟨b78, rfl, rfl⟩
        refine ⟨?_, ?_⟩
        ·rw [FM, FM]
         refine ⟨?_, ?_, NO⟩
         ·exact Lk E3 (Z1 E2 g5 (Tlv.sub_hops _))
         ·exact Lk E3 (Z1 E2 g40 (Tlv.sub_seqno _))
        refine ?_
        exact Dw.use Tk6 (hm10_15 v67 b70 b78) ⟨rfl, rfl, rfl, rfl, rfl, rfl, rfl, rfl, rfl, rfl, rfl, trivial⟩
      refine Dw.memo2 [10, 3, 2, 13, 12, 9, 8, 5, 4, 1, 0] (fun (v67 : Value) (b74 : Nat) => .cons 1 (fp b1) (.cons 5 (.slice D.a D.n D.c) (.cons 6 (.slice Z.a Z.n Z.c) (.cons 68 (.pointer (some ⟨b1, 0 + 3, none⟩)) (.cons 69 (.int .u16 t.seqno) (.cons 72 (.pointer (some ⟨b1, 0 + 6, none⟩)) (.cons 73 (.int .u8 t.hops) (.cons 77 (.slice (some ⟨b1, 0 + 9, none⟩) 8 8) (.cons 67 (v67) (.cons 74 (.slice (some ⟨b74, 0, none⟩) 2 2) (.nil))))))))))) (fun (v67 : Value) (b74 : Nat) => [blk b1 (Tlv.enc t) 49, slA 44 1 bytE (.slice D.a D.n D.c) D.l, slA 5 1 bytE (.slice Z.a Z.n Z.c) Z.l, slA 5 1 bytE v67 ([ae] ++ [plen]), blk b74 [.int .u8 t.hops, .int .u8 0] 5]) (fun v67 b74 => ?_) (fun hm14_15 => ?_)
      ·refine Dw.effs (l := [6, 14]) Kr Kr ?_
       rw [FM, FM]
       refine ⟨?_, ?_, NO⟩
       ·refine Om [9] rfl rfl (EF.buildSliceS rfl Tryz.underlying246 z40 zero40 rfl (by decide) rfl rfl rfl rfl) ?_
        rintro _ _ ⟨b70, rfl, rfl⟩
        refine ⟨?_, ?_⟩
        ·rw [FM]
         refine ⟨?_, NO⟩
         ·exact Lk E3 (Z1 E2 g5 (Tlv.sub_hops _))
        refine ?_
        exact Dw.use Tk6 (hm9_15 v67 b70 b74) ⟨rfl, rfl, rfl, rfl, rfl, rfl, rfl, rfl, rfl, rfl, rfl, trivial⟩
       ·refine Om [9, 5] rfl rfl (EF.buildSliceS rfl Tryz.underlying108 z75 zero75 rfl (by decide) rfl rfl rfl rfl) ?_
        rintro _ _ ⟨b78, rfl, rfl⟩
        refine ⟨?_, ?_⟩
        ·rw [FM, FM]
         refine ⟨?_, ?_, NO⟩
         ·exact Lk E3 (Z1 E2 g5 (Tlv.sub_hops _))
         ·exact Lk E3 (Z1 E2 g40 (Tlv.sub_seqno _))
        refine ?_
        exact Dw.use Tk6 (hm11_15 v67 b74 b78) ⟨rfl, rfl, rfl, rfl, rfl, rfl, rfl, rfl, rfl, rfl, rfl, trivial⟩
      refine Dw.memo2 [14, 3, 2, 13, 12, 9, 8, 5, 4, 1, 0] (fun (v67 : Value) (b78 : Nat) => .cons 1 (fp b1) (.cons 5 (.slice D.a D.n D.c) (.cons 6 (.slice Z.a Z.n Z.c) (.cons 68 (.pointer (some ⟨b1, 0 + 3, none⟩)) (.cons 69 (.int .u16 t.seqno) (.cons 72 (.pointer (some ⟨b1, 0 + 6, none⟩)) (.cons 73 (.int .u8 t.hops) (.cons 77 (.slice (some ⟨b1, 0 + 9, none⟩) 8 8) (.cons 67 (v67) (.cons 78 (.slice (some ⟨b78, 0, none⟩) 1 1) (.nil))))))))))) (fun (v67 : Value) (b78 : Nat) => [blk b1 (Tlv.enc t) 49, slA 44 1 bytE (.slice D.a D.n D.c) D.l, slA 5 1 bytE (.slice Z.a Z.n Z.c) Z.l, slA 5 1 bytE v67 ([ae] ++ [plen]), blk b78 [.slice (some ⟨b1, 0 + 9, none⟩) 8 8] 75]) (fun v67 b78 => ?_) (fun hm15_15 => ?_)
      ·refine Dw.effs (l := [6, 10]) Kr Kr ?_
       rw [FM, FM]
       refine ⟨?_, ?_, NO⟩
       ·refine Om [9] rfl rfl (EF.buildSliceS rfl Tryz.underlying246 z40 zero40 rfl (by decide) rfl rfl rfl rfl) ?_
        rintro _ _ ⟨b70, rfl, rfl⟩
        refine ⟨?_, ?_⟩
        ·rw [FM]
         refine ⟨?_, NO⟩
         ·exact Lk E3 (Z1 E2 g5 (Tlv.sub_hops _))
        refine ?_
        exact Dw.use Tk6 (hm10_15 v67 b70 b78) ⟨rfl, rfl, rfl, rfl, rfl, rfl, rfl, rfl, rfl, rfl, rfl, trivial⟩
       ·refine Om [5] rfl rfl (EF.buildSliceS rfl Tryz.underlying75 z5 zero5 rfl (by decide) rfl rfl rfl rfl) ?_
        rintro _ _ ⟨b74, rfl, rfl⟩
        refine ⟨?_, ?_⟩
        ·rw [FM]
         refine ⟨?_, NO⟩
         ·exact Lk E3 (Z1 E2 g40 (Tlv.sub_seqno _))
        refine ?_
        exact Dw.use Tk6 (hm11_15 v67 b74 b78) ⟨rfl, rfl, rfl, rfl, rfl, rfl, rfl, rfl, rfl, rfl, rfl, trivial⟩
      refine Dw.memo3 [10, 6, 2, 13, 12, 9, 8, 5, 4, 1, 0] (fun (b66 : Nat) (b70 : Nat) (b74 : Nat) => .cons 1 (fp b1) (.cons 5 (.slice D.a D.n D.c) (.cons 6 (.slice Z.a Z.n Z.c) (.cons 64 (.slice (some ⟨b39, 0, none⟩) 1 1) (.cons 65 (.int .u8 (plen.toNat : Int)) (.cons 68 (.pointer (some ⟨b1, 0 + 3, none⟩)) (.cons 69 (.int .u16 t.seqno) (.cons 72 (.pointer (some ⟨b1, 0 + 6, none⟩)) (.cons 73 (.int .u8 t.hops) (.cons 77 (.slice (some ⟨b1, 0 + 9, none⟩) 8 8) (.cons 66 (.slice (some ⟨b66, 0, none⟩) 1 1) (.cons 70 (.slice (some ⟨b70, 0, none⟩) 1 1) (.cons 74 (.slice (some ⟨b74, 0, none⟩) 2 2) (.nil)))))))))))))) (fun (b66 : Nat) (b70 : Nat) (b74 : Nat) => [blk b1 (Tlv.enc t) 49, slA 44 1 bytE (.slice D.a D.n D.c) D.l, slA 5 1 bytE (.slice Z.a Z.n Z.c) Z.l, slA 5 1 bytE (.slice (some ⟨b39, 0, none⟩) 1 1) [ae], blk b66 [.int .u8 (plen.toNat : Int)] 5, blk b70 [.int .u16 t.seqno] 40, blk b74 [.int .u8 t.hops, .int .u8 0] 5]) (fun b66 b70 b74 => ?_) (fun hm16_15 => ?_)
      ·refine Dw.effs (l := [3, 14]) Kr Kr ?_
       rw [FM, FM]
       refine ⟨?_, ?_, NO⟩
       ·refine Om [9, 5] rfl rfl (Zc E2 ce103 Tk1 (fun F' hle hr => put8_spec F' (xs := [ae]) (ys := [plen]) (argSl_all (enc := bytE) (xs := [plen]) (fun _ => rfl) (hr b66 _ Rc)) (by simp))) ?_
        rintro v67 _ ⟨_, rfl, rfl⟩
        refine ⟨?_, ?_⟩
        ·rw [FM, FM]
         refine ⟨?_, ?_, NO⟩
         ·refine Look.app ?_
          exact Lk E3 (Z1 E2 g5 (Tlv.sub_hops _))
         ·refine Look.app ?_
          exact Lk E3 (Z1 E2 g40 (Tlv.sub_seqno _))
        refine ?_
        exact J.app <| Dw.use Tk6 (hm9_15 v67 b70 b74) ⟨rfl, rfl, rfl, rfl, rfl, rfl, rfl, rfl, rfl, rfl, rfl, trivial⟩
       ·refine Om [9, 5] rfl rfl (EF.buildSliceS rfl Tryz.underlying108 z75 zero75 rfl (by decide) rfl rfl rfl rfl) ?_
        rintro _ _ ⟨b78, rfl, rfl⟩
        refine ⟨?_, ?_⟩
        ·rw [FM, FM]
         refine ⟨?_, ?_, NO⟩
         ·exact Lk E3 (Z1 E2 g5 (Tlv.sub_hops _))
         ·exact Lk E3 (Z1 E2 g40 (Tlv.sub_seqno _))
        refine ?_
        exact Dw.use Tk8 (hm12_15 b66 b70 b74 b78) ⟨rfl, rfl, rfl, rfl, rfl, rfl, rfl, rfl, rfl, rfl, rfl, rfl, rfl, rfl, trivial⟩
      refine Dw.memo3 [14, 6, 2, 13, 12, 9, 8, 5, 4, 1, 0] (fun (b66 : Nat) (b70 : Nat) (b78 : Nat) => .cons 1 (fp b1) (.cons 5 (.slice D.a D.n D.c) (.cons 6 (.slice Z.a Z.n Z.c) (.cons 64 (.slice (some ⟨b39, 0, none⟩) 1 1) (.cons 65 (.int .u8 (plen.toNat : Int)) (.cons 68 (.pointer (some ⟨b1, 0 + 3, none⟩)) (.cons 69 (.int .u16 t.seqno) (.cons 72 (.pointer (some ⟨b1, 0 + 6, none⟩)) (.cons 73 (.int .u8 t.hops) (.cons 77 (.slice (some ⟨b1, 0 + 9, none⟩) 8 8) (.cons 66 (.slice (some ⟨b66, 0, none⟩) 1 1) (.cons 70 (.slice (some ⟨b70, 0, none⟩) 1 1) (.cons 78 (.slice (some ⟨b78, 0, none⟩) 1 1) (.nil)))))))))))))) (fun (b66 : Nat) (b70 : Nat) (b78 : Nat) => [blk b1 (Tlv.enc t) 49, slA 44 1 bytE (.slice D.a D.n D.c) D.l, slA 5 1 bytE (.slice Z.a Z.n Z.c) Z.l, slA 5 1 bytE (.slice (some ⟨b39, 0, none⟩) 1 1) [ae], blk b66 [.int .u8 (plen.toNat : Int)] 5, blk b70 [.int .u16 t.seqno] 40, blk b78 [.slice (some ⟨b1, 0 + 9, none⟩) 8 8] 75]) (fun b66 b70 b78 => ?_) (fun hm17_15 => ?_)
      ·refine Dw.effs (l := [3, 10]) Kr Kr ?_
       rw [FM, FM]
       refine ⟨?_, ?_, NO⟩
       ·refine Om [9, 5] rfl rfl (Zc E2 ce103 Tk1 (fun F' hle hr => put8_spec F' (xs := [ae]) (ys := [plen]) (argSl_all (enc := bytE) (xs := [plen]) (fun _ => rfl) (hr b66 _ Rc)) (by simp))) ?_
        rintro v67 _ ⟨_, rfl, rfl⟩
        refine ⟨?_, ?_⟩
        ·rw [FM, FM]
         refine ⟨?_, ?_, NO⟩
         ·refine Look.app ?_
          exact Lk E3 (Z1 E2 g5 (Tlv.sub_hops _))
         ·refine Look.app ?_
          exact Lk E3 (Z1 E2 g40 (Tlv.sub_seqno _))
        refine ?_
        exact J.app <| Dw.use Tk6 (hm10_15 v67 b70 b78) ⟨rfl, rfl, rfl, rfl, rfl, rfl, rfl, rfl, rfl, rfl, rfl, trivial⟩
       ·refine Om [5] rfl rfl (EF.buildSliceS rfl Tryz.underlying75 z5 zero5 rfl (by decide) rfl rfl rfl rfl) ?_
        rintro _ _ ⟨b74, rfl, rfl⟩
        refine ⟨?_, ?_⟩
        ·rw [FM]
         refine ⟨?_, NO⟩
         ·exact Lk E3 (Z1 E2 g40 (Tlv.sub_seqno _))
        refine ?_
        exact Dw.use Tk8 (hm12_15 b66 b70 b74 b78) ⟨rfl, rfl, rfl, rfl, rfl, rfl, rfl, rfl, rfl, rfl, rfl, rfl, rfl, rfl, trivial⟩
      refine Dw.memo3 [14, 10, 2, 13, 12, 9, 8, 5, 4, 1, 0] (fun (b66 : Nat) (b74 : Nat) (b78 : Nat) => .cons 1 (fp b1) (.cons 5 (.slice D.a D.n D.c) (.cons 6 (.slice Z.a Z.n Z.c) (.cons 64 (.slice (some ⟨b39, 0, none⟩) 1 1) (.cons 65 (.int .u8 (plen.toNat : Int)) (.cons 68 (.pointer (some ⟨b1, 0 + 3, none⟩)) (.cons 69 (.int .u16 t.seqno) (.cons 72 (.pointer (some ⟨b1, 0 + 6, none⟩)) (.cons 73 (.int .u8 t.hops) (.cons 77 (.slice (some ⟨b1, 0 + 9, none⟩) 8 8) (.cons 66 (.slice (some ⟨b66, 0, none⟩) 1 1) (.cons 74 (.slice (some ⟨b74, 0, none⟩) 2 2) (.cons 78 (.slice (some ⟨b78, 0, none⟩) 1 1) (.nil)))))))))))))) (fun (b66 : Nat) (b74 : Nat) (b78 : Nat) => [blk b1 (Tlv.enc t) 49, slA 44 1 bytE (.slice D.a D.n D.c) D.l, slA 5 1 bytE (.slice Z.a Z.n Z.c) Z.l, slA 5 1 bytE (.slice (some ⟨b39, 0, none⟩) 1 1) [ae], blk b66 [.int .u8 (plen.toNat : Int)] 5, blk b74 [.int .u8 t.hops, .int .u8 0] 5, blk b78 [.slice (some ⟨b1, 0 + 9, none⟩) 8 8] 75]) (fun b66 b74 b78 => ?_) (fun hm18_15 => ?_)
      ·refine Dw.effs (l := [3, 6]) Kr Kr ?_
       rw [FM, FM]
       refine ⟨?_, ?_, NO⟩
       ·refine Om [9, 5] rfl rfl (Zc E2 ce103 Tk1 (fun F' hle hr => put8_spec F' (xs := [ae]) (ys := [plen]) (argSl_all (enc := bytE) (xs := [plen]) (fun _ => rfl) (hr b66 _ Rc)) (by simp))) ?_
        rintro v67 _ ⟨_, rfl, rfl⟩
        refine ⟨?_, ?_⟩
        ·rw [FM, FM]
         refine ⟨?_, ?_, NO⟩
         ·refine Look.app ?_
          exact Lk E3 (Z1 E2 g5 (Tlv.sub_hops _))
         ·refine Look.app ?_
          exact Lk E3 (Z1 E2 g40 (Tlv.sub_seqno _))
        refine ?_
        exact J.app <| Dw.use Tk6 (hm11_15 v67 b74 b78) ⟨rfl, rfl, rfl, rfl, rfl, rfl, rfl, rfl, rfl, rfl, rfl, trivial⟩
       ·refine Om [9] rfl rfl (EF.buildSliceS rfl Tryz.underlying246 z40 zero40 rfl (by decide) rfl rfl rfl rfl) ?_
        rintro _ _ ⟨b70, rfl, rfl⟩
        refine ⟨?_, ?_⟩
        ·rw [FM]
         refine ⟨?_, NO⟩
         ·exact Lk E3 (Z1 E2 g5 (Tlv.sub_hops _))
        refine ?_
        exact Dw.use Tk8 (hm12_15 b66 b70 b74 b78) ⟨rfl, rfl, rfl, rfl, rfl, rfl, rfl, rfl, rfl, rfl, rfl, rfl, rfl, rfl, trivial⟩
      refine Dw.memo3 [14, 10, 6, 13, 12, 9, 8, 5, 4, 1, 0] (fun (b70 : Nat) (b74 : Nat) (b78 : Nat) => .cons 1 (fp b1) (.cons 5 (.slice D.a D.n D.c) (.cons 6 (.slice Z.a Z.n Z.c) (.cons 64 (.slice (some ⟨b39, 0, none⟩) 1 1) (.cons 65 (.int .u8 (plen.toNat : Int)) (.cons 68 (.pointer (some ⟨b1, 0 + 3, none⟩)) (.cons 69 (.int .u16 t.seqno) (.cons 72 (.pointer (some ⟨b1, 0 + 6, none⟩)) (.cons 73 (.int .u8 t.hops) (.cons 77 (.slice (some ⟨b1, 0 + 9, none⟩) 8 8) (.cons 70 (.slice (some ⟨b70, 0, none⟩) 1 1) (.cons 74 (.slice (some ⟨b74, 0, none⟩) 2 2) (.cons 78 (.slice (some ⟨b78, 0, none⟩) 1 1) (.nil)))))))))))))) (fun (b70 : Nat) (b74 : Nat) (b78 : Nat) => [blk b1 (Tlv.enc t) 49, slA 44 1 bytE (.slice D.a D.n D.c) D.l, slA 5 1 bytE (.slice Z.a Z.n Z.c) Z.l, slA 5 1 bytE (.slice (some ⟨b39, 0, none⟩) 1 1) [ae], blk b70 [.int .u16 t.seqno] 40, blk b74 [.int .u8 t.hops, .int .u8 0] 5, blk b78 [.slice (some ⟨b1, 0 + 9, none⟩) 8 8] 75]) (fun b70 b74 b78 => ?_) (fun hm19_15 => ?_)
      ·refine De 2 <| Om [9, 5] rfl rfl (EF.buildSliceS rfl Tryz.underlying75 z5 zero5 rfl (by decide) rfl rfl rfl rfl) ?_
       rintro _ _ ⟨b66, rfl, rfl⟩
       refine ⟨?_, ?_⟩
       ·rw [FM, FM]
        refine ⟨?_, ?_, NO⟩
        ·exact Lk E3 (Z1 E2 g5 (Tlv.sub_hops _))
        ·exact Lk E3 (Z1 E2 g40 (Tlv.sub_seqno _))
       refine ?_
       exact Dw.use Tk8 (hm12_15 b66 b70 b74 b78) ⟨rfl, rfl, rfl, rfl, rfl, rfl, rfl, rfl, rfl, rfl, rfl, rfl, rfl, rfl, trivial⟩
      refine Dw.memo1 [3, 2, 13, 12, 9, 8, 5, 4, 1, 0] (fun (v67 : Value) => .cons 1 (fp b1) (.cons 5 (.slice D.a D.n D.c) (.cons 6 (.slice Z.a Z.n Z.c) (.cons 68 (.pointer (some ⟨b1, 0 + 3, none⟩)) (.cons 69 (.int .u16 t.seqno) (.cons 72 (.pointer (some ⟨b1, 0 + 6, none⟩)) (.cons 73 (.int .u8 t.hops) (.cons 77 (.slice (some ⟨b1, 0 + 9, none⟩) 8 8) (.cons 67 (v67) (.nil)))))))))) (fun (v67 : Value) => [blk b1 (Tlv.enc t) 49, slA 44 1 bytE (.slice D.a D.n D.c) D.l, slA 5 1 bytE (.slice Z.a Z.n Z.c) Z.l, slA 5 1 bytE v67 ([ae] ++ [plen])]) (fun v67 => ?_) (fun hm20_15 => ?_)
      ·refine Dw.effs (l := [6, 10, 14]) Kr Kr ?_
       rw [FM, FM, FM]
       refine ⟨?_, ?_, ?_, NO⟩
       ·refine Om [9] rfl rfl (EF.buildSliceS rfl Tryz.underlying246 z40 zero40 rfl (by decide) rfl rfl rfl rfl) ?_
        rintro _ _ ⟨b70, rfl, rfl⟩
        refine ⟨?_, ?_⟩
        ·rw [FM]
         refine ⟨?_, NO⟩
         ·exact Lk E3 (Z1 E2 g5 (Tlv.sub_hops _))
        refine ?_
        exact Dw.use Tk5 (hm13_15 v67 b70) ⟨rfl, rfl, rfl, rfl, rfl, rfl, rfl, rfl, rfl, rfl, trivial⟩
       ·refine Om [5] rfl rfl (EF.buildSliceS rfl Tryz.underlying75 z5 zero5 rfl (by decide) rfl rfl rfl rfl) ?_
        rintro _ _ ⟨b74, rfl, rfl⟩
        refine ⟨?_, ?_⟩
        ·rw [FM]
         refine ⟨?_, NO⟩
         ·exact Lk E3 (Z1 E2 g40 (Tlv.sub_seqno _))
        refine ?_
        exact Dw.use Tk5 (hm14_15 v67 b74) ⟨rfl, rfl, rfl, rfl, rfl, rfl, rfl, rfl, rfl, rfl, trivial⟩
       ·refine Om [9, 5] rfl rfl (EF.buildSliceS rfl Tryz.underlying108 z75 zero75 rfl (by decide) rfl rfl rfl rfl) ?_
        rintro _ _ ⟨b78, rfl, rfl⟩
        refine ⟨?_, ?_⟩
        ·rw [FM, FM]
         refine ⟨?_, ?_, NO⟩
         ·exact Lk E3 (Z1 E2 g5 (Tlv.sub_hops _))
         ·exact Lk E3 (Z1 E2 g40 (Tlv.sub_seqno _))
        refine ?_
        exact Dw.use Tk5 (hm15_15 v67 b78) ⟨rfl, rfl, rfl, rfl, rfl, rfl, rfl, rfl, rfl, rfl, trivial⟩
      refine Dw.memo2 [6, 2, 13, 12, 9, 8, 5, 4, 1, 0] (fun (b66 : Nat) (b70 : Nat) => .cons 1 (fp b1) (.cons 5 (.slice D.a D.n D.c) (.cons 6 (.slice Z.a Z.n Z.c) (.cons 64 (.slice (some ⟨b39, 0, none⟩) 1 1) (.cons 65 (.int .u8 (plen.toNat : Int)) (.cons 68 (.pointer (some ⟨b1, 0 + 3, none⟩)) (.cons 69 (.int .u16 t.seqno) (.cons 72 (.pointer (some ⟨b1, 0 + 6, none⟩)) (.cons 73 (.int .u8 t.hops) (.cons 77 (.slice (some ⟨b1, 0 + 9, none⟩) 8 8) (.cons 66 (.slice (some ⟨b66, 0, none⟩) 1 1) (.cons 70 (.slice (some ⟨b70, 0, none⟩) 1 1) (.nil))))))))))))) (fun (b66 : Nat) (b70 : Nat) => [blk b1 (Tlv.enc t) 49, slA 44 1 bytE (.slice D.a D.n D.c) D.l, slA 5 1 bytE (.slice Z.a Z.n Z.c) Z.l, slA 5 1 bytE (.slice (some ⟨b39, 0, none⟩) 1 1) [ae], blk b66 [.int .u8 (plen.toNat : Int)] 5, blk b70 [.int .u16 t.seqno] 40]) (fun b66 b70 => ?_) (fun hm21_15 => ?_)
      ·refine Dw.effs (l := [3, 10, 14]) Kr Kr ?_
       rw [FM, FM, FM]
       refine ⟨?_, ?_, ?_, NO⟩
       ·refine Om [9, 5] rfl rfl (Zc E2 ce103 Tk1 (fun F' hle hr => put8_spec F' (xs := [ae]) (ys := [plen]) (argSl_all (enc := bytE) (xs := [plen]) (fun _ => rfl) (hr b66 _ Rc)) (by simp))) ?_
        rintro v67 _ ⟨_, rfl, rfl⟩
        refine ⟨?_, ?_⟩
        ·rw [FM, FM]
         refine ⟨?_, ?_, NO⟩
         ·refine Look.app ?_
          exact Lk E3 (Z1 E2 g5 (Tlv.sub_hops _))
         ·refine Look.app ?_
          exact Lk E3 (Z1 E2 g40 (Tlv.sub_seqno _))
        refine ?_
        exact J.app <| Dw.use Tk5 (hm13_15 v67 b70) ⟨rfl, rfl, rfl, rfl, rfl, rfl, rfl, rfl, rfl, rfl, trivial⟩
       ·refine Om [5] rfl rfl (EF.buildSliceS rfl Tryz.underlying75 z5 zero5 rfl (by decide) rfl rfl rfl rfl) ?_
        rintro _ _ ⟨b74, rfl, rfl⟩
        refine ⟨?_, ?_⟩
        ·rw [FM]
         refine ⟨?_, NO⟩
         ·exact Lk E3 (Z1 E2 g40 (Tlv.sub_seqno _))
        refine ?_
        exact Dw.use Tk7 (hm16_15 b66 b70 b74) ⟨rfl, rfl, rfl, rfl, rfl, rfl, rfl, rfl, rfl, rfl, rfl, rfl, rfl, trivial⟩
       ·refine Om [9, 5] rfl rfl (EF.buildSliceS rfl Tryz.underlying108 z75 zero75 rfl (by decide) rfl rfl rfl rfl) ?_
        rintro _ _ ⟨b78, rfl, rfl⟩
        refine ⟨?_, ?_⟩
        ·rw [FM, FM]
         refine ⟨?_, ?_, NO⟩
         ·exact Lk E3 (Z1 E2 g5 (Tlv.sub_hops _))
         ·exact Lk E3 (Z1 E2 g40 (Tlv.sub_seqno _))
        refine ?_
        exact Dw.use Tk7 (hm17_15 b66 b70 b78) ⟨rfl, rfl, rfl, rfl, rfl, rfl, rfl, rfl, rfl, rfl, rfl, rfl, rfl, trivial⟩
      refine Dw.memo2 [10, 2, 13, 12, 9, 8, 5, 4, 1, 0] (fun (b66 : Nat) (b74 : Nat) => .cons 1 (fp b1) (.cons 5 (.slice D.a D.n D.c) (.cons 6 (.slice Z.a Z.n Z.c) (.cons 64 (.slice (some ⟨b39, 0, none⟩) 1 1) (.cons 65 (.int .u8 (plen.toNat : Int)) (.cons 68 (.pointer (some ⟨b1, 0 + 3, none⟩)) (.cons 69 (.int .u16 t.seqno) (.cons 72 (.pointer (some ⟨b1, 0 + 6, none⟩)) (.cons 73 (.int .u8 t.hops) (.cons 77 (.slice (some ⟨b1, 0 + 9, none⟩) 8 8) (.cons 66 (.slice (some ⟨b66, 0, none⟩) 1 1) (.cons 74 (.slice (some ⟨b74, 0, none⟩) 2 2) (.nil))))))))))))) (fun (b66 : Nat) (b74 : Nat) => [blk b1 (Tlv.enc t) 49, slA 44 1 bytE (.slice D.a D.n D.c) D.l, slA 5 1 bytE (.slice Z.a Z.n Z.c) Z.l, slA 5 1 bytE (.slice (some ⟨b39, 0, none⟩) 1 1) [ae], blk b66 [.int .u8 (plen.toNat : Int)] 5, blk b74 [.int .u8 t.hops, .int .u8 0] 5]) (fun b66 b74 => ?_) (fun hm22_15 => ?_)
      ·refine Dw.effs (l := [3, 6, 14]) Kr Kr ?_
       rw [FM, FM, FM]
       refine ⟨?_, ?_, ?_, NO⟩
       ·refine Om [9, 5] rfl rfl (Zc E2 ce103 Tk1 (fun F' hle hr => put8_spec F' (xs := [ae]) (ys := [plen]) (argSl_all (enc := bytE) (xs := [plen]) (fun _ => rfl) (hr b66 _ Rc)) (by simp))) ?_
        rintro v67 _ ⟨_, rfl, rfl⟩
        refine ⟨?_, ?_⟩
        ·rw [FM, FM]
         refine ⟨?_, ?_, NO⟩
         ·refine Look.app ?_
          exact Lk E3 (Z1 E2 g5 (Tlv.sub_hops _))
         ·refine Look.app ?_
          exact Lk E3 (Z1 E2 g40 (Tlv.sub_seqno _))
        refine ?_
        exact J.app <| Dw.use Tk5 (hm14_15 v67 b74) ⟨rfl, rfl, rfl, rfl, rfl, rfl, rfl, rfl, rfl, rfl, trivial⟩
       ·refine Om [9] rfl rfl (EF.buildSliceS rfl Tryz.underlying246 z40 zero40 rfl (by decide) rfl rfl rfl rfl) ?_
        rintro _ _ ⟨b70, rfl, rfl⟩
        refine ⟨?_, ?_⟩
        ·rw [FM]
         refine ⟨?_, NO⟩
         ·exact Lk E3 (Z1 E2 g5 (Tlv.sub_hops _))
        refine ?_
        exact Dw.use Tk7 (hm16_15 b66 b70 b74) ⟨rfl, rfl, rfl, rfl, rfl, rfl, rfl, rfl, rfl, rfl, rfl, rfl, rfl, trivial⟩
       ·refine Om [9, 5] rfl rfl (EF.buildSliceS rfl Tryz.underlying108 z75 zero75 rfl (by decide) rfl rfl rfl rfl) ?_
        rintro _ _ ⟨b78, rfl, rfl⟩
        refine ⟨?_, ?_⟩
        ·rw [FM, FM]
         refine ⟨?_, ?_, NO⟩
         ·exact Lk E3 (Z1 E2 g5 (Tlv.sub_hops _))
         ·exact Lk E3 (Z1 E2 g40 (Tlv.sub_seqno _))
        refine ?_
        exact Dw.use Tk7 (hm18_15 b66 b74 b78) ⟨rfl, rfl, rfl, rfl, rfl, rfl, rfl, rfl, rfl, rfl, rfl, rfl, rfl, trivial⟩
      refine Dw.memo2 [14, 2, 13, 12, 9, 8, 5, 4, 1, 0] (fun (b66 : Nat) (b78 : Nat) => .cons 1 (fp b1) (.cons 5 (.slice D.a D.n D.c) (.cons 6 (.slice Z.a Z.n Z.c) (.cons 64 (.slice (some ⟨b39, 0, none⟩) 1 1) (.cons 65 (.int .u8 (plen.toNat : Int)) (.cons 68 (.pointer (some ⟨b1, 0 + 3, none⟩)) (.cons 69 (.int .u16 t.seqno) (.cons 72 (.pointer (some ⟨b1, 0 + 6, none⟩)) (.cons 73 (.int .u8 t.hops) (.cons 77 (.slice (some ⟨b1, 0 + 9, none⟩) 8 8) (.cons 66 (.slice (some ⟨b66, 0, none⟩) 1 1) (.cons 78 (.slice (some ⟨b78, 0, none⟩) 1 1) (.nil))))))))))))) (fun (b66 : Nat) (b78 : Nat) => [blk b1 (Tlv.enc t) 49, slA 44 1 bytE (.slice D.a D.n D.c) D.l, slA 5 1 bytE (.slice Z.a Z.n Z.c) Z.l, slA 5 1 bytE (.slice (some ⟨b39, 0, none⟩) 1 1) [ae], blk b66 [.int .u8 (plen.toNat : Int)] 5, blk b78 [.slice (some ⟨b1, 0 + 9, none⟩) 8 8] 75]) (fun b66 b78 => ?_) (fun hm23_15 => ?_)
      ·refine Dw.effs (l := [3, 6, 10]) Kr Kr ?_
       rw [FM, FM, FM]
       refine ⟨?_, ?_, ?_, NO⟩
       ·refine Om [9, 5] rfl rfl (Zc E2 ce103 Tk1 (fun F' hle hr => put8_spec F' (xs := [ae]) (ys := [plen]) (argSl_all (enc := bytE) (xs := [plen]) (fun _ => rfl) (hr b66 _ Rc)) (by simp))) ?_
        rintro v67 _ ⟨_, rfl, rfl⟩
        refine ⟨?_, ?_⟩
        ·rw [FM, FM]
         refine ⟨?_, ?_, NO⟩
         ·refine Look.app ?_
          exact Lk E3 (Z1 E2 g5 (Tlv.sub_hops _))
         ·refine Look.app ?_
          exact Lk E3 (Z1 E2 g40 (Tlv.sub_seqno _))
        refine ?_
        exact J.app <| Dw.use Tk5 (hm15_15 v67 b78) ⟨rfl, rfl, rfl, rfl, rfl, rfl, rfl, rfl, rfl, rfl, trivial⟩
       ·refine Om [9] rfl rfl (EF.buildSliceS rfl Tryz.underlying246 z40 zero40 rfl (by decide) rfl rfl rfl rfl) ?_
        rintro _ _ ⟨b70, rfl, rfl⟩
        refine ⟨?_, ?_⟩
        ·rw [FM]
         refine ⟨?_, NO⟩
         ·exact Lk E3 (Z1 E2 g5 (Tlv.sub_hops _))
        refine ?_
        exact Dw.use Tk7 (hm17_15 b66 b70 b78) ⟨rfl, rfl, rfl, rfl, rfl, rfl, rfl, rfl, rfl, rfl, rfl, rfl, rfl, trivial⟩
       ·refine Om [5] rfl rfl (EF.buildSliceS rfl Tryz.underlying75 z5 zero5 rfl (by decide) rfl rfl rfl rfl) ?_
        rintro _ _ ⟨b74, rfl, rfl⟩
        refine ⟨?_, ?_⟩
        ·rw [FM]
         refine ⟨?_, NO⟩
         ·exact Lk E3 (Z1 E2 g40 (Tlv.sub_seqno _))
        refine ?_
        exact Dw.use Tk7 (hm18_15 b66 b74 b78) ⟨rfl, rfl, rfl, rfl, rfl, rfl, rfl, rfl, rfl, rfl, rfl, rfl, rfl, trivial⟩
      refine Dw.memo2 [10, 6, 13, 12, 9, 8, 5, 4, 1, 0] (fun (b70 : Nat) (b74 : Nat) => .cons 1 (fp b1) (.cons 5 (.slice D.a D.n D.c) (.cons 6 (.slice Z.a Z.n Z.c) (.cons 64 (.slice (some ⟨b39, 0, none⟩) 1 1) (.cons 65 (.int .u8 (plen.toNat : Int)) (.cons 68 (.pointer (some ⟨b1, 0 + 3, none⟩)) (.cons 69 (.int .u16 t.seqno) (.cons 72 (.pointer (some ⟨b1, 0 + 6, none⟩)) (.cons 73 (.int .u8 t.hops) (.cons 77 (.slice (some ⟨b1, 0 + 9, none⟩) 8 8) (.cons 70 (.slice (some ⟨b70, 0, none⟩) 1 1) (.cons 74 (.slice (some ⟨b74, 0, none⟩) 2 2) (.nil))))))))))))) (fun (b70 : Nat) (b74 : Nat) => [blk b1 (Tlv.enc t) 49, slA 44 1 bytE (.slice D.a D.n D.c) D.l, slA 5 1 bytE (.slice Z.a Z.n Z.c) Z.l, slA 5 1 bytE (.slice (some ⟨b39, 0, none⟩) 1 1) [ae], blk b70 [.int .u16 t.seqno] 40, blk b74 [.int .u8 t.hops, .int .u8 0] 5]) (fun b70 b74 => ?_) (fun hm24_15 => ?_)
      ·refine Dw.effs (l := [2, 14]) Kr Kr ?_
       rw [FM, FM]
       refine ⟨?_, ?_, NO⟩
       ·refine Om [9, 5] rfl rfl (EF.buildSliceS rfl Tryz.underlying75 z5 zero5 rfl (by decide) rfl rfl rfl rfl) ?_
        rintro _ _ ⟨b66, rfl, rfl⟩
        refine ⟨?_, ?_⟩
        ·rw [FM, FM]
         refine ⟨?_, ?_, NO⟩
         ·exact Lk E3 (Z1 E2 g5 (Tlv.sub_hops _))
         ·exact Lk E3 (Z1 E2 g40 (Tlv.sub_seqno _))
        refine ?_
        exact Dw.use Tk7 (hm16_15 b66 b70 b74) ⟨rfl, rfl, rfl, rfl, rfl, rfl, rfl, rfl, rfl, rfl, rfl, rfl, rfl, trivial⟩
       ·refine Om [9, 5] rfl rfl (EF.buildSliceS rfl Tryz.underlying108 z75 zero75 rfl (by decide) rfl rfl rfl rfl) ?_
        rintro _ _ ⟨b78, rfl, rfl⟩
        refine ⟨?_, ?_⟩
        ·rw [FM, FM]
         refine ⟨?_, ?_, NO⟩
         ·exact Lk E3 (Z1 E2 g5 (Tlv.sub_hops _))
         ·exact Lk E3 (Z1 E2 g40 (Tlv.sub_seqno _))
        refine ?_
        exact Dw.use Tk7 (hm19_15 b70 b74 b78) ⟨rfl, rfl, rfl, rfl, rfl, rfl, rfl, rfl, rfl, rfl, rfl, rfl, rfl, trivial⟩
      refine Dw.memo2 [14, 6, 13, 12, 9, 8, 5, 4, 1, 0] (fun (b70 : Nat) (b78 : Nat) => .cons 1 (fp b1) (.cons 5 (.slice D.a D.n D.c) (.cons 6 (.slice Z.a Z.n Z.c) (.cons 64 (.slice (some ⟨b39, 0, none⟩) 1 1) (.cons 65 (.int .u8 (plen.toNat : Int)) (.cons 68 (.pointer (some ⟨b1, 0 + 3, none⟩)) (.cons 69 (.int .u16 t.seqno) (.cons 72 (.pointer (some ⟨b1, 0 + 6, none⟩)) (.cons 73 (.int .u8 t.hops) (.cons 77 (.slice (some ⟨b1, 0 + 9, none⟩) 8 8) (.cons 70 (.slice (some ⟨b70, 0, none⟩) 1 1) (.cons 78 (.slice (some ⟨b78, 0, none⟩) 1 1) (.nil))))))))))))) (fun (b70 : Nat) (b78 : Nat) => [blk b1 (Tlv.enc t) 49, slA 44 1 bytE (.slice D.a D.n D.c) D.l, slA 5 1 bytE (.slice Z.a Z.n Z.c) Z.l, slA 5 1 bytE (.slice (some ⟨b39, 0, none⟩) 1 1) [ae], blk b70 [.int .u16 t.seqno] 40, blk b78 [.slice (some ⟨b1, 0 + 9, none⟩) 8 8] 75]) (fun b70 b78 => ?_) (fun hm25_15 => ?_)
      ·refine Dw.effs (l := [2, 10]) Kr Kr ?_
       rw [FM, FM]
       refine ⟨?_, ?_, NO⟩
       ·refine Om [9, 5] rfl rfl (EF.buildSliceS rfl Tryz.underlying75 z5 zero5 rfl (by decide) rfl rfl rfl rfl) ?_
        rintro _ _ ⟨b66, rfl, rfl⟩
        refine ⟨?_, ?_⟩
        ·rw [FM, FM]
         refine ⟨?_, ?_, NO⟩
         ·exact Lk E3 (Z1 E2 g5 (Tlv.sub_hops _))
         ·exact Lk E3 (Z1 E2 g40 (Tlv.sub_seqno _))
        refine ?_
        exact Dw.use Tk7 (hm17_15 b66 b70 b78) ⟨rfl, rfl, rfl, rfl, rfl, rfl, rfl, rfl, rfl, rfl, rfl, rfl, rfl, trivial⟩
       ·refine Om [5] rfl rfl (EF.buildSliceS rfl Tryz.underlying75 z5 zero5 rfl (by decide) rfl rfl rfl rfl) ?_
        rintro _ _ ⟨b74, rfl, rfl⟩
        refine ⟨?_, ?_⟩
        ·rw [FM]
         refine ⟨?_, NO⟩
         ·exact Lk E3 (Z1 E2 g40 (Tlv.sub_seqno _))
        refine ?_
        exact Dw.use Tk7 (hm19_15 b70 b74 b78) ⟨rfl, rfl, rfl, rfl, rfl, rfl, rfl, rfl, rfl, rfl, rfl, rfl, rfl, trivial⟩
      refine Dw.memo2 [14, 10, 13, 12, 9, 8, 5, 4, 1, 0] (fun (b74 : Nat) (b78 : Nat) => .cons 1 (fp b1) (.cons 5 (.slice D.a D.n D.c) (.cons 6 (.slice Z.a Z.n Z.c) (.cons 64 (.slice (some ⟨b39, 0, none⟩) 1 1) (.cons 65 (.int .u8 (plen.toNat : Int)) (.cons 68 (.pointer (some ⟨b1, 0 + 3, none⟩)) (.cons 69 (.int .u16 t.seqno) (.cons 72 (.pointer (some ⟨b1, 0 + 6, none⟩)) (.cons 73 (.int .u8 t.hops) (.cons 77 (.slice (some ⟨b1, 0 + 9, none⟩) 8 8) (.cons 74 (.slice (some ⟨b74, 0, none⟩) 2 2) (.cons 78 (.slice (some ⟨b78, 0, none⟩) 1 1) (.nil))))))))))))) (fun (b74 : Nat) (b78 : Nat) => [blk b1 (Tlv.enc t) 49, slA 44 1 bytE (.slice D.a D.n D.c) D.l, slA 5 1 bytE (.slice Z.a Z.n Z.c) Z.l, slA 5 1 bytE (.slice (some ⟨b39, 0, none⟩) 1 1) [ae], blk b74 [.int .u8 t.hops, .int .u8 0] 5, blk b78 [.slice (some ⟨b1, 0 + 9, none⟩) 8 8] 75]) (fun b74 b78 => ?_) (fun hm26_15 => ?_)
      ·refine Dw.effs (l := [2, 6]) Kr Kr ?_
       rw [FM, FM]
       refine ⟨?_, ?_, NO⟩
       ·refine Om [9, 5] rfl rfl (EF.buildSliceS rfl Tryz.underlying75 z5 zero5 rfl (by decide) rfl rfl rfl rfl) ?_
        rintro _ _ ⟨b66, rfl, rfl⟩
        refine ⟨?_, ?_⟩
        ·rw [FM, FM]
         refine ⟨?_, ?_, NO⟩
         ·exact Lk E3 (Z1 E2 g5 (Tlv.sub_hops _))
         ·exact Lk E3 (Z1 E2 g40 (Tlv.sub_seqno _))
        refine ?_
        exact Dw.use Tk7 (hm18_15 b66 b74 b78) ⟨rfl, rfl, rfl, rfl, rfl, rfl, rfl, rfl, rfl, rfl, rfl, rfl, rfl, trivial⟩
       ·refine Om [9] rfl rfl (EF.buildSliceS rfl Tryz.underlying246 z40 zero40 rfl (by decide) rfl rfl rfl rfl) ?_
        rintro _ _ ⟨b70, rfl, rfl⟩
        refine ⟨?_, ?_⟩
        ·rw [FM]
         refine ⟨?_, NO⟩
         ·exact Lk E3 (Z1 E2 g5 (Tlv.sub_hops _))
        refine ?_
        exact Dw.use Tk7 (hm19_15 b70 b74 b78) ⟨rfl, rfl, rfl, rfl, rfl, rfl, rfl, rfl, rfl, rfl, rfl, rfl, rfl, trivial⟩
      refine Dw.memo1 [2, 13, 12, 9, 8, 5, 4, 1, 0] (fun (b66 : Nat) => .cons 1 (fp b1) (.cons 5 (.slice D.a D.n D.c) (.cons 6 (.slice Z.a Z.n Z.c) (.cons 64 (.slice (some ⟨b39, 0, none⟩) 1 1) (.cons 65 (.int .u8 (plen.toNat : Int)) (.cons 68 (.pointer (some ⟨b1, 0 + 3, none⟩)) (.cons 69 (.int .u16 t.seqno) (.cons 72 (.pointer (some ⟨b1, 0 + 6, none⟩)) (.cons 73 (.int .u8 t.hops) (.cons 77 (.slice (some ⟨b1, 0 + 9, none⟩) 8 8) (.cons 66 (.slice (some ⟨b66, 0, none⟩) 1 1) (.nil)))))))))))) (fun (b66 : Nat) => [blk b1 (Tlv.enc t) 49, slA 44 1 bytE (.slice D.a D.n D.c) D.l, slA 5 1 bytE (.slice Z.a Z.n Z.c) Z.l, slA 5 1 bytE (.slice (some ⟨b39, 0, none⟩) 1 1) [ae], blk b66 [.int .u8 (plen.toNat : Int)] 5]) (fun b66 => ?_) (fun hm27_15 => ?_)
      ·refine Dw.effs (l := [3, 6, 10, 14]) Kr Kr ?_
       rw [FM, FM, FM, FM]
       refine ⟨?_, ?_, ?_, ?_, NO⟩
       ·refine Om [9, 5] rfl rfl (Zc E2 ce103 Tk1 (fun F' hle hr => put8_spec F' (xs := [ae]) (ys := [plen]) (argSl_all (enc := bytE) (xs := [plen]) (fun _ => rfl) (hr b66 _ Rc)) (by simp))) ?_
        rintro v67 _ ⟨_, rfl, rfl⟩
        refine ⟨?_, ?_⟩
        ·rw [FM, FM]
         refine ⟨?_, ?_, NO⟩
         ·refine Look.app ?_
          exact Lk E3 (Z1 E2 g5 (Tlv.sub_hops _))
         ·refine Look.app ?_
          exact Lk E3 (Z1 E2 g40 (Tlv.sub_seqno _))
        refine ?_
        exact J.app <| Dw.use Tk4 (hm20_15 v67) ⟨rfl, rfl, rfl, rfl, rfl, rfl, rfl, rfl, rfl, trivial⟩
       ·refine Om [9] rfl rfl (EF.buildSliceS rfl Tryz.underlying246 z40 zero40 rfl (by decide) rfl rfl rfl rfl) ?_
        rintro _ _ ⟨b70, rfl, rfl⟩
        refine ⟨?_, ?_⟩
        ·rw [FM]
         refine ⟨?_, NO⟩
         ·exact Lk E3 (Z1 E2 g5 (Tlv.sub_hops _))
        refine ?_
        exact Dw.use Tk6 (hm21_15 b66 b70) ⟨rfl, rfl, rfl, rfl, rfl, rfl, rfl, rfl, rfl, rfl, rfl, rfl, trivial⟩
       ·refine Om [5] rfl rfl (EF.buildSliceS rfl Tryz.underlying75 z5 zero5 rfl (by decide) rfl rfl rfl rfl) ?_
        rintro _ _ ⟨b74, rfl, rfl⟩
        refine ⟨?_, ?_⟩
        ·rw [FM]
         refine ⟨?_, NO⟩
         ·exact Lk E3 (Z1 E2 g40 (Tlv.sub_seqno _))
        refine ?_
        exact Dw.use Tk6 (hm22_15 b66 b74) ⟨rfl, rfl, rfl, rfl, rfl, rfl, rfl, rfl, rfl, rfl, rfl, rfl, trivial⟩
       ·refine Om [9, 5] rfl rfl (EF.buildSliceS rfl Tryz.underlying108 z75 zero75 rfl (by decide) rfl rfl rfl rfl) ?_
        rintro _ _ ⟨b78, rfl, rfl⟩
        refine ⟨?_, ?_⟩
        ·rw [FM, FM]
         refine ⟨?_, ?_, NO⟩
         ·exact Lk E3 (Z1 E2 g5 (Tlv.sub_hops _))
         ·exact Lk E3 (Z1 E2 g40 (Tlv.sub_seqno _))
        refine ?_
        exact Dw.use Tk6 (hm23_15 b66 b78) ⟨rfl, rfl, rfl, rfl, rfl, rfl, rfl, rfl, rfl, rfl, rfl, rfl, trivial⟩
      refine Dw.memo1 [6, 13, 12, 9, 8, 5, 4, 1, 0] (fun (b70 : Nat) => .cons 1 (fp b1) (.cons 5 (.slice D.a D.n D.c) (.cons 6 (.slice Z.a Z.n Z.c) (.cons 64 (.slice (some ⟨b39, 0, none⟩) 1 1) (.cons 65 (.int .u8 (plen.toNat : Int)) (.cons 68 (.pointer (some ⟨b1, 0 + 3, none⟩)) (.cons 69 (.int .u16 t.seqno) (.cons 72 (.pointer (some ⟨b1, 0 + 6, none⟩)) (.cons 73 (.int .u8 t.hops) (.cons 77 (.slice (some ⟨b1, 0 + 9, none⟩) 8 8) (.cons 70 (.slice (some ⟨b70, 0, none⟩) 1 1) (.nil)))))))))))) (fun (b70 : Nat) => [blk b1 (Tlv.enc t) 49, slA 44 1 bytE (.slice D.a D.n D.c) D.l, slA 5 1 bytE (.slice Z.a Z.n Z.c) Z.l, slA 5 1 bytE (.slice (some ⟨b39, 0, none⟩) 1 1) [ae], blk b70 [.int .u16 t.seqno] 40]) (fun b70 => ?_) (fun hm28_15 => ?_)
      ·refine Dw.effs (l := [2, 10, 14]) Kr Kr ?_
       rw [FM, FM, FM]
       refine ⟨?_, ?_, ?_, NO⟩
       ·refine Om [9, 5] rfl rfl (EF.buildSliceS rfl Tryz.underlying75 z5 zero5 rfl (by decide) rfl rfl rfl rfl) ?_
        rintro _ _ ⟨b66, rfl, rfl⟩
        refine ⟨?_, ?_⟩
        ·rw [FM, FM]
         refine ⟨?_, ?_, NO⟩
         ·exact Lk E3 (Z1 E2 g5 (Tlv.sub_hops _))
         ·exact Lk E3 (Z1 E2 g40 (Tlv.sub_seqno _))
        refine ?_
        exact Dw.use Tk6 (hm21_15 b66 b70) ⟨rfl, rfl, rfl, rfl, rfl, rfl, rfl, rfl, rfl, rfl, rfl, rfl, trivial⟩
       ·refine Om [5] rfl rfl (EF.buildSliceS rfl Tryz.underlying75 z5 zero5 rfl (by decide) rfl rfl rfl rfl) ?_
        rintro _ _ ⟨b74, rfl, rfl⟩
        refine ⟨?_, ?_⟩
        ·rw [FM]
         refine ⟨?_, NO⟩
         ·exact Lk E3 (Z1 E2 g40 (Tlv.sub_seqno _))
        refine ?_
        exact Dw.use Tk6 (hm24_15 b70 b74) ⟨rfl, rfl, rfl, rfl, rfl, rfl, rfl, rfl, rfl, rfl, rfl, rfl, trivial⟩
       ·refine Om [9, 5] rfl rfl (EF.buildSliceS rfl Tryz.underlying108 z75 zero75 rfl (by decide) rfl rfl rfl rfl) ?_
        rintro _ _ ⟨b78, rfl, rfl⟩
        refine ⟨?_, ?_⟩
        ·rw [FM, FM]
         refine ⟨?_, ?_, NO⟩
         ·exact Lk E3 (Z1 E2 g5 (Tlv.sub_hops _))
         ·exact Lk E3 (Z1 E2 g40 (Tlv.sub_seqno _))
        refine ?_
        exact Dw.use Tk6 (hm25_15 b70 b78) ⟨rfl, rfl, rfl, rfl, rfl, rfl, rfl, rfl, rfl, rfl, rfl, rfl, trivial⟩
      refine Dw.memo1 [10, 13, 12, 9, 8, 5, 4, 1, 0] (fun (b74 : Nat) => .cons 1 (fp b1) (.cons 5 (.slice D.a D.n D.c) (.cons 6 (.slice Z.a Z.n Z.c) (.cons 64 (.slice (some ⟨b39, 0, none⟩) 1 1) (.cons 65 (.int .u8 (plen.toNat : Int)) (.cons 68 (.pointer (some ⟨b1, 0 + 3, none⟩)) (.cons 69 (.int .u16 t.seqno) (.cons 72 (.pointer (some ⟨b1, 0 + 6, none⟩)) (.cons 73 (.int .u8 t.hops) (.cons 77 (.slice (some ⟨b1, 0 + 9, none⟩) 8 8) (.cons 74 (.slice (some ⟨b74, 0, none⟩) 2 2) (.nil)))))))))))) (fun (b74 : Nat) => [blk b1 (Tlv.enc t) 49, slA 44 1 bytE (.slice D.a D.n D.c) D.l, slA 5 1 bytE (.slice Z.a Z.n Z.c) Z.l, slA 5 1 bytE (.slice (some ⟨b39, 0, none⟩) 1 1) [ae], blk b74 [.int .u8 t.hops, .int .u8 0] 5]) (fun b74 => ?_) (fun hm29_15 => ?_)
      ·refine Dw.effs (l := [2, 6, 14]) Kr Kr ?_
       rw [FM, FM, FM]
       refine ⟨?_, ?_, ?_, NO⟩
       ·refine Om [9, 5] rfl rfl (EF.buildSliceS rfl Tryz.underlying75 z5 zero5 rfl (by decide) rfl rfl rfl rfl) ?_
        rintro _ _ ⟨b66, rfl, rfl⟩
        refine ⟨?_, ?_⟩
        ·rw [FM, FM]
         refine ⟨?_, ?_, NO⟩
         ·exact Lk E3 (Z1 E2 g5 (Tlv.sub_hops _))
         ·exact Lk E3 (Z1 E2 g40 (Tlv.sub_seqno _))
        refine ?_
        exact Dw.use Tk6 (hm22_15 b66 b74) ⟨rfl, rfl, rfl, rfl, rfl, rfl, rfl, rfl, rfl, rfl, rfl, rfl, trivial⟩
       ·refine Om [9] rfl rfl (EF.buildSliceS rfl Tryz.underlying246 z40 zero40 rfl (by decide) rfl rfl rfl rfl) ?_
        rintro _ _ ⟨b70, rfl, rfl⟩
        refine ⟨?_, ?_⟩
        ·rw [FM]
         refine ⟨?_, NO⟩
         ·exact Lk E3 (Z1 E2 g5 (Tlv.sub_hops _))
        refine ?_
        exact Dw.use Tk6 (hm24_15 b70 b74) ⟨rfl, rfl, rfl, rfl, rfl, rfl, rfl, rfl, rfl, rfl, rfl, rfl, trivial⟩
       ·refine Om [9, 5] rfl rfl (EF.buildSliceS rfl Tryz.underlying108 z75 zero75 rfl (by decide) rfl rfl rfl rfl) ?_
        rintro _ _ ⟨b78, rfl, rfl⟩
        refine ⟨?_, ?_⟩
        ·rw [FM, FM]
         refine ⟨?_, ?_, NO⟩
         ·exact Lk E3 (Z1 E2 g5 (Tlv.sub_hops _))
         ·exact Lk E3 (Z1 E2 g40 (Tlv.sub_seqno _))
        refine ?_
        exact Dw.use Tk6 (hm26_15 b74 b78) ⟨rfl, rfl, rfl, rfl, rfl, rfl, rfl, rfl, rfl, rfl, rfl, rfl, trivial⟩
      refine Dw.memo1 [14, 13, 12, 9, 8, 5, 4, 1, 0] (fun (b78 : Nat) => .cons 1 (fp b1) (.cons 5 (.slice D.a D.n D.c) (.cons 6 (.slice Z.a Z.n Z.c) (.cons 64 (.slice (some ⟨b39, 0, none⟩) 1 1) (.cons 65 (.int .u8 (plen.toNat : Int)) (.cons 68 (.pointer (some ⟨b1, 0 + 3, none⟩)) (.cons 69 (.int .u16 t.seqno) (.cons 72 (.pointer (some ⟨b1, 0 + 6, none⟩)) (.cons 73 (.int .u8 t.hops) (.cons 77 (.slice (some ⟨b1, 0 + 9, none⟩) 8 8) (.cons 78 (.slice (some ⟨b78, 0, none⟩) 1 1) (.nil)))))))))))) (fun (b78 : Nat) => [blk b1 (Tlv.enc t) 49, slA 44 1 bytE (.slice D.a D.n D.c) D.l, slA 5 1 bytE (.slice Z.a Z.n Z.c) Z.l, slA 5 1 bytE (.slice (some ⟨b39, 0, none⟩) 1 1) [ae], blk b78 [.slice (some ⟨b1, 0 + 9, none⟩) 8 8] 75]) (fun b78 => ?_) (fun hm30_15 => ?_)
      ·refine Dw.effs (l := [2, 6, 10]) Kr Kr ?_
       rw [FM, FM, FM]
       refine ⟨?_, ?_, ?_, NO⟩
       ·refine Om [9, 5] rfl rfl (EF.buildSliceS rfl Tryz.underlying75 z5 zero5 rfl (by decide) rfl rfl rfl rfl) ?_
        rintro _ _ ⟨b66, rfl, rfl⟩
        refine ⟨?_, ?_⟩
        ·rw [FM, FM]
         refine ⟨?_, ?_, NO⟩
         ·exact Lk E3 (Z1 E2 g5 (Tlv.sub_hops _))
         ·exact Lk E3 (Z1 E2 g40 (Tlv.sub_seqno _))
        refine ?_
        exact Dw.use Tk6 (hm23_15 b66 b78) ⟨rfl, rfl, rfl, rfl, rfl, rfl, rfl, rfl, rfl, rfl, rfl, rfl, trivial⟩
       ·refine Om [9] rfl rfl (EF.buildSliceS rfl Tryz.underlying246 z40 zero40 rfl (by decide) rfl rfl rfl rfl) ?_
        rintro _ _ ⟨b70, rfl, rfl⟩
        refine ⟨?_, ?_⟩
        ·rw [FM]
         refine ⟨?_, NO⟩
         ·exact Lk E3 (Z1 E2 g5 (Tlv.sub_hops _))
        refine ?_
        exact Dw.use Tk6 (hm25_15 b70 b78) ⟨rfl, rfl, rfl, rfl, rfl, rfl, rfl, rfl, rfl, rfl, rfl, rfl, trivial⟩
       ·refine Om [5] rfl rfl (EF.buildSliceS rfl Tryz.underlying75 z5 zero5 rfl (by decide) rfl rfl rfl rfl) ?_
        rintro _ _ ⟨b74, rfl, rfl⟩
        refine ⟨?_, ?_⟩
        ·rw [FM]
         refine ⟨?_, NO⟩
         ·exact Lk E3 (Z1 E2 g40 (Tlv.sub_seqno _))
        refine ?_
        exact Dw.use Tk6 (hm26_15 b74 b78) ⟨rfl, rfl, rfl, rfl, rfl, rfl, rfl, rfl, rfl, rfl, rfl, rfl, trivial⟩
      refine Dw.effs (l := [2, 6, 10, 14]) Kr Kr ?_
      rw [FM, FM, FM, FM]
      refine ⟨?_, ?_, ?_, ?_, NO⟩
      ·refine Om [9, 5] rfl rfl (EF.buildSliceS rfl Tryz.underlying75 z5 zero5 rfl (by decide) rfl rfl rfl rfl) ?_
       rintro _ _ ⟨b66, rfl, rfl⟩
       refine ⟨?_, ?_⟩
       ·rw [FM, FM]
        refine ⟨?_, ?_, NO⟩
        ·exact Lk E3 (Z1 E2 g5 (Tlv.sub_hops _))
        ·exact Lk E3 (Z1 E2 g40 (Tlv.sub_seqno _))
       refine ?_
       exact Dw.use Tk5 (hm27_15 b66) ⟨rfl, rfl, rfl, rfl, rfl, rfl, rfl, rfl, rfl, rfl, rfl, trivial⟩
      ·refine Om [9] rfl rfl (EF.buildSliceS rfl Tryz.underlying246 z40 zero40 rfl (by decide) rfl rfl rfl rfl) ?_
       rintro _ _ ⟨b70, rfl, rfl⟩
       refine ⟨?_, ?_⟩
       ·rw [FM]
        refine ⟨?_, NO⟩
        ·exact Lk E3 (Z1 E2 g5 (Tlv.sub_hops _))
       refine ?_
       exact Dw.use Tk5 (hm28_15 b70) ⟨rfl, rfl, rfl, rfl, rfl, rfl, rfl, rfl, rfl, rfl, rfl, trivial⟩
      ·refine Om [5] rfl rfl (EF.buildSliceS rfl Tryz.underlying75 z5 zero5 rfl (by decide) rfl rfl rfl rfl) ?_
       rintro _ _ ⟨b74, rfl, rfl⟩
       refine ⟨?_, ?_⟩
       ·rw [FM]
        refine ⟨?_, NO⟩
        ·exact Lk E3 (Z1 E2 g40 (Tlv.sub_seqno _))
       refine ?_
       exact Dw.use Tk5 (hm29_15 b74) ⟨rfl, rfl, rfl, rfl, rfl, rfl, rfl, rfl, rfl, rfl, rfl, trivial⟩
      ·refine Om [9, 5] rfl rfl (EF.buildSliceS rfl Tryz.underlying108 z75 zero75 rfl (by decide) rfl rfl rfl rfl) ?_
       rintro _ _ ⟨b78, rfl, rfl⟩
       refine ⟨?_, ?_⟩
       ·rw [FM, FM]
        refine ⟨?_, ?_, NO⟩
        ·exact Lk E3 (Z1 E2 g5 (Tlv.sub_hops _))
        ·exact Lk E3 (Z1 E2 g40 (Tlv.sub_seqno _))
       refine ?_
       exact Dw.use Tk5 (hm30_15 b78) ⟨rfl, rfl, rfl, rfl, rfl, rfl, rfl, rfl, rfl, rfl, rfl, trivial⟩
     ·exact Sg 1 E3 <| Zl hk11 <| Zf <| Run.skip <| J.envJ (J.keep Tk3 (hu6 (.slice (some ⟨b39, 0, none⟩) 1 1) ([ae]) (by unfold headF; rw [if_neg c43, if_neg c57, if_neg c63]))) ⟨rfl, rfl, rfl, trivial⟩
 ·intro ku4 hu4
  refine Zs fun _ hk12 => Fa 0 E3 f49_8 <| Qq 1 E2 (Z1 E2 g4 (Tlv.sub_all _)) ?_
  refine J.caseB (fun c12 => ?_) (fun c12 => ?_)
  ·refine Qp 2 E2 (Zu E2) <| Zl hk12 <| Zf <| Run.skip <| J.addSl 44 1 bytE ?_
   refine J.addSl 5 1 bytE ?_
   exact J.envJ (J.keep Tk3 (hu4 (0) (0) (⟨none, 0, 0, [], rfl⟩) (⟨none, 0, 0, [], rfl⟩) (⟨by unfold dstF; rw [if_pos c12], by unfold srcF; rw [if_pos c12]⟩))) ⟨rfl, rfl, rfl, rfl, rfl, trivial⟩
  ·refine Qp 2 E2 (Zu E2) <| Zl hk12 <| Zt <| Zs fun _ hk13 => Fa 0 E3 f49_11 <| Fa 1 E3 f46_0 <| Qq 2 E2 (Z0 E2 g44 ((Tlv.sub_pair _).trans (Pair.sub_dst _))) ?_
   refine Ef 3 E2 (Zc E2 ce159 TN (fun F' hle hr => ppref_spec F' (p := t.pair.dst) (hd c12).1)) ?_
   rintro _ _ ⟨_, ⟨v14, rfl, rfl⟩, rfl⟩
   refine J.app <| Mv 4 E3 <| Qp 5 E2 (Zx E3) <| Qp 6 E2 (Zx E3) <| Qp 7 E2 (Zx E3) <| Sg 8 E3 <| Sg 9 E3 <| Sg 10 E3 <| Zl hk13 <| Zs fun _ hk14 => Sq.slCase (v := v14) (xs := (pxF t.pair.dst).2.2) Rc (fun a14 c14 hv14 hh14 => ?_)
   subst hv14
   refine Fa 0 E3 f49_11 <| Qq 1 E2 (Z0 E2 g46 (Tlv.sub_pair _)) ?_
   refine Ef 2 E2 (Zc E2 ce160 TN (fun F' hle hr => specific_spec F' t.pair)) ?_
   rintro _ _ ⟨_, ⟨rfl, rfl⟩, rfl⟩
   refine J.app <| J.caseB (fun c24 => ?_) (fun c24 => ?_)
   ·refine Zl hk14 <| Zt <| Zs fun _ hk15 => Fa 0 E3 f49_11 <| Fa 1 E3 f46_1 <| Qq 2 E2 (Z0 E2 g44 ((Tlv.sub_pair _).trans (Pair.sub_src _))) ?_
    refine Ef 3 E2 (Zc E2 ce159 TN (fun F' hle hr => ppref_spec F' (p := t.pair.src) (hd c12).2)) ?_
    rintro _ _ ⟨_, ⟨v25, rfl, rfl⟩, rfl⟩
    refine J.app <| Mv 4 E3 <| Qp 5 E2 (Zx E3) <| Qp 6 E2 (Zx E3) <| Qp 7 E2 (Zx E3) <| Sg 8 E3 <| Sg 9 E3 <| Sg 10 E3 <| Zl hk15 <| Run.region <| Sq.slCase (v := v25) (xs := (pxF t.pair.src).2.2) Rc (fun a25 c25 hv25 hh25 => ?_)
    subst hv25
    refine Mv 0 E3 <| Ef 1 E2 (EF.buildSliceS rfl Tryz.underlying75 z5 zero5 rfl (by decide) rfl rfl rfl rfl) ?_
    rintro _ _ ⟨b34, rfl, rfl⟩
    refine Mv 2 E3 <| Ef 3 E2 (EF.buildSliceS rfl Tryz.underlying108 z75 zero75 rfl (by decide) rfl rfl rfl rfl) ?_
    rintro _ _ ⟨b36, rfl, rfl⟩
    refine Sq.eff (i := 4) rfl (Want.none rfl) rfl (ltN rfl) (Zc E2 ce104 Tk3 (fun F' hle hr => raw_lent F' [blk b36 [.slice (some ⟨b34, 0, none⟩) 1 1, .slice a25 (pxF t.pair.src).2.2.length c25] 75, blk b34 [.int .u8 ((pxF t.pair.src).2.1.toNat : Int)] 5, slA 44 1 bytE (.slice a25 (pxF t.pair.src).2.2.length c25) (pxF t.pair.src).2.2] (b := b36) (fun A => [blk b36 [.slice (some ⟨b34, 0, none⟩) 1 1, .slice a25 (pxF t.pair.src).2.2.length c25] 75, blk b34 [.int .u8 ((pxF t.pair.src).2.1.toNat : Int)] 5, slA 44 1 bytE (.slice a25 (pxF t.pair.src).2.2.length c25) (pxF t.pair.src).2.2, A]) (fun _ => rfl) 128 (by decide) rfl [⟨some ⟨b34, 0, none⟩, 1, 1, [(pxF t.pair.src).2.1], rfl⟩, ⟨a25, (pxF t.pair.src).2.2.length, c25, (pxF t.pair.src).2.2, rfl⟩] rfl (by have := px_len t.pair.src; simp [catL]; omega) (by simp) (by simp) (fun F2 q h0 h1 h2 y hy => by
    simp only [List.mem_cons, List.not_mem_nil, or_false] at hy
    rcases hy with rfl | rfl
    · exact argSl_all (enc := bytE) (xs := [(pxF t.pair.src).2.1]) (fun _ => rfl) (blk_frame (l := [.int .u8 ((pxF t.pair.src).2.1.toNat : Int)]) (ty := 5) h1 h2 (by simp))
    · exact slA_frame (e := 44) (n := (pxF t.pair.src).2.2.length) (c := c25) (fun _ => rfl) h1 h2 (by simp)))) ?_
    rintro v37 _ ⟨_, rfl, rfl⟩
    refine J.app ?_
    rw [show catL [⟨some ⟨b34, 0, none⟩, 1, 1, [(pxF t.pair.src).2.1], rfl⟩, ⟨a25, (pxF t.pair.src).2.2.length, c25, (pxF t.pair.src).2.2, rfl⟩] = [(pxF t.pair.src).2.1] ++ (pxF t.pair.src).2.2 by simp [catL]]
    refine Sq.slCase (v := v37) (xs := (rawF 128 ([(pxF t.pair.src).2.1] ++ (pxF t.pair.src).2.2))) Rc (fun a37 c37 hv37 hh37 => ?_)
    subst hv37
    exact Sg 5 E3 <| Sq.nil <| J.envJ (J.keep Tk3 (hu4 ((pxF t.pair.dst).1) ((pxF t.pair.dst).2.1) (⟨a14, _, c14, (pxF t.pair.dst).2.2, rfl⟩) (⟨a37, _, c37, rawF 128 ([(pxF t.pair.src).2.1] ++ (pxF t.pair.src).2.2), rfl⟩) (⟨by unfold dstF; rw [if_neg (by rw [c12]; simp)], by unfold srcF; rw [if_neg (by rw [c12]; simp), if_pos c24]⟩))) ⟨rfl, rfl, rfl, rfl, rfl, trivial⟩
   ·refine Zl hk14 <| Zf <| Run.skip <| J.addSl 5 1 bytE ?_
    exact J.envJ (J.keep Tk3 (hu4 ((pxF t.pair.dst).1) ((pxF t.pair.dst).2.1) (⟨a14, _, c14, (pxF t.pair.dst).2.2, rfl⟩) (⟨none, 0, 0, [], rfl⟩) (⟨by unfold dstF; rw [if_neg (by rw [c12]; simp)], by unfold srcF; rw [if_neg (by rw [c12]; simp), if_neg (by rw [c24]; simp)]⟩))) ⟨rfl, rfl, rfl, rfl, rfl, trivial⟩
end Slb
