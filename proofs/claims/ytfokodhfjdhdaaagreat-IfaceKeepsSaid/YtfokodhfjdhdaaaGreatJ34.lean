/- J34: a part of the proof that a law of this package holds for every input; no condition. -/
import Derived.Test.YtfokodhfjdhdaaaGreatM2
import Derived.Test.YtfokodhfjdhdaaaGreatJ33
namespace Slb
open Go Go.Proofs
set_option maxRecDepth 20000
def timesF (st : List Int) : List UInt8 := if st.length = 0 then [] else rawF 3 (nums 4 st)
def flagF (t : Tlv) : Int := if t.unicast = true then 32768 else 0
def ihuF (t : Tlv) : UInt8 × List UInt8 := if t.all = true then (0, []) else adF t.addr
def bodyF (t : Tlv) (st : List Int) : List UInt8 :=
 if t.type = 2 then nums 2 [0, t.nonce, t.interval]
 else if t.type = 3 then nums 2 [t.nonce]
 else if t.type = 4 then nums 2 [flagF t, t.seqno, t.interval] ++ timesF st
 else if t.type = 5 then ([(ihuF t).1, 0] ++ nums 2 [t.rxcost, t.interval]) ++ ((ihuF t).2 ++ timesF st)
 else routedF t
/-- A Tlv's bytes. -/
def pieceF (t : Tlv) (st : List Int) : List UInt8 := rawF (UInt8.ofNat t.type.toNat) (bodyF t st)
theorem times_len {st : List Int} (h : st.length ≤ 2) : (timesF st).length ≤ 10 := by
 unfold timesF
 split
 · simp
 · rw [rawF_len, nums_len]; omega
theorem ihu_len (t : Tlv) : (ihuF t).2.length ≤ 16 := by
 unfold ihuF
 split
 · simp
 · unfold adF
   split
   · simp only [List.length_take]; omega
   · split <;> simp only [List.length_take] <;> omega
theorem routed_len (t : Tlv) : (routedF t).length ≤ 49 := by
 unfold routedF
 have := head_len8 t (dstF t).1 (dstF t).2.1
 have := dst_len t
 have := src_len t
 simp only [List.length_append]
 omega
theorem body_len (t : Tlv) {st : List Int} (h : st.length ≤ 2) : (bodyF t st).length ≤ 49 := by
 have h1 := times_len h
 have h2 := ihu_len t
 have h3 := routed_len t
 unfold bodyF
 split
 · simp [nums_len]
 · split
   · simp [nums_len]
   · split
     · simp [nums_len]; omega
     · split
       · simp [nums_len]; omega
       · exact h3

set_option maxHeartbeats 4000000 in
theorem piece_spec (F : Fr) (x : TlvX) (hw : (tlvS x).WF) (hx : TlvIn F x) (hn : x.l.length ≤ 2) (hr32 : ∀ n ∈ x.l, 0 ≤ n ∧ n < 4294967296) (h0 : (tlvS x).type ≠ 0) (hd : ¬ ((tlvS x).type = 2 ∨ (tlvS x).type = 3 ∨ (tlvS x).type = 4 ∨ (tlvS x).type = 5) → (tlvS x).all = false → checkB (tlvS x).pair.dst = true ∧ checkB (tlvS x).pair.src = true)  : Spec Tryz.prog 106 #[.agg (Tlv.enc (tlvS x)).toArray] [] F (fun v S => S = [slA 5 1 bytE v (pieceF (tlvS x) x.l)]) := by
 have hw9 := hw
 obtain ⟨hw0, hw1, hw2, hw3, hw4, hw5, hw6, _⟩ := hw
 have hv0 := hw0
 try dsimp only at hv0
 have hv1 := hw1
 try dsimp only at hv1
 have hv2 := hw2
 try dsimp only at hv2
 have hv3 := hw3
 try dsimp only at hv3
 have hv4 := hw4
 try dsimp only at hv4
 have hv5 := hw5
 try dsimp only at hv5
 have hv6 := hw6
 try dsimp only at hv6
 refine Spec.intro (N := 86) (args := [.agg (Tlv.enc (tlvS x)).toArray]) Tryz.func106 rfl rfl (by simp) ?_
 refine Zs fun _ hk1 => Ef 0 E2 (EF.boxA rfl rfl) ?_
 rintro _ _ ⟨b1, rfl, rfl⟩
 refine Sg 1 E3 <| Zl hk1 <| Zs fun _ hk2 => Sg 0 E3 <| Zl hk2 <| Run.cut1 (fun (Z : SlX) => Z.l = timesF x.l) (fun Z => .cons 1 (fp b1) (.cons 3 (.slice Z.a Z.n Z.c) (.nil))) (fun Z => [blk b1 (Tlv.enc (tlvS x)) 49, slA 5 1 bytE (.slice Z.a Z.n Z.c) Z.l]) ?_ ?_
 ·rintro Z hZ
  refine Run.seq fun _ hk4 => Zs fun _ hk5 => Fa 0 E3 f49_0 <| Qq 1 E2 (Z1 E2 g5 (Tlv.sub_type _)) ?_
  refine Zl hk5 <| Run.block <| Zs fun _ hk6 => Qp 0 E2 (Ze E3) <| J.caseD (fun c19 => ?_) (fun c19 => ?_)
  ·refine Sg 1 E3 <| Zl hk6 <| Zt <| Run.seq fun _ hk7 => Run.regionD (M := [0, 1, 0, 4, 0, 16, 60, 124, 252, 511, 1023]) (q := 63) (r := 42) Kr ?_
   refine J.addSl 5 1 bytE ?_
   refine Dp 0 E2 (Za E2 f49_0) <| Dr 1 E2 (Z1 E2 g5 (Tlv.sub_type _)) ?_
   refine Dp 2 E2 (Za E2 f49_1) <| Dr 3 E2 (Z1 E2 g40 (Tlv.sub_nonce _)) ?_
   refine Dp 4 E2 (Za E2 f49_2) <| Dr 5 E2 (Z1 E2 g40 (Tlv.sub_interval _)) ?_
   refine De 6 <| Om [1] rfl rfl (EF.buildSliceS rfl Tryz.underlying246 z40 zero40 rfl (by decide) rfl rfl rfl rfl) ?_
   rintro _ _ ⟨b26, rfl, rfl⟩
   refine ⟨?_, ?_⟩
   ·rw [FM]
    refine ⟨?_, NO⟩
    ·exact Lk E3 (Z1 E2 g5 (Tlv.sub_type _))
   refine ?_
   refine De 7 <| Om [1] rfl rfl (Zc E2 ce102 Tk1 (fun F' hle hr => put16_spec F' (xs := []) (ns := [0, (tlvS x).nonce, (tlvS x).interval]) (argSl_all (enc := u16E) (xs := [0, (tlvS x).nonce, (tlvS x).interval]) (fun _ => rfl) (hr b26 _ Rc)) (fun n hn => by simp only [List.mem_cons, List.not_mem_nil, or_false] at hn; omega) (by simp))) ?_
   rintro v27 _ ⟨_, rfl, rfl⟩
   refine ⟨?_, ?_⟩
   ·rw [FM]
    refine ⟨?_, NO⟩
    ·refine Look.app ?_
     exact Lk E3 (Z1 E2 g5 (Tlv.sub_type _))
   refine ?_
   refine J.app ?_
   rw [List.nil_append]
   refine Dw.slCase (v := v27) (xs := (nums 2 [0, (tlvS x).nonce, (tlvS x).interval])) Rc (fun a27 c27 hv27 hh27 => ?_)
   subst hv27
   refine De 8 <| Om [1] rfl rfl (EF.buildSliceS rfl Tryz.underlying108 z75 zero75 rfl (by decide) rfl rfl rfl rfl) ?_
   rintro _ _ ⟨b28, rfl, rfl⟩
   refine ⟨?_, ?_⟩
   ·rw [FM]
    refine ⟨?_, NO⟩
    ·exact Lk E3 (Z1 E2 g5 (Tlv.sub_type _))
   refine ?_
   refine De 9 <| One.mk (o := _) (l := []) rfl Kr (Want.none rfl) rfl (ltN rfl) (Zc E2 ce104 Tk2 (fun F' hle hr => raw_lent F' [blk b28 [.slice a27 (nums 2 [0, (tlvS x).nonce, (tlvS x).interval]).length c27] 75, slA 5 1 bytE (.slice a27 (nums 2 [0, (tlvS x).nonce, (tlvS x).interval]).length c27) (nums 2 [0, (tlvS x).nonce, (tlvS x).interval])] (b := b28) (fun A => [blk b28 [.slice a27 (nums 2 [0, (tlvS x).nonce, (tlvS x).interval]).length c27] 75, slA 5 1 bytE (.slice a27 (nums 2 [0, (tlvS x).nonce, (tlvS x).interval]).length c27) (nums 2 [0, (tlvS x).nonce, (tlvS x).interval]), A]) (fun _ => rfl) 2 (by decide) (show (tlvS x).type = _ from c19) [⟨a27, (nums 2 [0, (tlvS x).nonce, (tlvS x).interval]).length, c27, nums 2 [0, (tlvS x).nonce, (tlvS x).interval], rfl⟩] rfl (by simp [catL, nums_len]) (by simp) (by simp) (fun F2 q h0 h1 h2 y hy => by
    simp only [List.mem_cons, List.not_mem_nil, or_false] at hy
    subst hy
    exact slA_frame (e := 5) (n := (nums 2 [0, (tlvS x).nonce, (tlvS x).interval]).length) (c := c27) (fun _ => rfl) h1 h2 (by simp)))) Kr ?_
   rintro v29 _ ⟨_, rfl, rfl⟩
   refine N0 <| J.app <| De 10 <| Om [] rfl rfl ((Zg E2).eff) ?_
   rintro v29 _ ⟨rfl, rfl⟩
   refine N0 <| Dn <| hk7 _ _ <| Run.ret ?_
   have hB : bodyF (tlvS x) x.l = catL [⟨a27, (nums 2 [0, (tlvS x).nonce, (tlvS x).interval]).length, c27, nums 2 [0, (tlvS x).nonce, (tlvS x).interval], rfl⟩] := by
     unfold bodyF
     rw [if_pos c19]
     simp [catL]
   have hP : pieceF (tlvS x) x.l = rawF 2 (catL [⟨a27, (nums 2 [0, (tlvS x).nonce, (tlvS x).interval]).length, c27, nums 2 [0, (tlvS x).nonce, (tlvS x).interval], rfl⟩]) := by
     unfold pieceF
     rw [hB]
     try rw [show UInt8.ofNat (tlvS x).type.toNat = 2 by rw [show (tlvS x).type = 2 from c19]; rfl]
   rw [hP]
   exact J.ends (res_tmp rfl rfl) Tk1 rfl
  ·refine Sg 1 E3 <| Zl hk6 <| Zf <| Zs fun _ hk8 => Qp 0 E2 (Ze E3) <| J.caseD (fun c31 => ?_) (fun c31 => ?_)
   ·refine Sg 1 E3 <| Zl hk8 <| Zt <| Run.seq fun _ hk9 => Run.regionD (M := [0, 1, 0, 4, 12, 28, 60, 127, 255]) (q := 15) (r := 10) Kr ?_
    refine J.addSl 5 1 bytE ?_
    refine Dp 0 E2 (Za E2 f49_0) <| Dr 1 E2 (Z1 E2 g5 (Tlv.sub_type _)) ?_
    refine Dp 2 E2 (Za E2 f49_1) <| Dr 3 E2 (Z1 E2 g40 (Tlv.sub_nonce _)) ?_
    refine De 4 <| Om [1] rfl rfl (EF.buildSliceS rfl Tryz.underlying246 z40 zero40 rfl (by decide) rfl rfl rfl rfl) ?_
    rintro _ _ ⟨b36, rfl, rfl⟩
    refine ⟨?_, ?_⟩
    ·rw [FM]
     refine ⟨?_, NO⟩
     ·exact Lk E3 (Z1 E2 g5 (Tlv.sub_type _))
    refine ?_
    refine De 5 <| Om [1] rfl rfl (Zc E2 ce102 Tk1 (fun F' hle hr => put16_spec F' (xs := []) (ns := [(tlvS x).nonce]) (argSl_all (enc := u16E) (xs := [(tlvS x).nonce]) (fun _ => rfl) (hr b36 _ Rc)) (fun n hn => by simp only [List.mem_cons, List.not_mem_nil, or_false] at hn; omega) (by simp))) ?_
    rintro v37 _ ⟨_, rfl, rfl⟩
    refine ⟨?_, ?_⟩
    ·rw [FM]
     refine ⟨?_, NO⟩
     ·refine Look.app ?_
      exact Lk E3 (Z1 E2 g5 (Tlv.sub_type _))
    refine ?_
    refine J.app ?_
    rw [List.nil_append]
    refine Dw.slCase (v := v37) (xs := (nums 2 [(tlvS x).nonce])) Rc (fun a37 c37 hv37 hh37 => ?_)
    subst hv37
    refine De 6 <| Om [1] rfl rfl (EF.buildSliceS rfl Tryz.underlying108 z75 zero75 rfl (by decide) rfl rfl rfl rfl) ?_
    rintro _ _ ⟨b38, rfl, rfl⟩
    refine ⟨?_, ?_⟩
    ·rw [FM]
     refine ⟨?_, NO⟩
     ·exact Lk E3 (Z1 E2 g5 (Tlv.sub_type _))
    refine ?_
    refine De 7 <| One.mk (o := _) (l := []) rfl Kr (Want.none rfl) rfl (ltN rfl) (Zc E2 ce104 Tk2 (fun F' hle hr => raw_lent F' [blk b38 [.slice a37 (nums 2 [(tlvS x).nonce]).length c37] 75, slA 5 1 bytE (.slice a37 (nums 2 [(tlvS x).nonce]).length c37) (nums 2 [(tlvS x).nonce])] (b := b38) (fun A => [blk b38 [.slice a37 (nums 2 [(tlvS x).nonce]).length c37] 75, slA 5 1 bytE (.slice a37 (nums 2 [(tlvS x).nonce]).length c37) (nums 2 [(tlvS x).nonce]), A]) (fun _ => rfl) 3 (by decide) (show (tlvS x).type = _ from c31) [⟨a37, (nums 2 [(tlvS x).nonce]).length, c37, nums 2 [(tlvS x).nonce], rfl⟩] rfl (by simp [catL, nums_len]) (by simp) (by simp) (fun F2 q h0 h1 h2 y hy => by
    simp only [List.mem_cons, List.not_mem_nil, or_false] at hy
    subst hy
    exact slA_frame (e := 5) (n := (nums 2 [(tlvS x).nonce]).length) (c := c37) (fun _ => rfl) h1 h2 (by simp)))) Kr ?_
    rintro v39 _ ⟨_, rfl, rfl⟩
    refine N0 <| J.app <| De 8 <| Om [] rfl rfl ((Zg E2).eff) ?_
    rintro v39 _ ⟨rfl, rfl⟩
    refine N0 <| Dn <| hk9 _ _ <| Run.ret ?_
    have hB : bodyF (tlvS x) x.l = catL [⟨a37, (nums 2 [(tlvS x).nonce]).length, c37, nums 2 [(tlvS x).nonce], rfl⟩] := by
      unfold bodyF
      rw [if_neg c19, if_pos c31]
      simp [catL]
    have hP : pieceF (tlvS x) x.l = rawF 3 (catL [⟨a37, (nums 2 [(tlvS x).nonce]).length, c37, nums 2 [(tlvS x).nonce], rfl⟩]) := by
      unfold pieceF
      rw [hB]
      try rw [show UInt8.ofNat (tlvS x).type.toNat = 3 by rw [show (tlvS x).type = 3 from c31]; rfl]
    rw [hP]
    exact J.ends (res_tmp rfl rfl) Tk1 rfl
   ·refine Sg 1 E3 <| Zl hk8 <| Zf <| Zs fun _ hk10 => Qp 0 E2 (Ze E3) <| J.caseD (fun c41 => ?_) (fun c41 => ?_)
    ·refine Sg 1 E3 <| Zl hk10 <| Zt <| Zs fun _ hk11 => Sg 0 E3 <| Zl hk11 <| Run.cut1 (fun (fl : Int) => fl = flagF (tlvS x) ∧ 0 ≤ fl ∧ fl ≤ 65535) (fun fl => .cons 1 (fp b1) (.cons 3 (.slice Z.a Z.n Z.c) (.cons 4 (.int .u16 fl) (.nil)))) (fun fl => [blk b1 (Tlv.enc (tlvS x)) 49, slA 5 1 bytE (.slice Z.a Z.n Z.c) Z.l]) ?_ ?_
     ·rintro fl ⟨hfl, hf0, hf1⟩
      refine Run.seq fun _ hk13 => Run.regionD (M := [0, 1, 0, 0, 8, 0, 32, 124, 252, 0, 1020, 2047, 4095]) (q := 639) (r := 82) Kr ?_
      refine J.addSl 5 1 bytE ?_
      refine Dp 0 E2 (Za E2 f49_0) <| Dr 1 E2 (Z1 E2 g5 (Tlv.sub_type _)) ?_
      refine Dp 2 E2 (Zm E2) <| Dp 3 E2 (Za E2 f49_3) <| Dr 4 E2 (Z1 E2 g40 (Tlv.sub_seqno _)) ?_
      refine Dp 5 E2 (Za E2 f49_2) <| Dr 6 E2 (Z1 E2 g40 (Tlv.sub_interval _)) ?_
      refine Dp 9 E2 (Zm E2) <| De 7 <| Om [1] rfl rfl (EF.buildSliceS rfl Tryz.underlying246 z40 zero40 rfl (by decide) rfl rfl rfl rfl) ?_
      rintro _ _ ⟨b51, rfl, rfl⟩
      refine ⟨?_, ?_⟩
      ·rw [FM]
       refine ⟨?_, NO⟩
       ·exact Lk E3 (Z1 E2 g5 (Tlv.sub_type _))
      refine ?_
      refine De 8 <| Om [1] rfl rfl (Zc E2 ce102 Tk1 (fun F' hle hr => put16_spec F' (xs := []) (ns := [fl, (tlvS x).seqno, (tlvS x).interval]) (argSl_all (enc := u16E) (xs := [fl, (tlvS x).seqno, (tlvS x).interval]) (fun _ => rfl) (hr b51 _ Rc)) (fun n hn => by simp only [List.mem_cons, List.not_mem_nil, or_false] at hn; omega) (by simp))) ?_
      rintro v52 _ ⟨_, rfl, rfl⟩
      refine ⟨?_, ?_⟩
      ·rw [FM]
       refine ⟨?_, NO⟩
       ·refine Look.app ?_
        exact Lk E3 (Z1 E2 g5 (Tlv.sub_type _))
      refine ?_
      refine J.app ?_
      rw [List.nil_append]
      refine Dw.slCase (v := v52) (xs := (nums 2 [fl, (tlvS x).seqno, (tlvS x).interval])) Rc (fun a52 c52 hv52 hh52 => ?_)
      subst hv52
      refine De 10 <| Om [1] rfl rfl (EF.buildSliceS rfl Tryz.underlying108 z75 zero75 rfl (by decide) rfl rfl rfl rfl) ?_
      rintro _ _ ⟨b54, rfl, rfl⟩
      refine ⟨?_, ?_⟩
      ·rw [FM]
       refine ⟨?_, NO⟩
       ·exact Lk E3 (Z1 E2 g5 (Tlv.sub_type _))
      refine ?_
      refine De 11 <| One.mk (o := _) (l := []) rfl Kr (Want.none rfl) rfl (ltN rfl) (Zc E2 ce104 Tk3 (fun F' hle hr => raw_lent F' [blk b54 [.slice a52 (nums 2 [fl, (tlvS x).seqno, (tlvS x).interval]).length c52, .slice Z.a Z.n Z.c] 75, slA 5 1 bytE (.slice a52 (nums 2 [fl, (tlvS x).seqno, (tlvS x).interval]).length c52) (nums 2 [fl, (tlvS x).seqno, (tlvS x).interval]), slA 5 1 bytE (.slice Z.a Z.n Z.c) Z.l] (b := b54) (fun A => [blk b54 [.slice a52 (nums 2 [fl, (tlvS x).seqno, (tlvS x).interval]).length c52, .slice Z.a Z.n Z.c] 75, slA 5 1 bytE (.slice a52 (nums 2 [fl, (tlvS x).seqno, (tlvS x).interval]).length c52) (nums 2 [fl, (tlvS x).seqno, (tlvS x).interval]), slA 5 1 bytE (.slice Z.a Z.n Z.c) Z.l, A]) (fun _ => rfl) 4 (by decide) (show (tlvS x).type = _ from c41) [⟨a52, (nums 2 [fl, (tlvS x).seqno, (tlvS x).interval]).length, c52, nums 2 [fl, (tlvS x).seqno, (tlvS x).interval], rfl⟩, Z] rfl (by have := times_len hn; simp only [catL, List.flatMap_cons, List.flatMap_nil, List.append_nil, List.length_append, nums_len]; rw [hZ]; simp; omega) (by simp) (by simp) (fun F2 q h0 h1 h2 y hy => by
    simp only [List.mem_cons, List.not_mem_nil, or_false] at hy
    rcases hy with hy | hy
    · rw [hy]; exact slA_frame (e := 5) (n := (nums 2 [fl, (tlvS x).seqno, (tlvS x).interval]).length) (c := c52) (fun _ => rfl) h1 h2 (by simp)
    · rw [hy]; exact slA_frame (e := 5) (n := Z.n) (c := Z.c) (fun _ => rfl) h1 h2 (by simp)))) Kr ?_
      rintro v55 _ ⟨_, rfl, rfl⟩
      refine N0 <| J.app <| De 12 <| Om [] rfl rfl ((Zg E2).eff) ?_
      rintro v55 _ ⟨rfl, rfl⟩
      refine N0 <| Dn <| hk13 _ _ <| Run.ret ?_
      have hB : bodyF (tlvS x) x.l = catL [⟨a52, (nums 2 [fl, (tlvS x).seqno, (tlvS x).interval]).length, c52, nums 2 [fl, (tlvS x).seqno, (tlvS x).interval], rfl⟩, Z] := by
        unfold bodyF
        rw [if_neg c19, if_neg c31, if_pos c41]
        rw [← hZ, ← hfl]; simp [catL]
      have hP : pieceF (tlvS x) x.l = rawF 4 (catL [⟨a52, (nums 2 [fl, (tlvS x).seqno, (tlvS x).interval]).length, c52, nums 2 [fl, (tlvS x).seqno, (tlvS x).interval], rfl⟩, Z]) := by
        unfold pieceF
        rw [hB]
        try rw [show UInt8.ofNat (tlvS x).type.toNat = 4 by rw [show (tlvS x).type = 4 from c41]; rfl]
      rw [hP]
      exact J.ends (res_tmp rfl rfl) Tk1 rfl
     ·intro ku12 hu12
      refine Zs fun _ hk14 => Fa 0 E3 f49_7 <| Qq 1 E2 (Z1 E2 g4 (Tlv.sub_unicast _)) ?_
      refine J.caseB (fun c43 => ?_) (fun c43 => ?_)
      ·exact Zl hk14 <| Zt <| Run.region <| Sg 0 E3 <| Sq.nil <| J.envJ (J.keep Tk2 (hu12 (32768) (⟨by unfold flagF; rw [if_pos (show (tlvS x).unicast = true from c43)], by decide, by decide⟩))) ⟨rfl, rfl, rfl, trivial⟩
      ·exact Zl hk14 <| Zf <| Run.skip <| J.envJ (J.keep Tk2 (hu12 (0) (⟨by unfold flagF; rw [if_neg (by rw [show (tlvS x).unicast = false from c43]; simp)], by decide, by decide⟩))) ⟨rfl, rfl, rfl, trivial⟩
    ·refine Sg 1 E3 <| Zl hk10 <| Zf <| Zs fun _ hk15 => Qp 0 E2 (Ze E3) <| J.caseD (fun c57 => ?_) (fun c57 => ?_)
     ·refine Sg 1 E3 <| Zl hk15 <| Zt <| Zs fun _ hk16 => Fa 0 E3 f49_10 <| Qq 1 E2 (Z0 E2 g32 (Tlv.sub_addr _)) ?_
      refine Ef 2 E2 (Zc E2 ce105 TN (fun F' hle hr => paddr_spec F' (tlvS x).addr)) ?_
      rintro _ _ ⟨_, ⟨v58, rfl, rfl⟩, rfl⟩
      refine J.app <| Mv 3 E3 <| Qp 4 E2 (Zx E3) <| Qp 5 E2 (Zx E3) <| Sg 6 E3 <| Sg 7 E3 <| Zl hk16 <| Run.cut2 (fun (ae : UInt8) (D : SlX) => (ae, D.l) = ihuF (tlvS x)) (fun ae D => .cons 1 (fp b1) (.cons 3 (.slice Z.a Z.n Z.c) (.cons 5 (.int .u8 (ae.toNat : Int)) (.cons 6 (.slice D.a D.n D.c) (.nil))))) (fun ae D => [blk b1 (Tlv.enc (tlvS x)) 49, slA 5 1 bytE (.slice Z.a Z.n Z.c) Z.l, slA 32 1 bytE (.slice D.a D.n D.c) D.l]) ?_ ?_
      ·rintro ae D hD
       refine Run.seq fun _ hk18 => Run.regionD (M := [0, 1, 0, 4, 0, 16, 0, 64, 240, 508, 0, 0, 4092, 8191, 16383]) (q := 3319) (r := 162) Kr ?_
       refine Dp 0 E2 (Za E2 f49_0) <| Dr 1 E2 (Z1 E2 g5 (Tlv.sub_type _)) ?_
       refine Dp 2 E2 (Zm E2) <| Dp 4 E2 (Za E2 f49_4) <| Dr 5 E2 (Z1 E2 g40 (Tlv.sub_rxcost _)) ?_
       refine Dp 6 E2 (Za E2 f49_2) <| Dr 7 E2 (Z1 E2 g40 (Tlv.sub_interval _)) ?_
       refine Dp 10 E2 (Zm E2) <| Dp 11 E2 (Zm E2) <| Dw.effs (l := [3, 8]) Kr Kr ?_
       rw [FM, FM]
       refine ⟨?_, ?_, NO⟩
       ·refine Om [7, 5, 1] rfl rfl (EF.buildSliceS rfl Tryz.underlying75 z5 zero5 rfl (by decide) rfl rfl rfl rfl) ?_
        rintro _ _ ⟨b69, rfl, rfl⟩
        refine ⟨?_, ?_⟩
        ·rw [FM, FM, FM]
         refine ⟨?_, ?_, ?_, NO⟩
         ·exact Lk E3 (Z1 E2 g40 (Tlv.sub_interval _))
         ·exact Lk E3 (Z1 E2 g40 (Tlv.sub_rxcost _))
         ·exact Lk E3 (Z1 E2 g5 (Tlv.sub_type _))
        refine ?_
        refine Dw.close (A := slA 5 1 bytE (.slice (some ⟨b69, 0, none⟩) 2 2) [ae, 0]) (m := [blk b69 [.int .u8 (ae.toNat : Int), .int .u8 0] 5]) Tk1 (fun _ q => slA_blk (xs := [ae, 0]) rfl q) ?_
        refine De 8 <| Om [1] rfl rfl (EF.buildSliceS rfl Tryz.underlying246 z40 zero40 rfl (by decide) rfl rfl rfl rfl) ?_
        rintro _ _ ⟨b74, rfl, rfl⟩
        refine ⟨?_, ?_⟩
        ·rw [FM]
         refine ⟨?_, NO⟩
         ·exact Lk E3 (Z1 E2 g5 (Tlv.sub_type _))
        refine ?_
        refine De 9 <| Om [1] rfl rfl (Zc E2 ce102 Tk1 (fun F' hle hr => put16_spec F' (xs := [ae, 0]) (ns := [(tlvS x).rxcost, (tlvS x).interval]) (argSl_all (enc := u16E) (xs := [(tlvS x).rxcost, (tlvS x).interval]) (fun _ => rfl) (hr b74 _ Rc)) (fun n hn => by simp only [List.mem_cons, List.not_mem_nil, or_false] at hn; omega) (by simp))) ?_
        rintro v75 _ ⟨_, rfl, rfl⟩
        refine ⟨?_, ?_⟩
        ·rw [FM]
         refine ⟨?_, NO⟩
         ·refine Look.app ?_
          exact Lk E3 (Z1 E2 g5 (Tlv.sub_type _))
        refine ?_
        refine J.app <| Dw.slCase (v := v75) (xs := ([ae, 0] ++ nums 2 [(tlvS x).rxcost, (tlvS x).interval])) Rc (fun a75 c75 hv75 hh75 => ?_)
        subst hv75
        refine De 12 <| Om [1] rfl rfl (EF.buildSliceS rfl Tryz.underlying108 z75 zero75 rfl (by decide) rfl rfl rfl rfl) ?_
        rintro _ _ ⟨b78, rfl, rfl⟩
        refine ⟨?_, ?_⟩
        ·rw [FM]
         refine ⟨?_, NO⟩
         ·exact Lk E3 (Z1 E2 g5 (Tlv.sub_type _))
        refine ?_
        refine De 13 <| One.mk (o := _) (l := []) rfl Kr (Want.none rfl) rfl (ltN rfl) (Zc E2 ce104 Tk4 (fun F' hle hr => raw_lent F' [blk b78 [.slice a75 ([ae, 0] ++ nums 2 [(tlvS x).rxcost, (tlvS x).interval]).length c75, .slice D.a D.n D.c, .slice Z.a Z.n Z.c] 75, slA 5 1 bytE (.slice a75 ([ae, 0] ++ nums 2 [(tlvS x).rxcost, (tlvS x).interval]).length c75) ([ae, 0] ++ nums 2 [(tlvS x).rxcost, (tlvS x).interval]), slA 32 1 bytE (.slice D.a D.n D.c) D.l, slA 5 1 bytE (.slice Z.a Z.n Z.c) Z.l] (b := b78) (fun A => [blk b78 [.slice a75 ([ae, 0] ++ nums 2 [(tlvS x).rxcost, (tlvS x).interval]).length c75, .slice D.a D.n D.c, .slice Z.a Z.n Z.c] 75, slA 5 1 bytE (.slice a75 ([ae, 0] ++ nums 2 [(tlvS x).rxcost, (tlvS x).interval]).length c75) ([ae, 0] ++ nums 2 [(tlvS x).rxcost, (tlvS x).interval]), slA 32 1 bytE (.slice D.a D.n D.c) D.l, slA 5 1 bytE (.slice Z.a Z.n Z.c) Z.l, A]) (fun _ => rfl) 5 (by decide) (show (tlvS x).type = _ from c57) [⟨a75, ([ae, 0] ++ nums 2 [(tlvS x).rxcost, (tlvS x).interval]).length, c75, [ae, 0] ++ nums 2 [(tlvS x).rxcost, (tlvS x).interval], rfl⟩, D, Z] rfl (by have := times_len hn; have := ihu_len (tlvS x); have hD2 : D.l = (ihuF (tlvS x)).2 := (by rw [← hD]); simp only [catL, List.flatMap_cons, List.flatMap_nil, List.append_nil, List.length_append, nums_len]; rw [hZ, hD2]; simp; omega) (by simp) (by simp) (fun F2 q h0 h1 h2 y hy => by
    simp only [List.mem_cons, List.not_mem_nil, or_false] at hy
    rcases hy with hy | hy | hy
    · rw [hy]; exact slA_frame (e := 5) (n := ([ae, 0] ++ nums 2 [(tlvS x).rxcost, (tlvS x).interval]).length) (c := c75) (fun _ => rfl) h1 h2 (by simp)
    · rw [hy]; exact slA_frame (e := 32) (n := D.n) (c := D.c) (fun _ => rfl) h1 h2 (by simp)
    · rw [hy]; exact slA_frame (e := 5) (n := Z.n) (c := Z.c) (fun _ => rfl) h1 h2 (by simp)))) Kr ?_
        rintro v79 _ ⟨_, rfl, rfl⟩
        refine N0 <| J.app <| De 14 <| Om [] rfl rfl ((Zg E2).eff) ?_
        rintro v79 _ ⟨rfl, rfl⟩
        refine N0 <| Dn <| hk18 _ _ <| Run.ret ?_
        have hB : bodyF (tlvS x) x.l = catL [⟨a75, ([ae, 0] ++ nums 2 [(tlvS x).rxcost, (tlvS x).interval]).length, c75, [ae, 0] ++ nums 2 [(tlvS x).rxcost, (tlvS x).interval], rfl⟩, D, Z] := by
          unfold bodyF
          rw [if_neg c19, if_neg c31, if_neg c41, if_pos c57]
          rw [← hZ, ← hD]; simp [catL]
        have hP : pieceF (tlvS x) x.l = rawF 5 (catL [⟨a75, ([ae, 0] ++ nums 2 [(tlvS x).rxcost, (tlvS x).interval]).length, c75, [ae, 0] ++ nums 2 [(tlvS x).rxcost, (tlvS x).interval], rfl⟩, D, Z]) := by
          unfold pieceF
          rw [hB]
          try rw [show UInt8.ofNat (tlvS x).type.toNat = 5 by rw [show (tlvS x).type = 5 from c57]; rfl]
        rw [hP]
        exact J.ends (res_tmp rfl rfl) Tk1 rfl
       ·refine Om [1] rfl rfl (EF.buildSliceS rfl Tryz.underlying246 z40 zero40 rfl (by decide) rfl rfl rfl rfl) ?_
        rintro _ _ ⟨b74, rfl, rfl⟩
        refine ⟨?_, ?_⟩
        ·rw [FM]
         refine ⟨?_, NO⟩
         ·exact Lk E3 (Z1 E2 g5 (Tlv.sub_type _))
        refine ?_
        refine De 3 <| Om [7, 5, 1] rfl rfl (EF.buildSliceS rfl Tryz.underlying75 z5 zero5 rfl (by decide) rfl rfl rfl rfl) ?_
        rintro _ _ ⟨b69, rfl, rfl⟩
        refine ⟨?_, ?_⟩
        ·rw [FM, FM, FM]
         refine ⟨?_, ?_, ?_, NO⟩
         ·exact Lk E3 (Z1 E2 g40 (Tlv.sub_interval _))
         ·exact Lk E3 (Z1 E2 g40 (Tlv.sub_rxcost _))
         ·exact Lk E3 (Z1 E2 g5 (Tlv.sub_type _))
        refine ?_
        refine Dw.close (A := slA 5 1 bytE (.slice (some ⟨b69, 0, none⟩) 2 2) [ae, 0]) (m := [blk b69 [.int .u8 (ae.toNat : Int), .int .u8 0] 5]) Tk1 (fun _ q => slA_blk (xs := [ae, 0]) rfl q) ?_
        refine De 9 <| Om [1] rfl rfl (Zc E2 ce102 Tk1 (fun F' hle hr => put16_spec F' (xs := [ae, 0]) (ns := [(tlvS x).rxcost, (tlvS x).interval]) (argSl_all (enc := u16E) (xs := [(tlvS x).rxcost, (tlvS x).interval]) (fun _ => rfl) (hr b74 _ Rc)) (fun n hn => by simp only [List.mem_cons, List.not_mem_nil, or_false] at hn; omega) (by simp))) ?_
        rintro v75 _ ⟨_, rfl, rfl⟩
        refine ⟨?_, ?_⟩
        ·rw [FM]
         refine ⟨?_, NO⟩
         ·refine Look.app ?_
          exact Lk E3 (Z1 E2 g5 (Tlv.sub_type _))
        refine ?_
        refine J.app <| Dw.slCase (v := v75) (xs := ([ae, 0] ++ nums 2 [(tlvS x).rxcost, (tlvS x).interval])) Rc (fun a75 c75 hv75 hh75 => ?_)
        subst hv75
        refine De 12 <| Om [1] rfl rfl (EF.buildSliceS rfl Tryz.underlying108 z75 zero75 rfl (by decide) rfl rfl rfl rfl) ?_
        rintro _ _ ⟨b78, rfl, rfl⟩
        refine ⟨?_, ?_⟩
        ·rw [FM]
         refine ⟨?_, NO⟩
         ·exact Lk E3 (Z1 E2 g5 (Tlv.sub_type _))
        refine ?_
        refine De 13 <| One.mk (o := _) (l := []) rfl Kr (Want.none rfl) rfl (ltN rfl) (Zc E2 ce104 Tk4 (fun F' hle hr => raw_lent F' [blk b78 [.slice a75 ([ae, 0] ++ nums 2 [(tlvS x).rxcost, (tlvS x).interval]).length c75, .slice D.a D.n D.c, .slice Z.a Z.n Z.c] 75, slA 5 1 bytE (.slice a75 ([ae, 0] ++ nums 2 [(tlvS x).rxcost, (tlvS x).interval]).length c75) ([ae, 0] ++ nums 2 [(tlvS x).rxcost, (tlvS x).interval]), slA 32 1 bytE (.slice D.a D.n D.c) D.l, slA 5 1 bytE (.slice Z.a Z.n Z.c) Z.l] (b := b78) (fun A => [blk b78 [.slice a75 ([ae, 0] ++ nums 2 [(tlvS x).rxcost, (tlvS x).interval]).length c75, .slice D.a D.n D.c, .slice Z.a Z.n Z.c] 75, slA 5 1 bytE (.slice a75 ([ae, 0] ++ nums 2 [(tlvS x).rxcost, (tlvS x).interval]).length c75) ([ae, 0] ++ nums 2 [(tlvS x).rxcost, (tlvS x).interval]), slA 32 1 bytE (.slice D.a D.n D.c) D.l, slA 5 1 bytE (.slice Z.a Z.n Z.c) Z.l, A]) (fun _ => rfl) 5 (by decide) (show (tlvS x).type = _ from c57) [⟨a75, ([ae, 0] ++ nums 2 [(tlvS x).rxcost, (tlvS x).interval]).length, c75, [ae, 0] ++ nums 2 [(tlvS x).rxcost, (tlvS x).interval], rfl⟩, D, Z] rfl (by have := times_len hn; have := ihu_len (tlvS x); have hD2 : D.l = (ihuF (tlvS x)).2 := (by rw [← hD]); simp only [catL, List.flatMap_cons, List.flatMap_nil, List.append_nil, List.length_append, nums_len]; rw [hZ, hD2]; simp; omega) (by simp) (by simp) (fun F2 q h0 h1 h2 y hy => by
    simp only [List.mem_cons, List.not_mem_nil, or_false] at hy
    rcases hy with hy | hy | hy
    · rw [hy]; exact slA_frame (e := 5) (n := ([ae, 0] ++ nums 2 [(tlvS x).rxcost, (tlvS x).interval]).length) (c := c75) (fun _ => rfl) h1 h2 (by simp)
    · rw [hy]; exact slA_frame (e := 32) (n := D.n) (c := D.c) (fun _ => rfl) h1 h2 (by simp)
    · rw [hy]; exact slA_frame (e := 5) (n := Z.n) (c := Z.c) (fun _ => rfl) h1 h2 (by simp)))) Kr ?_
        rintro v79 _ ⟨_, rfl, rfl⟩
        refine N0 <| J.app <| De 14 <| Om [] rfl rfl ((Zg E2).eff) ?_
        rintro v79 _ ⟨rfl, rfl⟩
        refine N0 <| Dn <| hk18 _ _ <| Run.ret ?_
        have hB : bodyF (tlvS x) x.l = catL [⟨a75, ([ae, 0] ++ nums 2 [(tlvS x).rxcost, (tlvS x).interval]).length, c75, [ae, 0] ++ nums 2 [(tlvS x).rxcost, (tlvS x).interval], rfl⟩, D, Z] := by
          unfold bodyF
          rw [if_neg c19, if_neg c31, if_neg c41, if_pos c57]
          rw [← hZ, ← hD]; simp [catL]
        have hP : pieceF (tlvS x) x.l = rawF 5 (catL [⟨a75, ([ae, 0] ++ nums 2 [(tlvS x).rxcost, (tlvS x).interval]).length, c75, [ae, 0] ++ nums 2 [(tlvS x).rxcost, (tlvS x).interval], rfl⟩, D, Z]) := by
          unfold pieceF
          rw [hB]
          try rw [show UInt8.ofNat (tlvS x).type.toNat = 5 by rw [show (tlvS x).type = 5 from c57]; rfl]
        rw [hP]
        exact J.ends (res_tmp rfl rfl) Tk1 rfl
      ·intro ku17 hu17
       refine Zs fun _ hk19 => Sq.slCase (v := v58) (xs := (adF (tlvS x).addr).2) Rc (fun a58 c58 hv58 hh58 => ?_)
       subst hv58
       refine Fa 0 E3 f49_8 <| Qq 1 E2 (Z1 E2 g4 (Tlv.sub_all _)) ?_
       refine J.caseB (fun c65 => ?_) (fun c65 => ?_)
       ·refine Zl hk19 <| Zt <| Run.region <| Sg 0 E3 <| Sg 1 E3 <| Sq.nil <| J.addSl 32 1 bytE ?_
        exact J.envJ (J.keep Tk3 (hu17 (0) (⟨none, 0, 0, [], rfl⟩) (by unfold ihuF; rw [if_pos (show (tlvS x).all = true from c65)]))) ⟨rfl, rfl, rfl, rfl, trivial⟩
       ·exact Zl hk19 <| Zf <| Run.skip <| J.envJ (J.keep Tk3 (hu17 ((adF (tlvS x).addr).1) (⟨a58, _, c58, (adF (tlvS x).addr).2, rfl⟩) (by unfold ihuF; rw [if_neg (by rw [show (tlvS x).all = false from c65]; simp)]))) ⟨rfl, rfl, rfl, rfl, trivial⟩
     ·refine Sg 1 E3 <| Zl hk15 <| Zf <| Run.skip <| hk4 _ _ <| Run.seq fun _ hk20 => Run.regionD (M := [0, 1, 0, 4, 12, 31, 63]) (q := 7) (r := 6) Kr ?_
      refine Dp 0 E2 (Za E2 f49_0) <| Dr 1 E2 (Z1 E2 g5 (Tlv.sub_type _)) ?_
      refine Dr 2 E2 (Z0 E2 g49 (Tlv.enc_sub _)) ?_
      refine De 3 <| Om [1] rfl rfl (Zc E2 ce145 TN (fun F' hle hr => routed_spec F' (t := (tlvS x)) hw9 (hd (by rintro (h | h | h | h); exact c19 h; exact c31 h; exact c41 h; exact c57 h)))) ?_
      rintro v83 _ ⟨_, rfl, rfl⟩
      refine ⟨?_, ?_⟩
      ·rw [FM]
       refine ⟨?_, NO⟩
       ·refine Look.app ?_
        exact Lk E3 (Z1 E2 g5 (Tlv.sub_type _))
      refine ?_
      refine J.app <| Dw.slCase (v := v83) (xs := (routedF (tlvS x))) Rc (fun a83 c83 hv83 hh83 => ?_)
      subst hv83
      refine De 4 <| Om [1] rfl rfl (EF.buildSliceS rfl Tryz.underlying108 z75 zero75 rfl (by decide) rfl rfl rfl rfl) ?_
      rintro _ _ ⟨b84, rfl, rfl⟩
      refine ⟨?_, ?_⟩
      ·rw [FM]
       refine ⟨?_, NO⟩
       ·exact Lk E3 (Z1 E2 g5 (Tlv.sub_type _))
      refine ?_
      refine De 5 <| One.mk (o := _) (l := []) rfl Kr (Want.none rfl) rfl (ltN rfl) (Zc E2 ce104 Tk2 (fun F' hle hr => raw_lent F' [blk b84 [.slice a83 (routedF (tlvS x)).length c83] 75, slA 5 1 bytE (.slice a83 (routedF (tlvS x)).length c83) (routedF (tlvS x))] (b := b84) (fun A => [blk b84 [.slice a83 (routedF (tlvS x)).length c83] 75, slA 5 1 bytE (.slice a83 (routedF (tlvS x)).length c83) (routedF (tlvS x)), A]) (fun _ => rfl) (UInt8.ofNat (tlvS x).type.toNat) (fun h => by have h9 := congrArg UInt8.toNat h; rw [UInt8.toNat_ofNat'] at h9; have h8 : UInt8.toNat 0 = 0 := rfl; rw [h8] at h9; have h7 := h0; omega) (show (tlvS x).type = _ by simp; omega) [⟨a83, (routedF (tlvS x)).length, c83, routedF (tlvS x), rfl⟩] rfl (by have := routed_len (tlvS x); simp [catL]; omega) (by simp) (by simp) (fun F2 q h0 h1 h2 y hy => by
    simp only [List.mem_cons, List.not_mem_nil, or_false] at hy
    subst hy
    exact slA_frame (e := 5) (n := (routedF (tlvS x)).length) (c := c83) (fun _ => rfl) h1 h2 (by simp)))) Kr ?_
      rintro v85 _ ⟨_, rfl, rfl⟩
      refine N0 <| J.app <| De 6 <| Om [] rfl rfl ((Zg E2).eff) ?_
      rintro v85 _ ⟨rfl, rfl⟩
      refine N0 <| Dn <| hk20 _ _ <| Run.ret ?_
      have hB : bodyF (tlvS x) x.l = catL [⟨a83, (routedF (tlvS x)).length, c83, routedF (tlvS x), rfl⟩] := by
        unfold bodyF
        rw [if_neg c19, if_neg c31, if_neg c41, if_neg c57]
        simp [catL]
      have hP : pieceF (tlvS x) x.l = rawF (UInt8.ofNat (tlvS x).type.toNat) (catL [⟨a83, (routedF (tlvS x)).length, c83, routedF (tlvS x), rfl⟩]) := by
        unfold pieceF
        rw [hB]
        try rw [show UInt8.ofNat (tlvS x).type.toNat = (UInt8.ofNat (tlvS x).type.toNat) by rfl]
      rw [hP]
      exact J.ends (res_tmp rfl rfl) Tk1 rfl
 ·intro ku3 hu3
  refine Zs fun _ hk21 => Fa 0 E3 f49_12 <| Qq 1 E2 (QR.load1 (v := .slice x.a x.l.length x.c) rfl rfl g47 (Tlv.sub_stamps _)) ?_
  refine Qp 2 E2 (QP.len rfl rfl rfl Tryz.underlying47) <| Qp 3 E2 (QP.gtr rfl rfl rfl) <| J.caseD (fun c10 => ?_) (fun c10 => ?_)
  ·refine Zl hk21 <| Zt <| Run.region <| J.addSl 5 1 bytE ?_
   refine Fa 0 E3 f49_12 <| Qq 1 E2 (QR.load1 (v := .slice x.a x.l.length x.c) rfl rfl g47 (Tlv.sub_stamps _)) ?_
   refine Ef 2 E2 (Zc E2 ce144 Tk1 (fun F' hle hr => put32_spec F' (u := .slice none 0 0) (xs := []) (ns := x.l) (ArgSl.mono hx hle) hr32 (by simp; omega))) ?_
   rintro v13 _ ⟨_, rfl, rfl⟩
   refine J.app ?_
   rw [List.nil_append]
   refine Sq.slCase (v := v13) (xs := (nums 4 x.l)) Rc (fun a13 c13 hv13 hh13 => ?_)
   subst hv13
   refine Ef 3 E2 (EF.buildSliceS rfl Tryz.underlying108 z75 zero75 rfl (by decide) rfl rfl rfl rfl) ?_
   rintro _ _ ⟨b14, rfl, rfl⟩
   refine Sq.eff (i := 4) rfl (Want.none rfl) rfl (ltN rfl) (Zc E2 ce104 Tk2 (fun F' hle hr => raw_lent F' [blk b14 [.slice a13 (nums 4 x.l).length c13] 75, slA 5 1 bytE (.slice a13 (nums 4 x.l).length c13) (nums 4 x.l)] (b := b14) (fun A => [blk b14 [.slice a13 (nums 4 x.l).length c13] 75, slA 5 1 bytE (.slice a13 (nums 4 x.l).length c13) (nums 4 x.l), A]) (fun _ => rfl) 3 (by decide) rfl [⟨a13, (nums 4 x.l).length, c13, nums 4 x.l, rfl⟩] rfl (by simp [catL, nums_len]; omega) (by simp) (by simp) (fun F2 q h0 h1 h2 y hy => by
    simp only [List.mem_cons, List.not_mem_nil, or_false] at hy
    subst hy
    exact slA_frame (e := 5) (n := (nums 4 x.l).length) (c := c13) (fun _ => rfl) h1 h2 (by simp)))) ?_
   rintro v15 _ ⟨_, rfl, rfl⟩
   refine J.app <| Sq.slCase (v := v15) (xs := (rawF 3 (catL [⟨a13, (nums 4 x.l).length, c13, nums 4 x.l, rfl⟩]))) Rc (fun a15 c15 hv15 hh15 => ?_)
   subst hv15
   exact Sg 5 E3 <| Sq.nil <| J.envJ (J.keep Tk2 (hu3 (⟨a15, _, c15, rawF 3 (catL [⟨a13, (nums 4 x.l).length, c13, nums 4 x.l, rfl⟩]), rfl⟩) (by unfold timesF; rw [if_neg (show ¬ x.l.length = 0 by have h9 : (x.l.length : Int) > 0 := c10; omega)]; simp [catL]))) ⟨rfl, rfl, trivial⟩
  ·refine Zl hk21 <| Zf <| Run.skip <| J.addSl 5 1 bytE ?_
   exact J.envJ (J.keep Tk2 (hu3 (⟨none, 0, 0, [], rfl⟩) (by unfold timesF; rw [if_pos (show x.l.length = 0 by have h9 : ¬ (x.l.length : Int) > 0 := c10; omega)]))) ⟨rfl, rfl, trivial⟩
end Slb
