/- R69: a part of the proof that a law of this package holds for every input; no condition. -/
import Derived.Test.YtmolpkkkndopcaaGreatM2
import Derived.Test.YtmolpkkkndopcaaGreatR68
namespace Slb
open Go Go.Proofs
set_option maxRecDepth 20000
/-- What the document's packing holds. -/
structure RlS where
  td : PackTold
  l : List UInt8
  bo : Nat
  bs : Nat
  ba : Option Addr
  bc : Nat
  os : List SlX
  oa : Option Addr
  oc : Nat

set_option maxHeartbeats 1000000 in
theorem rpack_spec (F : Fr) (src : Bs 16) {mtu : Int} {ts : List TlvX} {a : Option Addr} {c : Nat} (ha : ArgSl F a 68 tlvE ts) (hin : ∀ x ∈ ts, TlvIn F x) (hwf : ∀ x ∈ ts, (tlvS x).WF) (hr32 : ∀ x ∈ ts, ∀ n ∈ x.l, 0 ≤ n ∧ n < 4294967296) (hn : ts.length ≤ 1000000) (hxl : ∀ x ∈ ts, x.l.length ≤ 4294967296)  : Spec Tryz.prog 8 #[.agg (Bs.enc src).toArray, .int .i64 mtu, .slice a ts.length c] [] F (fun v S => ∃ (os : List SlX) (oa : Option Addr) (oc : Nat), v = .tuple #[.slice oa os.length oc, .int .i64 (packErr src mtu ts)] ∧ os.map (·.l) = packF src mtu ts ∧ S = [slA 46 1 slE (.slice oa os.length oc) os, rowsS os]) := by
 have hPE : ¬ (mtu < 64 ∨ mtu > 65539) → packErr src mtu ts = addErr src mtu ts := fun hm => by unfold packErr; rw [if_neg hm]
 refine Spec.intro (N := 92) (args := [.agg (Bs.enc src).toArray, .int .i64 mtu, .slice a ts.length c]) Tryz.func8 rfl rfl (by simp) ?_
 refine Zs fun _ hk1 => Ef 0 E2 (EF.boxA rfl rfl) ?_
 rintro _ _ ⟨b3, rfl, rfl⟩
 refine Sg 1 E3 <| Sg 2 E3 <| Zl hk1 <| Run.seq fun _ hk2 => Zs fun _ hk3 => Mv 0 E3 <| Qp 1 E2 (Zb E3) <| J.caseD (fun c18 => ?_) (fun c18 => ?_)
 ·refine Mv 2 E3 <| Sk 3 E3 <| Sk 4 E3 <| Pt 5 E4 <| Zl hk3 <| Zt <| Zs fun _ hk4 => Sg 0 E3 <| Sg 1 E3 <| Zl hk4 <| Run.ret ?_
  have hPE : packErr src mtu ts = 2 := by unfold packErr; rw [if_pos (by first | exact .inl c18 | exact .inr c21)]
  rw [hPE]
  refine J.addSl 46 1 slE ?_
  refine J.addRowsS ?_
  exact J.ends (m := [slA 46 1 slE (.slice none ([] : List SlX).length 0) ([] : List SlX), rowsS ([] : List SlX)]) (res_tmp2 rfl rfl rfl) Tk2 ⟨[], none, 0, rfl, by unfold packF; rw [hPE]; rfl, rfl⟩
 ·refine Mv 2 E3 <| Ym 3 E4 <| Yp 4 E3 (QP.gtr rfl rfl rfl) <| J.caseD (fun c21 => ?_) (fun c21 => ?_)
  ·refine Pf 5 E4 <| Zl hk3 <| Zt <| Zs fun _ hk5 => Sg 0 E3 <| Sg 1 E3 <| Zl hk5 <| Run.ret ?_
   have hPE : packErr src mtu ts = 2 := by unfold packErr; rw [if_pos (by first | exact .inl c18 | exact .inr c21)]
   rw [hPE]
   refine J.addSl 46 1 slE ?_
   refine J.addRowsS ?_
   exact J.ends (m := [slA 46 1 slE (.slice none ([] : List SlX).length 0) ([] : List SlX), rowsS ([] : List SlX)]) (res_tmp2 rfl rfl rfl) Tk2 ⟨[], none, 0, rfl, by unfold packF; rw [hPE]; rfl, rfl⟩
  ·refine Pf 5 E4 <| Zl hk3 <| Zf <| Run.skip <| hk2 _ _ <| Run.seq fun _ hk6 => Run.seq fun _ hk7 => Run.region ?_
   replace hPE := hPE (by rintro (h | h); exact c18 h; exact c21 h)
   refine Sg 0 E3 <| Zl hk7 <| Run.block <| Run.loop1 (fun (i : Nat) => i ≤ ts.length ∧ addErr src mtu ts = addErr src mtu (ts.drop i)) (fun i => .cons 1 (.int .i64 mtu) (.cons 2 (.slice a ts.length c) (.cons 3 (fp b3) (.cons 8 (.int .i64 i) (.nil))))) (fun i => [blk b3 (Bs.enc src) 23]) (fun i => ts.length - i) (0) (⟨Nat.zero_le _, rfl⟩) ?_ ?_
   ·exact fun _ j => J.envJ (J.keep Tk1 j) ⟨rfl, rfl, rfl, rfl, trivial⟩
   rintro i ⟨hile0, hea⟩ kl8 hl8
   refine Run.seq fun _ hk9 => Zs fun _ hk10 => Mv 0 E3 <| Mv 1 E3 <| Qp 2 E2 (QP.len rfl rfl rfl Tryz.underlying24) <| Qp 3 E2 (Zb E3) <| J.caseD (fun c26 => ?_) (fun c26 => ?_)
   ·refine Zl hk10 <| Zt <| Run.skip <| hk9 _ _ <| Run.seq fun _ hk11 => Run.block <| Run.seq fun _ hk12 => Run.regionD (M := [0, 0, 0, 0, 12, 28, 63, 127]) (q := 63) (r := 33) Kr ?_
    obtain ⟨x, hi⟩ : ∃ x, ts[i]? = some x := ⟨_, List.getElem?_eq_getElem (by omega)⟩
    obtain ⟨q1, o1, rfl, hs1⟩ := ha.get (by omega)
    have hm := List.mem_of_getElem? hi
    refine Dr 0 E2 (Z0 E2 g23 (Bs.sub _)) ?_
    refine Dp 1 E2 (Zm E2) <| Dp 2 E2 (Zm E2) <| Dp 3 E2 (Zm E2) <| Dp 4 E2 (QP.indexAddr rfl rfl rfl Tryz.underlying24 z45 Og Og) <| Dr 5 E2 (QR.loadSl (y := x) rfl rfl g45 tlvE_len (hs1 _) hi) ?_
    refine De 6 <| Om [] rfl rfl (EF.call rfl ce20 rfl Takes.nil (fun F' hle hr => rfits_spec F' src (by omega) (by omega) x (hwf x hm) (TlvIn.mono (hin x hm) hle) (hr32 x hm) (hxl x hm))) ?_
    rintro _ _ ⟨_, ⟨rfl, rfl⟩, rfl⟩
    refine ⟨fun _ h => (by cases h), ?_⟩
    refine J.app <| De 7 <| Om [] rfl rfl ((Zg E2).eff) ?_
    rintro _ _ ⟨rfl, rfl⟩
    refine ⟨fun _ h => (by cases h), ?_⟩
    refine Dn <| hk12 _ _ <| Zs fun _ hk13 => Mv 0 E3 <| Qp 1 E2 (Zq E3) <| J.caseD (fun c37 => ?_) (fun c37 => ?_)
    ·refine Zl hk13 <| Zt <| Zs fun _ hk14 => Mv 0 E3 <| Sg 1 E3 <| Sg 2 E3 <| Zl hk14 <| Run.ret ?_
     have hF : packErr src mtu ts = fitsF src mtu (tlvS x) x.l := by rw [hPE, hea, addErr_hit hi c37]
     rw [hF]
     refine J.addSl 46 1 slE ?_
     refine J.addRowsS ?_
     exact J.ends (m := [slA 46 1 slE (.slice none ([] : List SlX).length 0) ([] : List SlX), rowsS ([] : List SlX)]) (res_tmp2 rfl rfl rfl) Tk2 ⟨[], none, 0, rfl, by unfold packF; rw [hF, if_pos c37]; rfl, rfl⟩
    ·exact Zl hk13 <| Zf <| Run.skip <| hk11 _ _ <| Run.region <| Mv 0 E3 <| Qp 1 E2 (QP.add64 rfl rfl rfl Og Og) <| Sg 2 E3 <| Sq.nil <| J.envJ (J.keep Tk1 (hl8 (i + 1) (⟨by omega, by rw [hea, addErr_drop hi c37]⟩) (by omega))) ⟨rfl, rfl, rfl, rfl, trivial⟩
   ·refine Zl hk10 <| Zf <| Run.exit rfl <| hk6 _ _ <| Run.seq fun _ hk15 => Run.region ?_
    have hz0 : addErr src mtu ts = 0 := by rw [hea, List.drop_eq_nil_of_le (by omega)]; rfl
    have hall := addErr_zero hz0
    refine Sg 0 E3 <| Zl hk15 <| Zs fun _ hk16 => Qq 0 E2 (Z0 E2 g23 (Bs.sub _)) ?_
    refine Ef 1 E2 (EF.call rfl ce21 rfl Takes.nil (fun F' hle hr => rbegin7_spec F' src)) ?_
    rintro _ _ ⟨_, ⟨b40, s40, rfl, rfl⟩, rfl⟩
    refine J.app <| Sg 2 E3 <| Zl hk16 <| Run.seq fun _ hk17 => Zs fun _ hk18 => J.addSl 46 1 slE ?_
    refine J.addRowsS ?_
    refine Sg 0 E3 <| Zl hk18 <| Run.block <| Run.loop2 (fun (i2 : Nat) (q : RlS) => i2 ≤ ts.length ∧ (q.td, q.l, q.os.map (·.l)) = pkRun src mtu ((ts.take i2).map tlvM) ∧ (q.l.length : Int) + 4 ≤ mtu ∧ q.os.length ≤ i2) (fun i2 q => .cons 1 (.int .i64 mtu) (.cons 2 (.slice a ts.length c) (.cons 3 (fp b3) (.cons 10 (.slice q.oa q.os.length q.oc) (.cons 11 (.pointer (some ⟨q.bo, 0, none⟩)) (.cons 12 (.int .i64 i2) (.nil))))))) (fun i2 q => [blk b3 (Bs.enc src) 23, blk q.bo (Ref07Open.enc ⟨⟨q.ba, q.l.length, q.bc⟩, some ⟨q.bs, 0, none⟩⟩) 69, slA 5 1 bytE (.slice q.ba q.l.length q.bc) q.l, blk q.bs (Ref06State.enc (stF q.td)) 117, slA 46 1 slE (.slice q.oa q.os.length q.oc) q.os, rowsS q.os]) (fun i2 q => ts.length - i2) (0) ((⟨toldB src, [], b40, s40, none, 0, [], none, 0⟩ : RlS)) (⟨Nat.zero_le _, rfl, by simp; omega, by simp⟩) ?_ ?_
    ·exact fun _ j => J.envJ (J.keep Tk6 j) ⟨rfl, rfl, rfl, rfl, rfl, rfl, trivial⟩
    rintro i2 q ⟨hile, hq, hql, hol⟩ kl19 hl19
    refine Run.seq fun _ hk20 => Zs fun _ hk21 => Mv 0 E3 <| Mv 1 E3 <| Qp 2 E2 (QP.len rfl rfl rfl Tryz.underlying24) <| Qp 3 E2 (Zb E3) <| J.caseD (fun c44 => ?_) (fun c44 => ?_)
    ·refine Zl hk21 <| Zt <| Run.skip <| hk20 _ _ <| Run.seq fun _ hk22 => Run.block <| Run.seq fun _ hk23 => Run.region ?_
     obtain ⟨x, hi⟩ : ∃ x, ts[i2]? = some x := ⟨_, List.getElem?_eq_getElem (by omega)⟩
     obtain ⟨q1, o1, rfl, hs1⟩ := ha.get (by omega)
     have hm := List.mem_of_getElem? hi
     refine Mv 0 E3 <| Mv 1 E3 <| Mv 2 E3 <| Qp 3 E2 (QP.indexAddr rfl rfl rfl Tryz.underlying24 z45 Og Og) <| Qq 4 E2 (QR.loadSl (y := x) rfl rfl g45 tlvE_len (hs1 _) hi) ?_
     refine Mv 5 E3 <| Ef 6 E2 (EF.call rfl ce22 rfl Tk3 (fun F' hle hr => radd_spec F' x (hwf x hm) (TlvIn.mono (hin x hm) hle) (hr32 x hm) (fits_chk (hall x hm)) (td := q.td) (l := q.l) (mtu := mtu) (by omega) (by omega) (by omega))) ?_
     rintro _ _ ⟨_, ⟨a53, e53, s53, rfl, rfl⟩, rfl⟩
     refine J.app <| J.caseB (fun c53 => ?_) (fun c53 => ?_)
     ·exact Qp 7 E2 (Zu E2) <| Zl hk23 <| Zf <| Run.skip <| hk22 _ _ <| Run.region <| Mv 0 E3 <| Qp 1 E2 (QP.add64 rfl rfl rfl Og Og) <| Sg 2 E3 <| Sq.nil <| J.envJ (J.keep Tk6 (hl19 (i2 + 1) ((⟨(addR q.td (tlvS x) x.l q.l mtu).1, (addR q.td (tlvS x) x.l q.l mtu).2.1, q.bo, s53, a53, e53, q.os, q.oa, q.oc⟩ : RlS)) (⟨by omega, pk_fit hq hi c53, addR_len hql, by show q.os.length ≤ i2 + 1; omega⟩) (by omega))) ⟨rfl, rfl, rfl, rfl, rfl, rfl, trivial⟩
     ·refine Qp 7 E2 (Zu E2) <| Zl hk23 <| Zt <| Zs fun _ hk24 => Mv 0 E3 <| Qp 1 E2 (Zn E2) <| Fa 2 E3 f69_0 <| Qq 3 E2 (QR.load1 (v := .slice a53 (addR q.td (tlvS x) x.l q.l mtu).2.1.length e53) rfl rfl g46 (Ref07Open.sub_b _)) ?_
      refine Ef 4 E2 (EF.call rfl ce23 rfl Tk1 (fun F' hle hr => Spec.lendSl (e := 5) (z := 1) (enc := bytE) (xs := (addR q.td (tlvS x) x.l q.l mtu).2.1) (fun _ => rfl) (fun F2 _ hb2 => rpacket_spec F2 hb2 (by have := addR_len (td := q.td) (t := (tlvS x)) (st := x.l) hql; omega)))) ?_
      rintro _ _ ⟨_, ⟨_, ⟨v60, rfl, rfl⟩, rfl⟩, rfl⟩
      refine J.app <| Mv 5 E3 <| Qp 6 E2 (Zx E3) <| Qp 7 E2 (Zx E3) <| Sg 8 E3 <| Sg 9 E3 <| Zl hk24 <| Zs fun _ hk25 => Sq.slCase (v := v60) (xs := (wrapL (addR q.td (tlvS x) x.l q.l mtu).2.1)) Rc (fun a60 c60 hv60 hh60 => ?_)
      subst hv60
      refine Mv 0 E3 <| Mv 1 E3 <| Ef 2 E2 (EF.buildSliceS rfl Tryz.underlying27 z46 zero46 rfl (by decide) rfl rfl rfl rfl) ?_
      rintro _ _ ⟨b65, rfl, rfl⟩
      refine Ef 3 E2 (EF.append1 (xs := q.os) (s := (⟨a60, (wrapL (addR q.td (tlvS x) x.l q.l mtu).2.1).length, c60, wrapL (addR q.td (tlvS x) x.l q.l mtu).2.1, rfl⟩ : SlX)) (enc := slE) el46 (fun _ => rfl) (fun _ => cell_one rfl) rfl rfl rfl Tryz.underlying27 Tryz.underlying27 rfl rfl Rc Rc (by omega)) ?_
      rintro sl66 _ rfl
      refine Sq.slCase (v := sl66) (xs := (q.os ++ [(⟨a60, (wrapL (addR q.td (tlvS x) x.l q.l mtu).2.1).length, c60, wrapL (addR q.td (tlvS x) x.l q.l mtu).2.1, rfl⟩ : SlX)])) Rc (fun a66 c66 hv66 hh66 => ?_)
      subst hv66
      refine J.close (A := rowsS (q.os ++ [(⟨a60, (wrapL (addR q.td (tlvS x) x.l q.l mtu).2.1).length, c60, wrapL (addR q.td (tlvS x) x.l q.l mtu).2.1, rfl⟩ : SlX)])) (m := [rowsS q.os, slB (⟨a60, (wrapL (addR q.td (tlvS x) x.l q.l mtu).2.1).length, c60, wrapL (addR q.td (tlvS x) x.l q.l mtu).2.1, rfl⟩ : SlX)]) Tk2 (fun _ q => rowsS_snoc q) ?_
      refine Sg 4 E3 <| Zl hk25 <| Zs fun _ hk26 => Qq 0 E2 (Z0 E2 g23 (Bs.sub _)) ?_
      refine Ef 1 E2 (EF.call rfl ce21 rfl Takes.nil (fun F' hle hr => rbegin7_spec F' src)) ?_
      rintro _ _ ⟨_, ⟨b68, s68, rfl, rfl⟩, rfl⟩
      refine J.app <| Sg 2 E3 <| Zl hk26 <| Run.region <| Mv 0 E3 <| Mv 1 E3 <| Mv 2 E3 <| Qp 3 E2 (QP.indexAddr rfl rfl rfl Tryz.underlying24 z45 Og Og) <| Qq 4 E2 (QR.loadSl (y := x) rfl rfl g45 tlvE_len (hs1 _) hi) ?_
      refine Mv 5 E3 <| Ef 6 E2 (EF.call rfl ce22 rfl Tk3 (fun F' hle hr => radd_spec F' x (hwf x hm) (TlvIn.mono (hin x hm) hle) (hr32 x hm) (fits_chk (hall x hm)) (td := toldB src) (oa := none) (oc := 0) (l := []) (mtu := mtu) (by omega) (by omega) (by simp))) ?_
      rintro _ _ ⟨_, ⟨a75, e75, s75, rfl, rfl⟩, rfl⟩
      exact J.app <| Zl hk22 <| Run.region <| Mv 0 E3 <| Qp 1 E2 (QP.add64 rfl rfl rfl Og Og) <| Sg 2 E3 <| Sq.nil <| J.envJ (J.keep Tk6 (hl19 (i2 + 1) ((⟨(addR (toldB src) (tlvS x) x.l [] mtu).1, (addR (toldB src) (tlvS x) x.l [] mtu).2.1, b68, s75, a75, e75, q.os ++ [(⟨a60, (wrapL (addR q.td (tlvS x) x.l q.l mtu).2.1).length, c60, wrapL (addR q.td (tlvS x) x.l q.l mtu).2.1, rfl⟩ : SlX)], a66, c66⟩ : RlS)) (⟨by omega, by rw [List.map_append, List.map_cons, List.map_nil]; exact pk_new hq hi c53, addR_len (by simp; omega), by rw [List.length_append]; simp; omega⟩) (by omega))) ⟨rfl, rfl, rfl, rfl, rfl, rfl, trivial⟩
    ·refine Zl hk21 <| Zf <| Run.exit rfl <| hk17 _ _ <| Run.seq fun _ hk27 => Zs fun _ hk28 => Mv 0 E3 <| Qp 1 E2 (QP.len rfl rfl rfl Tryz.underlying24) <| Qp 2 E2 (QP.gtr rfl rfl rfl) <| J.caseD (fun c78 => ?_) (fun c78 => ?_)
     ·refine Zl hk28 <| Zt <| Zs fun _ hk29 => Mv 0 E3 <| Qp 1 E2 (Zn E2) <| Fa 2 E3 f69_0 <| Qq 3 E2 (QR.load1 (v := .slice q.ba q.l.length q.bc) rfl rfl g46 (Ref07Open.sub_b _)) ?_
      refine Ef 4 E2 (EF.call rfl ce23 rfl Tk1 (fun F' hle hr => Spec.lendSl (e := 5) (z := 1) (enc := bytE) (xs := q.l) (fun _ => rfl) (fun F2 _ hb2 => rpacket_spec F2 hb2 (by omega)))) ?_
      rintro _ _ ⟨_, ⟨_, ⟨v84, rfl, rfl⟩, rfl⟩, rfl⟩
      refine J.app <| Mv 5 E3 <| Qp 6 E2 (Zx E3) <| Qp 7 E2 (Zx E3) <| Sg 8 E3 <| Sg 9 E3 <| Zl hk29 <| Run.region <| Sq.slCase (v := v84) (xs := (wrapL q.l)) Rc (fun a84 c84 hv84 hh84 => ?_)
      subst hv84
      refine Mv 0 E3 <| Mv 1 E3 <| Ef 2 E2 (EF.buildSliceS rfl Tryz.underlying27 z46 zero46 rfl (by decide) rfl rfl rfl rfl) ?_
      rintro _ _ ⟨b89, rfl, rfl⟩
      refine Ef 3 E2 (EF.append1 (xs := q.os) (s := (⟨a84, (wrapL q.l).length, c84, wrapL q.l, rfl⟩ : SlX)) (enc := slE) el46 (fun _ => rfl) (fun _ => cell_one rfl) rfl rfl rfl Tryz.underlying27 Tryz.underlying27 rfl rfl Rc Rc (by omega)) ?_
      rintro sl90 _ rfl
      refine Sq.slCase (v := sl90) (xs := (q.os ++ [(⟨a84, (wrapL q.l).length, c84, wrapL q.l, rfl⟩ : SlX)])) Rc (fun a90 c90 hv90 hh90 => ?_)
      subst hv90
      refine J.close (A := rowsS (q.os ++ [(⟨a84, (wrapL q.l).length, c84, wrapL q.l, rfl⟩ : SlX)])) (m := [rowsS q.os, slB (⟨a84, (wrapL q.l).length, c84, wrapL q.l, rfl⟩ : SlX)]) Tk2 (fun _ q => rowsS_snoc q) ?_
      refine Sg 4 E3 <| Zl hk27 <| Zs fun _ hk30 => Mv 0 E3 <| Sg 1 E3 <| Sg 2 E3 <| Zl hk30 <| Run.ret ?_
      have hP0 : packErr src mtu ts = 0 := by rw [hPE, hz0]
      rw [hP0]
      exact J.ends (m := [slA 46 1 slE (.slice a90 (q.os ++ [(⟨a84, (wrapL q.l).length, c84, wrapL q.l, rfl⟩ : SlX)]).length c90) (q.os ++ [(⟨a84, (wrapL q.l).length, c84, wrapL q.l, rfl⟩ : SlX)]), rowsS (q.os ++ [(⟨a84, (wrapL q.l).length, c84, wrapL q.l, rfl⟩ : SlX)])]) (res_tmp2 rfl rfl rfl) Tk2 ⟨q.os ++ [(⟨a84, (wrapL q.l).length, c84, wrapL q.l, rfl⟩ : SlX)], a90, c90, rfl, by rw [List.map_append, List.map_cons, List.map_nil]; unfold packF; rw [hPE, hz0, if_neg (by decide)]; unfold flushF; rw [if_neg (by intro h; rw [List.map_eq_nil_iff] at h; rw [h] at c78; exact absurd c78 (by decide))]; rw [List.take_of_length_le (by omega)] at hq; rw [← hq], rfl⟩
     ·refine Zl hk28 <| Zf <| Run.skip <| hk27 _ _ <| Zs fun _ hk31 => Mv 0 E3 <| Sg 1 E3 <| Sg 2 E3 <| Zl hk31 <| Run.ret ?_
      obtain rfl : ts = [] := List.length_eq_zero_iff.1 (by have h9 : ¬ (ts.length : Int) > 0 := c78; omega)
      have hP0 : packErr src mtu ([] : List TlvX) = 0 := by rw [hPE, hz0]
      have hos : q.os = [] := List.length_eq_zero_iff.1 (by have h9 : i2 ≤ 0 := hile; omega)
      rw [hP0, hos]
      exact J.ends (m := [slA 46 1 slE (.slice q.oa ([] : List SlX).length q.oc) ([] : List SlX), rowsS ([] : List SlX)]) (res_tmp2 rfl rfl rfl) Tk2 ⟨[], q.oa, q.oc, rfl, by unfold packF; rw [hP0, if_neg (by decide)]; rfl, rfl⟩
end Slb
