/- P22: a part of the proof that a law of this package holds for every input; no condition. -/
import Derived.Test.YtiohlongddnclaaM2
import Derived.Test.YtiohlongddnclaaP21
namespace Slb
open Go Go.Proofs
set_option maxRecDepth 20000
theorem four_cons {xs : List UInt8} (h : 4 ≤ xs.length) : ∃ a b c d l, xs = a :: b :: c :: d :: l := by
  match xs, h with
  | a :: b :: c :: d :: l, _ => exact ⟨a, b, c, d, l, rfl⟩
theorem head_len {c : UInt8} : IntKind.i64.wrap ((c.toNat : Int) * 2 ^ (8 : Int).toNat) = (c.toNat * 256 : Nat) := by
  have := c.toNat_lt
  rw [show ((c.toNat : Int) * 2 ^ (8 : Int).toNat) = ((c.toNat * 256 : Nat) : Int) by rw [show (2 : Int) ^ (8 : Int).toNat = 256 from rfl]; omega, wrap_i64 (by omega) (by omega)]

set_option maxHeartbeats 2000000 in
theorem law_ends (F : Fr) (src : Bs 16) {a1 a2 : Option Addr} {c1 c2 : Nat} {xs ys : List UInt8} (ha : ArgSl F a1 1 bytE xs) (hb : ArgSl F a2 1 bytE ys) (hsum : xs.length + ys.length ≤ 9223372036854775807)  : Spec Try.prog 3 #[.agg (Bs.enc src).toArray, .slice a1 xs.length c1, .slice a2 ys.length c2] [] F (fun v S => v = .bool true ∧ S = []) := by
 refine Spec.intro (N := 81) (args := [.agg (Bs.enc src).toArray, .slice a1 xs.length c1, .slice a2 ys.length c2]) Try.func3 rfl rfl (by simp) ?_
 refine Run.seq fun k1 hk1 => Run.region ?_
 show Sq _ _ _ [0, 1] _ _ _ _
 refine Ef 0 rfl rfl (EF.boxA rfl rfl) ?_
 rintro _ _ ⟨b3, rfl, rfl⟩
 refine Sg 1 rfl rfl rfl <| Sq.nil <| hk1 _ _ <| Run.seq fun k2 hk2 => Run.seq fun k3 hk3 => Run.region ?_
 show Sq _ _ _ [0, 1, 2, 3, 4, 5] _ _ _ _
 refine Mv 0 rfl rfl rfl <| Qp 1 rfl rfl (QP.len rfl rfl rfl Try.underlying24) <| Mv 2 rfl rfl rfl <| Qp 3 rfl rfl (QP.len rfl rfl rfl Try.underlying24) <| Qp 4 rfl rfl (QP.add64 rfl rfl rfl Og Og) <| Qp 5 rfl rfl (QP.gtr rfl rfl rfl) <| J.caseD (fun c17 => ?_) (fun c17 => ?_)
 ·refine Sq.nil <| hk3 _ _ <| Run.cond_t rfl <| Run.seq fun k4 hk4 => Run.region ?_
  show Sq _ _ _ [0, 1] _ _ _ _
  refine Ef 0 rfl rfl (EF.call rfl ce7 rfl Takes.nil (fun F' hle hr => live_spec F')) ?_
  rintro _ _ ⟨_, ⟨rfl, rfl⟩, rfl⟩
  refine J.app ?_
  refine Sg 1 rfl rfl rfl <| Sq.nil <| hk4 _ _ <| Run.ret ?_
  exact J.ends (res_tmp rfl rfl) Takes.nil ⟨rfl, rfl⟩
 ·refine Sq.nil <| hk3 _ _ <| Run.cond_f rfl <| Run.skip <| hk2 _ _ <| Run.seq fun k5 hk5 => Run.region ?_
  show Sq _ _ _ [0, 1, 2, 3, 4, 5, 6, 7] _ _ _ _
  have h5 : xs.length + ys.length ≤ 5000 := by have := c17; omega
  refine Qq 0 rfl rfl (QR.load rfl rfl g23 (Bs.sub _)) ?_
  refine Mv 1 rfl rfl rfl <| Ef 2 rfl rfl (EF.call rfl ce8 rfl Takes.nil (fun F' hle hr => parse_spec F' src (by omega) (ha.mono hle))) ?_
  rintro _ _ ⟨_, ⟨ts1, va1, rfl, hm1, rfl⟩, rfl⟩
  refine J.app ?_
  refine Mv 3 rfl rfl rfl <| Qp 4 rfl rfl (QP.extract rfl rfl rfl) <| Qp 5 rfl rfl (QP.extract rfl rfl rfl) <| Sg 6 rfl rfl rfl <| Sg 7 rfl rfl rfl <| Sq.nil <| hk5 _ _ <| Run.seq fun k6 hk6 => Run.seq fun k7 hk7 => Run.region ?_
  show Sq _ _ _ [0] _ _ _ _
  refine Sq.slCase (v := va1) (xs := ts1) Rc (fun ap1 cp1 hvp1 hhp1 => ?_)
  subst hvp1
  have hchk := parse_chk hm1
  have hf1 : ts1.length ≤ 4294967296 := parse_len hm1 (by omega)
  refine Sg 0 rfl rfl rfl <| Sq.nil <| hk7 _ _ <| Run.block <| Run.loop1 (fun (i : Nat) => i ≤ ts1.length) (fun i => .cons 1 (.slice a1 xs.length c1) (.cons 2 (.slice a2 ys.length c2) (.cons 3 (fp b3) (.cons 7 (.slice ap1 ts1.length cp1) (.cons 8 (.int .i64 (parseF src xs).2) (.cons 9 (.int .i64 i) (.nil))))))) (fun i => [blk b3 (Bs.enc src) 23, slA 41 68 tlvE (.slice ap1 ts1.length cp1) ts1, rowsT ts1]) (fun i => ts1.length - i) (0) (Nat.zero_le _) ?_ ?_
  ·exact fun _ j => J.envJ (J.keep Tk3 j) ⟨rfl, rfl, rfl, rfl, rfl, rfl, trivial⟩
  rintro i hile kl8 hl8
  refine Run.seq fun k9 hk9 => Run.seq fun k10 hk10 => Run.region ?_
  show Sq _ _ _ [0, 1, 2, 3] _ _ _ _
  refine Mv 0 rfl rfl rfl <| Mv 1 rfl rfl rfl <| Qp 2 rfl rfl (QP.len rfl rfl rfl Try.underlying26) <| Qp 3 rfl rfl (QP.lss rfl rfl rfl) <| J.caseD (fun c28 => ?_) (fun c28 => ?_)
  ·refine Sq.nil <| hk10 _ _ <| Run.cond_t rfl <| Run.skip <| hk9 _ _ <| Run.seq fun k11 hk11 => Run.block <| Run.seq fun k12 hk12 => Run.region ?_
   show Sq _ _ _ [0, 1, 2, 3, 4, 5, 6] _ _ _ _
   obtain ⟨y, hi⟩ : ∃ y, ts1[i]? = some y := ⟨_, List.getElem?_eq_getElem (by omega)⟩
   obtain ⟨q1, o1, rfl⟩ := hhp1.get (by omega)
   refine Mv 0 rfl rfl rfl <| Mv 1 rfl rfl rfl <| Qp 2 rfl rfl (QP.indexAddr rfl rfl rfl Try.underlying26 z41 Og Og) <| Qq 3 rfl rfl (QR.loadSl (y := y) rfl rfl g41 tlvE_len (SlAt.own tlvE_len Rc) hi) ?_
   refine Ef 4 rfl rfl (EF.call rfl ce10 rfl Takes.nil (fun F' hle hr => check_tlv F' (tlvS y))) ?_
   rintro _ _ ⟨_, ⟨rfl, rfl⟩, rfl⟩
   refine J.app ?_
   rw [hchk y (List.mem_of_getElem? hi)]
   refine Ef 5 rfl rfl (EF.call rfl ce9 rfl Takes.nil (fun F' hle hr => num6_spec F' _)) ?_
   rintro _ _ ⟨_, ⟨rfl, rfl⟩, rfl⟩
   refine J.app ?_
   refine Qp 6 rfl rfl (QP.neq rfl rfl rfl) <| Sq.nil <| hk12 _ _ <| Run.cond_f rfl <| Run.skip <| hk11 _ _ <| Run.region ?_
   show Sq _ _ _ [0, 1, 2] _ _ _ _
   refine Mv 0 rfl rfl rfl <| Qp 1 rfl rfl (QP.add64 rfl rfl rfl Og Og) <| Sg 2 rfl rfl rfl <| Sq.nil ?_
   exact J.envJ (J.keep Tk3 (hl8 (i + 1) (by omega) (by omega))) ⟨rfl, rfl, rfl, rfl, rfl, rfl, trivial⟩
  ·refine Sq.nil <| hk10 _ _ <| Run.cond_f rfl <| Run.exit rfl ?_
   refine hk6 _ _ <| Run.seq fun k13 hk13 => Run.seq fun k14 hk14 => Run.regionD (M := [0, 1, 3, 7, 15, 31, 15, 79, 207, 463, 975, 1999, 15, 4111, 12303, 28687, 65487, 131071, 262143]) (q := 524287) (r := 16640) Kr ?_
   refine Dp 0 rfl rfl (QP.move rfl rfl) <| Dp 1 rfl rfl (QP.len rfl rfl rfl Try.underlying24) <| Dp 2 rfl rfl (QP.lss rfl rfl rfl) <| J.caseD (fun c40 => ?_) (fun c40 => ?_)
   ·refine Dp 3 rfl rfl (QP.move rfl rfl) <| Ds 4 rfl rfl rfl <| Ds 5 rfl rfl rfl <| Ds 6 rfl rfl rfl <| Ds 7 rfl rfl rfl <| Ds 8 rfl rfl rfl <| Ds 9 rfl rfl rfl <| Ds 10 rfl rfl rfl <| Ds 11 rfl rfl rfl <| Ds 12 rfl rfl rfl <| Ds 13 rfl rfl rfl <| Ds 14 rfl rfl rfl <| Ds 15 rfl rfl rfl <| Ds 16 rfl rfl rfl <| Ds 17 rfl rfl rfl <| Dp 18 rfl rfl (QP.pick_t rfl rfl rfl) <| Dn <| hk14 _ _ <| Run.cond_t rfl <| Run.seq fun k15 hk15 => Run.region ?_
    show Sq _ _ _ [0, 1] _ _ _ _
    refine Ef 0 rfl rfl (EF.call rfl ce7 rfl Takes.nil (fun F' hle hr => live_spec F')) ?_
    rintro _ _ ⟨_, ⟨rfl, rfl⟩, rfl⟩
    refine J.app ?_
    refine Sg 1 rfl rfl rfl <| Sq.nil <| hk15 _ _ <| Run.ret ?_
    exact J.ends (res_tmp rfl rfl) Takes.nil ⟨rfl, rfl⟩
   ·refine Dp 3 rfl rfl (QP.move rfl rfl) <| Dy 4 rfl rfl rfl (QP.move rfl rfl) <| Dy 5 rfl rfl rfl (QP.len rfl rfl rfl Try.underlying24) <| Dy 6 rfl rfl rfl (QP.move rfl rfl) ?_
    obtain ⟨a0, b0, cb, db, l0, hxs⟩ := four_cons (xs := xs) (by omega)
    have hcb : xs[2]? = some cb := by rw [hxs]; rfl
    have hdb : xs[3]? = some db := by rw [hxs]; rfl
    obtain ⟨q2, o2, rfl, hs1⟩ := ha.get (by omega)
    have hcl := cb.toNat_lt
    have hdl := db.toNat_lt
    have hl0 : xs.length = 4 + l0.length := by rw [hxs]; simp only [List.length_cons]; omega
    refine Dy 7 rfl rfl rfl (QP.indexAddr rfl rfl rfl Try.underlying24 z5 Og Og) <| Dz 8 rfl rfl rfl (QR.loadSl1 (ev := byteV) rfl rfl g5 (hs1 _) (i := 2) hcb) ?_
    refine Dy 9 rfl rfl rfl (QP.conv rfl rfl Try.underlying5 Try.underlying3) ?_
    rw [wrap_i64 (n := (cb.toNat : Int)) (by omega) (by omega)]
    refine Dy 10 rfl rfl rfl (QP.shl64 rfl rfl rfl Og Og) ?_
    rw [head_len]
    refine Dy 11 rfl rfl rfl (QP.add64 rfl rfl rfl Og Og) <| Dy 12 rfl rfl rfl (QP.move rfl rfl) <| Dy 13 rfl rfl rfl (QP.indexAddr rfl rfl rfl Try.underlying24 z5 Og Og) <| Dz 14 rfl rfl rfl (QR.loadSl1 (ev := byteV) rfl rfl g5 (hs1 _) (i := 3) hdb) ?_
    refine Dy 15 rfl rfl rfl (QP.conv rfl rfl Try.underlying5 Try.underlying3) ?_
    rw [wrap_i64 (n := (db.toNat : Int)) (by omega) (by omega)]
    refine Dy 16 rfl rfl rfl (QP.add64 rfl rfl rfl Og Og) <| Dy 17 rfl rfl rfl (QP.neq rfl rfl rfl) <| J.caseD (fun c55 => ?_) (fun c55 => ?_)
    ·refine Dp 18 rfl rfl (QP.pick_f rfl rfl rfl) <| Dn <| hk14 _ _ <| Run.cond_t rfl <| Run.seq fun k16 hk16 => Run.region ?_
     show Sq _ _ _ [0, 1] _ _ _ _
     refine Ef 0 rfl rfl (EF.call rfl ce7 rfl Takes.nil (fun F' hle hr => live_spec F')) ?_
     rintro _ _ ⟨_, ⟨rfl, rfl⟩, rfl⟩
     refine J.app ?_
     refine Sg 1 rfl rfl rfl <| Sq.nil <| hk16 _ _ <| Run.ret ?_
     exact J.ends (res_tmp rfl rfl) Takes.nil ⟨rfl, rfl⟩
    ·refine Dp 18 rfl rfl (QP.pick_f rfl rfl rfl) <| Dn <| hk14 _ _ <| Run.cond_f rfl <| Run.skip <| hk13 _ _ <| Run.seq fun k17 hk17 => Run.regionM (M := [0, 0, 0, 6, 0, 30, 63, 127, 255, 255, 511, 2047]) (q := 917) (r := 1) mixedT Kr ?_
     have hlen : l0.length = cb.toNat * 256 + db.toNat := by have h9 : (xs.length : Int) = (4 + (cb.toNat * 256 : Nat)) + (db.toNat : Int) := Classical.not_not.1 c55; omega
     refine Dr 0 rfl rfl (QR.load rfl rfl g23 (Bs.sub _)) ?_
     refine Dp 2 rfl rfl (QP.move rfl rfl) <| Dp 4 rfl rfl (QP.move rfl rfl) <| De 1 <| Om [0] rfl rfl (EF.buildSlice0 (enc := bytE) rfl Try.underlying24 z5 zero5 (by simp [Value.cells]) (by decide)) ?_
     rintro _ _ ⟨b60, rfl, rfl⟩
     refine ⟨?_, ?_⟩
     ·rw [List.forall_mem_cons]
      refine ⟨?_, fun _ h => (by cases h)⟩
      ·exact Look.mk rfl rfl rfl (QR.load rfl rfl g23 (Bs.sub _))
     refine ?_
     refine De 3 <| Om [0] rfl rfl (EF.appendArg (xs := ([] : List UInt8)) (ys := xs) el5 (fun _ => rfl) (fun _ => cell_one rfl) rfl rfl rfl Try.underlying24 Try.underlying24 rfl rfl Rc ha (by simp; omega)) ?_
     rintro sl62 _ rfl
     refine ⟨?_, ?_⟩
     ·rw [List.forall_mem_cons]
      refine ⟨?_, fun _ h => (by cases h)⟩
      ·exact Look.mk rfl rfl rfl (QR.load rfl rfl g23 (Bs.sub _))
     refine ?_
     refine De 5 <| Om [0] rfl rfl (EF.appendArg (xs := [] ++ xs) (ys := ys) el5 (fun _ => rfl) (fun _ => cell_one rfl) rfl rfl rfl Try.underlying24 Try.underlying24 rfl rfl Rc hb (by simp; omega)) ?_
     rintro sl64 _ rfl
     refine ⟨?_, ?_⟩
     ·rw [List.forall_mem_cons]
      refine ⟨?_, fun _ h => (by cases h)⟩
      ·exact Look.mk rfl rfl rfl (QR.load rfl rfl g23 (Bs.sub _))
     refine ?_
     rw [List.nil_append]
     refine Dw.slCase (v := sl64) (xs := (xs ++ ys)) Rc (fun a64 c64 hv64 hh64 => ?_)
     subst hv64
     refine De 6 <| Om [] rfl rfl (EF.call rfl ce8 rfl Tk1 (fun F' hle hr => Spec.lendSl (e := 5) (z := 1) (enc := bytE) (xs := (xs ++ ys)) (fun _ => rfl) (fun F2 _ h2 => parse_spec F2 src (by rw [List.length_append]; omega) h2))) ?_
     rintro _ _ ⟨_, ⟨_, ⟨ts2, va2, rfl, hm2, rfl⟩, rfl⟩, rfl⟩
     refine ⟨fun _ h => (by cases h), ?_⟩
     refine J.app ?_
     refine Dp 7 rfl rfl (QP.move rfl rfl) <| Dp 8 rfl rfl (QP.extract rfl rfl rfl) <| Dp 9 rfl rfl (QP.extract rfl rfl rfl) <| De 10 <| Om [] rfl rfl ((QP.assign rfl rfl).eff) ?_
     rintro va2 _ ⟨rfl, rfl⟩
     refine ⟨fun _ h => (by cases h), ?_⟩
     refine De 11 <| Om [] rfl rfl ((QP.assign rfl rfl).eff) ?_
     rintro _ _ ⟨rfl, rfl⟩
     refine ⟨fun _ h => (by cases h), ?_⟩
     refine Dn <| hk17 _ _ <| Run.seq fun k18 hk18 => Run.region ?_
     show Sq _ _ _ [0, 1, 2, 3, 4, 5, 6, 7, 8, 9, 10, 11, 12, 13] _ _ _ _
     refine Sq.slCase (v := va2) (xs := ts2) Rc (fun ap2 cp2 hvp2 hhp2 => ?_)
     subst hvp2
     have hP : parseF src (xs ++ ys) = parseF src xs := by rw [hxs]; exact ends_law hlen
     have hmm : ts2.map tlvM = ts1.map tlvM := by rw [hm2, hP, hm1]
     refine Mv 0 rfl rfl rfl <| Mv 1 rfl rfl rfl <| Ef 2 rfl rfl (EF.call rfl ce11 rfl Tk4 (fun F' hle hr => samesO F' (n := ts2.length) (c2 := cp2) (Nat.le_refl _) hf1 (fun x hx => Nat.le_trans (parse_few hm1 x hx) (by decide)))) ?_
     rintro _ _ ⟨_, ⟨bb, rfl, hbb, rfl⟩, rfl⟩
     refine J.app ?_
     refine J.boolT (hbb.2 (by rw [List.take_length, hmm])) ?_
     refine Mv 3 rfl rfl rfl <| Ym 4 rfl rfl rfl rfl <| Ye 5 rfl rfl rfl (EF.call rfl ce9 rfl Takes.nil (fun F' hle hr => num6_spec F' _)) ?_
     rintro _ _ ⟨_, ⟨rfl, rfl⟩, rfl⟩
     refine J.app ?_
     refine Ym 6 rfl rfl rfl rfl <| Ye 7 rfl rfl rfl (EF.call rfl ce9 rfl Takes.nil (fun F' hle hr => num6_spec F' _)) ?_
     rintro _ _ ⟨_, ⟨rfl, rfl⟩, rfl⟩
     refine J.app ?_
     refine Yp 8 rfl rfl rfl (QP.eql rfl rfl rfl) <| J.decT (by rw [hP]) ?_
     refine Pt 9 rfl rfl rfl rfl <| Mv 10 rfl rfl rfl <| Ye 11 rfl rfl rfl (EF.call rfl ce7 rfl Takes.nil (fun F' hle hr => live_spec F')) ?_
     rintro _ _ ⟨_, ⟨rfl, rfl⟩, rfl⟩
     refine J.app ?_
     refine Pt 12 rfl rfl rfl rfl <| Sg 13 rfl rfl rfl <| Sq.nil <| hk18 _ _ <| Run.ret ?_
     exact J.ends (res_tmp rfl rfl) Takes.nil ⟨rfl, rfl⟩
end Slb
