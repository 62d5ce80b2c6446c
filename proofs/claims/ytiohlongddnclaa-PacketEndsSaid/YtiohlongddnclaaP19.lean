/- P19: a part of the proof that a law of this package holds for every input; no condition. -/
import Derived.Test.YtiohlongddnclaaM2
import Derived.Test.YtiohlongddnclaaP28
import Derived.Test.YtiohlongddnclaaP17
namespace Slb
open Go Go.Proofs
set_option maxRecDepth 20000
set_option maxHeartbeats 2000000 in
theorem law_goes (F : Fr) (src : Bs 16) {a1 a2 : Option Addr} {c1 c2 : Nat} {xs ys : List UInt8} (ha : ArgSl F a1 1 bytE xs) (hb : ArgSl F a2 1 bytE ys) (hsum : xs.length + ys.length ≤ 9223372036854775807)  : Spec Try.prog 5 #[.agg (Bs.enc src).toArray, .slice a1 xs.length c1, .slice a2 ys.length c2] [] F (fun v S => v = .bool true ∧ S = []) := by
 refine Spec.intro (N := 57) (args := [.agg (Bs.enc src).toArray, .slice a1 xs.length c1, .slice a2 ys.length c2]) Try.func5 rfl rfl (by simp) ?_
 refine Run.seq fun k1 hk1 => Run.region ?_
 show Sq _ _ _ [0, 1] _ _ _ _
 refine Ef 0 rfl rfl (EF.boxA rfl rfl) ?_
 rintro _ _ ⟨b3, rfl, rfl⟩
 refine Sg 1 rfl rfl rfl <| Sq.nil <| hk1 _ _ <| Run.seq fun k2 hk2 => Run.seq fun k3 hk3 => Run.region ?_
 show Sq _ _ _ [0, 1, 2, 3, 4, 5] _ _ _ _
 refine Mv 0 rfl rfl rfl <| Qp 1 rfl rfl (QP.len rfl rfl rfl Try.underlying24) <| Mv 2 rfl rfl rfl <| Qp 3 rfl rfl (QP.len rfl rfl rfl Try.underlying24) <| Qp 4 rfl rfl (QP.add64 rfl rfl rfl Og Og) <| Qp 5 rfl rfl (QP.gtr rfl rfl rfl) <| J.caseD (fun c16 => ?_) (fun c16 => ?_)
 ·refine Sq.nil <| hk3 _ _ <| Run.cond_t rfl <| Run.seq fun k4 hk4 => Run.region ?_
  show Sq _ _ _ [0, 1] _ _ _ _
  refine Ef 0 rfl rfl (EF.call rfl ce7 rfl Takes.nil (fun F' hle hr => live_spec F')) ?_
  rintro _ _ ⟨_, ⟨rfl, rfl⟩, rfl⟩
  refine J.app ?_
  refine Sg 1 rfl rfl rfl <| Sq.nil <| hk4 _ _ <| Run.ret ?_
  exact J.ends (res_tmp rfl rfl) Takes.nil ⟨rfl, rfl⟩
 ·refine Sq.nil <| hk3 _ _ <| Run.cond_f rfl <| Run.skip <| hk2 _ _ <| Run.seq fun k5 hk5 => Run.regionM (M := [0, 0, 2, 6, 15, 31, 63, 63, 127, 511]) (q := 231) (r := 5) mixedT Kr ?_
  have h5 : xs.length + ys.length ≤ 5000 := by have := c16; omega
  refine Dr 0 rfl rfl (QR.load rfl rfl g23 (Bs.sub _)) ?_
  refine Dp 1 rfl rfl (QP.move rfl rfl) <| Dr 2 rfl rfl (QR.strSl (xs := xs) rfl rfl Try.underlying24 Try.underlying5 Try.underlying9 (argSl_load (fun _ => rfl) ha) rfl) ?_
  refine De 3 <| Om [0] rfl rfl (EF.call rfl ce12 rfl Takes.nil (fun F' hle hr => wrap_spec F' _ xs rfl (by omega))) ?_
  rintro v22 _ ⟨_, rfl, rfl⟩
  refine ⟨?_, ?_⟩
  ·rw [List.forall_mem_cons]
   refine ⟨?_, fun _ h => (by cases h)⟩
   ·refine Look.app ?_
    exact Look.mk rfl rfl rfl (QR.load rfl rfl g23 (Bs.sub _))
  refine ?_
  refine J.app ?_
  refine Dw.slCase (v := v22) (xs := (wrapL xs)) Rc (fun a22 c22 hv22 hh22 => ?_)
  subst hv22
  refine De 4 <| Om [] rfl rfl (EF.call rfl ce8 rfl Tk1 (fun F' hle hr => Spec.lendSl (e := 5) (z := 1) (enc := bytE) (xs := (wrapL xs)) (fun _ => rfl) (fun F2 _ h2 => parse_spec F2 src (by rw [wrap_len]; omega) h2))) ?_
  rintro _ _ ⟨_, ⟨_, ⟨ts1, va1, rfl, hm1, rfl⟩, rfl⟩, rfl⟩
  refine ⟨fun _ h => (by cases h), ?_⟩
  refine J.app ?_
  refine Dp 5 rfl rfl (QP.move rfl rfl) <| Dp 6 rfl rfl (QP.extract rfl rfl rfl) <| Dp 7 rfl rfl (QP.extract rfl rfl rfl) <| De 8 <| Om [] rfl rfl ((QP.assign rfl rfl).eff) ?_
  rintro va1 _ ⟨rfl, rfl⟩
  refine ⟨fun _ h => (by cases h), ?_⟩
  refine De 9 <| Om [] rfl rfl ((QP.assign rfl rfl).eff) ?_
  rintro _ _ ⟨rfl, rfl⟩
  refine ⟨fun _ h => (by cases h), ?_⟩
  refine Dn <| hk5 _ _ <| Run.seq fun k6 hk6 => Run.regionM (M := [0, 0, 2, 0, 8, 30, 62, 127, 255, 511, 511, 1023, 4095]) (q := 1855) (r := 21) mixedT Kr ?_
  refine Dr 0 rfl rfl (QR.load rfl rfl g23 (Bs.sub _)) ?_
  refine Dp 1 rfl rfl (QP.move rfl rfl) <| Dr 2 rfl rfl (QR.strSl (xs := xs) rfl rfl Try.underlying24 Try.underlying5 Try.underlying9 (argSl_load (fun _ => rfl) ha) rfl) ?_
  refine Dp 3 rfl rfl (QP.move rfl rfl) <| Dr 4 rfl rfl (QR.strSl (xs := ys) rfl rfl Try.underlying24 Try.underlying5 Try.underlying9 (argSl_load (fun _ => rfl) hb) rfl) ?_
  refine Dp 5 rfl rfl (QP.addS rfl rfl rfl (by show xs.length + ys.length ≤ _; omega)) <| De 6 <| Om [0] rfl rfl (EF.call rfl ce12 rfl Takes.nil (fun F' hle hr => wrap_spec F' _ (xs ++ ys) (app_data xs ys) (by rw [List.length_append]; omega))) ?_
  rintro v33 _ ⟨_, rfl, rfl⟩
  refine ⟨?_, ?_⟩
  ·rw [List.forall_mem_cons]
   refine ⟨?_, fun _ h => (by cases h)⟩
   ·refine Look.app ?_
    exact Look.mk rfl rfl rfl (QR.load rfl rfl g23 (Bs.sub _))
  refine ?_
  refine J.app ?_
  refine Dw.slCase (v := v33) (xs := (wrapL (xs ++ ys))) Rc (fun a33 c33 hv33 hh33 => ?_)
  subst hv33
  refine De 7 <| Om [] rfl rfl (EF.call rfl ce8 rfl Tk1 (fun F' hle hr => Spec.lendSl (e := 5) (z := 1) (enc := bytE) (xs := (wrapL (xs ++ ys))) (fun _ => rfl) (fun F2 _ h2 => parse_spec F2 src (by rw [wrap_len, List.length_append]; omega) h2))) ?_
  rintro _ _ ⟨_, ⟨_, ⟨ts2, va2, rfl, hm2, rfl⟩, rfl⟩, rfl⟩
  refine ⟨fun _ h => (by cases h), ?_⟩
  refine J.app ?_
  refine Dp 8 rfl rfl (QP.move rfl rfl) <| Dp 9 rfl rfl (QP.extract rfl rfl rfl) <| Dp 10 rfl rfl (QP.extract rfl rfl rfl) <| De 11 <| Om [] rfl rfl ((QP.assign rfl rfl).eff) ?_
  rintro va2 _ ⟨rfl, rfl⟩
  refine ⟨fun _ h => (by cases h), ?_⟩
  refine De 12 <| Om [] rfl rfl ((QP.assign rfl rfl).eff) ?_
  rintro _ _ ⟨rfl, rfl⟩
  refine ⟨fun _ h => (by cases h), ?_⟩
  refine Dn <| hk6 _ _ <| Run.seq fun k7 hk7 => Run.seq fun k8 hk8 => Run.region ?_
  show Sq _ _ _ [0, 1, 2] _ _ _ _
  refine Mv 0 rfl rfl rfl <| Ef 1 rfl rfl (EF.call rfl ce9 rfl Takes.nil (fun F' hle hr => num6_spec F' _)) ?_
  rintro _ _ ⟨_, ⟨rfl, rfl⟩, rfl⟩
  refine J.app ?_
  refine Qp 2 rfl rfl (QP.neq rfl rfl rfl) <| J.caseD (fun c39 => ?_) (fun c39 => ?_)
  ·refine Sq.nil <| hk8 _ _ <| Run.cond_t rfl <| Run.seq fun k9 hk9 => Run.region ?_
   show Sq _ _ _ [0, 1] _ _ _ _
   refine Ef 0 rfl rfl (EF.call rfl ce7 rfl Takes.nil (fun F' hle hr => live_spec F')) ?_
   rintro _ _ ⟨_, ⟨rfl, rfl⟩, rfl⟩
   refine J.app ?_
   refine Sg 1 rfl rfl rfl <| Sq.nil <| hk9 _ _ <| Run.ret ?_
   exact J.ends (res_tmp rfl rfl) Takes.nil ⟨rfl, rfl⟩
  ·refine Sq.nil <| hk8 _ _ <| Run.cond_f rfl <| Run.skip <| hk7 _ _ <| Run.seq fun k10 hk10 => Run.region ?_
   show Sq _ _ _ [0, 1, 2, 3, 4, 5, 6, 7, 8, 9, 10, 11, 12, 13, 14, 15, 16] _ _ _ _
   refine Sq.slCase (v := va1) (xs := ts1) Rc (fun ap1 cp1 hvp1 hhp1 => ?_)
   subst hvp1
   refine Sq.slCase (v := va2) (xs := ts2) Rc (fun ap2 cp2 hvp2 hhp2 => ?_)
   subst hvp2
   obtain ⟨r, hr⟩ := goes_law (src := src) (a := xs) (b := ys) (by omega) (Classical.not_not.1 c39)
   have hmm : ts2.map tlvM = ts1.map tlvM ++ r := by rw [hm2, hr, hm1]
   have hn2 : ts1.length ≤ ts2.length := by have := congrArg List.length hmm; simp only [List.length_map, List.length_append] at this; omega
   have hf1 : ts1.length ≤ 4294967296 := parse_len hm1 (by rw [wrap_len]; omega)
   refine Mv 0 rfl rfl rfl <| Qp 1 rfl rfl (QP.len rfl rfl rfl Try.underlying26) <| Mv 2 rfl rfl rfl <| Qp 3 rfl rfl (QP.len rfl rfl rfl Try.underlying26) <| Qp 4 rfl rfl (QP.geq rfl rfl rfl) <| J.decT (by omega) ?_
   refine Mv 5 rfl rfl rfl <| Ym 6 rfl rfl rfl rfl <| Ym 7 rfl rfl rfl rfl <| Ym 8 rfl rfl rfl rfl <| Yp 9 rfl rfl rfl (QP.len rfl rfl rfl Try.underlying26) <| Yp 10 rfl rfl rfl (QP.sliceHi0 hhp2.at rfl rfl rfl Try.underlying26 z41 (by omega) (by have := hhp2.le; omega)) ?_
   rw [show ((ts1.length : Nat) : Int).toNat = ts1.length from rfl]
   refine Ye 11 rfl rfl rfl (EF.call rfl ce11 rfl Tk4 (fun F' hle hr => samesO F' (n := ts1.length) (c2 := cp2) hn2 hf1 (fun x hx => Nat.le_trans (parse_few hm1 x hx) (by decide)))) ?_
   rintro _ _ ⟨_, ⟨bb, rfl, hbb, rfl⟩, rfl⟩
   refine J.app ?_
   refine J.boolT (hbb.2 (by rw [List.map_take, hmm, List.take_left' (by rw [List.length_map])])) ?_
   refine Pt 12 rfl rfl rfl rfl <| Mv 13 rfl rfl rfl <| Ye 14 rfl rfl rfl (EF.call rfl ce7 rfl Takes.nil (fun F' hle hr => live_spec F')) ?_
   rintro _ _ ⟨_, ⟨rfl, rfl⟩, rfl⟩
   refine J.app ?_
   refine Pt 15 rfl rfl rfl rfl <| Sg 16 rfl rfl rfl <| Sq.nil <| hk10 _ _ <| Run.ret ?_
   exact J.ends (res_tmp rfl rfl) Takes.nil ⟨rfl, rfl⟩
end Slb
