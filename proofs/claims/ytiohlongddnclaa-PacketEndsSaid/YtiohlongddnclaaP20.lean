/- P20: a part of the proof that a law of this package holds for every input; no condition. -/
import Derived.Test.YtiohlongddnclaaM2
import Derived.Test.YtiohlongddnclaaP19
namespace Slb
open Go Go.Proofs
set_option maxRecDepth 20000
theorem own_loadN {S : List HProp} {F : Fr} {P : Program} {α : Type} {enc : α → List Value} {e : TypeId} {z n : Nat} {a : Option Addr} {c : Nat} {xs : List α} (hl : ∀ x, (enc x).length = z) (h : slA e z enc (.slice a n c) xs ∈ S) (hn : n = xs.length) : ∀ w, Sat S F w → (Builtin.firstCells z n (.slice a n c)).run P w = .ok (xs.flatMap enc).toArray w := by
  subst hn
  exact own_load hl h
theorem lit_load {S : List HProp} {F : Fr} {P : Program} {b n c : Nat} {xs : List UInt8} {ty : TypeId} (h : blk b (bytesV xs) ty ∈ S) (hn : n = xs.length) : ∀ w, Sat S F w → (Builtin.firstCells 1 n (.slice (some ⟨b, 0, none⟩) n c)).run P w = .ok (xs.flatMap bytE).toArray w := fun w s => by
  subst hn
  have h1 := (RowsAt.lit (F := F) (c := c) h).load (P := P) s
  rwa [← flat_byt] at h1
theorem app4_data (n : Nat) (k : UInt8) (ys xs : List UInt8) : ((((⟨(List.replicate n (0 : UInt8)).toArray⟩ : ByteArray) ++ ⟨[k, UInt8.ofNat ys.length].toArray⟩) ++ ⟨ys.toArray⟩) ++ ⟨xs.toArray⟩).data.toList = frontL n k ys ++ xs := by
  unfold frontL; simp
theorem front_len (n : Nat) (k : UInt8) (ys : List UInt8) : (frontL n k ys).length = n + 2 + ys.length := by unfold frontL; simp; omega
theorem app3_size (a b c : List UInt8) : (((⟨a.toArray⟩ : ByteArray) ++ ⟨b.toArray⟩) ++ ⟨c.toArray⟩).size = a.length + b.length + c.length := by rw [ByteArray.size_append, ByteArray.size_append]; rfl

set_option maxHeartbeats 2000000 in
theorem law_pads (F : Fr) (src : Bs 16) {a1 a2 : Option Addr} {c1 c2 : Nat} {xs ys : List UInt8} (ha : ArgSl F a1 1 bytE xs) (hb : ArgSl F a2 1 bytE ys) (pads : Int) (k : UInt8)  : Spec Try.prog 4 #[.agg (Bs.enc src).toArray, .slice a1 xs.length c1, .int .i64 pads, .int .u8 (k.toNat : Int), .slice a2 ys.length c2] [] F (fun v S => v = .bool true ∧ S = []) := by
 refine Spec.intro (N := 85) (args := [.agg (Bs.enc src).toArray, .slice a1 xs.length c1, .int .i64 pads, .int .u8 (k.toNat : Int), .slice a2 ys.length c2]) Try.func4 rfl rfl (by simp) ?_
 refine Run.seq fun k1 hk1 => Run.region ?_
 show Sq _ _ _ [0, 1] _ _ _ _
 refine Ef 0 rfl rfl (EF.boxA rfl rfl) ?_
 rintro _ _ ⟨b5, rfl, rfl⟩
 refine Sg 1 rfl rfl rfl <| Sq.nil <| hk1 _ _ <| Run.cut1 (fun (n : Nat) => xs.length ≤ 5000 ∧ pads = (n : Int) ∧ n ≤ 50 ∧ ys.length ≤ 200 ∧ (k.toNat = 1 ∨ 10 < k.toNat)) (fun n => .cons 1 (.slice a1 xs.length c1) (.cons 2 (.int .i64 (n : Int)) (.cons 3 (.int .u8 (k.toNat : Int)) (.cons 4 (.slice a2 ys.length c2) (.cons 5 (fp b5) (.nil)))))) (fun n => [blk b5 (Bs.enc src) 23]) ?_ ?_
 ·rintro n ⟨hx5, hpn, hn5, hy2, hk⟩
  refine Run.seq fun k3 hk3 => Run.regionD (M := [0, 1, 3, 0, 0, 16, 48, 120, 248, 511, 0, 1024, 4095, 8191]) (q := 8061) (r := 2308) Kr ?_
  refine Dp 0 rfl rfl (QP.move rfl rfl) <| Dp 3 rfl rfl (QP.move rfl rfl) <| Dp 4 rfl rfl (QP.move rfl rfl) <| Dp 5 rfl rfl (QP.len rfl rfl rfl Try.underlying24) <| Dp 6 rfl rfl (QP.conv rfl rfl Try.underlying3 Try.underlying5) ?_
  rw [wrap_ofNat]
  refine Dp 10 rfl rfl (QP.move rfl rfl) <| Dr 11 rfl rfl (QR.strSl (xs := ys) rfl rfl Try.underlying24 Try.underlying5 Try.underlying9 (argSl_load (fun _ => rfl) hb) rfl) ?_
  refine Dw.effs (l := [1, 7]) Kr Kr ?_
  rw [List.forall_mem_cons, List.forall_mem_cons]
  refine ⟨?_, ?_, fun _ h => (by cases h)⟩
  ·refine Om [11] rfl rfl (EF.makeSl1 (enc := bytE) (x0 := 0) (v0 := .int .u8 0) (n := (n : Int)) el5 rfl rfl rfl Try.underlying24 zero5 rfl rfl (by omega) (by omega)) ?_
   rintro _ _ ⟨b42, rfl, rfl⟩
   refine ⟨?_, ?_⟩
   ·rw [List.forall_mem_cons]
    refine ⟨?_, fun _ h => (by cases h)⟩
    ·exact Look.mk rfl rfl rfl (QR.strSl (xs := ys) rfl rfl Try.underlying24 Try.underlying5 Try.underlying9 (argSl_load (fun _ => rfl) hb) rfl)
   refine ?_
   refine Dr 2 rfl rfl (QR.strSl (xs := List.replicate n (0 : UInt8)) rfl rfl Try.underlying24 Try.underlying5 Try.underlying9 (own_loadN (fun _ => rfl) Rc (by simp)) (by simp)) ?_
   refine De 7 <| Om [2, 11] rfl rfl (EF.buildSliceS rfl Try.underlying24 z5 zero5 rfl (by decide) rfl rfl rfl rfl) ?_
   rintro _ _ ⟨b48, rfl, rfl⟩
   refine ⟨?_, ?_⟩
   ·rw [List.forall_mem_cons, List.forall_mem_cons]
    refine ⟨?_, ?_, fun _ h => (by cases h)⟩
    ·exact Look.mk rfl rfl rfl (QR.strSl (xs := List.replicate n (0 : UInt8)) rfl rfl Try.underlying24 Try.underlying5 Try.underlying9 (own_loadN (fun _ => rfl) Rc (by simp)) (by simp))
    ·exact Look.mk rfl rfl rfl (QR.strSl (xs := ys) rfl rfl Try.underlying24 Try.underlying5 Try.underlying9 (argSl_load (fun _ => rfl) hb) rfl)
   refine ?_
   refine Dr 8 rfl rfl (QR.strSl (xs := [k, UInt8.ofNat ys.length]) rfl rfl Try.underlying24 Try.underlying5 Try.underlying9 (lit_load (xs := [k, UInt8.ofNat ys.length]) (ty := 5) Rc rfl) rfl) ?_
   refine Dp 9 rfl rfl (QP.addS rfl rfl rfl (by show (List.replicate n (0 : UInt8)).length + 2 ≤ _; rw [List.length_replicate]; omega)) <| Dp 12 rfl rfl (QP.addS rfl rfl rfl (by rw [app_size]; show _ + ys.length ≤ _; simp; omega)) <| De 13 <| Om [] rfl rfl ((QP.assign rfl rfl).eff) ?_
   rintro _ _ ⟨rfl, rfl⟩
   refine ⟨fun _ h => (by cases h), ?_⟩
   refine Dn <| hk3 _ _ <| Run.seq fun k4 hk4 => Run.regionM (M := [0, 0, 2, 6, 15, 31, 63, 63, 127, 511]) (q := 231) (r := 5) mixedT Kr ?_
   refine Dr 0 rfl rfl (QR.load rfl rfl g23 (Bs.sub _)) ?_
   refine Dp 1 rfl rfl (QP.move rfl rfl) <| Dr 2 rfl rfl (QR.strSl (xs := xs) rfl rfl Try.underlying24 Try.underlying5 Try.underlying9 (argSl_load (fun _ => rfl) ha) rfl) ?_
   refine De 3 <| Om [0] rfl rfl (EF.call rfl ce12 rfl Takes.nil (fun F' hle hr => wrap_spec F' _ xs rfl (by omega))) ?_
   rintro v58 _ ⟨_, rfl, rfl⟩
   refine ⟨?_, ?_⟩
   ·rw [List.forall_mem_cons]
    refine ⟨?_, fun _ h => (by cases h)⟩
    ·refine Look.app ?_
     exact Look.mk rfl rfl rfl (QR.load rfl rfl g23 (Bs.sub _))
   refine ?_
   refine J.app ?_
   refine Dw.slCase (v := v58) (xs := (wrapL xs)) Rc (fun a58 c58 hv58 hh58 => ?_)
   subst hv58
   refine De 4 <| Om [] rfl rfl (EF.call rfl ce8 rfl Tk1 (fun F' hle hr => Spec.lendSl (e := 5) (z := 1) (enc := bytE) (xs := (wrapL xs)) (fun _ => rfl) (fun F2 _ h2 => parse_spec F2 src (by rw [wrap_len]; omega) h2))) ?_
   rintro _ _ ⟨_, ⟨_, ⟨ts1, va1, rfl, hm1, rfl⟩, rfl⟩, rfl⟩
   refine ⟨fun _ h => (by cases h), ?_⟩
   refine J.app ?_
   refine Dp 5 rfl rfl (QP.move rfl rfl) <| Dp 6 rfl rfl (QP.extract rfl rfl rfl) <| Dp 7 rfl rfl (QP.extract rfl rfl rfl) <| De 8 <| Om [] rfl rfl ((QP.assign rfl rfl).eff) ?_
   rintro va1 _ ⟨rfl, rfl⟩
   refine ⟨fun _ h => (by cases h), ?_⟩
   refine De 9 <| Om [] rfl rfl ((QP.assign rfl rfl).eff) ?_
   rintro _ _ ⟨rfl, rfl⟩
   refine ⟨fun _ h => (by cases h), ?_⟩
   refine Dn <| hk4 _ _ <| Run.seq fun k5 hk5 => Run.regionM (M := [0, 0, 0, 4, 14, 30, 63, 127, 255, 255, 511, 2047]) (q := 927) (r := 9) mixedT Kr ?_
   refine Dr 0 rfl rfl (QR.load rfl rfl g23 (Bs.sub _)) ?_
   refine Dp 1 rfl rfl (QP.move rfl rfl) <| Dp 2 rfl rfl (QP.move rfl rfl) <| Dr 3 rfl rfl (QR.strSl (xs := xs) rfl rfl Try.underlying24 Try.underlying5 Try.underlying9 (argSl_load (fun _ => rfl) ha) rfl) ?_
   refine Dp 4 rfl rfl (QP.addS rfl rfl rfl (by rw [app3_size]; show _ + xs.length ≤ _; simp; omega)) <| De 5 <| Om [0] rfl rfl (EF.call rfl ce12 rfl Takes.nil (fun F' hle hr => wrap_spec F' _ ((frontL n k ys) ++ xs) (app4_data n k ys xs) (by rw [List.length_append, front_len]; omega))) ?_
   rintro v68 _ ⟨_, rfl, rfl⟩
   refine ⟨?_, ?_⟩
   ·rw [List.forall_mem_cons]
    refine ⟨?_, fun _ h => (by cases h)⟩
    ·refine Look.app ?_
     exact Look.mk rfl rfl rfl (QR.load rfl rfl g23 (Bs.sub _))
   refine ?_
   refine J.app ?_
   refine Dw.slCase (v := v68) (xs := (wrapL ((frontL n k ys) ++ xs))) Rc (fun a68 c68 hv68 hh68 => ?_)
   subst hv68
   refine De 6 <| Om [] rfl rfl (EF.call rfl ce8 rfl Tk1 (fun F' hle hr => Spec.lendSl (e := 5) (z := 1) (enc := bytE) (xs := (wrapL ((frontL n k ys) ++ xs))) (fun _ => rfl) (fun F2 _ h2 => parse_spec F2 src (by rw [wrap_len, List.length_append, front_len]; omega) h2))) ?_
   rintro _ _ ⟨_, ⟨_, ⟨ts2, va2, rfl, hm2, rfl⟩, rfl⟩, rfl⟩
   refine ⟨fun _ h => (by cases h), ?_⟩
   refine J.app ?_
   refine Dp 7 rfl rfl (QP.move rfl rfl) <| Dp 8 rfl rfl (QP.extract rfl rfl rfl) <| Dp 9 rfl rfl (QP.extract rfl rfl rfl) <| De 10 <| Om [] rfl rfl ((QP.assign rfl rfl).eff) ?_
   rintro va2 _ ⟨rfl, rfl⟩
   refine ⟨fun _ h => (by cases h), ?_⟩
   refine De 11 <| Om [] rfl rfl ((QP.assign rfl rfl).eff) ?_
   rintro _ _ ⟨rfl, rfl⟩
   refine ⟨fun _ h => (by cases h), ?_⟩
   refine Dn <| hk5 _ _ <| Run.seq fun k6 hk6 => Run.region ?_
   show Sq _ _ _ [0, 1, 2, 3, 4, 5, 6, 7, 8, 9, 10, 11, 12, 13] _ _ _ _
   refine Sq.slCase (v := va1) (xs := ts1) Rc (fun ap1 cp1 hvp1 hhp1 => ?_)
   subst hvp1
   refine Sq.slCase (v := va2) (xs := ts2) Rc (fun ap2 cp2 hvp2 hhp2 => ?_)
   subst hvp2
   have hP := pads_law (src := src) (pads := n) (k := k) (body := ys) (b := xs) (by omega) (by omega) (by rw [front_len]; omega)
   have hmm : ts2.map tlvM = ts1.map tlvM := by rw [hm2, hP, hm1]
   have hf1 : ts1.length ≤ 4294967296 := parse_len hm1 (by rw [wrap_len]; omega)
   refine Mv 0 rfl rfl rfl <| Mv 1 rfl rfl rfl <| Ef 2 rfl rfl (EF.call rfl ce11 rfl Tk4 (fun F' hle hr => samesO F' (n := ts2.length) (c2 := cp2) (Nat.le_refl _) hf1 (fun x hx => Nat.le_trans (parse_few hm1 x hx) (by decide)))) ?_
   rintro _ _ ⟨_, ⟨bb, rfl, hbb, rfl⟩, rfl⟩
   refine J.app ?_
   refine J.boolT (hbb.2 (by rw [List.take_length, hmm])) ?_
   refine Mv 3 rfl rfl rfl <| Ym 4 rfl rfl rfl rfl <| Ye 5 rfl rfl rfl (EF.call rfl ce9 rfl Takes.nil (fun F' hle hr => num6_spec F' _)) ?_
   rintro _ _ ⟨_, ⟨rfl, rfl⟩, rfl⟩
   refine J.app ?_
   refine Ym 6 rfl rfl rfl rfl <| Ye 7 rfl rfl rfl (EF.call rfl ce9 rfl Takes.nil (fun F' hle hr => num6_spec F' _)) ?_
   rintro _ _ ⟨_, ⟨rfl, rfl⟩, rfl⟩
   refine J.app ?_
   refine Yp 8 rfl rfl rfl (QP.eql rfl rfl rfl) <| J.decT (by rw [hP]) ?_
   refine Pt 9 rfl rfl rfl rfl <| Mv 10 rfl rfl rfl <| Ye 11 rfl rfl rfl (EF.call rfl ce7 rfl Takes.nil (fun F' hle hr => live_spec F')) ?_
   rintro _ _ ⟨_, ⟨rfl, rfl⟩, rfl⟩
   refine J.app ?_
   refine Pt 12 rfl rfl rfl rfl <| Sg 13 rfl rfl rfl <| Sq.nil <| hk6 _ _ <| Run.ret ?_
   exact J.ends (res_tmp rfl rfl) Takes.nil ⟨rfl, rfl⟩
  ·refine Om [11] rfl rfl (EF.buildSliceS rfl Try.underlying24 z5 zero5 rfl (by decide) rfl rfl rfl rfl) ?_
   rintro _ _ ⟨b48, rfl, rfl⟩
   refine ⟨?_, ?_⟩
   ·rw [List.forall_mem_cons]
    refine ⟨?_, fun _ h => (by cases h)⟩
    ·exact Look.mk rfl rfl rfl (QR.strSl (xs := ys) rfl rfl Try.underlying24 Try.underlying5 Try.underlying9 (argSl_load (fun _ => rfl) hb) rfl)
   refine ?_
   refine Dr 8 rfl rfl (QR.strSl (xs := [k, UInt8.ofNat ys.length]) rfl rfl Try.underlying24 Try.underlying5 Try.underlying9 (lit_load (xs := [k, UInt8.ofNat ys.length]) (ty := 5) Rc rfl) rfl) ?_
   refine De 1 <| Om [8, 11] rfl rfl (EF.makeSl1 (enc := bytE) (x0 := 0) (v0 := .int .u8 0) (n := (n : Int)) el5 rfl rfl rfl Try.underlying24 zero5 rfl rfl (by omega) (by omega)) ?_
   rintro _ _ ⟨b42, rfl, rfl⟩
   refine ⟨?_, ?_⟩
   ·rw [List.forall_mem_cons, List.forall_mem_cons]
    refine ⟨?_, ?_, fun _ h => (by cases h)⟩
    ·exact Look.mk rfl rfl rfl (QR.strSl (xs := [k, UInt8.ofNat ys.length]) rfl rfl Try.underlying24 Try.underlying5 Try.underlying9 (lit_load (xs := [k, UInt8.ofNat ys.length]) (ty := 5) Rc rfl) rfl)
    ·exact Look.mk rfl rfl rfl (QR.strSl (xs := ys) rfl rfl Try.underlying24 Try.underlying5 Try.underlying9 (argSl_load (fun _ => rfl) hb) rfl)
   refine ?_
   refine Dr 2 rfl rfl (QR.strSl (xs := List.replicate n (0 : UInt8)) rfl rfl Try.underlying24 Try.underlying5 Try.underlying9 (own_loadN (fun _ => rfl) Rc (by simp)) (by simp)) ?_
   refine Dp 9 rfl rfl (QP.addS rfl rfl rfl (by show (List.replicate n (0 : UInt8)).length + 2 ≤ _; rw [List.length_replicate]; omega)) <| Dp 12 rfl rfl (QP.addS rfl rfl rfl (by rw [app_size]; show _ + ys.length ≤ _; simp; omega)) <| De 13 <| Om [] rfl rfl ((QP.assign rfl rfl).eff) ?_
   rintro _ _ ⟨rfl, rfl⟩
   refine ⟨fun _ h => (by cases h), ?_⟩
   refine Dn <| hk3 _ _ <| Run.seq fun k7 hk7 => Run.regionM (M := [0, 0, 2, 6, 15, 31, 63, 63, 127, 511]) (q := 231) (r := 5) mixedT Kr ?_
   refine Dr 0 rfl rfl (QR.load rfl rfl g23 (Bs.sub _)) ?_
   refine Dp 1 rfl rfl (QP.move rfl rfl) <| Dr 2 rfl rfl (QR.strSl (xs := xs) rfl rfl Try.underlying24 Try.underlying5 Try.underlying9 (argSl_load (fun _ => rfl) ha) rfl) ?_
   refine De 3 <| Om [0] rfl rfl (EF.call rfl ce12 rfl Takes.nil (fun F' hle hr => wrap_spec F' _ xs rfl (by omega))) ?_
   rintro v58 _ ⟨_, rfl, rfl⟩
   refine ⟨?_, ?_⟩
   ·rw [List.forall_mem_cons]
    refine ⟨?_, fun _ h => (by cases h)⟩
    ·refine Look.app ?_
     exact Look.mk rfl rfl rfl (QR.load rfl rfl g23 (Bs.sub _))
   refine ?_
   refine J.app ?_
   refine Dw.slCase (v := v58) (xs := (wrapL xs)) Rc (fun a58 c58 hv58 hh58 => ?_)
   subst hv58
   refine De 4 <| Om [] rfl rfl (EF.call rfl ce8 rfl Tk1 (fun F' hle hr => Spec.lendSl (e := 5) (z := 1) (enc := bytE) (xs := (wrapL xs)) (fun _ => rfl) (fun F2 _ h2 => parse_spec F2 src (by rw [wrap_len]; omega) h2))) ?_
   rintro _ _ ⟨_, ⟨_, ⟨ts1, va1, rfl, hm1, rfl⟩, rfl⟩, rfl⟩
   refine ⟨fun _ h => (by cases h), ?_⟩
   refine J.app ?_
   refine Dp 5 rfl rfl (QP.move rfl rfl) <| Dp 6 rfl rfl (QP.extract rfl rfl rfl) <| Dp 7 rfl rfl (QP.extract rfl rfl rfl) <| De 8 <| Om [] rfl rfl ((QP.assign rfl rfl).eff) ?_
   rintro va1 _ ⟨rfl, rfl⟩
   refine ⟨fun _ h => (by cases h), ?_⟩
   refine De 9 <| Om [] rfl rfl ((QP.assign rfl rfl).eff) ?_
   rintro _ _ ⟨rfl, rfl⟩
   refine ⟨fun _ h => (by cases h), ?_⟩
   refine Dn <| hk7 _ _ <| Run.seq fun k8 hk8 => Run.regionM (M := [0, 0, 0, 4, 14, 30, 63, 127, 255, 255, 511, 2047]) (q := 927) (r := 9) mixedT Kr ?_
   refine Dr 0 rfl rfl (QR.load rfl rfl g23 (Bs.sub _)) ?_
   refine Dp 1 rfl rfl (QP.move rfl rfl) <| Dp 2 rfl rfl (QP.move rfl rfl) <| Dr 3 rfl rfl (QR.strSl (xs := xs) rfl rfl Try.underlying24 Try.underlying5 Try.underlying9 (argSl_load (fun _ => rfl) ha) rfl) ?_
   refine Dp 4 rfl rfl (QP.addS rfl rfl rfl (by rw [app3_size]; show _ + xs.length ≤ _; simp; omega)) <| De 5 <| Om [0] rfl rfl (EF.call rfl ce12 rfl Takes.nil (fun F' hle hr => wrap_spec F' _ ((frontL n k ys) ++ xs) (app4_data n k ys xs) (by rw [List.length_append, front_len]; omega))) ?_
   rintro v68 _ ⟨_, rfl, rfl⟩
   refine ⟨?_, ?_⟩
   ·rw [List.forall_mem_cons]
    refine ⟨?_, fun _ h => (by cases h)⟩
    ·refine Look.app ?_
     exact Look.mk rfl rfl rfl (QR.load rfl rfl g23 (Bs.sub _))
   refine ?_
   refine J.app ?_
   refine Dw.slCase (v := v68) (xs := (wrapL ((frontL n k ys) ++ xs))) Rc (fun a68 c68 hv68 hh68 => ?_)
   subst hv68
   refine De 6 <| Om [] rfl rfl (EF.call rfl ce8 rfl Tk1 (fun F' hle hr => Spec.lendSl (e := 5) (z := 1) (enc := bytE) (xs := (wrapL ((frontL n k ys) ++ xs))) (fun _ => rfl) (fun F2 _ h2 => parse_spec F2 src (by rw [wrap_len, List.length_append, front_len]; omega) h2))) ?_
   rintro _ _ ⟨_, ⟨_, ⟨ts2, va2, rfl, hm2, rfl⟩, rfl⟩, rfl⟩
   refine ⟨fun _ h => (by cases h), ?_⟩
   refine J.app ?_
   refine Dp 7 rfl rfl (QP.move rfl rfl) <| Dp 8 rfl rfl (QP.extract rfl rfl rfl) <| Dp 9 rfl rfl (QP.extract rfl rfl rfl) <| De 10 <| Om [] rfl rfl ((QP.assign rfl rfl).eff) ?_
   rintro va2 _ ⟨rfl, rfl⟩
   refine ⟨fun _ h => (by cases h), ?_⟩
   refine De 11 <| Om [] rfl rfl ((QP.assign rfl rfl).eff) ?_
   rintro _ _ ⟨rfl, rfl⟩
   refine ⟨fun _ h => (by cases h), ?_⟩
   refine Dn <| hk8 _ _ <| Run.seq fun k9 hk9 => Run.region ?_
   show Sq _ _ _ [0, 1, 2, 3, 4, 5, 6, 7, 8, 9, 10, 11, 12, 13] _ _ _ _
   refine Sq.slCase (v := va1) (xs := ts1) Rc (fun ap1 cp1 hvp1 hhp1 => ?_)
   subst hvp1
   refine Sq.slCase (v := va2) (xs := ts2) Rc (fun ap2 cp2 hvp2 hhp2 => ?_)
   subst hvp2
   have hP := pads_law (src := src) (pads := n) (k := k) (body := ys) (b := xs) (by omega) (by omega) (by rw [front_len]; omega)
   have hmm : ts2.map tlvM = ts1.map tlvM := by rw [hm2, hP, hm1]
   have hf1 : ts1.length ≤ 4294967296 := parse_len hm1 (by rw [wrap_len]; omega)
   refine Mv 0 rfl rfl rfl <| Mv 1 rfl rfl rfl <| Ef 2 rfl rfl (EF.call rfl ce11 rfl Tk4 (fun F' hle hr => samesO F' (n := ts2.length) (c2 := cp2) (Nat.le_refl _) hf1 (fun x hx => Nat.le_trans (parse_few hm1 x hx) (by decide)))) ?_
   rintro _ _ ⟨_, ⟨bb, rfl, hbb, rfl⟩, rfl⟩
   refine J.app ?_
   refine J.boolT (hbb.2 (by rw [List.take_length, hmm])) ?_
   refine Mv 3 rfl rfl rfl <| Ym 4 rfl rfl rfl rfl <| Ye 5 rfl rfl rfl (EF.call rfl ce9 rfl Takes.nil (fun F' hle hr => num6_spec F' _)) ?_
   rintro _ _ ⟨_, ⟨rfl, rfl⟩, rfl⟩
   refine J.app ?_
   refine Ym 6 rfl rfl rfl rfl <| Ye 7 rfl rfl rfl (EF.call rfl ce9 rfl Takes.nil (fun F' hle hr => num6_spec F' _)) ?_
   rintro _ _ ⟨_, ⟨rfl, rfl⟩, rfl⟩
   refine J.app ?_
   refine Yp 8 rfl rfl rfl (QP.eql rfl rfl rfl) <| J.decT (by rw [hP]) ?_
   refine Pt 9 rfl rfl rfl rfl <| Mv 10 rfl rfl rfl <| Ye 11 rfl rfl rfl (EF.call rfl ce7 rfl Takes.nil (fun F' hle hr => live_spec F')) ?_
   rintro _ _ ⟨_, ⟨rfl, rfl⟩, rfl⟩
   refine J.app ?_
   refine Pt 12 rfl rfl rfl rfl <| Sg 13 rfl rfl rfl <| Sq.nil <| hk9 _ _ <| Run.ret ?_
   exact J.ends (res_tmp rfl rfl) Takes.nil ⟨rfl, rfl⟩
 ·intro ku2 hu2
  refine Run.seq fun k10 hk10 => Run.region ?_
  show Sq _ _ _ [0, 1, 2, 3, 4, 5, 6, 7, 8, 9, 10, 11, 12, 13, 14, 15, 16, 17, 18, 19, 20, 21, 22, 23] _ _ _ _
  refine Mv 0 rfl rfl rfl <| Qp 1 rfl rfl (QP.len rfl rfl rfl Try.underlying24) <| Qp 2 rfl rfl (QP.gtr rfl rfl rfl) <| J.caseD (fun c18 => ?_) (fun c18 => ?_)
  ·refine Mv 3 rfl rfl rfl <| Sk 4 rfl rfl rfl <| Sk 5 rfl rfl rfl <| Pt 6 rfl rfl rfl rfl <| Mv 7 rfl rfl rfl <| Sk 8 rfl rfl rfl <| Sk 9 rfl rfl rfl <| Pt 10 rfl rfl rfl rfl <| Mv 11 rfl rfl rfl <| Sk 12 rfl rfl rfl <| Sk 13 rfl rfl rfl <| Sk 14 rfl rfl rfl <| Pt 15 rfl rfl rfl rfl <| Mv 16 rfl rfl rfl <| Sk 17 rfl rfl rfl <| Sk 18 rfl rfl rfl <| Sk 19 rfl rfl rfl <| Sq.skip (i := 20) rfl (Want.undef rfl rfl rfl) rfl (ltN rfl) ?_
   refine Sq.skip (i := 21) rfl (Want.undef rfl rfl rfl) rfl (ltN rfl) ?_
   refine Sk 22 rfl rfl rfl <| Pt 23 rfl rfl rfl rfl <| Sq.nil <| hk10 _ _ <| Run.cond_t rfl <| Run.seq fun k11 hk11 => Run.region ?_
   show Sq _ _ _ [0, 1] _ _ _ _
   refine Ef 0 rfl rfl (EF.call rfl ce7 rfl Takes.nil (fun F' hle hr => live_spec F')) ?_
   rintro _ _ ⟨_, ⟨rfl, rfl⟩, rfl⟩
   refine J.app ?_
   refine Sg 1 rfl rfl rfl <| Sq.nil <| hk11 _ _ <| Run.ret ?_
   exact J.ends (res_tmp rfl rfl) Takes.nil ⟨rfl, rfl⟩
  ·refine Mv 3 rfl rfl rfl <| Ym 4 rfl rfl rfl rfl <| Yp 5 rfl rfl rfl (QP.lss rfl rfl rfl) <| J.caseD (fun c21 => ?_) (fun c21 => ?_)
   ·refine Pf 6 rfl rfl rfl rfl <| Mv 7 rfl rfl rfl <| Sk 8 rfl rfl rfl <| Sk 9 rfl rfl rfl <| Pt 10 rfl rfl rfl rfl <| Mv 11 rfl rfl rfl <| Sk 12 rfl rfl rfl <| Sk 13 rfl rfl rfl <| Sk 14 rfl rfl rfl <| Pt 15 rfl rfl rfl rfl <| Mv 16 rfl rfl rfl <| Sk 17 rfl rfl rfl <| Sk 18 rfl rfl rfl <| Sk 19 rfl rfl rfl <| Sq.skip (i := 20) rfl (Want.undef rfl rfl rfl) rfl (ltN rfl) ?_
    refine Sq.skip (i := 21) rfl (Want.undef rfl rfl rfl) rfl (ltN rfl) ?_
    refine Sk 22 rfl rfl rfl <| Pt 23 rfl rfl rfl rfl <| Sq.nil <| hk10 _ _ <| Run.cond_t rfl <| Run.seq fun k12 hk12 => Run.region ?_
    show Sq _ _ _ [0, 1] _ _ _ _
    refine Ef 0 rfl rfl (EF.call rfl ce7 rfl Takes.nil (fun F' hle hr => live_spec F')) ?_
    rintro _ _ ⟨_, ⟨rfl, rfl⟩, rfl⟩
    refine J.app ?_
    refine Sg 1 rfl rfl rfl <| Sq.nil <| hk12 _ _ <| Run.ret ?_
    exact J.ends (res_tmp rfl rfl) Takes.nil ⟨rfl, rfl⟩
   ·refine Pf 6 rfl rfl rfl rfl <| Mv 7 rfl rfl rfl <| Ym 8 rfl rfl rfl rfl <| Yp 9 rfl rfl rfl (QP.gtr rfl rfl rfl) <| J.caseD (fun c25 => ?_) (fun c25 => ?_)
    ·refine Pf 10 rfl rfl rfl rfl <| Mv 11 rfl rfl rfl <| Sk 12 rfl rfl rfl <| Sk 13 rfl rfl rfl <| Sk 14 rfl rfl rfl <| Pt 15 rfl rfl rfl rfl <| Mv 16 rfl rfl rfl <| Sk 17 rfl rfl rfl <| Sk 18 rfl rfl rfl <| Sk 19 rfl rfl rfl <| Sq.skip (i := 20) rfl (Want.undef rfl rfl rfl) rfl (ltN rfl) ?_
     refine Sq.skip (i := 21) rfl (Want.undef rfl rfl rfl) rfl (ltN rfl) ?_
     refine Sk 22 rfl rfl rfl <| Pt 23 rfl rfl rfl rfl <| Sq.nil <| hk10 _ _ <| Run.cond_t rfl <| Run.seq fun k13 hk13 => Run.region ?_
     show Sq _ _ _ [0, 1] _ _ _ _
     refine Ef 0 rfl rfl (EF.call rfl ce7 rfl Takes.nil (fun F' hle hr => live_spec F')) ?_
     rintro _ _ ⟨_, ⟨rfl, rfl⟩, rfl⟩
     refine J.app ?_
     refine Sg 1 rfl rfl rfl <| Sq.nil <| hk13 _ _ <| Run.ret ?_
     exact J.ends (res_tmp rfl rfl) Takes.nil ⟨rfl, rfl⟩
    ·refine Pf 10 rfl rfl rfl rfl <| Mv 11 rfl rfl rfl <| Ym 12 rfl rfl rfl rfl <| Yp 13 rfl rfl rfl (QP.len rfl rfl rfl Try.underlying24) <| Yp 14 rfl rfl rfl (QP.gtr rfl rfl rfl) <| J.caseD (fun c30 => ?_) (fun c30 => ?_)
     ·refine Pf 15 rfl rfl rfl rfl <| Mv 16 rfl rfl rfl <| Sk 17 rfl rfl rfl <| Sk 18 rfl rfl rfl <| Sk 19 rfl rfl rfl <| Sq.skip (i := 20) rfl (Want.undef rfl rfl rfl) rfl (ltN rfl) ?_
      refine Sq.skip (i := 21) rfl (Want.undef rfl rfl rfl) rfl (ltN rfl) ?_
      refine Sk 22 rfl rfl rfl <| Pt 23 rfl rfl rfl rfl <| Sq.nil <| hk10 _ _ <| Run.cond_t rfl <| Run.seq fun k14 hk14 => Run.region ?_
      show Sq _ _ _ [0, 1] _ _ _ _
      refine Ef 0 rfl rfl (EF.call rfl ce7 rfl Takes.nil (fun F' hle hr => live_spec F')) ?_
      rintro _ _ ⟨_, ⟨rfl, rfl⟩, rfl⟩
      refine J.app ?_
      refine Sg 1 rfl rfl rfl <| Sq.nil <| hk14 _ _ <| Run.ret ?_
      exact J.ends (res_tmp rfl rfl) Takes.nil ⟨rfl, rfl⟩
     ·refine Pf 15 rfl rfl rfl rfl <| Mv 16 rfl rfl rfl <| Ym 17 rfl rfl rfl rfl <| Yp 18 rfl rfl rfl (QP.leq rfl rfl rfl) <| J.caseD (fun c34 => ?_) (fun c34 => ?_)
      ·refine Ym 19 rfl rfl rfl rfl <| Ym 20 rfl rfl rfl rfl <| Yp 21 rfl rfl rfl (QP.neq rfl rfl rfl) <| J.caseD (fun c37 => ?_) (fun c37 => ?_)
       ·refine Yp 22 rfl rfl rfl (QP.pick_t rfl rfl rfl) <| Pf 23 rfl rfl rfl rfl <| Sq.nil <| hk10 _ _ <| Run.cond_t rfl <| Run.seq fun k15 hk15 => Run.region ?_
        show Sq _ _ _ [0, 1] _ _ _ _
        refine Ef 0 rfl rfl (EF.call rfl ce7 rfl Takes.nil (fun F' hle hr => live_spec F')) ?_
        rintro _ _ ⟨_, ⟨rfl, rfl⟩, rfl⟩
        refine J.app ?_
        refine Sg 1 rfl rfl rfl <| Sq.nil <| hk15 _ _ <| Run.ret ?_
        exact J.ends (res_tmp rfl rfl) Takes.nil ⟨rfl, rfl⟩
       ·refine Yp 22 rfl rfl rfl (QP.pick_t rfl rfl rfl) <| Pf 23 rfl rfl rfl rfl <| Sq.nil <| hk10 _ _ <| Run.cond_f rfl <| Run.skip ?_
        exact J.envJ (J.keep Tk1 (hu2 (pads.toNat) (⟨by omega, by omega, by omega, by omega, .inl (by omega)⟩))) ⟨rfl, (congrArg (fun q => some (Value.int .i64 q)) (show _ = _ by omega)), rfl, rfl, rfl, trivial⟩
      ·refine Ym 19 rfl rfl rfl rfl <| Sk 20 rfl rfl rfl <| Sk 21 rfl rfl rfl <| Yp 22 rfl rfl rfl (QP.pick_f rfl rfl rfl) <| Pf 23 rfl rfl rfl rfl <| Sq.nil <| hk10 _ _ <| Run.cond_f rfl <| Run.skip ?_
       exact J.envJ (J.keep Tk1 (hu2 (pads.toNat) (⟨by omega, by omega, by omega, by omega, .inr (by omega)⟩))) ⟨rfl, (congrArg (fun q => some (Value.int .i64 q)) (show _ = _ by omega)), rfl, rfl, rfl, trivial⟩
end Slb
