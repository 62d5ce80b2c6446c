/- R39: a part of the proof that a law of this package holds for every input; no condition. -/
import Derived.Test.YtmolpkkkndopcaaGreatM2
import Derived.Test.YtmolpkkkndopcaaGreatR38
namespace Slb
open Go Go.Proofs
set_option maxRecDepth 20000
/-- Why a list is not packed. -/
def packErr (src : Bs 16) (mtu : Int) (ts : List TlvX) : Int := if mtu < 64 ∨ mtu > 65539 then 2 else addErr src mtu ts
/-- A list's packets. -/
def packF (src : Bs 16) (mtu : Int) (ts : List TlvX) : List (List UInt8) := if packErr src mtu ts ≠ 0 then [] else flushF src mtu (ts.map tlvM)
theorem fits_tlvM (src : Bs 16) (mtu : Int) (z : TlvX) : fitsF src mtu (tlvS z) z.l = fitsF src mtu { (tlvM z).1 with stamps := ⟨none, (tlvM z).2.length, 0⟩ } (tlvM z).2 := rfl
theorem tl_mem {ts us : List TlvX} (h : us.map tlvM = ts.map tlvM) {y : TlvX} (hy : y ∈ us) : ∃ x ∈ ts, tlvM x = tlvM y := by
  have := List.mem_map_of_mem (f := tlvM) hy
  rw [h] at this
  exact List.mem_map.1 this
theorem tl_fit {src : Bs 16} {mtu : Int} {ts us : List TlvX} (h : us.map tlvM = ts.map tlvM) (hf : ∀ x ∈ ts, fitsF src mtu (tlvS x) x.l = 0) : ∀ y ∈ us, fitsF src mtu (tlvS y) y.l = 0 := fun y hy => by
  obtain ⟨x, hx, he⟩ := tl_mem h hy
  rw [fits_tlvM, ← he, ← fits_tlvM]
  exact hf x hx
theorem tl_wf {ts us : List TlvX} (h : us.map tlvM = ts.map tlvM) (hf : ∀ x ∈ ts, (tlvS x).WF) : ∀ y ∈ us, (tlvS y).WF := fun y hy => by
  obtain ⟨x, hx, he⟩ := tl_mem h hy
  have h1 : (tlvM x).1.WF := hf x hx
  rw [he] at h1
  exact h1
theorem tl_r {ts us : List TlvX} (h : us.map tlvM = ts.map tlvM) (hf : ∀ x ∈ ts, ∀ n ∈ x.l, 0 ≤ n ∧ n < 4294967296) : ∀ y ∈ us, ∀ n ∈ y.l, 0 ≤ n ∧ n < 4294967296 := fun y hy => by
  obtain ⟨x, hx, he⟩ := tl_mem h hy
  have h1 := hf x hx
  rw [show x.l = y.l from congrArg Prod.snd he] at h1
  exact h1

theorem new_bad (F : Fr) (src : Bs 16) {mtu : Int} (h : mtu < 64 ∨ mtu > 65539) : Spec Tryz.prog 14 #[.agg (Bs.enc src).toArray, .int .i64 mtu] [] F (fun v S => v = .tuple #[.pointer none, .int .i64 2] ∧ S = []) := (new_spec F src mtu).mono (fun v S hv => by rw [if_pos h] at hv; exact hv)
theorem new_ok (F : Fr) (src : Bs 16) {mtu : Int} (h : ¬ (mtu < 64 ∨ mtu > 65539)) : Spec Tryz.prog 14 #[.agg (Bs.enc src).toArray, .int .i64 mtu] [] F (fun v S => ∃ b, v = .tuple #[.pointer (some ⟨b, 0, none⟩), .int .i64 0] ∧ S = [blk b (PackBuffer.enc ⟨src, mtu, ⟨none, ([] : List TlvX).length, 0⟩⟩) 84]) := (new_spec F src mtu).mono (fun v S hv => by rw [if_neg h] at hv; exact hv)

theorem pack_bad (F : Fr) (src : Bs 16) {mtu : Int} (hm : mtu < 64 ∨ mtu > 65539) {a : Option Addr} {n c : Nat} : Spec Tryz.prog 7 #[.agg (Bs.enc src).toArray, .int .i64 mtu, .slice a n c] [] F (fun v S => v = .tuple #[.slice none 0 0, .int .i64 2] ∧ S = [slA 46 1 slE (.slice none ([] : List SlX).length 0) ([] : List SlX), rowsS ([] : List SlX)]) := by
 refine Spec.intro (N := 26) (args := [.agg (Bs.enc src).toArray, .int .i64 mtu, .slice a n c]) Tryz.func7 rfl rfl (by simp) ?_
 refine Zs fun _ hk1 => Ef 0 E2 (EF.boxA rfl rfl) ?_
 rintro _ _ ⟨b3, rfl, rfl⟩
 refine Sg 1 E3 <| Sg 2 E3 <| Zl hk1 <| Zs fun _ hk2 => Qq 0 E2 (Z0 E2 g23 (Bs.sub _)) ?_
 refine Mv 1 E3 <| Ef 2 E2 (EF.call rfl ce14 rfl Takes.nil (fun F' hle hr => new_bad F' src hm)) ?_
 rintro _ _ ⟨_, ⟨rfl, rfl⟩, rfl⟩
 refine J.app <| Mv 3 E3 <| Qp 4 E2 (Zx E3) <| Qp 5 E2 (Zx E3) <| Sg 6 E3 <| Sg 7 E3 <| Zl hk2 <| Run.seq fun _ hk3 => Zs fun _ hk4 => Mv 0 E3 <| Qp 1 E2 (Ze E3) <| Zl hk4 <| Zf <| Run.skip <| hk3 _ _ <| Run.seq fun _ hk5 => Zs fun _ hk6 => Mv 0 E3 <| Qp 1 E2 (Zq E3) <| Zl hk6 <| Zt <| Zs fun _ hk7 => Mv 0 E3 <| Sg 1 E3 <| Sg 2 E3 <| Zl hk7 <| Run.ret <| J.addSl 46 1 slE ?_
 refine J.addRowsS ?_
 exact J.ends (m := [slA 46 1 slE (.slice none ([] : List SlX).length 0) ([] : List SlX), rowsS ([] : List SlX)]) (res_tmp2 rfl rfl rfl) Tk2 ⟨rfl, rfl⟩

set_option maxHeartbeats 1000000 in
theorem pack_ok (F : Fr) (src : Bs 16) {mtu : Int} (hm : ¬ (mtu < 64 ∨ mtu > 65539)) {ts : List TlvX} {a : Option Addr} {c : Nat} (ha : ArgSl F a 68 tlvE ts) (hin : ∀ x ∈ ts, TlvIn F x) (hwf : ∀ x ∈ ts, (tlvS x).WF) (hr32 : ∀ x ∈ ts, ∀ n ∈ x.l, 0 ≤ n ∧ n < 4294967296) (hn : ts.length ≤ 1000000)  : Spec Tryz.prog 7 #[.agg (Bs.enc src).toArray, .int .i64 mtu, .slice a ts.length c] [] F (fun v S => ∃ (os : List SlX) (oa : Option Addr) (oc : Nat), v = .tuple #[.slice oa os.length oc, .int .i64 (packErr src mtu ts)] ∧ os.map (·.l) = packF src mtu ts ∧ S = [slA 46 1 slE (.slice oa os.length oc) os, rowsS os]) := by
 have hPE : packErr src mtu ts = addErr src mtu ts := by unfold packErr; rw [if_neg hm]
 rw [hPE]
 refine Spec.intro (N := 26) (args := [.agg (Bs.enc src).toArray, .int .i64 mtu, .slice a ts.length c]) Tryz.func7 rfl rfl (by simp) ?_
 refine Zs fun _ hk1 => Ef 0 E2 (EF.boxA rfl rfl) ?_
 rintro _ _ ⟨b3, rfl, rfl⟩
 refine Sg 1 E3 <| Sg 2 E3 <| Zl hk1 <| Zs fun _ hk2 => Qq 0 E2 (Z0 E2 g23 (Bs.sub _)) ?_
 refine Mv 1 E3 <| Ef 2 E2 (EF.call rfl ce14 rfl Takes.nil (fun F' hle hr => new_ok F' src hm)) ?_
 rintro _ _ ⟨_, ⟨b13, rfl, rfl⟩, rfl⟩
 refine J.app <| Mv 3 E3 <| Qp 4 E2 (Zx E3) <| Qp 5 E2 (Zx E3) <| Sg 6 E3 <| Sg 7 E3 <| Zl hk2 <| Run.seq fun _ hk3 => Zs fun _ hk4 => Mv 0 E3 <| Qp 1 E2 (Ze E3) <| Zl hk4 <| Zt <| Run.region <| J.addSl 45 68 tlvE ?_
 refine J.addTlvs ?_
 refine Mv 0 E3 <| Mv 1 E3 <| Ef 2 E2 (EF.call rfl ce15 rfl Tk3 (fun F' hle hr => addb_spec F' (ha.mono hle) (fun x hx => TlvIn.mono (hin x hx) hle) hwf hr32 hn (src := src) (mtu := mtu) (la := none) (lc := 0) (ts0 := []) (by omega) (by omega) (by simp))) ?_
 rintro _ _ ⟨_, ⟨ts1, la1, lc1, rfl, hts0, rfl⟩, rfl⟩
 refine J.app <| Sg 3 E3 <| Zl hk3 <| Run.seq fun _ hk5 => Zs fun _ hk6 => Mv 0 E3 <| Qp 1 E2 (Zq E3) <| J.caseD (fun c22 => ?_) (fun c22 => ?_)
 ·refine Zl hk6 <| Zt <| Zs fun _ hk7 => Mv 0 E3 <| Sg 1 E3 <| Sg 2 E3 <| Zl hk7 <| Run.ret <| J.addSl 46 1 slE ?_
  refine J.addRowsS ?_
  exact J.ends (m := [slA 46 1 slE (.slice none ([] : List SlX).length 0) ([] : List SlX), rowsS ([] : List SlX)]) (res_tmp2 rfl rfl rfl) Tk2 ⟨[], none, 0, rfl, by unfold packF; rw [hPE, if_pos c22]; rfl, rfl⟩
 ·refine Zl hk6 <| Zf <| Run.skip <| hk5 _ _ <| Run.seq fun _ hk8 => Run.region ?_
  have hts1 : ts1.map tlvM = ts.map tlvM := by rw [hts0, if_pos (Decidable.of_not_not c22)]; rfl
  refine Mv 0 E3 <| Ef 1 E2 (EF.call rfl ce17 rfl Tk3 (fun F' hle hr => flush_spec F' (src := src) (mtu := mtu) (tl_fit hts1 (addErr_zero (Decidable.of_not_not c22))) (tl_wf hts1 hwf) (tl_r hts1 hr32) (by have := congrArg List.length hts1; simp only [List.length_map] at this; omega) (by omega) (by omega))) ?_
  rintro _ _ ⟨_, ⟨os, oa, oc, la2, lc2, rfl, hos, rfl⟩, rfl⟩
  exact J.app <| Sg 2 E3 <| Sg 3 E3 <| Zl hk8 <| Run.ret <| J.ends (m := [slA 46 1 slE (.slice oa os.length oc) os, rowsS os]) (res_tmp2 rfl rfl rfl) Tk2 ⟨os, oa, oc, by rw [Decidable.of_not_not c22], by rw [hos, hts1]; unfold packF; rw [hPE, if_neg c22], rfl⟩

theorem pack_spec (F : Fr) (src : Bs 16) {mtu : Int} {ts : List TlvX} {a : Option Addr} {c : Nat} (ha : ArgSl F a 68 tlvE ts) (hin : ∀ x ∈ ts, TlvIn F x) (hwf : ∀ x ∈ ts, (tlvS x).WF) (hr32 : ∀ x ∈ ts, ∀ n ∈ x.l, 0 ≤ n ∧ n < 4294967296) (hn : ts.length ≤ 1000000)  : Spec Tryz.prog 7 #[.agg (Bs.enc src).toArray, .int .i64 mtu, .slice a ts.length c] [] F (fun v S => ∃ (os : List SlX) (oa : Option Addr) (oc : Nat), v = .tuple #[.slice oa os.length oc, .int .i64 (packErr src mtu ts)] ∧ os.map (·.l) = packF src mtu ts ∧ S = [slA 46 1 slE (.slice oa os.length oc) os, rowsS os]) := by
  by_cases hm : mtu < 64 ∨ mtu > 65539
  · have hPE : packErr src mtu ts = 2 := by unfold packErr; rw [if_pos hm]
    exact (pack_bad F src hm).mono (fun v S hv => ⟨[], none, 0, by rw [hPE]; exact hv.1, by unfold packF; rw [hPE]; rfl, hv.2⟩)
  · exact pack_ok F src hm ha hin hwf hr32 hn
end Slb
