/- V9: a part of the proof that a law of this package holds for every input; no condition. -/
import Derived.Test.YtlodieoopchhgaaV8
import Derived.Test.YtlodieoopchhgaaB18
namespace Slb
open Go Go.Proofs
set_option maxRecDepth 20000
theorem wrap_u16 (n : Int) : IntKind.u16.wrap n = n % 65536 := by simp [IntKind.wrap, IntKind.bits, IntKind.signed]

theorem less_rem {a b : Int} (ha : 0 ≤ a ∧ a ≤ 65535) (hb : 0 ≤ b ∧ b ≤ 65535) : lessB a b = (decide (1 ≤ (b - a + 65536).tmod 65536) && decide ((b - a + 65536).tmod 65536 ≤ 32767)) := by
  rw [Int.tmod_eq_emod_of_nonneg (by omega)]
  simp only [lessB, wrap_u16]
  rw [Bool.eq_iff_iff]
  simp only [Bool.and_eq_true, decide_eq_true_eq]
  omega
theorem wrap_i64u {n : Int} (h : 0 ≤ n ∧ n ≤ 65535) : IntKind.i64.wrap n = n := wrap_i64 (by omega) (by omega)

theorem rless_spec (F : Fr) (a b : Int) (ha : 0 ≤ a ∧ a ≤ 65535) (hb : 0 ≤ b ∧ b ≤ 65535) : Spec Try.prog 60 #[.int .u16 a, .int .u16 b] [] F (fun v S => v = .bool (lessB a b) ∧ S = []) := by
  refine Spec.intro (N := 19) (args := [.int .u16 a, .int .u16 b]) Try.func60 rfl rfl (by simp) ?_
  refine Run.seq fun k1 hk1 => ?_
  refine Run.region ?_
  show Sq _ _ _ [0] _ _ _ _
  refine Sq.quiet (i := 0) rfl (Want.none rfl) rfl (ltN rfl) (QP.assign rfl rfl).read ?_
  refine Sq.nil ?_
  refine hk1 _ _ ?_
  refine Run.seq fun k2 hk2 => ?_
  refine Run.region ?_
  show Sq _ _ _ [0, 1, 2, 3, 4, 5, 6, 7] _ _ _ _
  refine Sq.quiet (i := 0) rfl (Want.none rfl) rfl (ltN rfl) (QP.move rfl rfl).read ?_
  refine Sq.quiet (i := 1) rfl (Want.none rfl) rfl (ltN rfl) (QP.conv rfl rfl Try.underlying31 Try.underlying3).read ?_
  rw [wrap_i64u hb]
  refine Sq.quiet (i := 2) rfl (Want.none rfl) rfl (ltN rfl) (QP.move rfl rfl).read ?_
  refine Sq.quiet (i := 3) rfl (Want.none rfl) rfl (ltN rfl) (QP.conv rfl rfl Try.underlying31 Try.underlying3).read ?_
  rw [wrap_i64u ha]
  refine Sq.quiet (i := 4) rfl (Want.none rfl) rfl (ltN rfl) (QP.sub64 rfl rfl rfl (by first | omega | (simp <;> omega)) (by first | omega | (simp <;> omega))).read ?_
  refine Sq.quiet (i := 5) rfl (Want.none rfl) rfl (ltN rfl) (QP.add64 rfl rfl rfl (by first | omega | (simp <;> omega)) (by first | omega | (simp <;> omega))).read ?_
  refine Sq.quiet (i := 6) rfl (Want.none rfl) rfl (ltN rfl) (QP.rem rfl rfl rfl (by first | omega | (simp <;> omega))).read ?_
  refine Sq.quiet (i := 7) rfl (Want.none rfl) rfl (ltN rfl) (QP.assign rfl rfl).read ?_
  refine Sq.nil ?_
  refine hk2 _ _ ?_
  refine Run.seq fun k3 hk3 => ?_
  refine Run.region ?_
  show Sq _ _ _ [0, 1, 2, 3, 4, 5, 6] _ _ _ _
  refine Sq.quiet (i := 0) rfl (Want.none rfl) rfl (ltN rfl) (QP.move rfl rfl).read ?_
  refine Sq.quiet (i := 1) rfl (Want.none rfl) rfl (ltN rfl) (QP.geq rfl rfl rfl).read ?_
  refine J.caseD (fun c14 => ?_) (fun c14 => ?_)
  · skip
    refine Sq.quiet (i := 2) rfl (Want.none rfl) rfl (ltN rfl) (QP.move rfl rfl).read ?_
    refine Sq.quiet (i := 3) rfl (Want.yes rfl rfl rfl rfl) rfl (ltN rfl) (QP.move rfl rfl).read ?_
    refine Sq.quiet (i := 4) rfl (Want.yes rfl rfl rfl rfl) rfl (ltN rfl) (QP.leq rfl rfl rfl).read ?_
    refine Sq.quiet (i := 5) rfl (Want.none rfl) rfl (ltN rfl) (QP.pick_t rfl rfl rfl).read ?_
    refine Sq.quiet (i := 6) rfl (Want.none rfl) rfl (ltN rfl) (QP.assign rfl rfl).read ?_
    refine Sq.nil ?_
    refine hk3 _ _ ?_
    refine Run.ret ?_
    exact J.ends (res_tmp rfl rfl) Takes.nil ⟨by rw [less_rem ha hb]; first | (simp_all; done) | (simp_all; omega), rfl⟩
  · skip
    refine Sq.quiet (i := 2) rfl (Want.none rfl) rfl (ltN rfl) (QP.move rfl rfl).read ?_
    refine Sq.skip (i := 3) rfl (Want.no rfl rfl rfl rfl) rfl (ltN rfl) ?_
    refine Sq.skip (i := 4) rfl (Want.no rfl rfl rfl rfl) rfl (ltN rfl) ?_
    refine Sq.quiet (i := 5) rfl (Want.none rfl) rfl (ltN rfl) (QP.pick_f rfl rfl rfl).read ?_
    refine Sq.quiet (i := 6) rfl (Want.none rfl) rfl (ltN rfl) (QP.assign rfl rfl).read ?_
    refine Sq.nil ?_
    refine hk3 _ _ ?_
    refine Run.ret ?_
    exact J.ends (res_tmp rfl rfl) Takes.nil ⟨by rw [less_rem ha hb]; first | (simp_all; done) | (simp_all; omega), rfl⟩

theorem bs_at {n i : Nat} (x : Bs n) {u : UInt8} (h : x.l[i]? = some u) : SubL x.enc (0 + (Int.toNat i) * 1) 1 [byteV u] := by
  have hi : i < x.l.length := (List.getElem?_eq_some_iff.1 h).1
  have e : x.l = x.l.take i ++ u :: x.l.drop (i + 1) := by
    have : x.l[i] = u := (List.getElem?_eq_some_iff.1 h).2
    rw [← this, ← List.drop_eq_getElem_cons hi, List.take_append_drop]
  refine ⟨bytesV (x.l.take i), bytesV (x.l.drop (i + 1)), ?_, ?_, rfl⟩
  · unfold Bs.enc
    conv => lhs; rw [e]
    simp [bytesV]
  · rw [bytesV_length, List.length_take]
    simp; omega
theorem drop_at {n i : Nat} {x : Bs n} {u : UInt8} (h : x.l[i]? = some u) : x.l.drop i = u :: x.l.drop (i + 1) := by
  have hi : i < x.l.length := (List.getElem?_eq_some_iff.1 h).1
  have : x.l[i] = u := (List.getElem?_eq_some_iff.1 h).2
  rw [← this, ← List.drop_eq_getElem_cons hi]
theorem byte_eq {u t : UInt8} (h : (u.toNat : Int) = t.toNat) : u = t := UInt8.toNat_inj.1 (by omega)
theorem cmp_same {n i : Nat} {x y : Bs n} {u t : UInt8} (hx : x.l[i]? = some u) (hy : y.l[i]? = some t) (h : (u.toNat : Int) = t.toNat) : Lib.compareBytes (x.l.drop i) (y.l.drop i) = Lib.compareBytes (x.l.drop (i + 1)) (y.l.drop (i + 1)) := by
  rw [drop_at hx, drop_at hy, byte_eq h]
  conv => lhs; unfold Lib.compareBytes
  simp
theorem cmp_less {n i : Nat} {x y : Bs n} {u t : UInt8} (hx : x.l[i]? = some u) (hy : y.l[i]? = some t) (h : (u.toNat : Int) < t.toNat) : Lib.compareBytes (x.l.drop i) (y.l.drop i) = -1 := by
  rw [drop_at hx, drop_at hy]
  unfold Lib.compareBytes
  rw [if_pos (UInt8.lt_iff_toNat_lt.2 (by omega))]
theorem cmp_more {n i : Nat} {x y : Bs n} {u t : UInt8} (hx : x.l[i]? = some u) (hy : y.l[i]? = some t) (h0 : ¬ (u.toNat : Int) = t.toNat) (h : ¬ (u.toNat : Int) < t.toNat) : Lib.compareBytes (x.l.drop i) (y.l.drop i) = 1 := by
  rw [drop_at hx, drop_at hy]
  unfold Lib.compareBytes
  rw [if_neg (fun hc => h (by have := UInt8.lt_iff_toNat_lt.1 hc; omega)), if_pos (UInt8.lt_iff_toNat_lt.2 (by omega))]

theorem rcompare_spec (F : Fr) (x y : Bs 16) : Spec Try.prog 61 #[.agg (Bs.enc (x : Bs 16)).toArray, .agg (Bs.enc (y : Bs 16)).toArray] [] F (fun v S => ∃ n : Int, v = .int .i64 n ∧ S = [] ∧ (0 < n ↔ 0 < Lib.compareBytes x.l y.l) ∧ (n < 0 ↔ Lib.compareBytes x.l y.l < 0)) := by
  refine Spec.intro (N := 24) (args := [.agg (Bs.enc (x : Bs 16)).toArray, .agg (Bs.enc (y : Bs 16)).toArray]) Try.func61 rfl rfl (by simp) ?_
  refine Run.seq fun k1 hk1 => ?_
  refine Run.region ?_
  show Sq _ _ _ [0, 1, 2] _ _ _ _
  refine Sq.eff (i := 0) rfl (Want.none rfl) rfl (ltN rfl) (EF.boxA rfl rfl) ?_
  rintro _ _ ⟨b2, rfl, rfl⟩
  refine Sq.eff (i := 1) rfl (Want.none rfl) rfl (ltN rfl) (EF.boxA rfl rfl) ?_
  rintro _ _ ⟨b3, rfl, rfl⟩
  refine Sq.quiet (i := 2) rfl (Want.none rfl) rfl (ltN rfl) (QP.assign rfl rfl).read ?_
  refine Sq.nil ?_
  refine hk1 _ _ ?_
  refine Run.seq fun k2 hk2 => ?_
  refine Run.seq fun k3 hk3 => ?_
  refine Run.region ?_
  show Sq _ _ _ [0] _ _ _ _
  refine Sq.quiet (i := 0) rfl (Want.none rfl) rfl (ltN rfl) (QP.assign rfl rfl).read ?_
  refine Sq.nil ?_
  refine hk3 _ _ ?_
  refine Run.block ?_
  refine Run.loop1 (fun (i : Nat) => i ≤ 16 ∧ Lib.compareBytes x.l y.l = Lib.compareBytes (x.l.drop i) (y.l.drop i)) (fun i => .cons 2 (.pointer (some ⟨b2, 0, none⟩)) (.cons 3 (.pointer (some ⟨b3, 0, none⟩)) (.cons 5 (.int .i64 i) (.nil)))) (fun i => [blk b2 (Bs.enc x) 24, blk b3 (Bs.enc y) 24]) (fun i => 16 - i) (0) (⟨Nat.zero_le _, rfl⟩) ?_ ?_
  · exact fun _ j => J.envJ (J.keep (.cons (by repeat (first | exact Pick.head | apply Pick.tail)) (.cons (by repeat (first | exact Pick.head | apply Pick.tail)) Takes.nil)) j) ⟨rfl, rfl, rfl, trivial⟩
  rintro i ⟨hile, hcmp⟩ kl4 hl4
  refine Run.seq fun k5 hk5 => ?_
  refine Run.seq fun k6 hk6 => ?_
  refine Run.region ?_
  show Sq _ _ _ [0, 1] _ _ _ _
  refine Sq.quiet (i := 0) rfl (Want.none rfl) rfl (ltN rfl) (QP.move rfl rfl).read ?_
  refine Sq.quiet (i := 1) rfl (Want.none rfl) rfl (ltN rfl) (QP.lss rfl rfl rfl).read ?_
  refine J.caseD (fun c7 => ?_) (fun c7 => ?_)
  · skip
    refine Sq.nil ?_
    refine hk6 _ _ ?_
    refine Run.cond_t rfl ?_
    refine Run.skip ?_
    refine hk5 _ _ ?_
    refine Run.seq fun k7 hk7 => ?_
    refine Run.block ?_
    refine Run.seq fun k8 hk8 => ?_
    refine Run.regionD (M := [0, 1, 3, 0, 8, 24, 63]) (q := 127) (r := 36) (by kernel_rfl) ?_
    have hlt : i < 16 := by omega
    obtain ⟨u, hx⟩ : ∃ u, x.l[i]? = some u := ⟨_, List.getElem?_eq_getElem (by rw [x.h]; exact hlt)⟩
    obtain ⟨t, hy⟩ : ∃ t, y.l[i]? = some t := ⟨_, List.getElem?_eq_getElem (by rw [y.h]; exact hlt)⟩
    refine Dw.pure (i := 0) rfl (by kernel_rfl) (Want.none rfl) rfl (ltN rfl) (QP.move rfl rfl) ?_
    refine Dw.pure (i := 1) rfl (by kernel_rfl) (Want.none rfl) rfl (ltN rfl) (QP.indexArr rfl rfl rfl Try.underlying24 z5 (by omega) (by omega)) ?_
    refine Dw.read (i := 2) rfl (by kernel_rfl) (Want.none rfl) rfl (ltN rfl) (QR.load1 rfl rfl g5 (bs_at x hx)) ?_
    refine Dw.pure (i := 3) rfl (by kernel_rfl) (Want.none rfl) rfl (ltN rfl) (QP.move rfl rfl) ?_
    refine Dw.pure (i := 4) rfl (by kernel_rfl) (Want.none rfl) rfl (ltN rfl) (QP.indexArr rfl rfl rfl Try.underlying24 z5 (by omega) (by omega)) ?_
    refine Dw.read (i := 5) rfl (by kernel_rfl) (Want.none rfl) rfl (ltN rfl) (QR.load1 rfl rfl g5 (bs_at y hy)) ?_
    refine Dw.pure (i := 6) rfl (by kernel_rfl) (Want.none rfl) rfl (ltN rfl) (QP.neq rfl rfl rfl) ?_
    refine J.caseD (fun c16 => ?_) (fun c16 => ?_)
    · skip
      refine Dw.nil (by kernel_rfl) ?_
      refine hk8 _ _ ?_
      refine Run.cond_t rfl ?_
      refine Run.seq fun k9 hk9 => ?_
      refine Run.seq fun k10 hk10 => ?_
      refine Run.regionD (M := [0, 1, 3, 0, 8, 24, 63]) (q := 127) (r := 36) (by kernel_rfl) ?_
      refine Dw.pure (i := 0) rfl (by kernel_rfl) (Want.none rfl) rfl (ltN rfl) (QP.move rfl rfl) ?_
      refine Dw.pure (i := 1) rfl (by kernel_rfl) (Want.none rfl) rfl (ltN rfl) (QP.indexArr rfl rfl rfl Try.underlying24 z5 (by omega) (by omega)) ?_
      refine Dw.read (i := 2) rfl (by kernel_rfl) (Want.none rfl) rfl (ltN rfl) (QR.load1 rfl rfl g5 (bs_at x hx)) ?_
      refine Dw.pure (i := 3) rfl (by kernel_rfl) (Want.none rfl) rfl (ltN rfl) (QP.move rfl rfl) ?_
      refine Dw.pure (i := 4) rfl (by kernel_rfl) (Want.none rfl) rfl (ltN rfl) (QP.indexArr rfl rfl rfl Try.underlying24 z5 (by omega) (by omega)) ?_
      refine Dw.read (i := 5) rfl (by kernel_rfl) (Want.none rfl) rfl (ltN rfl) (QR.load1 rfl rfl g5 (bs_at y hy)) ?_
      refine Dw.pure (i := 6) rfl (by kernel_rfl) (Want.none rfl) rfl (ltN rfl) (QP.lss rfl rfl rfl) ?_
      refine J.caseD (fun c23 => ?_) (fun c23 => ?_)
      · skip
        refine Dw.nil (by kernel_rfl) ?_
        refine hk10 _ _ ?_
        refine Run.cond_t rfl ?_
        refine Run.seq fun k11 hk11 => ?_
        refine Run.region ?_
        show Sq _ _ _ [0] _ _ _ _
        refine Sq.quiet (i := 0) rfl (Want.none rfl) rfl (ltN rfl) (QP.assign rfl rfl).read ?_
        refine Sq.nil ?_
        refine hk11 _ _ ?_
        refine Run.ret ?_
        exact J.ends (res_tmp rfl rfl) Takes.nil ⟨_, rfl, rfl, by rw [hcmp, cmp_less hx hy (by simpa using c23)]; decide⟩
      · skip
        refine Dw.nil (by kernel_rfl) ?_
        refine hk10 _ _ ?_
        refine Run.cond_f rfl ?_
        refine Run.skip ?_
        refine hk9 _ _ ?_
        refine Run.seq fun k12 hk12 => ?_
        refine Run.region ?_
        show Sq _ _ _ [0] _ _ _ _
        refine Sq.quiet (i := 0) rfl (Want.none rfl) rfl (ltN rfl) (QP.assign rfl rfl).read ?_
        refine Sq.nil ?_
        refine hk12 _ _ ?_
        refine Run.ret ?_
        exact J.ends (res_tmp rfl rfl) Takes.nil ⟨_, rfl, rfl, by rw [hcmp, cmp_more hx hy (by simpa using c16) (by simpa using c23)]; decide⟩
    · skip
      refine Dw.nil (by kernel_rfl) ?_
      refine hk8 _ _ ?_
      refine Run.cond_f rfl ?_
      refine Run.skip ?_
      refine hk7 _ _ ?_
      refine Run.region ?_
      show Sq _ _ _ [0, 1, 2] _ _ _ _
      refine Sq.quiet (i := 0) rfl (Want.none rfl) rfl (ltN rfl) (QP.move rfl rfl).read ?_
      refine Sq.quiet (i := 1) rfl (Want.none rfl) rfl (ltN rfl) (QP.add64 rfl rfl rfl (by first | omega | (simp <;> omega)) (by first | omega | (simp <;> omega))).read ?_
      refine Sq.quiet (i := 2) rfl (Want.none rfl) rfl (ltN rfl) (QP.assign rfl rfl).read ?_
      refine Sq.nil ?_
      exact J.envJ (J.keep (.cons (by repeat (first | exact Pick.head | apply Pick.tail)) (.cons (by repeat (first | exact Pick.head | apply Pick.tail)) Takes.nil)) (hl4 (i + 1) (⟨by omega, by rw [hcmp]; exact cmp_same hx hy (by simpa using c16)⟩) (by omega))) ⟨rfl, rfl, rfl, trivial⟩
  · skip
    refine Sq.nil ?_
    refine hk6 _ _ ?_
    refine Run.cond_f rfl ?_
    refine Run.exit rfl ?_
    refine hk2 _ _ ?_
    refine Run.seq fun k13 hk13 => ?_
    refine Run.region ?_
    show Sq _ _ _ [0] _ _ _ _
    refine Sq.quiet (i := 0) rfl (Want.none rfl) rfl (ltN rfl) (QP.assign rfl rfl).read ?_
    refine Sq.nil ?_
    refine hk13 _ _ ?_
    refine Run.ret ?_
    exact J.ends (res_tmp rfl rfl) Takes.nil ⟨_, rfl, rfl, by rw [hcmp, List.drop_eq_nil_of_le (by rw [x.h]; omega), List.drop_eq_nil_of_le (by rw [y.h]; omega)]; decide⟩

theorem rids_spec (F : Fr) (x y : Bs 8) : Spec Try.prog 38 #[.agg (Bs.enc (x : Bs 8)).toArray, .agg (Bs.enc (y : Bs 8)).toArray] [] F (fun v S => ∃ n : Int, v = .int .i64 n ∧ S = [] ∧ (0 < n ↔ 0 < Lib.compareBytes x.l y.l) ∧ (n < 0 ↔ Lib.compareBytes x.l y.l < 0)) := by
  refine Spec.intro (N := 24) (args := [.agg (Bs.enc (x : Bs 8)).toArray, .agg (Bs.enc (y : Bs 8)).toArray]) Try.func38 rfl rfl (by simp) ?_
  refine Run.seq fun k1 hk1 => ?_
  refine Run.region ?_
  show Sq _ _ _ [0, 1, 2] _ _ _ _
  refine Sq.eff (i := 0) rfl (Want.none rfl) rfl (ltN rfl) (EF.boxA rfl rfl) ?_
  rintro _ _ ⟨b2, rfl, rfl⟩
  refine Sq.eff (i := 1) rfl (Want.none rfl) rfl (ltN rfl) (EF.boxA rfl rfl) ?_
  rintro _ _ ⟨b3, rfl, rfl⟩
  refine Sq.quiet (i := 2) rfl (Want.none rfl) rfl (ltN rfl) (QP.assign rfl rfl).read ?_
  refine Sq.nil ?_
  refine hk1 _ _ ?_
  refine Run.seq fun k2 hk2 => ?_
  refine Run.seq fun k3 hk3 => ?_
  refine Run.region ?_
  show Sq _ _ _ [0] _ _ _ _
  refine Sq.quiet (i := 0) rfl (Want.none rfl) rfl (ltN rfl) (QP.assign rfl rfl).read ?_
  refine Sq.nil ?_
  refine hk3 _ _ ?_
  refine Run.block ?_
  refine Run.loop1 (fun (i : Nat) => i ≤ 8 ∧ Lib.compareBytes x.l y.l = Lib.compareBytes (x.l.drop i) (y.l.drop i)) (fun i => .cons 2 (.pointer (some ⟨b2, 0, none⟩)) (.cons 3 (.pointer (some ⟨b3, 0, none⟩)) (.cons 5 (.int .i64 i) (.nil)))) (fun i => [blk b2 (Bs.enc x) 30, blk b3 (Bs.enc y) 30]) (fun i => 8 - i) (0) (⟨Nat.zero_le _, rfl⟩) ?_ ?_
  · exact fun _ j => J.envJ (J.keep (.cons (by repeat (first | exact Pick.head | apply Pick.tail)) (.cons (by repeat (first | exact Pick.head | apply Pick.tail)) Takes.nil)) j) ⟨rfl, rfl, rfl, trivial⟩
  rintro i ⟨hile, hcmp⟩ kl4 hl4
  refine Run.seq fun k5 hk5 => ?_
  refine Run.seq fun k6 hk6 => ?_
  refine Run.region ?_
  show Sq _ _ _ [0, 1] _ _ _ _
  refine Sq.quiet (i := 0) rfl (Want.none rfl) rfl (ltN rfl) (QP.move rfl rfl).read ?_
  refine Sq.quiet (i := 1) rfl (Want.none rfl) rfl (ltN rfl) (QP.lss rfl rfl rfl).read ?_
  refine J.caseD (fun c7 => ?_) (fun c7 => ?_)
  · skip
    refine Sq.nil ?_
    refine hk6 _ _ ?_
    refine Run.cond_t rfl ?_
    refine Run.skip ?_
    refine hk5 _ _ ?_
    refine Run.seq fun k7 hk7 => ?_
    refine Run.block ?_
    refine Run.seq fun k8 hk8 => ?_
    refine Run.regionD (M := [0, 1, 3, 0, 8, 24, 63]) (q := 127) (r := 36) (by kernel_rfl) ?_
    have hlt : i < 8 := by omega
    obtain ⟨u, hx⟩ : ∃ u, x.l[i]? = some u := ⟨_, List.getElem?_eq_getElem (by rw [x.h]; exact hlt)⟩
    obtain ⟨t, hy⟩ : ∃ t, y.l[i]? = some t := ⟨_, List.getElem?_eq_getElem (by rw [y.h]; exact hlt)⟩
    refine Dw.pure (i := 0) rfl (by kernel_rfl) (Want.none rfl) rfl (ltN rfl) (QP.move rfl rfl) ?_
    refine Dw.pure (i := 1) rfl (by kernel_rfl) (Want.none rfl) rfl (ltN rfl) (QP.indexArr rfl rfl rfl Try.underlying30 z5 (by omega) (by omega)) ?_
    refine Dw.read (i := 2) rfl (by kernel_rfl) (Want.none rfl) rfl (ltN rfl) (QR.load1 rfl rfl g5 (bs_at x hx)) ?_
    refine Dw.pure (i := 3) rfl (by kernel_rfl) (Want.none rfl) rfl (ltN rfl) (QP.move rfl rfl) ?_
    refine Dw.pure (i := 4) rfl (by kernel_rfl) (Want.none rfl) rfl (ltN rfl) (QP.indexArr rfl rfl rfl Try.underlying30 z5 (by omega) (by omega)) ?_
    refine Dw.read (i := 5) rfl (by kernel_rfl) (Want.none rfl) rfl (ltN rfl) (QR.load1 rfl rfl g5 (bs_at y hy)) ?_
    refine Dw.pure (i := 6) rfl (by kernel_rfl) (Want.none rfl) rfl (ltN rfl) (QP.neq rfl rfl rfl) ?_
    refine J.caseD (fun c16 => ?_) (fun c16 => ?_)
    · skip
      refine Dw.nil (by kernel_rfl) ?_
      refine hk8 _ _ ?_
      refine Run.cond_t rfl ?_
      refine Run.seq fun k9 hk9 => ?_
      refine Run.seq fun k10 hk10 => ?_
      refine Run.regionD (M := [0, 1, 3, 0, 8, 24, 63]) (q := 127) (r := 36) (by kernel_rfl) ?_
      refine Dw.pure (i := 0) rfl (by kernel_rfl) (Want.none rfl) rfl (ltN rfl) (QP.move rfl rfl) ?_
      refine Dw.pure (i := 1) rfl (by kernel_rfl) (Want.none rfl) rfl (ltN rfl) (QP.indexArr rfl rfl rfl Try.underlying30 z5 (by omega) (by omega)) ?_
      refine Dw.read (i := 2) rfl (by kernel_rfl) (Want.none rfl) rfl (ltN rfl) (QR.load1 rfl rfl g5 (bs_at x hx)) ?_
      refine Dw.pure (i := 3) rfl (by kernel_rfl) (Want.none rfl) rfl (ltN rfl) (QP.move rfl rfl) ?_
      refine Dw.pure (i := 4) rfl (by kernel_rfl) (Want.none rfl) rfl (ltN rfl) (QP.indexArr rfl rfl rfl Try.underlying30 z5 (by omega) (by omega)) ?_
      refine Dw.read (i := 5) rfl (by kernel_rfl) (Want.none rfl) rfl (ltN rfl) (QR.load1 rfl rfl g5 (bs_at y hy)) ?_
      refine Dw.pure (i := 6) rfl (by kernel_rfl) (Want.none rfl) rfl (ltN rfl) (QP.lss rfl rfl rfl) ?_
      refine J.caseD (fun c23 => ?_) (fun c23 => ?_)
      · skip
        refine Dw.nil (by kernel_rfl) ?_
        refine hk10 _ _ ?_
        refine Run.cond_t rfl ?_
        refine Run.seq fun k11 hk11 => ?_
        refine Run.region ?_
        show Sq _ _ _ [0] _ _ _ _
        refine Sq.quiet (i := 0) rfl (Want.none rfl) rfl (ltN rfl) (QP.assign rfl rfl).read ?_
        refine Sq.nil ?_
        refine hk11 _ _ ?_
        refine Run.ret ?_
        exact J.ends (res_tmp rfl rfl) Takes.nil ⟨_, rfl, rfl, by rw [hcmp, cmp_less hx hy (by simpa using c23)]; decide⟩
      · skip
        refine Dw.nil (by kernel_rfl) ?_
        refine hk10 _ _ ?_
        refine Run.cond_f rfl ?_
        refine Run.skip ?_
        refine hk9 _ _ ?_
        refine Run.seq fun k12 hk12 => ?_
        refine Run.region ?_
        show Sq _ _ _ [0] _ _ _ _
        refine Sq.quiet (i := 0) rfl (Want.none rfl) rfl (ltN rfl) (QP.assign rfl rfl).read ?_
        refine Sq.nil ?_
        refine hk12 _ _ ?_
        refine Run.ret ?_
        exact J.ends (res_tmp rfl rfl) Takes.nil ⟨_, rfl, rfl, by rw [hcmp, cmp_more hx hy (by simpa using c16) (by simpa using c23)]; decide⟩
    · skip
      refine Dw.nil (by kernel_rfl) ?_
      refine hk8 _ _ ?_
      refine Run.cond_f rfl ?_
      refine Run.skip ?_
      refine hk7 _ _ ?_
      refine Run.region ?_
      show Sq _ _ _ [0, 1, 2] _ _ _ _
      refine Sq.quiet (i := 0) rfl (Want.none rfl) rfl (ltN rfl) (QP.move rfl rfl).read ?_
      refine Sq.quiet (i := 1) rfl (Want.none rfl) rfl (ltN rfl) (QP.add64 rfl rfl rfl (by first | omega | (simp <;> omega)) (by first | omega | (simp <;> omega))).read ?_
      refine Sq.quiet (i := 2) rfl (Want.none rfl) rfl (ltN rfl) (QP.assign rfl rfl).read ?_
      refine Sq.nil ?_
      exact J.envJ (J.keep (.cons (by repeat (first | exact Pick.head | apply Pick.tail)) (.cons (by repeat (first | exact Pick.head | apply Pick.tail)) Takes.nil)) (hl4 (i + 1) (⟨by omega, by rw [hcmp]; exact cmp_same hx hy (by simpa using c16)⟩) (by omega))) ⟨rfl, rfl, rfl, trivial⟩
  · skip
    refine Sq.nil ?_
    refine hk6 _ _ ?_
    refine Run.cond_f rfl ?_
    refine Run.exit rfl ?_
    refine hk2 _ _ ?_
    refine Run.seq fun k13 hk13 => ?_
    refine Run.region ?_
    show Sq _ _ _ [0] _ _ _ _
    refine Sq.quiet (i := 0) rfl (Want.none rfl) rfl (ltN rfl) (QP.assign rfl rfl).read ?_
    refine Sq.nil ?_
    refine hk13 _ _ ?_
    refine Run.ret ?_
    exact J.ends (res_tmp rfl rfl) Takes.nil ⟨_, rfl, rfl, by rw [hcmp, List.drop_eq_nil_of_le (by rw [x.h]; omega), List.drop_eq_nil_of_le (by rw [y.h]; omega)]; decide⟩

theorem cmpPrefix_sign {x y : Prefix} {n : Int} (h1 : 0 < n ↔ 0 < Lib.compareBytes x.a.l y.a.l) (h2 : n < 0 ↔ Lib.compareBytes x.a.l y.a.l < 0) (hn : n ≠ 0) : (0 < n ↔ 0 < cmpPrefix x y) ∧ (n < 0 ↔ cmpPrefix x y < 0) := by
  have : cmpPrefix x y = Lib.compareBytes x.a.l y.a.l := by
    simp only [cmpPrefix, orF]
    rw [if_pos (by omega)]
  rw [this]; exact ⟨h1, h2⟩
theorem cmpPrefix_len {x y : Prefix} {n : Int} (h1 : 0 < n ↔ 0 < Lib.compareBytes x.a.l y.a.l) (h2 : n < 0 ↔ Lib.compareBytes x.a.l y.a.l < 0) (hn : n = 0) : cmpPrefix x y = if x.len.val < y.len.val then -1 else if y.len.val < x.len.val then 1 else 0 := by
  simp only [cmpPrefix, orF, cmpF]
  rw [if_neg (by omega)]
  split
  · rfl
  · split
    · rfl
    · rfl
theorem cmpPair_sign {x y : Pair} {n : Int} (h1 : 0 < n ↔ 0 < cmpPrefix x.dst y.dst) (h2 : n < 0 ↔ cmpPrefix x.dst y.dst < 0) (hn : n ≠ 0) : (0 < n ↔ 0 < cmpPair x y) ∧ (n < 0 ↔ cmpPair x y < 0) := by
  have : cmpPair x y = cmpPrefix x.dst y.dst := by
    simp only [cmpPair, orF]
    rw [if_pos (by omega)]
  rw [this]; exact ⟨h1, h2⟩
theorem cmpPair_src {x y : Pair} {n m : Int} (h1 : 0 < n ↔ 0 < cmpPrefix x.dst y.dst) (h2 : n < 0 ↔ cmpPrefix x.dst y.dst < 0) (hn : n = 0) (h3 : 0 < m ↔ 0 < cmpPrefix x.src y.src) (h4 : m < 0 ↔ cmpPrefix x.src y.src < 0) : (0 < m ↔ 0 < cmpPair x y) ∧ (m < 0 ↔ cmpPair x y < 0) := by
  have : cmpPair x y = cmpPrefix x.src y.src := by
    simp only [cmpPair, orF]
    rw [if_neg (by omega)]
    split
    · rfl
    · rename_i h; simp at h; exact h.symm
  rw [this]; exact ⟨h3, h4⟩

theorem rcmpPrefix_spec (F : Fr) (x y : Prefix) : Spec Try.prog 47 #[.agg (Prefix.enc x).toArray, .agg (Prefix.enc y).toArray] [] F (fun v S => ∃ n : Int, v = .int .i64 n ∧ S = [] ∧ (0 < n ↔ 0 < cmpPrefix x y) ∧ (n < 0 ↔ cmpPrefix x y < 0)) := by
  refine Spec.intro (N := 27) (args := [.agg (Prefix.enc x).toArray, .agg (Prefix.enc y).toArray]) Try.func47 rfl rfl (by simp) ?_
  refine Run.seq fun k1 hk1 => ?_
  refine Run.region ?_
  show Sq _ _ _ [0, 1, 2] _ _ _ _
  refine Sq.eff (i := 0) rfl (Want.none rfl) rfl (ltN rfl) (EF.boxA rfl rfl) ?_
  rintro _ _ ⟨b2, rfl, rfl⟩
  refine Sq.eff (i := 1) rfl (Want.none rfl) rfl (ltN rfl) (EF.boxA rfl rfl) ?_
  rintro _ _ ⟨b3, rfl, rfl⟩
  refine Sq.quiet (i := 2) rfl (Want.none rfl) rfl (ltN rfl) (QP.assign rfl rfl).read ?_
  refine Sq.nil ?_
  refine hk1 _ _ ?_
  refine Run.seq fun k2 hk2 => ?_
  refine Run.region ?_
  show Sq _ _ _ [0, 1, 2, 3, 4, 5] _ _ _ _
  refine Sq.quiet (i := 0) rfl (Want.none rfl) rfl (ltN rfl) (QP.fieldAddr rfl rfl f26_0).read ?_
  refine Sq.quiet (i := 1) rfl (Want.none rfl) rfl (ltN rfl) (QR.load rfl rfl g24 (Prefix.sub_a _)) ?_
  refine Sq.quiet (i := 2) rfl (Want.none rfl) rfl (ltN rfl) (QP.fieldAddr rfl rfl f26_0).read ?_
  refine Sq.quiet (i := 3) rfl (Want.none rfl) rfl (ltN rfl) (QR.load rfl rfl g24 (Prefix.sub_a _)) ?_
  refine Sq.eff (i := 4) rfl (Want.none rfl) rfl (ltN rfl) (EF.call rfl ce61 rfl Takes.nil (fun F' hle hr => rcompare_spec F' x.a y.a)) ?_
  rintro _ _ ⟨_, ⟨n10, rfl, rfl, hp10, hm10⟩, rfl⟩
  refine J.app ?_
  refine Sq.quiet (i := 5) rfl (Want.none rfl) rfl (ltN rfl) (QP.assign rfl rfl).read ?_
  refine Sq.nil ?_
  refine hk2 _ _ ?_
  refine Run.seq fun k3 hk3 => ?_
  refine Run.block ?_
  refine Run.seq fun k4 hk4 => ?_
  refine Run.region ?_
  show Sq _ _ _ [0, 1, 2] _ _ _ _
  refine Sq.quiet (i := 0) rfl (Want.none rfl) rfl (ltN rfl) (QP.move rfl rfl).read ?_
  refine Sq.quiet (i := 1) rfl (Want.none rfl) rfl (ltN rfl) (QP.neq rfl rfl rfl).read ?_
  refine J.caseD (fun c13 => ?_) (fun c13 => ?_)
  · skip
    refine Sq.quiet (i := 2) rfl (Want.none rfl) rfl (ltN rfl) (QP.assign rfl rfl).read ?_
    refine Sq.nil ?_
    refine hk4 _ _ ?_
    refine Run.cond_t rfl ?_
    refine Run.seq fun k5 hk5 => ?_
    refine Run.region ?_
    show Sq _ _ _ [0, 1] _ _ _ _
    refine Sq.quiet (i := 0) rfl (Want.none rfl) rfl (ltN rfl) (QP.move rfl rfl).read ?_
    refine Sq.quiet (i := 1) rfl (Want.none rfl) rfl (ltN rfl) (QP.assign rfl rfl).read ?_
    refine Sq.nil ?_
    refine hk5 _ _ ?_
    refine Run.ret ?_
    exact J.ends (res_tmp rfl rfl) Takes.nil ⟨_, rfl, rfl, cmpPrefix_sign hp10 hm10 c13⟩
  · skip
    refine Sq.quiet (i := 2) rfl (Want.none rfl) rfl (ltN rfl) (QP.assign rfl rfl).read ?_
    refine Sq.nil ?_
    refine hk4 _ _ ?_
    refine Run.cond_f rfl ?_
    refine Run.seq fun k6 hk6 => ?_
    refine Run.region ?_
    show Sq _ _ _ [0, 1, 2, 3, 4, 5] _ _ _ _
    refine Sq.quiet (i := 0) rfl (Want.none rfl) rfl (ltN rfl) (QP.fieldAddr rfl rfl f26_1).read ?_
    refine Sq.quiet (i := 1) rfl (Want.none rfl) rfl (ltN rfl) (QR.load1 rfl rfl g3 (Prefix.sub_len _)) ?_
    refine Sq.quiet (i := 2) rfl (Want.none rfl) rfl (ltN rfl) (QP.fieldAddr rfl rfl f26_1).read ?_
    refine Sq.quiet (i := 3) rfl (Want.none rfl) rfl (ltN rfl) (QR.load1 rfl rfl g3 (Prefix.sub_len _)) ?_
    refine Sq.quiet (i := 4) rfl (Want.none rfl) rfl (ltN rfl) (QP.lss rfl rfl rfl).read ?_
    refine J.caseD (fun c20 => ?_) (fun c20 => ?_)
    · skip
      refine Sq.quiet (i := 5) rfl (Want.none rfl) rfl (ltN rfl) (QP.assign rfl rfl).read ?_
      refine Sq.nil ?_
      refine hk6 _ _ ?_
      refine Run.cond_t rfl ?_
      refine Run.seq fun k7 hk7 => ?_
      refine Run.region ?_
      show Sq _ _ _ [0] _ _ _ _
      refine Sq.quiet (i := 0) rfl (Want.none rfl) rfl (ltN rfl) (QP.assign rfl rfl).read ?_
      refine Sq.nil ?_
      refine hk7 _ _ ?_
      refine Run.ret ?_
      exact J.ends (res_tmp rfl rfl) Takes.nil ⟨_, rfl, rfl, by rw [cmpPrefix_len hp10 hm10 (by omega)]; (repeat (first | rw [if_pos (by assumption)] | rw [if_neg (by assumption)])); decide⟩
    · skip
      refine Sq.quiet (i := 5) rfl (Want.none rfl) rfl (ltN rfl) (QP.assign rfl rfl).read ?_
      refine Sq.nil ?_
      refine hk6 _ _ ?_
      refine Run.cond_f rfl ?_
      refine Run.seq fun k8 hk8 => ?_
      refine Run.region ?_
      show Sq _ _ _ [0, 1, 2, 3, 4, 5] _ _ _ _
      refine Sq.quiet (i := 0) rfl (Want.none rfl) rfl (ltN rfl) (QP.fieldAddr rfl rfl f26_1).read ?_
      refine Sq.quiet (i := 1) rfl (Want.none rfl) rfl (ltN rfl) (QR.load1 rfl rfl g3 (Prefix.sub_len _)) ?_
      refine Sq.quiet (i := 2) rfl (Want.none rfl) rfl (ltN rfl) (QP.fieldAddr rfl rfl f26_1).read ?_
      refine Sq.quiet (i := 3) rfl (Want.none rfl) rfl (ltN rfl) (QR.load1 rfl rfl g3 (Prefix.sub_len _)) ?_
      refine Sq.quiet (i := 4) rfl (Want.none rfl) rfl (ltN rfl) (QP.gtr rfl rfl rfl).read ?_
      refine J.caseD (fun c26 => ?_) (fun c26 => ?_)
      · skip
        refine Sq.quiet (i := 5) rfl (Want.none rfl) rfl (ltN rfl) (QP.assign rfl rfl).read ?_
        refine Sq.nil ?_
        refine hk8 _ _ ?_
        refine Run.cond_t rfl ?_
        refine Run.seq fun k9 hk9 => ?_
        refine Run.region ?_
        show Sq _ _ _ [0] _ _ _ _
        refine Sq.quiet (i := 0) rfl (Want.none rfl) rfl (ltN rfl) (QP.assign rfl rfl).read ?_
        refine Sq.nil ?_
        refine hk9 _ _ ?_
        refine Run.ret ?_
        exact J.ends (res_tmp rfl rfl) Takes.nil ⟨_, rfl, rfl, by rw [cmpPrefix_len hp10 hm10 (by omega)]; (repeat (first | rw [if_pos (by assumption)] | rw [if_neg (by assumption)])); decide⟩
      · skip
        refine Sq.quiet (i := 5) rfl (Want.none rfl) rfl (ltN rfl) (QP.assign rfl rfl).read ?_
        refine Sq.nil ?_
        refine hk8 _ _ ?_
        refine Run.cond_f rfl ?_
        refine Run.skip ?_
        refine hk3 _ _ ?_
        refine Run.seq fun k10 hk10 => ?_
        refine Run.region ?_
        show Sq _ _ _ [0] _ _ _ _
        refine Sq.quiet (i := 0) rfl (Want.none rfl) rfl (ltN rfl) (QP.assign rfl rfl).read ?_
        refine Sq.nil ?_
        refine hk10 _ _ ?_
        refine Run.ret ?_
        exact J.ends (res_tmp rfl rfl) Takes.nil ⟨_, rfl, rfl, by rw [cmpPrefix_len hp10 hm10 (by omega)]; (repeat (first | rw [if_pos (by assumption)] | rw [if_neg (by assumption)])); decide⟩

theorem rcmpPair_spec (F : Fr) (x y : Pair) : Spec Try.prog 37 #[.agg (Pair.enc x).toArray, .agg (Pair.enc y).toArray] [] F (fun v S => ∃ n : Int, v = .int .i64 n ∧ S = [] ∧ (0 < n ↔ 0 < cmpPair x y) ∧ (n < 0 ↔ cmpPair x y < 0)) := by
  refine Spec.intro (N := 19) (args := [.agg (Pair.enc x).toArray, .agg (Pair.enc y).toArray]) Try.func37 rfl rfl (by simp) ?_
  refine Run.seq fun k1 hk1 => ?_
  refine Run.region ?_
  show Sq _ _ _ [0, 1, 2] _ _ _ _
  refine Sq.eff (i := 0) rfl (Want.none rfl) rfl (ltN rfl) (EF.boxA rfl rfl) ?_
  rintro _ _ ⟨b2, rfl, rfl⟩
  refine Sq.eff (i := 1) rfl (Want.none rfl) rfl (ltN rfl) (EF.boxA rfl rfl) ?_
  rintro _ _ ⟨b3, rfl, rfl⟩
  refine Sq.quiet (i := 2) rfl (Want.none rfl) rfl (ltN rfl) (QP.assign rfl rfl).read ?_
  refine Sq.nil ?_
  refine hk1 _ _ ?_
  refine Run.seq fun k2 hk2 => ?_
  refine Run.region ?_
  show Sq _ _ _ [0, 1, 2, 3, 4, 5] _ _ _ _
  refine Sq.quiet (i := 0) rfl (Want.none rfl) rfl (ltN rfl) (QP.fieldAddr rfl rfl f28_0).read ?_
  refine Sq.quiet (i := 1) rfl (Want.none rfl) rfl (ltN rfl) (QR.load rfl rfl g26 (Pair.sub_dst _)) ?_
  refine Sq.quiet (i := 2) rfl (Want.none rfl) rfl (ltN rfl) (QP.fieldAddr rfl rfl f28_0).read ?_
  refine Sq.quiet (i := 3) rfl (Want.none rfl) rfl (ltN rfl) (QR.load rfl rfl g26 (Pair.sub_dst _)) ?_
  refine Sq.eff (i := 4) rfl (Want.none rfl) rfl (ltN rfl) (EF.call rfl ce47 rfl Takes.nil (fun F' hle hr => rcmpPrefix_spec F' x.dst y.dst)) ?_
  rintro _ _ ⟨_, ⟨n10, rfl, rfl, hp10, hm10⟩, rfl⟩
  refine J.app ?_
  refine Sq.quiet (i := 5) rfl (Want.none rfl) rfl (ltN rfl) (QP.assign rfl rfl).read ?_
  refine Sq.nil ?_
  refine hk2 _ _ ?_
  refine Run.seq fun k3 hk3 => ?_
  refine Run.seq fun k4 hk4 => ?_
  refine Run.region ?_
  show Sq _ _ _ [0, 1] _ _ _ _
  refine Sq.quiet (i := 0) rfl (Want.none rfl) rfl (ltN rfl) (QP.move rfl rfl).read ?_
  refine Sq.quiet (i := 1) rfl (Want.none rfl) rfl (ltN rfl) (QP.neq rfl rfl rfl).read ?_
  refine J.caseD (fun c12 => ?_) (fun c12 => ?_)
  · skip
    refine Sq.nil ?_
    refine hk4 _ _ ?_
    refine Run.cond_t rfl ?_
    refine Run.seq fun k5 hk5 => ?_
    refine Run.region ?_
    show Sq _ _ _ [0, 1] _ _ _ _
    refine Sq.quiet (i := 0) rfl (Want.none rfl) rfl (ltN rfl) (QP.move rfl rfl).read ?_
    refine Sq.quiet (i := 1) rfl (Want.none rfl) rfl (ltN rfl) (QP.assign rfl rfl).read ?_
    refine Sq.nil ?_
    refine hk5 _ _ ?_
    refine Run.ret ?_
    exact J.ends (res_tmp rfl rfl) Takes.nil ⟨_, rfl, rfl, cmpPair_sign hp10 hm10 c12⟩
  · skip
    refine Sq.nil ?_
    refine hk4 _ _ ?_
    refine Run.cond_f rfl ?_
    refine Run.skip ?_
    refine hk3 _ _ ?_
    refine Run.seq fun k6 hk6 => ?_
    refine Run.region ?_
    show Sq _ _ _ [0, 1, 2, 3, 4, 5] _ _ _ _
    refine Sq.quiet (i := 0) rfl (Want.none rfl) rfl (ltN rfl) (QP.fieldAddr rfl rfl f28_1).read ?_
    refine Sq.quiet (i := 1) rfl (Want.none rfl) rfl (ltN rfl) (QR.load rfl rfl g26 (Pair.sub_src _)) ?_
    refine Sq.quiet (i := 2) rfl (Want.none rfl) rfl (ltN rfl) (QP.fieldAddr rfl rfl f28_1).read ?_
    refine Sq.quiet (i := 3) rfl (Want.none rfl) rfl (ltN rfl) (QR.load rfl rfl g26 (Pair.sub_src _)) ?_
    refine Sq.eff (i := 4) rfl (Want.none rfl) rfl (ltN rfl) (EF.call rfl ce47 rfl Takes.nil (fun F' hle hr => rcmpPrefix_spec F' x.src y.src)) ?_
    rintro _ _ ⟨_, ⟨n18, rfl, rfl, hp18, hm18⟩, rfl⟩
    refine J.app ?_
    refine Sq.quiet (i := 5) rfl (Want.none rfl) rfl (ltN rfl) (QP.assign rfl rfl).read ?_
    refine Sq.nil ?_
    refine hk6 _ _ ?_
    refine Run.ret ?_
    exact J.ends (res_tmp rfl rfl) Takes.nil ⟨_, rfl, rfl, cmpPair_src hp10 hm10 (by omega) hp18 hm18⟩

theorem better_ref (a b : Distance) : betterB a b = (lessB b.seqno a.seqno || (decide (a.seqno = b.seqno) && decide (a.metric < b.metric))) := by
  unfold betterB
  by_cases h : a.seqno = b.seqno
  · have : lessB b.seqno a.seqno = false := by simp [lessB, h]
    simp [h, this, lessB]
  · simp [h]

theorem rbetter_spec (F : Fr) (a b : Distance) (ha : a.WF) (hb : b.WF) : Spec Try.prog 46 #[.agg (Distance.enc a).toArray, .agg (Distance.enc b).toArray] [] F (fun v S => v = .bool (betterB a b) ∧ S = []) := by
  refine Spec.intro (N := 24) (args := [.agg (Distance.enc a).toArray, .agg (Distance.enc b).toArray]) Try.func46 rfl rfl (by simp) ?_
  refine Run.seq fun k1 hk1 => ?_
  refine Run.region ?_
  show Sq _ _ _ [0, 1, 2] _ _ _ _
  refine Sq.eff (i := 0) rfl (Want.none rfl) rfl (ltN rfl) (EF.boxA rfl rfl) ?_
  rintro _ _ ⟨b2, rfl, rfl⟩
  refine Sq.eff (i := 1) rfl (Want.none rfl) rfl (ltN rfl) (EF.boxA rfl rfl) ?_
  rintro _ _ ⟨b3, rfl, rfl⟩
  refine Sq.quiet (i := 2) rfl (Want.none rfl) rfl (ltN rfl) (QP.assign rfl rfl).read ?_
  refine Sq.nil ?_
  refine hk1 _ _ ?_
  refine Run.seq fun k2 hk2 => ?_
  refine Run.region ?_
  show Sq _ _ _ [0, 1, 2, 3, 4, 5, 6, 7, 8, 9, 10, 11, 12, 13, 14, 15, 16, 17, 18, 19] _ _ _ _
  refine Sq.quiet (i := 0) rfl (Want.none rfl) rfl (ltN rfl) (QP.fieldAddr rfl rfl f33_0).read ?_
  refine Sq.quiet (i := 1) rfl (Want.none rfl) rfl (ltN rfl) (QR.load1 rfl rfl g31 (Distance.sub_seqno _)) ?_
  refine Sq.quiet (i := 2) rfl (Want.none rfl) rfl (ltN rfl) (QP.fieldAddr rfl rfl f33_0).read ?_
  refine Sq.quiet (i := 3) rfl (Want.none rfl) rfl (ltN rfl) (QR.load1 rfl rfl g31 (Distance.sub_seqno _)) ?_
  refine Sq.eff (i := 4) rfl (Want.none rfl) rfl (ltN rfl) (EF.call rfl ce60 rfl Takes.nil (fun F' hle hr => rless_spec F' b.seqno a.seqno hb.1 ha.1)) ?_
  rintro _ _ ⟨_, ⟨rfl, rfl⟩, rfl⟩
  refine J.app ?_
  refine J.caseB (fun c9 => ?_) (fun c9 => ?_)
  · skip
    refine Sq.quiet (i := 5) rfl (Want.none rfl) rfl (ltN rfl) (QP.move rfl rfl).read ?_
    refine Sq.skip (i := 6) rfl (Want.no rfl rfl rfl rfl) rfl (ltN rfl) ?_
    refine Sq.skip (i := 7) rfl (Want.no rfl rfl rfl rfl) rfl (ltN rfl) ?_
    refine Sq.skip (i := 8) rfl (Want.no rfl rfl rfl rfl) rfl (ltN rfl) ?_
    refine Sq.skip (i := 9) rfl (Want.no rfl rfl rfl rfl) rfl (ltN rfl) ?_
    refine Sq.skip (i := 10) rfl (Want.no rfl rfl rfl rfl) rfl (ltN rfl) ?_
    refine Sq.skip (i := 11) rfl (Want.no rfl rfl rfl rfl) rfl (ltN rfl) ?_
    refine Sq.skip (i := 12) rfl (Want.undef rfl rfl rfl) rfl (ltN rfl) ?_
    refine Sq.skip (i := 13) rfl (Want.undef rfl rfl rfl) rfl (ltN rfl) ?_
    refine Sq.skip (i := 14) rfl (Want.undef rfl rfl rfl) rfl (ltN rfl) ?_
    refine Sq.skip (i := 15) rfl (Want.undef rfl rfl rfl) rfl (ltN rfl) ?_
    refine Sq.skip (i := 16) rfl (Want.undef rfl rfl rfl) rfl (ltN rfl) ?_
    refine Sq.skip (i := 17) rfl (Want.no rfl rfl rfl rfl) rfl (ltN rfl) ?_
    refine Sq.quiet (i := 18) rfl (Want.none rfl) rfl (ltN rfl) (QP.pick_t rfl rfl rfl).read ?_
    refine Sq.quiet (i := 19) rfl (Want.none rfl) rfl (ltN rfl) (QP.assign rfl rfl).read ?_
    refine Sq.nil ?_
    refine hk2 _ _ ?_
    refine Run.ret ?_
    exact J.ends (res_tmp rfl rfl) Takes.nil ⟨by rw [better_ref]; simp_all, rfl⟩
  · skip
    refine Sq.quiet (i := 5) rfl (Want.none rfl) rfl (ltN rfl) (QP.move rfl rfl).read ?_
    refine Sq.quiet (i := 6) rfl (Want.yes rfl rfl rfl rfl) rfl (ltN rfl) (QP.fieldAddr rfl rfl f33_0).read ?_
    refine Sq.quiet (i := 7) rfl (Want.yes rfl rfl rfl rfl) rfl (ltN rfl) (QR.load1 rfl rfl g31 (Distance.sub_seqno _)) ?_
    refine Sq.quiet (i := 8) rfl (Want.yes rfl rfl rfl rfl) rfl (ltN rfl) (QP.fieldAddr rfl rfl f33_0).read ?_
    refine Sq.quiet (i := 9) rfl (Want.yes rfl rfl rfl rfl) rfl (ltN rfl) (QR.load1 rfl rfl g31 (Distance.sub_seqno _)) ?_
    refine Sq.quiet (i := 10) rfl (Want.yes rfl rfl rfl rfl) rfl (ltN rfl) (QP.eql rfl rfl rfl).read ?_
    refine J.caseD (fun c15 => ?_) (fun c15 => ?_)
    · skip
      refine Sq.quiet (i := 11) rfl (Want.yes rfl rfl rfl rfl) rfl (ltN rfl) (QP.move rfl rfl).read ?_
      refine Sq.quiet (i := 12) rfl (Want.yes rfl rfl rfl rfl) rfl (ltN rfl) (QP.fieldAddr rfl rfl f33_1).read ?_
      refine Sq.quiet (i := 13) rfl (Want.yes rfl rfl rfl rfl) rfl (ltN rfl) (QR.load1 rfl rfl g31 (Distance.sub_metric _)) ?_
      refine Sq.quiet (i := 14) rfl (Want.yes rfl rfl rfl rfl) rfl (ltN rfl) (QP.fieldAddr rfl rfl f33_1).read ?_
      refine Sq.quiet (i := 15) rfl (Want.yes rfl rfl rfl rfl) rfl (ltN rfl) (QR.load1 rfl rfl g31 (Distance.sub_metric _)) ?_
      refine Sq.quiet (i := 16) rfl (Want.yes rfl rfl rfl rfl) rfl (ltN rfl) (QP.lss rfl rfl rfl).read ?_
      refine Sq.quiet (i := 17) rfl (Want.yes rfl rfl rfl rfl) rfl (ltN rfl) (QP.pick_t rfl rfl rfl).read ?_
      refine Sq.quiet (i := 18) rfl (Want.none rfl) rfl (ltN rfl) (QP.pick_f rfl rfl rfl).read ?_
      refine Sq.quiet (i := 19) rfl (Want.none rfl) rfl (ltN rfl) (QP.assign rfl rfl).read ?_
      refine Sq.nil ?_
      refine hk2 _ _ ?_
      refine Run.ret ?_
      exact J.ends (res_tmp rfl rfl) Takes.nil ⟨by rw [better_ref]; simp_all, rfl⟩
    · skip
      refine Sq.quiet (i := 11) rfl (Want.yes rfl rfl rfl rfl) rfl (ltN rfl) (QP.move rfl rfl).read ?_
      refine Sq.skip (i := 12) rfl (Want.no rfl rfl rfl rfl) rfl (ltN rfl) ?_
      refine Sq.skip (i := 13) rfl (Want.no rfl rfl rfl rfl) rfl (ltN rfl) ?_
      refine Sq.skip (i := 14) rfl (Want.no rfl rfl rfl rfl) rfl (ltN rfl) ?_
      refine Sq.skip (i := 15) rfl (Want.no rfl rfl rfl rfl) rfl (ltN rfl) ?_
      refine Sq.skip (i := 16) rfl (Want.no rfl rfl rfl rfl) rfl (ltN rfl) ?_
      refine Sq.quiet (i := 17) rfl (Want.yes rfl rfl rfl rfl) rfl (ltN rfl) (QP.pick_f rfl rfl rfl).read ?_
      refine Sq.quiet (i := 18) rfl (Want.none rfl) rfl (ltN rfl) (QP.pick_f rfl rfl rfl).read ?_
      refine Sq.quiet (i := 19) rfl (Want.none rfl) rfl (ltN rfl) (QP.assign rfl rfl).read ?_
      refine Sq.nil ?_
      refine hk2 _ _ ?_
      refine Run.ret ?_
      exact J.ends (res_tmp rfl rfl) Takes.nil ⟨by rw [better_ref]; simp_all, rfl⟩

theorem rfeas_none (F : Fr) (d : Distance) : Spec Try.prog 39 #[.agg (Distance.enc d).toArray, .pointer none] [] F (fun v S => v = .bool (feasB d none) ∧ S = []) := by
  refine Spec.intro (N := 19) (args := [.agg (Distance.enc d).toArray, .pointer none]) Try.func39 rfl rfl (by simp) ?_
  refine Run.seq fun k1 hk1 => ?_
  refine Run.region ?_
  show Sq _ _ _ [0, 1] _ _ _ _
  refine Sq.eff (i := 0) rfl (Want.none rfl) rfl (ltN rfl) (EF.boxA rfl rfl) ?_
  rintro _ _ ⟨b2, rfl, rfl⟩
  refine Sq.quiet (i := 1) rfl (Want.none rfl) rfl (ltN rfl) (QP.assign rfl rfl).read ?_
  refine Sq.nil ?_
  refine hk1 _ _ ?_
  refine Run.seq fun k2 hk2 => ?_
  refine Run.regionD (M := [0, 1, 3, 7, 15, 31, 63, 127, 255, 255, 767, 1791, 4095, 8191, 16383]) (q := 12287) (r := 2306) (by kernel_rfl) ?_
  refine Dw.pure (i := 0) rfl (by kernel_rfl) (Want.none rfl) rfl (ltN rfl) (QP.fieldAddr rfl rfl f33_1) ?_
  refine Dw.read (i := 1) rfl (by kernel_rfl) (Want.none rfl) rfl (ltN rfl) (QR.load1 rfl rfl g31 (Distance.sub_metric _)) ?_
  refine Dw.pure (i := 2) rfl (by kernel_rfl) (Want.none rfl) rfl (ltN rfl) (QP.eql rfl rfl rfl) ?_
  refine J.caseD (fun c7 => ?_) (fun c7 => ?_)
  · skip
    refine Dw.pure (i := 3) rfl (by kernel_rfl) (Want.none rfl) rfl (ltN rfl) (QP.move rfl rfl) ?_
    refine Dw.skip (i := 4) rfl (by kernel_rfl) (Want.no rfl rfl rfl rfl) rfl (ltN rfl) ?_
    refine Dw.skip (i := 5) rfl (by kernel_rfl) (Want.no rfl rfl rfl rfl) rfl (ltN rfl) ?_
    refine Dw.pure (i := 6) rfl (by kernel_rfl) (Want.none rfl) rfl (ltN rfl) (QP.pick_t rfl rfl rfl) ?_
    refine Dw.pure (i := 7) rfl (by kernel_rfl) (Want.none rfl) rfl (ltN rfl) (QP.move rfl rfl) ?_
    refine Dw.skip (i := 8) rfl (by kernel_rfl) (Want.no rfl rfl rfl rfl) rfl (ltN rfl) ?_
    refine Dw.skip (i := 9) rfl (by kernel_rfl) (Want.no rfl rfl rfl rfl) rfl (ltN rfl) ?_
    refine Dw.skip (i := 10) rfl (by kernel_rfl) (Want.no rfl rfl rfl rfl) rfl (ltN rfl) ?_
    refine Dw.skip (i := 11) rfl (by kernel_rfl) (Want.no rfl rfl rfl rfl) rfl (ltN rfl) ?_
    refine Dw.eff (i := 12) (by kernel_rfl) (by kernel_rfl) ?_
    refine One.skipD (o := _) rfl (by kernel_rfl) (Want.no rfl rfl rfl rfl) rfl (ltN rfl) ?_
    refine Dw.pure (i := 13) rfl (by kernel_rfl) (Want.none rfl) rfl (ltN rfl) (QP.pick_t rfl rfl rfl) ?_
    refine Dw.eff (i := 14) (by kernel_rfl) (by kernel_rfl) ?_
    refine One.mk (o := _) (l := []) rfl (by kernel_rfl) (Want.none rfl) rfl (ltN rfl) ((QP.assign rfl rfl).eff) (by kernel_rfl) ?_
    rintro _ _ ⟨rfl, rfl⟩
    refine ⟨fun _ h => (by cases h), ?_⟩
    refine Dw.nil (by kernel_rfl) ?_
    refine hk2 _ _ ?_
    refine Run.ret ?_
    exact J.ends (res_tmp rfl rfl) Takes.nil ⟨by simp_all [feasB], rfl⟩
  · skip
    refine Dw.pure (i := 3) rfl (by kernel_rfl) (Want.none rfl) rfl (ltN rfl) (QP.move rfl rfl) ?_
    refine Dw.pure (i := 4) rfl (by kernel_rfl) (Want.yes rfl rfl rfl rfl) rfl (ltN rfl) (QP.move rfl rfl) ?_
    refine Dw.pure (i := 5) rfl (by kernel_rfl) (Want.yes rfl rfl rfl rfl) rfl (ltN rfl) (QP.ptr_eq_nil rfl rfl rfl Try.underlying71) ?_
    refine Dw.pure (i := 6) rfl (by kernel_rfl) (Want.none rfl) rfl (ltN rfl) (QP.pick_f rfl rfl rfl) ?_
    refine Dw.pure (i := 7) rfl (by kernel_rfl) (Want.none rfl) rfl (ltN rfl) (QP.move rfl rfl) ?_
    refine Dw.skip (i := 8) rfl (by kernel_rfl) (Want.no rfl rfl rfl rfl) rfl (ltN rfl) ?_
    refine Dw.skip (i := 9) rfl (by kernel_rfl) (Want.no rfl rfl rfl rfl) rfl (ltN rfl) ?_
    refine Dw.skip (i := 10) rfl (by kernel_rfl) (Want.no rfl rfl rfl rfl) rfl (ltN rfl) ?_
    refine Dw.skip (i := 11) rfl (by kernel_rfl) (Want.no rfl rfl rfl rfl) rfl (ltN rfl) ?_
    refine Dw.eff (i := 12) (by kernel_rfl) (by kernel_rfl) ?_
    refine One.skipD (o := _) rfl (by kernel_rfl) (Want.no rfl rfl rfl rfl) rfl (ltN rfl) ?_
    refine Dw.pure (i := 13) rfl (by kernel_rfl) (Want.none rfl) rfl (ltN rfl) (QP.pick_t rfl rfl rfl) ?_
    refine Dw.eff (i := 14) (by kernel_rfl) (by kernel_rfl) ?_
    refine One.mk (o := _) (l := []) rfl (by kernel_rfl) (Want.none rfl) rfl (ltN rfl) ((QP.assign rfl rfl).eff) (by kernel_rfl) ?_
    rintro _ _ ⟨rfl, rfl⟩
    refine ⟨fun _ h => (by cases h), ?_⟩
    refine Dw.nil (by kernel_rfl) ?_
    refine hk2 _ _ ?_
    refine Run.ret ?_
    exact J.ends (res_tmp rfl rfl) Takes.nil ⟨by simp_all [feasB], rfl⟩

theorem rfeas_some (F : Fr) {b0 o0 n c i : Nat} {L : List Source} {x : Source} (hi : L[i]? = some x) (hx : x.d.WF) (d : Distance) (hd : d.WF) : Spec Try.prog 39 #[.agg (Distance.enc d).toArray, .pointer (some ⟨b0, o0 + i * 45 + 42, none⟩)] [slA 45 45 Source.enc (.slice (some ⟨b0, o0, none⟩) n c) L] F (fun v S => v = .bool (feasB d (some x.d)) ∧ S = [slA 45 45 Source.enc (.slice (some ⟨b0, o0, none⟩) n c) L]) := by
  refine Spec.intro (N := 19) (args := [.agg (Distance.enc d).toArray, .pointer (some ⟨b0, o0 + i * 45 + 42, none⟩)]) Try.func39 rfl rfl (by simp) ?_
  refine Run.seq fun k1 hk1 => ?_
  refine Run.region ?_
  show Sq _ _ _ [0, 1] _ _ _ _
  refine Sq.eff (i := 0) rfl (Want.none rfl) rfl (ltN rfl) (EF.boxA rfl rfl) ?_
  rintro _ _ ⟨b2, rfl, rfl⟩
  refine Sq.quiet (i := 1) rfl (Want.none rfl) rfl (ltN rfl) (QP.assign rfl rfl).read ?_
  refine Sq.nil ?_
  refine hk1 _ _ ?_
  refine Run.seq fun k2 hk2 => ?_
  refine Run.regionD (M := [0, 1, 3, 7, 15, 31, 63, 127, 255, 255, 767, 1791, 4095, 8191, 16383]) (q := 12287) (r := 2306) (by kernel_rfl) ?_
  refine Dw.pure (i := 0) rfl (by kernel_rfl) (Want.none rfl) rfl (ltN rfl) (QP.fieldAddr rfl rfl f33_1) ?_
  refine Dw.read (i := 1) rfl (by kernel_rfl) (Want.none rfl) rfl (ltN rfl) (QR.load1 rfl rfl g31 (Distance.sub_metric _)) ?_
  refine Dw.pure (i := 2) rfl (by kernel_rfl) (Want.none rfl) rfl (ltN rfl) (QP.eql rfl rfl rfl) ?_
  refine J.caseD (fun c7 => ?_) (fun c7 => ?_)
  · skip
    refine Dw.pure (i := 3) rfl (by kernel_rfl) (Want.none rfl) rfl (ltN rfl) (QP.move rfl rfl) ?_
    refine Dw.skip (i := 4) rfl (by kernel_rfl) (Want.no rfl rfl rfl rfl) rfl (ltN rfl) ?_
    refine Dw.skip (i := 5) rfl (by kernel_rfl) (Want.no rfl rfl rfl rfl) rfl (ltN rfl) ?_
    refine Dw.pure (i := 6) rfl (by kernel_rfl) (Want.none rfl) rfl (ltN rfl) (QP.pick_t rfl rfl rfl) ?_
    refine Dw.pure (i := 7) rfl (by kernel_rfl) (Want.none rfl) rfl (ltN rfl) (QP.move rfl rfl) ?_
    refine Dw.skip (i := 8) rfl (by kernel_rfl) (Want.no rfl rfl rfl rfl) rfl (ltN rfl) ?_
    refine Dw.skip (i := 9) rfl (by kernel_rfl) (Want.no rfl rfl rfl rfl) rfl (ltN rfl) ?_
    refine Dw.skip (i := 10) rfl (by kernel_rfl) (Want.no rfl rfl rfl rfl) rfl (ltN rfl) ?_
    refine Dw.skip (i := 11) rfl (by kernel_rfl) (Want.no rfl rfl rfl rfl) rfl (ltN rfl) ?_
    refine Dw.eff (i := 12) (by kernel_rfl) (by kernel_rfl) ?_
    refine One.skipD (o := _) rfl (by kernel_rfl) (Want.no rfl rfl rfl rfl) rfl (ltN rfl) ?_
    refine Dw.pure (i := 13) rfl (by kernel_rfl) (Want.none rfl) rfl (ltN rfl) (QP.pick_t rfl rfl rfl) ?_
    refine Dw.eff (i := 14) (by kernel_rfl) (by kernel_rfl) ?_
    refine One.mk (o := _) (l := []) rfl (by kernel_rfl) (Want.none rfl) rfl (ltN rfl) ((QP.assign rfl rfl).eff) (by kernel_rfl) ?_
    rintro _ _ ⟨rfl, rfl⟩
    refine ⟨fun _ h => (by cases h), ?_⟩
    refine Dw.nil (by kernel_rfl) ?_
    refine hk2 _ _ ?_
    refine Run.ret ?_
    exact J.ends (res_tmp rfl rfl) (.cons (by repeat (first | exact Pick.head | apply Pick.tail)) Takes.nil) ⟨by simp_all [feasB], rfl⟩
  · skip
    refine Dw.pure (i := 3) rfl (by kernel_rfl) (Want.none rfl) rfl (ltN rfl) (QP.move rfl rfl) ?_
    refine Dw.pure (i := 4) rfl (by kernel_rfl) (Want.yes rfl rfl rfl rfl) rfl (ltN rfl) (QP.move rfl rfl) ?_
    refine Dw.pure (i := 5) rfl (by kernel_rfl) (Want.yes rfl rfl rfl rfl) rfl (ltN rfl) (QP.ptr_eq_nil rfl rfl rfl Try.underlying71) ?_
    refine Dw.pure (i := 6) rfl (by kernel_rfl) (Want.none rfl) rfl (ltN rfl) (QP.pick_f rfl rfl rfl) ?_
    refine Dw.pure (i := 7) rfl (by kernel_rfl) (Want.none rfl) rfl (ltN rfl) (QP.move rfl rfl) ?_
    refine Dw.read (i := 8) rfl (by kernel_rfl) (Want.yes rfl rfl rfl rfl) rfl (ltN rfl) (QR.load rfl rfl g33 (Distance.enc_sub _)) ?_
    refine Dw.pure (i := 9) rfl (by kernel_rfl) (Want.yes rfl rfl rfl rfl) rfl (ltN rfl) (QP.move rfl rfl) ?_
    refine Dw.pure (i := 10) rfl (by kernel_rfl) (Want.yes rfl rfl rfl rfl) rfl (ltN rfl) (QP.nilCheck rfl rfl) ?_
    refine Dw.read (i := 11) rfl (by kernel_rfl) (Want.yes rfl rfl rfl rfl) rfl (ltN rfl) (QR.loadSlF rfl rfl g33 Source.enc_len (SlAt.own Source.enc_len (by repeat (first | exact List.Mem.head _ | apply List.Mem.tail))) hi (Source.sub_d _)) ?_
    refine Dw.eff (i := 12) (by kernel_rfl) (by kernel_rfl) ?_
    refine One.mk (o := _) (l := []) rfl (by kernel_rfl) (Want.yes rfl rfl rfl rfl) rfl (ltN rfl) (EF.call rfl ce46 rfl Takes.nil (fun F' hle hr => rbetter_spec F' d (x).d hd hx)) (by kernel_rfl) ?_
    rintro _ _ ⟨_, ⟨rfl, rfl⟩, rfl⟩
    refine ⟨fun _ h => (by cases h), ?_⟩
    refine J.app ?_
    refine Dw.pure (i := 13) rfl (by kernel_rfl) (Want.none rfl) rfl (ltN rfl) (QP.pick_f rfl rfl rfl) ?_
    refine Dw.eff (i := 14) (by kernel_rfl) (by kernel_rfl) ?_
    refine One.mk (o := _) (l := []) rfl (by kernel_rfl) (Want.none rfl) rfl (ltN rfl) ((QP.assign rfl rfl).eff) (by kernel_rfl) ?_
    rintro _ _ ⟨rfl, rfl⟩
    refine ⟨fun _ h => (by cases h), ?_⟩
    refine Dw.nil (by kernel_rfl) ?_
    refine hk2 _ _ ?_
    refine Run.ret ?_
    exact J.ends (res_tmp rfl rfl) (.cons (by repeat (first | exact Pick.head | apply Pick.tail)) Takes.nil) ⟨by simp_all [feasB], rfl⟩

theorem rkeep_some (F : Fr) {b0 o0 n c i : Nat} {L : List Source} {x : Source} (hi : L[i]? = some x) (hx : x.d.WF) (d : Distance) (hd : d.WF) : Spec Try.prog 36 #[.pointer (some ⟨b0, o0 + i * 45 + 42, none⟩), .agg (Distance.enc d).toArray] [slA 45 45 Source.enc (.slice (some ⟨b0, o0, none⟩) n c) L] F (fun v S => v = .agg (keepD (some x.d) d).enc.toArray ∧ S = [slA 45 45 Source.enc (.slice (some ⟨b0, o0, none⟩) n c) L]) := by
  refine Spec.intro (N := 18) (args := [.pointer (some ⟨b0, o0 + i * 45 + 42, none⟩), .agg (Distance.enc d).toArray]) Try.func36 rfl rfl (by simp) ?_
  refine Run.seq fun k1 hk1 => ?_
  refine Run.region ?_
  show Sq _ _ _ [0, 1] _ _ _ _
  refine Sq.eff (i := 0) rfl (Want.none rfl) rfl (ltN rfl) (EF.boxA rfl rfl) ?_
  rintro _ _ ⟨b3, rfl, rfl⟩
  refine Sq.eff (i := 1) rfl (Want.none rfl) rfl (ltN rfl) (EF.allocA (l := Distance.enc Distance.zero) rfl zero33) ?_
  rintro _ _ ⟨b4, rfl, rfl⟩
  refine Sq.nil ?_
  refine hk1 _ _ ?_
  refine Run.seq fun k2 hk2 => ?_
  refine Run.seq fun k3 hk3 => ?_
  refine Run.regionD (M := [0, 1, 3, 7, 7, 23, 55, 127, 255]) (q := 383) (r := 72) (by kernel_rfl) ?_
  refine Dw.pure (i := 0) rfl (by kernel_rfl) (Want.none rfl) rfl (ltN rfl) (QP.move rfl rfl) ?_
  refine Dw.pure (i := 1) rfl (by kernel_rfl) (Want.none rfl) rfl (ltN rfl) (QP.ptr_eq_nil rfl rfl rfl Try.underlying71) ?_
  refine Dw.pure (i := 2) rfl (by kernel_rfl) (Want.none rfl) rfl (ltN rfl) (QP.move rfl rfl) ?_
  refine Dw.read (i := 3) rfl (by kernel_rfl) (Want.yes rfl rfl rfl rfl) rfl (ltN rfl) (QR.load rfl rfl g33 (Distance.enc_sub _)) ?_
  refine Dw.pure (i := 4) rfl (by kernel_rfl) (Want.yes rfl rfl rfl rfl) rfl (ltN rfl) (QP.move rfl rfl) ?_
  refine Dw.pure (i := 5) rfl (by kernel_rfl) (Want.yes rfl rfl rfl rfl) rfl (ltN rfl) (QP.nilCheck rfl rfl) ?_
  refine Dw.read (i := 6) rfl (by kernel_rfl) (Want.yes rfl rfl rfl rfl) rfl (ltN rfl) (QR.loadSlF rfl rfl g33 Source.enc_len (SlAt.own Source.enc_len (by repeat (first | exact List.Mem.head _ | apply List.Mem.tail))) hi (Source.sub_d _)) ?_
  refine Dw.eff (i := 7) (by kernel_rfl) (by kernel_rfl) ?_
  refine One.mk (o := _) (l := []) rfl (by kernel_rfl) (Want.yes rfl rfl rfl rfl) rfl (ltN rfl) (EF.call rfl ce46 rfl Takes.nil (fun F' hle hr => rbetter_spec F' d (x).d hd hx)) (by kernel_rfl) ?_
  rintro _ _ ⟨_, ⟨rfl, rfl⟩, rfl⟩
  refine ⟨fun _ h => (by cases h), ?_⟩
  refine J.app ?_
  refine J.caseB (fun c12 => ?_) (fun c12 => ?_)
  · skip
    refine Dw.pure (i := 8) rfl (by kernel_rfl) (Want.none rfl) rfl (ltN rfl) (QP.pick_f rfl rfl rfl) ?_
    refine Dw.nil (by kernel_rfl) ?_
    refine hk3 _ _ ?_
    refine Run.cond_t rfl ?_
    refine Run.seq fun k4 hk4 => ?_
    refine Run.region ?_
    show Sq _ _ _ [0, 1] _ _ _ _
    refine Sq.quiet (i := 0) rfl (Want.none rfl) rfl (ltN rfl) (QR.load rfl rfl g33 (Distance.enc_sub _)) ?_
    refine Sq.act (i := 1) rfl (Want.none rfl) rfl (EF.storeA rfl rfl rfl z33 (SetL.all (Distance.enc_len _) (Distance.enc_len _)) (Distance.enc_cell _)) ?_
    rintro _ _ rfl
    refine Sq.nil ?_
    refine hk4 _ _ ?_
    refine Run.ret ?_
    exact J.ends (res_cell rfl rfl g33 (Distance.enc_sub _)) (.cons (by repeat (first | exact Pick.head | apply Pick.tail)) Takes.nil) ⟨by simp_all [keepD], rfl⟩
  · skip
    refine Dw.pure (i := 8) rfl (by kernel_rfl) (Want.none rfl) rfl (ltN rfl) (QP.pick_f rfl rfl rfl) ?_
    refine Dw.nil (by kernel_rfl) ?_
    refine hk3 _ _ ?_
    refine Run.cond_f rfl ?_
    refine Run.skip ?_
    refine hk2 _ _ ?_
    refine Run.seq fun k5 hk5 => ?_
    refine Run.region ?_
    show Sq _ _ _ [0, 1, 2, 3] _ _ _ _
    refine Sq.quiet (i := 0) rfl (Want.none rfl) rfl (ltN rfl) (QP.move rfl rfl).read ?_
    refine Sq.quiet (i := 1) rfl (Want.none rfl) rfl (ltN rfl) (QP.nilCheck rfl rfl).read ?_
    refine Sq.quiet (i := 2) rfl (Want.none rfl) rfl (ltN rfl) (QR.loadSlF rfl rfl g33 Source.enc_len (SlAt.own Source.enc_len (by repeat (first | exact List.Mem.head _ | apply List.Mem.tail))) hi (Source.sub_d _)) ?_
    refine Sq.act (i := 3) rfl (Want.none rfl) rfl (EF.storeA rfl rfl rfl z33 (SetL.all (Distance.enc_len _) (Distance.enc_len _)) (Distance.enc_cell _)) ?_
    rintro _ _ rfl
    refine Sq.nil ?_
    refine hk5 _ _ ?_
    refine Run.ret ?_
    exact J.ends (res_cell rfl rfl g33 (Distance.enc_sub _)) (.cons (by repeat (first | exact Pick.head | apply Pick.tail)) Takes.nil) ⟨by simp_all [keepD], rfl⟩

theorem take_no {L : List Source} {i : Nat} {x : Source} {k : SourceKey} (h : ∀ y ∈ L.take i, keyS y ≠ k) (hi : L[i]? = some x) (hx : ¬ (x.pair = k.p ∧ x.id_ = k.id_)) : ∀ y ∈ L.take (i + 1), keyS y ≠ k := fun y hy => by
  rw [List.take_add_one, hi] at hy
  rcases List.mem_append.1 hy with hy | hy
  · exact h y hy
  · simp at hy; subst hy
    intro hc; subst hc
    exact hx ⟨rfl, rfl⟩

theorem rfind_spec (F : Fr) {b : Nat} {most : Int} {a : Option Addr} {c : Nat} {L : List Source} (hh : SlH a c L) (hL : L.length ≤ 1000000) (p : Pair) (id : Bs 8) : Spec Try.prog 23 #[.pointer (some ⟨b, 0, none⟩), .agg (Pair.enc p).toArray, .agg (Bs.enc id).toArray] [blk b (Ref15Table.enc ⟨most, ⟨a, L.length, c⟩⟩) 56, slA 45 45 Source.enc (.slice a L.length c) L] F (fun v S => S = [blk b (Ref15Table.enc ⟨most, ⟨a, L.length, c⟩⟩) 56, slA 45 45 Source.enc (.slice a L.length c) L] ∧ ∃ n : Int, v = .int .i64 n ∧ ((n = -1 ∧ ∀ x ∈ L, keyS x ≠ ⟨p, id⟩) ∨ ∃ i x, n = ((i : Nat) : Int) ∧ L[i]? = some x ∧ keyS x = ⟨p, id⟩)) := by
  refine Spec.intro (N := 40) (args := [.pointer (some ⟨b, 0, none⟩), .agg (Pair.enc p).toArray, .agg (Bs.enc id).toArray]) Try.func23 rfl rfl (by simp) ?_
  refine Run.seq fun k1 hk1 => ?_
  refine Run.region ?_
  show Sq _ _ _ [0, 1, 2] _ _ _ _
  refine Sq.eff (i := 0) rfl (Want.none rfl) rfl (ltN rfl) (EF.boxA rfl rfl) ?_
  rintro _ _ ⟨b4, rfl, rfl⟩
  refine Sq.eff (i := 1) rfl (Want.none rfl) rfl (ltN rfl) (EF.boxA rfl rfl) ?_
  rintro _ _ ⟨b5, rfl, rfl⟩
  refine Sq.quiet (i := 2) rfl (Want.none rfl) rfl (ltN rfl) (QP.assign rfl rfl).read ?_
  refine Sq.nil ?_
  refine hk1 _ _ ?_
  refine Run.seq fun k2 hk2 => ?_
  refine Run.seq fun k3 hk3 => ?_
  refine Run.region ?_
  show Sq _ _ _ [0] _ _ _ _
  refine Sq.quiet (i := 0) rfl (Want.none rfl) rfl (ltN rfl) (QP.assign rfl rfl).read ?_
  refine Sq.nil ?_
  refine hk3 _ _ ?_
  refine Run.block ?_
  refine Run.loop1 (fun (i : Nat) => i ≤ L.length ∧ ∀ x ∈ L.take i, keyS x ≠ ⟨p, id⟩) (fun i => .cons 0 (.pointer (some ⟨b, 0, none⟩)) (.cons 4 (.pointer (some ⟨b4, 0, none⟩)) (.cons 5 (.pointer (some ⟨b5, 0, none⟩)) (.cons 7 (.int .i64 i) (.nil))))) (fun i => [blk b (Ref15Table.enc ⟨most, ⟨a, L.length, c⟩⟩) 56, slA 45 45 Source.enc (.slice a L.length c) L, blk b4 (Pair.enc p) 28, blk b5 (Bs.enc id) 30]) (fun i => L.length - i) (0) (⟨Nat.zero_le _, by simp⟩) ?_ ?_
  · exact fun _ j => J.envJ (J.keep (.cons (by repeat (first | exact Pick.head | apply Pick.tail)) (.cons (by repeat (first | exact Pick.head | apply Pick.tail)) (.cons (by repeat (first | exact Pick.head | apply Pick.tail)) (.cons (by repeat (first | exact Pick.head | apply Pick.tail)) Takes.nil)))) j) ⟨rfl, rfl, rfl, rfl, trivial⟩
  rintro i ⟨hile, hno⟩ kl4 hl4
  refine Run.seq fun k5 hk5 => ?_
  refine Run.seq fun k6 hk6 => ?_
  refine Run.region ?_
  show Sq _ _ _ [0, 1, 2, 3, 4, 5, 6] _ _ _ _
  refine Sq.quiet (i := 0) rfl (Want.none rfl) rfl (ltN rfl) (QP.move rfl rfl).read ?_
  refine Sq.quiet (i := 1) rfl (Want.none rfl) rfl (ltN rfl) (QP.move rfl rfl).read ?_
  refine Sq.quiet (i := 2) rfl (Want.none rfl) rfl (ltN rfl) (QP.nilCheck rfl rfl).read ?_
  refine Sq.quiet (i := 3) rfl (Want.none rfl) rfl (ltN rfl) (QP.fieldAddr rfl rfl f56_1).read ?_
  refine Sq.quiet (i := 4) rfl (Want.none rfl) rfl (ltN rfl) (QR.load1 (v := .slice _ L.length _) rfl rfl g42 (Ref15Table.sub_l _)) ?_
  refine Sq.quiet (i := 5) rfl (Want.none rfl) rfl (ltN rfl) (QP.len rfl rfl rfl Try.underlying42).read ?_
  refine Sq.quiet (i := 6) rfl (Want.none rfl) rfl (ltN rfl) (QP.lss rfl rfl rfl).read ?_
  refine J.caseD (fun c14 => ?_) (fun c14 => ?_)
  · skip
    refine Sq.nil ?_
    refine hk6 _ _ ?_
    refine Run.cond_t rfl ?_
    refine Run.skip ?_
    refine hk5 _ _ ?_
    refine Run.seq fun k7 hk7 => ?_
    refine Run.block ?_
    refine Run.seq fun k8 hk8 => ?_
    refine Run.regionD (M := [0, 1, 3, 7, 0, 31, 63, 127, 0, 511, 1023, 2047, 4095, 8191, 16383, 2047, 65535, 131071, 262143, 2047, 1048575, 2097151]) (q := 4194303) (r := 803208) (by kernel_rfl) ?_
    have hlt : i < L.length := by omega
    obtain ⟨x, hi⟩ : ∃ x, L[i]? = some x := ⟨_, List.getElem?_eq_getElem hlt⟩
    obtain ⟨b0, o0, rfl⟩ := hh.get (by omega)
    refine Dw.pure (i := 0) rfl (by kernel_rfl) (Want.none rfl) rfl (ltN rfl) (QP.move rfl rfl) ?_
    refine Dw.pure (i := 1) rfl (by kernel_rfl) (Want.none rfl) rfl (ltN rfl) (QP.nilCheck rfl rfl) ?_
    refine Dw.pure (i := 2) rfl (by kernel_rfl) (Want.none rfl) rfl (ltN rfl) (QP.fieldAddr rfl rfl f56_1) ?_
    refine Dw.read (i := 3) rfl (by kernel_rfl) (Want.none rfl) rfl (ltN rfl) (QR.load1 (v := .slice _ L.length _) rfl rfl g42 (Ref15Table.sub_l _)) ?_
    refine Dw.pure (i := 4) rfl (by kernel_rfl) (Want.none rfl) rfl (ltN rfl) (QP.move rfl rfl) ?_
    refine Dw.pure (i := 5) rfl (by kernel_rfl) (Want.none rfl) rfl (ltN rfl) (QP.indexAddr rfl rfl rfl Try.underlying42 z45 (by first | omega | (simp <;> omega)) (by first | omega | (simp <;> omega))) ?_
    refine Dw.pure (i := 6) rfl (by kernel_rfl) (Want.none rfl) rfl (ltN rfl) (QP.fieldAddr rfl rfl f45_0) ?_
    refine Dw.read (i := 7) rfl (by kernel_rfl) (Want.none rfl) rfl (ltN rfl) (QR.loadSlF rfl rfl g28 Source.enc_len (SlAt.own Source.enc_len (by repeat (first | exact List.Mem.head _ | apply List.Mem.tail))) hi (Source.sub_pair _)) ?_
    refine Dw.read (i := 8) rfl (by kernel_rfl) (Want.none rfl) rfl (ltN rfl) (QR.load rfl rfl g28 (Pair.enc_sub _)) ?_
    refine Dw.pure (i := 9) rfl (by kernel_rfl) (Want.none rfl) rfl (ltN rfl) (QP.eql_agg eq28 rfl rfl rfl) ?_
    refine J.caseD (fun c26 => ?_) (fun c26 => ?_)
    · skip
      refine Dw.pure (i := 10) rfl (by kernel_rfl) (Want.none rfl) rfl (ltN rfl) (QP.move rfl rfl) ?_
      refine Dw.pure (i := 11) rfl (by kernel_rfl) (Want.yes rfl rfl rfl rfl) rfl (ltN rfl) (QP.move rfl rfl) ?_
      refine Dw.pure (i := 12) rfl (by kernel_rfl) (Want.yes rfl rfl rfl rfl) rfl (ltN rfl) (QP.nilCheck rfl rfl) ?_
      refine Dw.pure (i := 13) rfl (by kernel_rfl) (Want.yes rfl rfl rfl rfl) rfl (ltN rfl) (QP.fieldAddr rfl rfl f56_1) ?_
      refine Dw.read (i := 14) rfl (by kernel_rfl) (Want.yes rfl rfl rfl rfl) rfl (ltN rfl) (QR.load1 (v := .slice _ L.length _) rfl rfl g42 (Ref15Table.sub_l _)) ?_
      refine Dw.pure (i := 15) rfl (by kernel_rfl) (Want.yes rfl rfl rfl rfl) rfl (ltN rfl) (QP.move rfl rfl) ?_
      refine Dw.pure (i := 16) rfl (by kernel_rfl) (Want.yes rfl rfl rfl rfl) rfl (ltN rfl) (QP.indexAddr rfl rfl rfl Try.underlying42 z45 (by first | omega | (simp <;> omega)) (by first | omega | (simp <;> omega))) ?_
      refine Dw.pure (i := 17) rfl (by kernel_rfl) (Want.yes rfl rfl rfl rfl) rfl (ltN rfl) (QP.fieldAddr rfl rfl f45_1) ?_
      refine Dw.read (i := 18) rfl (by kernel_rfl) (Want.yes rfl rfl rfl rfl) rfl (ltN rfl) (QR.loadSlF rfl rfl g30 Source.enc_len (SlAt.own Source.enc_len (by repeat (first | exact List.Mem.head _ | apply List.Mem.tail))) hi (Source.sub_id_ _)) ?_
      refine Dw.read (i := 19) rfl (by kernel_rfl) (Want.yes rfl rfl rfl rfl) rfl (ltN rfl) (QR.load rfl rfl g30 (Bs.sub _)) ?_
      refine Dw.pure (i := 20) rfl (by kernel_rfl) (Want.yes rfl rfl rfl rfl) rfl (ltN rfl) (QP.eql_agg eq30 rfl rfl rfl) ?_
      refine J.caseD (fun c37 => ?_) (fun c37 => ?_)
      · skip
        refine Dw.pure (i := 21) rfl (by kernel_rfl) (Want.none rfl) rfl (ltN rfl) (QP.pick_t rfl rfl rfl) ?_
        refine Dw.nil (by kernel_rfl) ?_
        refine hk8 _ _ ?_
        refine Run.cond_t rfl ?_
        refine Run.seq fun k9 hk9 => ?_
        refine Run.region ?_
        show Sq _ _ _ [0, 1] _ _ _ _
        refine Sq.quiet (i := 0) rfl (Want.none rfl) rfl (ltN rfl) (QP.move rfl rfl).read ?_
        refine Sq.quiet (i := 1) rfl (Want.none rfl) rfl (ltN rfl) (QP.assign rfl rfl).read ?_
        refine Sq.nil ?_
        refine hk9 _ _ ?_
        refine Run.ret ?_
        exact J.ends (res_tmp rfl rfl) (.cons (by repeat (first | exact Pick.head | apply Pick.tail)) (.cons (by repeat (first | exact Pick.head | apply Pick.tail)) Takes.nil)) ⟨rfl, _, rfl, .inr ⟨i, x, rfl, hi, by simp_all [keyS]⟩⟩
      · skip
        refine Dw.pure (i := 21) rfl (by kernel_rfl) (Want.none rfl) rfl (ltN rfl) (QP.pick_t rfl rfl rfl) ?_
        refine Dw.nil (by kernel_rfl) ?_
        refine hk8 _ _ ?_
        refine Run.cond_f rfl ?_
        refine Run.skip ?_
        refine hk7 _ _ ?_
        refine Run.region ?_
        show Sq _ _ _ [0, 1, 2] _ _ _ _
        refine Sq.quiet (i := 0) rfl (Want.none rfl) rfl (ltN rfl) (QP.move rfl rfl).read ?_
        refine Sq.quiet (i := 1) rfl (Want.none rfl) rfl (ltN rfl) (QP.add64 rfl rfl rfl (by first | omega | (simp <;> omega)) (by first | omega | (simp <;> omega))).read ?_
        refine Sq.quiet (i := 2) rfl (Want.none rfl) rfl (ltN rfl) (QP.assign rfl rfl).read ?_
        refine Sq.nil ?_
        exact J.envJ (J.keep (.cons (by repeat (first | exact Pick.head | apply Pick.tail)) (.cons (by repeat (first | exact Pick.head | apply Pick.tail)) (.cons (by repeat (first | exact Pick.head | apply Pick.tail)) (.cons (by repeat (first | exact Pick.head | apply Pick.tail)) Takes.nil)))) (hl4 (i + 1) (⟨by omega, take_no hno hi (by simp_all)⟩) (by omega))) ⟨rfl, rfl, rfl, rfl, trivial⟩
    · skip
      refine Dw.pure (i := 10) rfl (by kernel_rfl) (Want.none rfl) rfl (ltN rfl) (QP.move rfl rfl) ?_
      refine Dw.skip (i := 11) rfl (by kernel_rfl) (Want.no rfl rfl rfl rfl) rfl (ltN rfl) ?_
      refine Dw.skip (i := 12) rfl (by kernel_rfl) (Want.no rfl rfl rfl rfl) rfl (ltN rfl) ?_
      refine Dw.skip (i := 13) rfl (by kernel_rfl) (Want.no rfl rfl rfl rfl) rfl (ltN rfl) ?_
      refine Dw.skip (i := 14) rfl (by kernel_rfl) (Want.no rfl rfl rfl rfl) rfl (ltN rfl) ?_
      refine Dw.skip (i := 15) rfl (by kernel_rfl) (Want.no rfl rfl rfl rfl) rfl (ltN rfl) ?_
      refine Dw.skip (i := 16) rfl (by kernel_rfl) (Want.no rfl rfl rfl rfl) rfl (ltN rfl) ?_
      refine Dw.skip (i := 17) rfl (by kernel_rfl) (Want.no rfl rfl rfl rfl) rfl (ltN rfl) ?_
      refine Dw.skip (i := 18) rfl (by kernel_rfl) (Want.no rfl rfl rfl rfl) rfl (ltN rfl) ?_
      refine Dw.skip (i := 19) rfl (by kernel_rfl) (Want.no rfl rfl rfl rfl) rfl (ltN rfl) ?_
      refine Dw.skip (i := 20) rfl (by kernel_rfl) (Want.no rfl rfl rfl rfl) rfl (ltN rfl) ?_
      refine Dw.pure (i := 21) rfl (by kernel_rfl) (Want.none rfl) rfl (ltN rfl) (QP.pick_f rfl rfl rfl) ?_
      refine Dw.nil (by kernel_rfl) ?_
      refine hk8 _ _ ?_
      refine Run.cond_f rfl ?_
      refine Run.skip ?_
      refine hk7 _ _ ?_
      refine Run.region ?_
      show Sq _ _ _ [0, 1, 2] _ _ _ _
      refine Sq.quiet (i := 0) rfl (Want.none rfl) rfl (ltN rfl) (QP.move rfl rfl).read ?_
      refine Sq.quiet (i := 1) rfl (Want.none rfl) rfl (ltN rfl) (QP.add64 rfl rfl rfl (by first | omega | (simp <;> omega)) (by first | omega | (simp <;> omega))).read ?_
      refine Sq.quiet (i := 2) rfl (Want.none rfl) rfl (ltN rfl) (QP.assign rfl rfl).read ?_
      refine Sq.nil ?_
      exact J.envJ (J.keep (.cons (by repeat (first | exact Pick.head | apply Pick.tail)) (.cons (by repeat (first | exact Pick.head | apply Pick.tail)) (.cons (by repeat (first | exact Pick.head | apply Pick.tail)) (.cons (by repeat (first | exact Pick.head | apply Pick.tail)) Takes.nil)))) (hl4 (i + 1) (⟨by omega, take_no hno hi (by simp_all)⟩) (by omega))) ⟨rfl, rfl, rfl, rfl, trivial⟩
  · skip
    refine Sq.nil ?_
    refine hk6 _ _ ?_
    refine Run.cond_f rfl ?_
    refine Run.exit rfl ?_
    refine hk2 _ _ ?_
    refine Run.seq fun k10 hk10 => ?_
    refine Run.region ?_
    show Sq _ _ _ [0] _ _ _ _
    refine Sq.quiet (i := 0) rfl (Want.none rfl) rfl (ltN rfl) (QP.assign rfl rfl).read ?_
    refine Sq.nil ?_
    refine hk10 _ _ ?_
    refine Run.ret ?_
    exact J.ends (res_tmp rfl rfl) (.cons (by repeat (first | exact Pick.head | apply Pick.tail)) (.cons (by repeat (first | exact Pick.head | apply Pick.tail)) Takes.nil)) ⟨rfl, _, rfl, .inl ⟨rfl, by rw [List.take_of_length_le (by omega)] at hno; exact hno⟩⟩

/-- What the document's table says of a distance. -/
def RFeas (L : List Source) (p : Pair) (id : Bs 8) (d : Distance) (r : Bool) : Prop := ((∀ x ∈ L, keyS x ≠ ⟨p, id⟩) ∧ r = feasB d none) ∨ ∃ x ∈ L, keyS x = ⟨p, id⟩ ∧ r = feasB d (some x.d)

theorem rfeasible_spec (F : Fr) {b : Nat} {most : Int} {a : Option Addr} {c : Nat} {L : List Source} (hh : SlH a c L) (hL : L.length ≤ 1000000) (hW : ∀ x ∈ L, x.d.WF) (p : Pair) (id : Bs 8)(d : Distance) (hd : d.WF) : Spec Try.prog 25 #[.pointer (some ⟨b, 0, none⟩), .agg (Pair.enc p).toArray, .agg (Bs.enc id).toArray, .agg (Distance.enc d).toArray] [blk b (Ref15Table.enc ⟨most, ⟨a, L.length, c⟩⟩) 56, slA 45 45 Source.enc (.slice a L.length c) L] F (fun v S => S = [blk b (Ref15Table.enc ⟨most, ⟨a, L.length, c⟩⟩) 56, slA 45 45 Source.enc (.slice a L.length c) L] ∧ ∃ r, v = .bool r ∧ RFeas L p id d r) := by
  refine Spec.intro (N := 27) (args := [.pointer (some ⟨b, 0, none⟩), .agg (Pair.enc p).toArray, .agg (Bs.enc id).toArray, .agg (Distance.enc d).toArray]) Try.func25 rfl rfl (by simp) ?_
  refine Run.seq fun k1 hk1 => ?_
  refine Run.region ?_
  show Sq _ _ _ [0, 1, 2, 3] _ _ _ _
  refine Sq.eff (i := 0) rfl (Want.none rfl) rfl (ltN rfl) (EF.boxA rfl rfl) ?_
  rintro _ _ ⟨b5, rfl, rfl⟩
  refine Sq.eff (i := 1) rfl (Want.none rfl) rfl (ltN rfl) (EF.boxA rfl rfl) ?_
  rintro _ _ ⟨b6, rfl, rfl⟩
  refine Sq.eff (i := 2) rfl (Want.none rfl) rfl (ltN rfl) (EF.boxA rfl rfl) ?_
  rintro _ _ ⟨b7, rfl, rfl⟩
  refine Sq.quiet (i := 3) rfl (Want.none rfl) rfl (ltN rfl) (QP.assign rfl rfl).read ?_
  refine Sq.nil ?_
  refine hk1 _ _ ?_
  refine Run.seq fun k2 hk2 => ?_
  refine Run.region ?_
  show Sq _ _ _ [0, 1, 2, 3, 4] _ _ _ _
  refine Sq.quiet (i := 0) rfl (Want.none rfl) rfl (ltN rfl) (QP.move rfl rfl).read ?_
  refine Sq.quiet (i := 1) rfl (Want.none rfl) rfl (ltN rfl) (QR.load rfl rfl g28 (Pair.enc_sub _)) ?_
  refine Sq.quiet (i := 2) rfl (Want.none rfl) rfl (ltN rfl) (QR.load rfl rfl g30 (Bs.sub _)) ?_
  refine Sq.eff (i := 3) rfl (Want.none rfl) rfl (ltN rfl) (EF.call rfl ce23 rfl (.cons (by repeat (first | exact Pick.head | apply Pick.tail)) (.cons (by repeat (first | exact Pick.head | apply Pick.tail)) Takes.nil)) (fun F' hle hr => rfind_spec F' hh hL p id)) ?_
  rintro _ _ ⟨_, ⟨rfl, n13, rfl, hfind⟩, rfl⟩
  refine J.app ?_
  refine Sq.quiet (i := 4) rfl (Want.none rfl) rfl (ltN rfl) (QP.assign rfl rfl).read ?_
  refine Sq.nil ?_
  refine hk2 _ _ ?_
  refine Run.seq fun k3 hk3 => ?_
  refine Run.seq fun k4 hk4 => ?_
  refine Run.region ?_
  show Sq _ _ _ [0, 1] _ _ _ _
  refine Sq.quiet (i := 0) rfl (Want.none rfl) rfl (ltN rfl) (QP.move rfl rfl).read ?_
  refine Sq.quiet (i := 1) rfl (Want.none rfl) rfl (ltN rfl) (QP.lss rfl rfl rfl).read ?_
  refine J.caseD (fun c15 => ?_) (fun c15 => ?_)
  · skip
    refine Sq.nil ?_
    refine hk4 _ _ ?_
    refine Run.cond_t rfl ?_
    refine Run.seq fun k5 hk5 => ?_
    refine Run.region ?_
    show Sq _ _ _ [0, 1, 2] _ _ _ _
    have hno : ∀ x ∈ L, keyS x ≠ ⟨p, id⟩ := by
      rcases hfind with ⟨_, h1⟩ | ⟨i, x, h1, _, _⟩
      · exact h1
      · omega
    refine Sq.quiet (i := 0) rfl (Want.none rfl) rfl (ltN rfl) (QR.load rfl rfl g33 (Distance.enc_sub _)) ?_
    refine Sq.eff (i := 1) rfl (Want.none rfl) rfl (ltN rfl) (EF.call rfl ce39 rfl Takes.nil (fun F' hle hr => rfeas_none F' d)) ?_
    rintro _ _ ⟨_, ⟨rfl, rfl⟩, rfl⟩
    refine J.app ?_
    refine Sq.quiet (i := 2) rfl (Want.none rfl) rfl (ltN rfl) (QP.assign rfl rfl).read ?_
    refine Sq.nil ?_
    refine hk5 _ _ ?_
    refine Run.ret ?_
    exact J.ends (res_tmp rfl rfl) (.cons (by repeat (first | exact Pick.head | apply Pick.tail)) (.cons (by repeat (first | exact Pick.head | apply Pick.tail)) Takes.nil)) ⟨rfl, _, rfl, .inl ⟨hno, rfl⟩⟩
  · skip
    refine Sq.nil ?_
    refine hk4 _ _ ?_
    refine Run.cond_f rfl ?_
    refine Run.skip ?_
    refine hk3 _ _ ?_
    refine Run.seq fun k6 hk6 => ?_
    refine Run.regionD (M := [0, 0, 2, 6, 14, 0, 62, 126, 255, 511]) (q := 255) (r := 17) (by kernel_rfl) ?_
    obtain ⟨i, x, rfl, hi, hkx⟩ : ∃ (i : Nat) (x : Source), n13 = (i : Int) ∧ L[i]? = some x ∧ keyS x = ⟨p, id⟩ := by
      rcases hfind with ⟨h1, _⟩ | ⟨i, x, h1, h2, h3⟩
      · omega
      · exact ⟨i, x, h1, h2, h3⟩
    have hlt : i < L.length := (List.getElem?_eq_some_iff.1 hi).1
    obtain ⟨b0, o0, rfl⟩ := hh.get (by omega)
    refine Dw.read (i := 0) rfl (by kernel_rfl) (Want.none rfl) rfl (ltN rfl) (QR.load rfl rfl g33 (Distance.enc_sub _)) ?_
    refine Dw.pure (i := 1) rfl (by kernel_rfl) (Want.none rfl) rfl (ltN rfl) (QP.move rfl rfl) ?_
    refine Dw.pure (i := 2) rfl (by kernel_rfl) (Want.none rfl) rfl (ltN rfl) (QP.nilCheck rfl rfl) ?_
    refine Dw.pure (i := 3) rfl (by kernel_rfl) (Want.none rfl) rfl (ltN rfl) (QP.fieldAddr rfl rfl f56_1) ?_
    refine Dw.read (i := 4) rfl (by kernel_rfl) (Want.none rfl) rfl (ltN rfl) (QR.load1 (v := .slice _ L.length _) rfl rfl g42 (Ref15Table.sub_l _)) ?_
    refine Dw.pure (i := 5) rfl (by kernel_rfl) (Want.none rfl) rfl (ltN rfl) (QP.move rfl rfl) ?_
    refine Dw.pure (i := 6) rfl (by kernel_rfl) (Want.none rfl) rfl (ltN rfl) (QP.indexAddr rfl rfl rfl Try.underlying42 z45 (by first | omega | (simp <;> omega)) (by first | omega | (simp <;> omega))) ?_
    refine Dw.pure (i := 7) rfl (by kernel_rfl) (Want.none rfl) rfl (ltN rfl) (QP.fieldAddr rfl rfl f45_2) ?_
    refine Dw.eff (i := 8) (by kernel_rfl) (by kernel_rfl) ?_
    refine One.mk (o := _) (l := []) rfl (by kernel_rfl) (Want.none rfl) rfl (ltN rfl) (EF.call rfl ce39 rfl (.cons (by repeat (first | exact Pick.head | apply Pick.tail)) Takes.nil) (fun F' hle hr => rfeas_some F' hi (hW x (List.mem_of_getElem? hi)) d hd)) (by kernel_rfl) ?_
    rintro _ _ ⟨_, ⟨rfl, rfl⟩, rfl⟩
    refine ⟨fun _ h => (by cases h), ?_⟩
    refine J.app ?_
    refine Dw.eff (i := 9) (by kernel_rfl) (by kernel_rfl) ?_
    refine One.mk (o := _) (l := []) rfl (by kernel_rfl) (Want.none rfl) rfl (ltN rfl) ((QP.assign rfl rfl).eff) (by kernel_rfl) ?_
    rintro _ _ ⟨rfl, rfl⟩
    refine ⟨fun _ h => (by cases h), ?_⟩
    refine Dw.nil (by kernel_rfl) ?_
    refine hk6 _ _ ?_
    refine Run.ret ?_
    exact J.ends (res_tmp rfl rfl) (.cons (by repeat (first | exact Pick.head | apply Pick.tail)) (.cons (by repeat (first | exact Pick.head | apply Pick.tail)) Takes.nil)) ⟨rfl, _, rfl, .inr ⟨x, List.mem_of_getElem? hi, hkx, rfl⟩⟩

theorem rts_eq {b : Nat} {most : Int} {a : Option Addr} {c n : Nat} {L L2 : List Source} (hn : L2.length = n) (h : L = L2) : [blk b (Ref15Table.enc ⟨most, ⟨a, n, c⟩⟩) 56, slA 45 45 Source.enc (.slice a n c) L] = [blk b (Ref15Table.enc ⟨most, ⟨a, L2.length, c⟩⟩) 56, slA 45 45 Source.enc (.slice a L2.length c) L2] := by rw [h, hn]
def RTouch (L : List Source) (now : Int) (p : Pair) (id : Bs 8) (n : Int) (L' : List Source) : Prop := ((∀ x ∈ L, keyS x ≠ ⟨p, id⟩) ∧ n = 0 ∧ L' = L) ∨ ∃ i x, L[i]? = some x ∧ keyS x = ⟨p, id⟩ ∧ n = 1 ∧ L' = L.set i { x with at_ := now }
theorem SlH.set {a : Option Addr} {c i : Nat} {L : List Source} {x : Source} (h : SlH a c L) (hi : i < L.length) : SlH a c (L.set i x) := by
  rcases h with ⟨_, _, rfl⟩ | ⟨h1, h2⟩
  · simp at hi
  · exact .inr ⟨h1, by rw [List.length_set]; exact h2⟩

theorem rtouch_spec (F : Fr) {b : Nat} {most : Int} {a : Option Addr} {c : Nat} {L : List Source} (hh : SlH a c L) (hL : L.length ≤ 1000000) (now : Int) (p : Pair) (id : Bs 8) : Spec Try.prog 22 #[.pointer (some ⟨b, 0, none⟩), .int .i64 now, .agg (Pair.enc p).toArray, .agg (Bs.enc id).toArray] [blk b (Ref15Table.enc ⟨most, ⟨a, L.length, c⟩⟩) 56, slA 45 45 Source.enc (.slice a L.length c) L] F (fun v S => ∃ a2 c2, ∃ L2 : List Source, SlH a2 c2 L2 ∧ ∃ n, v = .int .i64 n ∧ RTouch L now p id n L2 ∧ S = [blk b (Ref15Table.enc ⟨most, ⟨a2, L2.length, c2⟩⟩) 56, slA 45 45 Source.enc (.slice a2 L2.length c2) L2]) := by
  refine Spec.intro (N := 24) (args := [.pointer (some ⟨b, 0, none⟩), .int .i64 now, .agg (Pair.enc p).toArray, .agg (Bs.enc id).toArray]) Try.func22 rfl rfl (by simp) ?_
  refine Run.seq fun k1 hk1 => ?_
  refine Run.region ?_
  show Sq _ _ _ [0, 1, 2] _ _ _ _
  refine Sq.eff (i := 0) rfl (Want.none rfl) rfl (ltN rfl) (EF.boxA rfl rfl) ?_
  rintro _ _ ⟨b6, rfl, rfl⟩
  refine Sq.eff (i := 1) rfl (Want.none rfl) rfl (ltN rfl) (EF.boxA rfl rfl) ?_
  rintro _ _ ⟨b7, rfl, rfl⟩
  refine Sq.quiet (i := 2) rfl (Want.none rfl) rfl (ltN rfl) (QP.assign rfl rfl).read ?_
  refine Sq.nil ?_
  refine hk1 _ _ ?_
  refine Run.seq fun k2 hk2 => ?_
  refine Run.region ?_
  show Sq _ _ _ [0, 1, 2, 3, 4] _ _ _ _
  refine Sq.quiet (i := 0) rfl (Want.none rfl) rfl (ltN rfl) (QP.move rfl rfl).read ?_
  refine Sq.quiet (i := 1) rfl (Want.none rfl) rfl (ltN rfl) (QR.load rfl rfl g28 (Pair.enc_sub _)) ?_
  refine Sq.quiet (i := 2) rfl (Want.none rfl) rfl (ltN rfl) (QR.load rfl rfl g30 (Bs.sub _)) ?_
  refine Sq.eff (i := 3) rfl (Want.none rfl) rfl (ltN rfl) (EF.call rfl ce23 rfl (.cons (by repeat (first | exact Pick.head | apply Pick.tail)) (.cons (by repeat (first | exact Pick.head | apply Pick.tail)) Takes.nil)) (fun F' hle hr => rfind_spec F' hh hL p id)) ?_
  rintro _ _ ⟨_, ⟨rfl, n13, rfl, hfind⟩, rfl⟩
  refine J.app ?_
  refine Sq.quiet (i := 4) rfl (Want.none rfl) rfl (ltN rfl) (QP.assign rfl rfl).read ?_
  refine Sq.nil ?_
  refine hk2 _ _ ?_
  refine Run.seq fun k3 hk3 => ?_
  refine Run.seq fun k4 hk4 => ?_
  refine Run.region ?_
  show Sq _ _ _ [0, 1] _ _ _ _
  refine Sq.quiet (i := 0) rfl (Want.none rfl) rfl (ltN rfl) (QP.move rfl rfl).read ?_
  refine Sq.quiet (i := 1) rfl (Want.none rfl) rfl (ltN rfl) (QP.lss rfl rfl rfl).read ?_
  refine J.caseD (fun c15 => ?_) (fun c15 => ?_)
  · skip
    refine Sq.nil ?_
    refine hk4 _ _ ?_
    refine Run.cond_t rfl ?_
    refine Run.seq fun k5 hk5 => ?_
    refine Run.region ?_
    show Sq _ _ _ [0] _ _ _ _
    have hno : ∀ x ∈ L, keyS x ≠ ⟨p, id⟩ := by
      rcases hfind with ⟨_, h1⟩ | ⟨i, x, h1, _, _⟩
      · exact h1
      · omega
    refine Sq.quiet (i := 0) rfl (Want.none rfl) rfl (ltN rfl) (QP.assign rfl rfl).read ?_
    refine Sq.nil ?_
    refine hk5 _ _ ?_
    refine Run.ret ?_
    exact J.ends (res_tmp rfl rfl) (.cons (by repeat (first | exact Pick.head | apply Pick.tail)) (.cons (by repeat (first | exact Pick.head | apply Pick.tail)) Takes.nil)) ⟨_, _, _, hh, _, rfl, .inl ⟨hno, rfl, rfl⟩, rfl⟩
  · skip
    refine Sq.nil ?_
    refine hk4 _ _ ?_
    refine Run.cond_f rfl ?_
    refine Run.skip ?_
    refine hk3 _ _ ?_
    refine Run.seq fun k6 hk6 => ?_
    refine Run.region ?_
    show Sq _ _ _ [0, 1, 2, 3, 4, 5, 6, 7, 8] _ _ _ _
    obtain ⟨i, x, rfl, hi, hkx⟩ : ∃ (i : Nat) (x : Source), n13 = (i : Int) ∧ L[i]? = some x ∧ keyS x = ⟨p, id⟩ := by
      rcases hfind with ⟨h1, _⟩ | ⟨i, x, h1, h2, h3⟩
      · omega
      · exact ⟨i, x, h1, h2, h3⟩
    have hlt : i < L.length := (List.getElem?_eq_some_iff.1 hi).1
    obtain ⟨b0, o0, rfl⟩ := hh.get (by omega)
    refine Sq.quiet (i := 0) rfl (Want.none rfl) rfl (ltN rfl) (QP.move rfl rfl).read ?_
    refine Sq.quiet (i := 1) rfl (Want.none rfl) rfl (ltN rfl) (QP.nilCheck rfl rfl).read ?_
    refine Sq.quiet (i := 2) rfl (Want.none rfl) rfl (ltN rfl) (QP.fieldAddr rfl rfl f56_1).read ?_
    refine Sq.quiet (i := 3) rfl (Want.none rfl) rfl (ltN rfl) (QR.load1 (v := .slice _ L.length _) rfl rfl g42 (Ref15Table.sub_l _)) ?_
    refine Sq.quiet (i := 4) rfl (Want.none rfl) rfl (ltN rfl) (QP.move rfl rfl).read ?_
    refine Sq.quiet (i := 5) rfl (Want.none rfl) rfl (ltN rfl) (QP.move rfl rfl).read ?_
    refine Sq.quiet (i := 6) rfl (Want.none rfl) rfl (ltN rfl) (QP.indexAddr rfl rfl rfl Try.underlying42 z45 (by first | omega | (simp <;> omega)) (by first | omega | (simp <;> omega))).read ?_
    refine Sq.quiet (i := 7) rfl (Want.none rfl) rfl (ltN rfl) (QP.fieldAddr rfl rfl f45_3).read ?_
    refine Sq.act (i := 8) rfl (Want.none rfl) rfl (EF.storeSlF (enc := Source.enc) rfl rfl rfl z3 (by repeat (first | exact Pick.head | apply Pick.tail)) Source.enc_len (by first | omega | (simp <;> omega)) (fun y hy => by cases hy.symm.trans hi; exact (Source.set_at_ _ now)) (cell_one rfl)) ?_
    rintro _ _ rfl
    refine Sq.nil ?_
    refine hk6 _ _ ?_
    refine Run.seq fun k7 hk7 => ?_
    refine Run.region ?_
    show Sq _ _ _ [0] _ _ _ _
    refine Sq.quiet (i := 0) rfl (Want.none rfl) rfl (ltN rfl) (QP.assign rfl rfl).read ?_
    refine Sq.nil ?_
    refine hk7 _ _ ?_
    refine Run.ret ?_
    exact J.ends (res_tmp rfl rfl) (.cons (by repeat (first | exact Pick.head | apply Pick.tail)) (.cons (by repeat (first | exact Pick.head | apply Pick.tail)) Takes.nil)) ⟨_, _, L.set i { x with at_ := now }, hh.set hlt, 1, rfl, .inr ⟨i, x, hi, hkx, rfl, rfl⟩, rts_eq (List.length_set ..) rfl⟩

theorem ahead_iff (x : Source) (p : Pair) (id : Bs 8) (d : Distance) (t : Int) : (0 < cmpPair x.pair p ∨ x.pair = p ∧ 0 < Lib.compareBytes x.id_.l id.l) ↔ 0 < cmpSource x ⟨p, id, d, t⟩ := by
  have h0 := totPair.eq x.pair p
  simp only [cmpSource, orF]
  by_cases h : cmpPair x.pair p = 0
  · have e := h0.1 h
    rw [if_neg (by omega)]
    constructor
    · rintro (h1 | ⟨_, h1⟩)
      · omega
      · rw [if_pos (by omega)]; exact h1
    · intro h1
      right
      refine ⟨e, ?_⟩
      split at h1
      · exact h1
      · omega
  · rw [if_pos h]
    constructor
    · rintro (h1 | ⟨e, _⟩)
      · exact h1
      · exact absurd (h0.2 e) h
    · exact .inl
theorem keyCmpS : KeyCmp keyS cmpSource := KeyCmp.of (c := fun a b => orF [cmpPair a.p b.p, Lib.compareBytes a.id_.l b.id_.l]) (TotCmp.lex totPair (TotCmp.bytes 8) (fun a => a.p) (fun a => a.id_) (fun x y h1 h2 => by obtain ⟨a, b⟩ := x; obtain ⟨c, d⟩ := y; simp only at h1 h2; subst h1; subst h2; rfl) (fun _ _ => rfl)) (fun _ _ => rfl)
theorem before_all {L : List Source} (hs : L.Pairwise fun a b => cmpSource a b < 0) {j : Nat} {x nw : Source} (h0 : 0 < j) (hi : L[Int.toNat ((j : Int) - 1)]? = some x) (hx : ¬ 0 < cmpSource x nw) (hne : keyS x ≠ keyS nw) : ∀ y ∈ L.take j, cmpSource y nw < 0 := by
  have hxn : cmpSource x nw < 0 := by
    have h1 : cmpSource x nw ≠ 0 := fun h => hne ((keyCmpS.zero _ _).1 h)
    omega
  have hj : Int.toNat ((j : Int) - 1) = j - 1 := by omega
  rw [hj] at hi
  have hlt : j - 1 < L.length := (List.getElem?_eq_some_iff.1 hi).1
  have hL : L.take j = L.take (j - 1) ++ [x] := by
    have h1 : L.take (j - 1 + 1) = _ := List.take_add_one (l := L) (i := j - 1)
    rw [show j - 1 + 1 = j by omega, hi] at h1
    exact h1
  intro y hy
  have hs2 := hs.sublist (List.take_sublist j L)
  rw [hL] at hy hs2
  rcases List.mem_append.1 hy with hy | hy
  · rw [List.pairwise_append] at hs2
    exact keyCmpS.tr _ _ _ (hs2.2.2 y hy x (by simp)) hxn
  · simp at hy; subst hy; exact hxn
theorem behind_more {L : List Source} {j : Nat} {x nw : Source} (h0 : 0 < j) (hi : L[Int.toNat ((j : Int) - 1)]? = some x) (hx : 0 < cmpSource x nw) (h : ∀ y ∈ L.drop j, 0 < cmpSource y nw) : ∀ y ∈ L.drop (j - 1), 0 < cmpSource y nw := by
  have hj : Int.toNat ((j : Int) - 1) = j - 1 := by omega
  rw [hj] at hi
  have hlt : j - 1 < L.length := (List.getElem?_eq_some_iff.1 hi).1
  intro y hy
  rw [List.drop_eq_getElem_cons hlt, show j - 1 + 1 = j by omega] at hy
  rcases List.mem_cons.1 hy with rfl | hy
  · have : L[j - 1] = x := (List.getElem?_eq_some_iff.1 hi).2
    rw [this]; exact hx
  · exact h y hy
/-- What the document's table becomes where a distance is kept. -/
def RKeep (most : Int) (L : List Source) (now : Int) (p : Pair) (id : Bs 8) (d : Distance) (e : Int) (L' : List Source) : Prop :=
  (d.metric = 65535 ∧ e = 2 ∧ L' = L) ∨ (d.metric ≠ 65535 ∧ ((∃ i x, L[i]? = some x ∧ keyS x = ⟨p, id⟩ ∧ e = 0 ∧ L' = L.set i { x with d := keepD (some x.d) d, at_ := now }) ∨
  ((∀ x ∈ L, keyS x ≠ ⟨p, id⟩) ∧ (((L.length : Int) ≥ most ∧ e = 6 ∧ L' = L) ∨
    (¬ (L.length : Int) ≥ most ∧ e = 0 ∧ ∃ j, j ≤ L.length ∧ (∀ x ∈ L.take j, cmpSource x ⟨p, id, d, now⟩ < 0) ∧ (∀ x ∈ L.drop j, 0 < cmpSource x ⟨p, id, d, now⟩) ∧ L' = L.take j ++ ⟨p, id, d, now⟩ :: L.drop j)))))
theorem cut_all {L : List Source} {j : Nat} (n : Source) : (([] ++ (L.take j).drop 0) ++ [n]) ++ (L.take L.length).drop j = L.take j ++ n :: L.drop j := by simp
theorem set_two {L : List Source} {i : Nat} (x y : Source) : (L.set i x).set i y = L.set i y := List.set_set ..

theorem rkeepT_spec (F : Fr) {b : Nat} {most : Int} {a : Option Addr} {c : Nat} {L : List Source} (hh : SlH a c L) (hL : L.length ≤ 1000000) (hs : L.Pairwise fun a b => cmpSource a b < 0) (hW : ∀ x ∈ L, x.d.WF) (now : Int) (p : Pair) (id : Bs 8)(d : Distance) (hd : d.WF) : Spec Try.prog 18 #[.pointer (some ⟨b, 0, none⟩), .int .i64 now, .agg (Pair.enc p).toArray, .agg (Bs.enc id).toArray, .agg (Distance.enc d).toArray] [blk b (Ref15Table.enc ⟨most, ⟨a, L.length, c⟩⟩) 56, slA 45 45 Source.enc (.slice a L.length c) L] F (fun v S => ∃ a2 c2, ∃ L2 : List Source, SlH a2 c2 L2 ∧ ∃ e, v = .int .i64 e ∧ RKeep most L now p id d e L2 ∧ S = [blk b (Ref15Table.enc ⟨most, ⟨a2, L2.length, c2⟩⟩) 56, slA 45 45 Source.enc (.slice a2 L2.length c2) L2]) := by
  have hcle := hh.le
  refine Spec.intro (N := 131) (args := [.pointer (some ⟨b, 0, none⟩), .int .i64 now, .agg (Pair.enc p).toArray, .agg (Bs.enc id).toArray, .agg (Distance.enc d).toArray]) Try.func18 rfl rfl (by simp) ?_
  refine Run.seq fun k1 hk1 => ?_
  refine Run.region ?_
  show Sq _ _ _ [0, 1, 2, 3] _ _ _ _
  refine Sq.eff (i := 0) rfl (Want.none rfl) rfl (ltN rfl) (EF.boxA rfl rfl) ?_
  rintro _ _ ⟨b7, rfl, rfl⟩
  refine Sq.eff (i := 1) rfl (Want.none rfl) rfl (ltN rfl) (EF.boxA rfl rfl) ?_
  rintro _ _ ⟨b8, rfl, rfl⟩
  refine Sq.eff (i := 2) rfl (Want.none rfl) rfl (ltN rfl) (EF.boxA rfl rfl) ?_
  rintro _ _ ⟨b9, rfl, rfl⟩
  refine Sq.quiet (i := 3) rfl (Want.none rfl) rfl (ltN rfl) (QP.assign rfl rfl).read ?_
  refine Sq.nil ?_
  refine hk1 _ _ ?_
  refine Run.seq fun k2 hk2 => ?_
  refine Run.seq fun k3 hk3 => ?_
  refine Run.region ?_
  show Sq _ _ _ [0, 1, 2] _ _ _ _
  refine Sq.quiet (i := 0) rfl (Want.none rfl) rfl (ltN rfl) (QP.fieldAddr rfl rfl f33_1).read ?_
  refine Sq.quiet (i := 1) rfl (Want.none rfl) rfl (ltN rfl) (QR.load1 rfl rfl g31 (Distance.sub_metric _)) ?_
  refine Sq.quiet (i := 2) rfl (Want.none rfl) rfl (ltN rfl) (QP.eql rfl rfl rfl).read ?_
  refine J.caseD (fun c15 => ?_) (fun c15 => ?_)
  · skip
    refine Sq.nil ?_
    refine hk3 _ _ ?_
    refine Run.cond_t rfl ?_
    refine Run.seq fun k4 hk4 => ?_
    refine Run.region ?_
    show Sq _ _ _ [0] _ _ _ _
    refine Sq.quiet (i := 0) rfl (Want.none rfl) rfl (ltN rfl) (QP.assign rfl rfl).read ?_
    refine Sq.nil ?_
    refine hk4 _ _ ?_
    refine Run.ret ?_
    exact J.ends (res_tmp rfl rfl) (.cons (by repeat (first | exact Pick.head | apply Pick.tail)) (.cons (by repeat (first | exact Pick.head | apply Pick.tail)) Takes.nil)) ⟨_, _, _, hh, _, rfl, .inl ⟨c15, rfl, rfl⟩, rfl⟩
  · skip
    refine Sq.nil ?_
    refine hk3 _ _ ?_
    refine Run.cond_f rfl ?_
    refine Run.skip ?_
    refine hk2 _ _ ?_
    refine Run.seq fun k5 hk5 => ?_
    refine Run.region ?_
    show Sq _ _ _ [0, 1, 2, 3, 4] _ _ _ _
    refine Sq.quiet (i := 0) rfl (Want.none rfl) rfl (ltN rfl) (QP.move rfl rfl).read ?_
    refine Sq.quiet (i := 1) rfl (Want.none rfl) rfl (ltN rfl) (QR.load rfl rfl g28 (Pair.enc_sub _)) ?_
    refine Sq.quiet (i := 2) rfl (Want.none rfl) rfl (ltN rfl) (QR.load rfl rfl g30 (Bs.sub _)) ?_
    refine Sq.eff (i := 3) rfl (Want.none rfl) rfl (ltN rfl) (EF.call rfl ce23 rfl (.cons (by repeat (first | exact Pick.head | apply Pick.tail)) (.cons (by repeat (first | exact Pick.head | apply Pick.tail)) Takes.nil)) (fun F' hle hr => rfind_spec F' hh hL p id)) ?_
    rintro _ _ ⟨_, ⟨rfl, n19, rfl, hfind⟩, rfl⟩
    refine J.app ?_
    refine Sq.quiet (i := 4) rfl (Want.none rfl) rfl (ltN rfl) (QP.assign rfl rfl).read ?_
    refine Sq.nil ?_
    refine hk5 _ _ ?_
    refine Run.seq fun k6 hk6 => ?_
    refine Run.seq fun k7 hk7 => ?_
    refine Run.region ?_
    show Sq _ _ _ [0, 1] _ _ _ _
    refine Sq.quiet (i := 0) rfl (Want.none rfl) rfl (ltN rfl) (QP.move rfl rfl).read ?_
    refine Sq.quiet (i := 1) rfl (Want.none rfl) rfl (ltN rfl) (QP.geq rfl rfl rfl).read ?_
    refine J.caseD (fun c21 => ?_) (fun c21 => ?_)
    · skip
      refine Sq.nil ?_
      refine hk7 _ _ ?_
      refine Run.cond_t rfl ?_
      refine Run.seq fun k8 hk8 => ?_
      refine Run.regionD (M := [0, 1, 3, 7, 0, 0, 32, 96, 224, 0, 992, 2016, 0, 8160, 16383, 32767, 65535]) (q := 57343) (r := 4360) (by kernel_rfl) ?_
      obtain ⟨i, x, rfl, hi, hkx⟩ : ∃ (i : Nat) (x : Source), n19 = (i : Int) ∧ L[i]? = some x ∧ keyS x = ⟨p, id⟩ := by
        rcases hfind with ⟨h1, _⟩ | ⟨i, x, h1, h2, h3⟩
        · omega
        · exact ⟨i, x, h1, h2, h3⟩
      have hlt : i < L.length := (List.getElem?_eq_some_iff.1 hi).1
      obtain ⟨b0, o0, rfl⟩ := hh.get (by omega)
      refine Dw.pure (i := 0) rfl (by kernel_rfl) (Want.none rfl) rfl (ltN rfl) (QP.move rfl rfl) ?_
      refine Dw.pure (i := 1) rfl (by kernel_rfl) (Want.none rfl) rfl (ltN rfl) (QP.nilCheck rfl rfl) ?_
      refine Dw.pure (i := 2) rfl (by kernel_rfl) (Want.none rfl) rfl (ltN rfl) (QP.fieldAddr rfl rfl f56_1) ?_
      refine Dw.read (i := 3) rfl (by kernel_rfl) (Want.none rfl) rfl (ltN rfl) (QR.load1 (v := .slice _ L.length _) rfl rfl g42 (Ref15Table.sub_l _)) ?_
      refine Dw.pure (i := 4) rfl (by kernel_rfl) (Want.none rfl) rfl (ltN rfl) (QP.move rfl rfl) ?_
      refine Dw.pure (i := 5) rfl (by kernel_rfl) (Want.none rfl) rfl (ltN rfl) (QP.move rfl rfl) ?_
      refine Dw.pure (i := 6) rfl (by kernel_rfl) (Want.none rfl) rfl (ltN rfl) (QP.nilCheck rfl rfl) ?_
      refine Dw.pure (i := 7) rfl (by kernel_rfl) (Want.none rfl) rfl (ltN rfl) (QP.fieldAddr rfl rfl f56_1) ?_
      refine Dw.read (i := 8) rfl (by kernel_rfl) (Want.none rfl) rfl (ltN rfl) (QR.load1 (v := .slice _ L.length _) rfl rfl g42 (Ref15Table.sub_l _)) ?_
      refine Dw.pure (i := 9) rfl (by kernel_rfl) (Want.none rfl) rfl (ltN rfl) (QP.move rfl rfl) ?_
      refine Dw.pure (i := 10) rfl (by kernel_rfl) (Want.none rfl) rfl (ltN rfl) (QP.indexAddr rfl rfl rfl Try.underlying42 z45 (by first | omega | (simp <;> omega)) (by first | omega | (simp <;> omega))) ?_
      refine Dw.pure (i := 11) rfl (by kernel_rfl) (Want.none rfl) rfl (ltN rfl) (QP.fieldAddr rfl rfl f45_2) ?_
      refine Dw.read (i := 12) rfl (by kernel_rfl) (Want.none rfl) rfl (ltN rfl) (QR.load rfl rfl g33 (Distance.enc_sub _)) ?_
      refine Dw.eff (i := 13) (by kernel_rfl) (by kernel_rfl) ?_
      refine One.mk (o := _) (l := [3]) rfl (by kernel_rfl) (Want.none rfl) rfl (ltN rfl) (EF.call rfl ce36 rfl (.cons (by repeat (first | exact Pick.head | apply Pick.tail)) Takes.nil) (fun F' hle hr => rkeep_some F' hi (hW x (List.mem_of_getElem? hi)) d hd)) (by kernel_rfl) ?_
      rintro _ _ ⟨_, ⟨rfl, rfl⟩, rfl⟩
      refine ⟨?_, ?_⟩
      · rw [List.forall_mem_cons]
        refine ⟨?_, fun _ h => (by cases h)⟩
        · refine Look.app ?_
          exact Look.mk rfl rfl rfl (QR.load1 (v := .slice _ L.length _) rfl rfl g42 (Ref15Table.sub_l _))
      refine ?_
      refine J.app ?_
      refine Dw.pure (i := 14) rfl (by kernel_rfl) (Want.none rfl) rfl (ltN rfl) (QP.indexAddr rfl rfl rfl Try.underlying42 z45 (by first | omega | (simp <;> omega)) (by first | omega | (simp <;> omega))) ?_
      refine Dw.pure (i := 15) rfl (by kernel_rfl) (Want.none rfl) rfl (ltN rfl) (QP.fieldAddr rfl rfl f45_2) ?_
      refine Dw.eff (i := 16) (by kernel_rfl) (by kernel_rfl) ?_
      refine One.act (o := _) (l := []) rfl (by kernel_rfl) (Want.none rfl) rfl (EF.storeSlF (enc := Source.enc) rfl rfl rfl z33 (by repeat (first | exact Pick.head | apply Pick.tail)) Source.enc_len (by first | omega | (simp <;> omega)) (fun y hy => by cases hy.symm.trans hi; exact (Source.set_d _ (keepD (some x.d) d))) (Distance.enc_cell _)) (by kernel_rfl) ?_
      rintro _ _ rfl
      refine ⟨fun _ h => (by cases h), ?_⟩
      refine Dw.nil (by kernel_rfl) ?_
      refine hk8 _ _ ?_
      refine Run.seq fun k9 hk9 => ?_
      refine Run.region ?_
      show Sq _ _ _ [0, 1, 2, 3, 4, 5, 6, 7, 8] _ _ _ _
      have hi2 : (L.set i ({ x with d := keepD (some x.d) d } : Source))[i]? = some { x with d := keepD (some x.d) d } := by simp [hlt]
      refine Sq.quiet (i := 0) rfl (Want.none rfl) rfl (ltN rfl) (QP.move rfl rfl).read ?_
      refine Sq.quiet (i := 1) rfl (Want.none rfl) rfl (ltN rfl) (QP.nilCheck rfl rfl).read ?_
      refine Sq.quiet (i := 2) rfl (Want.none rfl) rfl (ltN rfl) (QP.fieldAddr rfl rfl f56_1).read ?_
      refine Sq.quiet (i := 3) rfl (Want.none rfl) rfl (ltN rfl) (QR.load1 (v := .slice _ L.length _) rfl rfl g42 (Ref15Table.sub_l _)) ?_
      refine Sq.quiet (i := 4) rfl (Want.none rfl) rfl (ltN rfl) (QP.move rfl rfl).read ?_
      refine Sq.quiet (i := 5) rfl (Want.none rfl) rfl (ltN rfl) (QP.move rfl rfl).read ?_
      refine Sq.quiet (i := 6) rfl (Want.none rfl) rfl (ltN rfl) (QP.indexAddr rfl rfl rfl Try.underlying42 z45 (by first | omega | (simp <;> omega)) (by first | omega | (simp <;> omega))).read ?_
      refine Sq.quiet (i := 7) rfl (Want.none rfl) rfl (ltN rfl) (QP.fieldAddr rfl rfl f45_3).read ?_
      refine Sq.act (i := 8) rfl (Want.none rfl) rfl (EF.storeSlF (enc := Source.enc) rfl rfl rfl z3 (by repeat (first | exact Pick.head | apply Pick.tail)) Source.enc_len (by first | omega | (simp <;> omega)) (fun y hy => by cases hy.symm.trans hi2; exact (Source.set_at_ _ now)) (cell_one rfl)) ?_
      rintro _ _ rfl
      refine Sq.nil ?_
      refine hk9 _ _ ?_
      refine Run.seq fun k10 hk10 => ?_
      refine Run.region ?_
      show Sq _ _ _ [0] _ _ _ _
      refine Sq.quiet (i := 0) rfl (Want.none rfl) rfl (ltN rfl) (QP.assign rfl rfl).read ?_
      refine Sq.nil ?_
      refine hk10 _ _ ?_
      refine Run.ret ?_
      exact J.ends (res_tmp rfl rfl) (.cons (by repeat (first | exact Pick.head | apply Pick.tail)) (.cons (by repeat (first | exact Pick.head | apply Pick.tail)) Takes.nil)) ⟨_, _, L.set i { x with d := keepD (some x.d) d, at_ := now }, hh.set hlt, 0, rfl, .inr ⟨c15, .inl ⟨i, x, hi, hkx, rfl, rfl⟩⟩, rts_eq (List.length_set ..) (set_two _ _)⟩
    · skip
      refine Sq.nil ?_
      refine hk7 _ _ ?_
      refine Run.cond_f rfl ?_
      refine Run.skip ?_
      refine hk6 _ _ ?_
      refine Run.seq fun k11 hk11 => ?_
      refine Run.seq fun k12 hk12 => ?_
      refine Run.regionD (M := [0, 1, 3, 7, 15, 0, 32, 96, 224, 511]) (q := 1023) (r := 264) (by kernel_rfl) ?_
      have hno : ∀ x ∈ L, keyS x ≠ ⟨p, id⟩ := by
        rcases hfind with ⟨_, h1⟩ | ⟨i, x, h1, _, _⟩
        · exact h1
        · omega
      refine Dw.pure (i := 0) rfl (by kernel_rfl) (Want.none rfl) rfl (ltN rfl) (QP.move rfl rfl) ?_
      refine Dw.pure (i := 1) rfl (by kernel_rfl) (Want.none rfl) rfl (ltN rfl) (QP.nilCheck rfl rfl) ?_
      refine Dw.pure (i := 2) rfl (by kernel_rfl) (Want.none rfl) rfl (ltN rfl) (QP.fieldAddr rfl rfl f56_1) ?_
      refine Dw.read (i := 3) rfl (by kernel_rfl) (Want.none rfl) rfl (ltN rfl) (QR.load1 (v := .slice _ L.length _) rfl rfl g42 (Ref15Table.sub_l _)) ?_
      refine Dw.pure (i := 4) rfl (by kernel_rfl) (Want.none rfl) rfl (ltN rfl) (QP.len rfl rfl rfl Try.underlying42) ?_
      refine Dw.pure (i := 5) rfl (by kernel_rfl) (Want.none rfl) rfl (ltN rfl) (QP.move rfl rfl) ?_
      refine Dw.pure (i := 6) rfl (by kernel_rfl) (Want.none rfl) rfl (ltN rfl) (QP.nilCheck rfl rfl) ?_
      refine Dw.pure (i := 7) rfl (by kernel_rfl) (Want.none rfl) rfl (ltN rfl) (QP.fieldAddr rfl rfl f56_0) ?_
      refine Dw.read (i := 8) rfl (by kernel_rfl) (Want.none rfl) rfl (ltN rfl) (QR.load1 rfl rfl g3 (Ref15Table.sub_most _)) ?_
      refine Dw.pure (i := 9) rfl (by kernel_rfl) (Want.none rfl) rfl (ltN rfl) (QP.geq rfl rfl rfl) ?_
      refine J.caseD (fun c55 => ?_) (fun c55 => ?_)
      · skip
        refine Dw.nil (by kernel_rfl) ?_
        refine hk12 _ _ ?_
        refine Run.cond_t rfl ?_
        refine Run.seq fun k13 hk13 => ?_
        refine Run.region ?_
        show Sq _ _ _ [0] _ _ _ _
        refine Sq.quiet (i := 0) rfl (Want.none rfl) rfl (ltN rfl) (QP.assign rfl rfl).read ?_
        refine Sq.nil ?_
        refine hk13 _ _ ?_
        refine Run.ret ?_
        exact J.ends (res_tmp rfl rfl) (.cons (by repeat (first | exact Pick.head | apply Pick.tail)) (.cons (by repeat (first | exact Pick.head | apply Pick.tail)) Takes.nil)) ⟨_, _, _, hh, _, rfl, .inr ⟨c15, .inr ⟨hno, .inl ⟨c55, rfl, rfl⟩⟩⟩, rfl⟩
      · skip
        refine Dw.nil (by kernel_rfl) ?_
        refine hk12 _ _ ?_
        refine Run.cond_f rfl ?_
        refine Run.skip ?_
        refine hk11 _ _ ?_
        refine Run.seq fun k14 hk14 => ?_
        refine Run.region ?_
        show Sq _ _ _ [0, 1, 2, 3, 4, 5] _ _ _ _
        refine Sq.quiet (i := 0) rfl (Want.none rfl) rfl (ltN rfl) (QP.move rfl rfl).read ?_
        refine Sq.quiet (i := 1) rfl (Want.none rfl) rfl (ltN rfl) (QP.nilCheck rfl rfl).read ?_
        refine Sq.quiet (i := 2) rfl (Want.none rfl) rfl (ltN rfl) (QP.fieldAddr rfl rfl f56_1).read ?_
        refine Sq.quiet (i := 3) rfl (Want.none rfl) rfl (ltN rfl) (QR.load1 (v := .slice _ L.length _) rfl rfl g42 (Ref15Table.sub_l _)) ?_
        refine Sq.quiet (i := 4) rfl (Want.none rfl) rfl (ltN rfl) (QP.len rfl rfl rfl Try.underlying42).read ?_
        refine Sq.quiet (i := 5) rfl (Want.none rfl) rfl (ltN rfl) (QP.assign rfl rfl).read ?_
        refine Sq.nil ?_
        refine hk14 _ _ ?_
        refine Run.seq fun k15 hk15 => ?_
        refine Run.block ?_
        refine Run.loop1 (fun (j : Nat) => j ≤ L.length ∧ ∀ x ∈ L.drop j, 0 < cmpSource x (⟨p, id, d, now⟩ : Source)) (fun j => .cons 0 (.pointer (some ⟨b, 0, none⟩)) (.cons 1 (.int .i64 now) (.cons 7 (.pointer (some ⟨b7, 0, none⟩)) (.cons 8 (.pointer (some ⟨b8, 0, none⟩)) (.cons 9 (.pointer (some ⟨b9, 0, none⟩)) (.cons 12 (.int .i64 j) (.nil))))))) (fun j => [blk b (Ref15Table.enc ⟨most, ⟨a, L.length, c⟩⟩) 56, slA 45 45 Source.enc (.slice a L.length c) L, blk b7 (Pair.enc p) 28, blk b8 (Bs.enc id) 30, blk b9 (Distance.enc d) 33]) (fun j => j) (L.length) (⟨Nat.le_refl _, by simp⟩) ?_ ?_
        · exact fun _ j => J.envJ (J.keep (.cons (by repeat (first | exact Pick.head | apply Pick.tail)) (.cons (by repeat (first | exact Pick.head | apply Pick.tail)) (.cons (by repeat (first | exact Pick.head | apply Pick.tail)) (.cons (by repeat (first | exact Pick.head | apply Pick.tail)) (.cons (by repeat (first | exact Pick.head | apply Pick.tail)) Takes.nil))))) j) ⟨rfl, rfl, rfl, rfl, rfl, rfl, trivial⟩
        rintro j ⟨hjl, haft⟩ kl16 hl16
        refine Run.seq fun k17 hk17 => ?_
        refine Run.seq fun k18 hk18 => ?_
        refine Run.regionD (M := [0, 1, 3, 7, 15, 31, 63, 7, 135, 511, 1023, 2047, 7, 8191, 16383, 32767, 65535, 131071, 262143, 524287, 65535, 1114111, 4194303, 8388607, 16777215, 65535, 67108863, 134217727, 268435455, 536870911, 1073741823, 2147483647, 268435455, 4563402751, 17179869183, 34359738367, 68719476735, 268435455, 274877906943, 549755813887, 1099511627775, 2199023255551, 4398046511103]) (q := 8521215107071) (r := 208356776000) (by kernel_rfl) ?_
        refine Dw.pure (i := 0) rfl (by kernel_rfl) (Want.none rfl) rfl (ltN rfl) (QP.move rfl rfl) ?_
        refine Dw.pure (i := 1) rfl (by kernel_rfl) (Want.none rfl) rfl (ltN rfl) (QP.gtr rfl rfl rfl) ?_
        refine J.caseD (fun c62 => ?_) (fun c62 => ?_)
        · skip
          refine Dw.pure (i := 2) rfl (by kernel_rfl) (Want.none rfl) rfl (ltN rfl) (QP.move rfl rfl) ?_
          refine Dw.pure (i := 3) rfl (by kernel_rfl) (Want.yes rfl rfl rfl rfl) rfl (ltN rfl) (QP.move rfl rfl) ?_
          refine Dw.pure (i := 4) rfl (by kernel_rfl) (Want.yes rfl rfl rfl rfl) rfl (ltN rfl) (QP.nilCheck rfl rfl) ?_
          refine Dw.pure (i := 5) rfl (by kernel_rfl) (Want.yes rfl rfl rfl rfl) rfl (ltN rfl) (QP.fieldAddr rfl rfl f56_1) ?_
          refine Dw.read (i := 6) rfl (by kernel_rfl) (Want.yes rfl rfl rfl rfl) rfl (ltN rfl) (QR.load1 (v := .slice _ L.length _) rfl rfl g42 (Ref15Table.sub_l _)) ?_
          refine Dw.pure (i := 7) rfl (by kernel_rfl) (Want.yes rfl rfl rfl rfl) rfl (ltN rfl) (QP.move rfl rfl) ?_
          refine Dw.pure (i := 8) rfl (by kernel_rfl) (Want.yes rfl rfl rfl rfl) rfl (ltN rfl) (QP.sub64 rfl rfl rfl (by first | omega | (simp <;> omega)) (by first | omega | (simp <;> omega))) ?_
          obtain ⟨x, hi⟩ : ∃ x, L[Int.toNat ((j : Int) - 1)]? = some x := ⟨_, List.getElem?_eq_getElem (by omega)⟩
          obtain ⟨b0, o0, rfl⟩ := hh.get (by omega)
          refine Dw.pure (i := 9) rfl (by kernel_rfl) (Want.yes rfl rfl rfl rfl) rfl (ltN rfl) (QP.indexAddr rfl rfl rfl Try.underlying42 z45 (by first | omega | (simp <;> omega)) (by first | omega | (simp <;> omega))) ?_
          refine Dw.pure (i := 10) rfl (by kernel_rfl) (Want.yes rfl rfl rfl rfl) rfl (ltN rfl) (QP.fieldAddr rfl rfl f45_0) ?_
          refine Dw.read (i := 11) rfl (by kernel_rfl) (Want.yes rfl rfl rfl rfl) rfl (ltN rfl) (QR.loadSlF rfl rfl g28 Source.enc_len (SlAt.own Source.enc_len (by repeat (first | exact List.Mem.head _ | apply List.Mem.tail))) hi (Source.sub_pair _)) ?_
          refine Dw.read (i := 12) rfl (by kernel_rfl) (Want.yes rfl rfl rfl rfl) rfl (ltN rfl) (QR.load rfl rfl g28 (Pair.enc_sub _)) ?_
          refine Dw.eff (i := 13) (by kernel_rfl) (by kernel_rfl) ?_
          refine One.mk (o := _) (l := []) rfl (by kernel_rfl) (Want.yes rfl rfl rfl rfl) rfl (ltN rfl) (EF.call rfl ce37 rfl Takes.nil (fun F' hle hr => rcmpPair_spec F' x.pair p)) (by kernel_rfl) ?_
          rintro _ _ ⟨_, ⟨n74, rfl, rfl, hp74, hm74⟩, rfl⟩
          refine ⟨fun _ h => (by cases h), ?_⟩
          refine J.app ?_
          refine Dw.pure (i := 14) rfl (by kernel_rfl) (Want.yes rfl rfl rfl rfl) rfl (ltN rfl) (QP.gtr rfl rfl rfl) ?_
          refine J.caseD (fun c75 => ?_) (fun c75 => ?_)
          · skip
            refine Dw.pure (i := 15) rfl (by kernel_rfl) (Want.yes rfl rfl rfl rfl) rfl (ltN rfl) (QP.move rfl rfl) ?_
            refine Dw.skip (i := 16) rfl (by kernel_rfl) (Want.no rfl rfl rfl rfl) rfl (ltN rfl) ?_
            refine Dw.skip (i := 17) rfl (by kernel_rfl) (Want.no rfl rfl rfl rfl) rfl (ltN rfl) ?_
            refine Dw.skip (i := 18) rfl (by kernel_rfl) (Want.no rfl rfl rfl rfl) rfl (ltN rfl) ?_
            refine Dw.skip (i := 19) rfl (by kernel_rfl) (Want.no rfl rfl rfl rfl) rfl (ltN rfl) ?_
            refine Dw.skip (i := 20) rfl (by kernel_rfl) (Want.no rfl rfl rfl rfl) rfl (ltN rfl) ?_
            refine Dw.skip (i := 21) rfl (by kernel_rfl) (Want.no rfl rfl rfl rfl) rfl (ltN rfl) ?_
            refine Dw.skip (i := 22) rfl (by kernel_rfl) (Want.no rfl rfl rfl rfl) rfl (ltN rfl) ?_
            refine Dw.skip (i := 23) rfl (by kernel_rfl) (Want.no rfl rfl rfl rfl) rfl (ltN rfl) ?_
            refine Dw.skip (i := 24) rfl (by kernel_rfl) (Want.no rfl rfl rfl rfl) rfl (ltN rfl) ?_
            refine Dw.skip (i := 25) rfl (by kernel_rfl) (Want.no rfl rfl rfl rfl) rfl (ltN rfl) ?_
            refine Dw.skip (i := 26) rfl (by kernel_rfl) (Want.no rfl rfl rfl rfl) rfl (ltN rfl) ?_
            refine Dw.skip (i := 27) rfl (by kernel_rfl) (Want.no rfl rfl rfl rfl) rfl (ltN rfl) ?_
            refine Dw.skip (i := 28) rfl (by kernel_rfl) (Want.undef rfl rfl rfl) rfl (ltN rfl) ?_
            refine Dw.skip (i := 29) rfl (by kernel_rfl) (Want.undef rfl rfl rfl) rfl (ltN rfl) ?_
            refine Dw.skip (i := 30) rfl (by kernel_rfl) (Want.undef rfl rfl rfl) rfl (ltN rfl) ?_
            refine Dw.skip (i := 31) rfl (by kernel_rfl) (Want.undef rfl rfl rfl) rfl (ltN rfl) ?_
            refine Dw.skip (i := 32) rfl (by kernel_rfl) (Want.undef rfl rfl rfl) rfl (ltN rfl) ?_
            refine Dw.skip (i := 33) rfl (by kernel_rfl) (Want.undef rfl rfl rfl) rfl (ltN rfl) ?_
            refine Dw.skip (i := 34) rfl (by kernel_rfl) (Want.undef rfl rfl rfl) rfl (ltN rfl) ?_
            refine Dw.skip (i := 35) rfl (by kernel_rfl) (Want.undef rfl rfl rfl) rfl (ltN rfl) ?_
            refine Dw.skip (i := 36) rfl (by kernel_rfl) (Want.undef rfl rfl rfl) rfl (ltN rfl) ?_
            refine Dw.skip (i := 37) rfl (by kernel_rfl) (Want.undef rfl rfl rfl) rfl (ltN rfl) ?_
            refine Dw.eff (i := 38) (by kernel_rfl) (by kernel_rfl) ?_
            refine One.skipD (o := _) rfl (by kernel_rfl) (Want.undef rfl rfl rfl) rfl (ltN rfl) ?_
            refine Dw.skip (i := 39) rfl (by kernel_rfl) (Want.undef rfl rfl rfl) rfl (ltN rfl) ?_
            refine Dw.skip (i := 40) rfl (by kernel_rfl) (Want.no rfl rfl rfl rfl) rfl (ltN rfl) ?_
            refine Dw.pure (i := 41) rfl (by kernel_rfl) (Want.yes rfl rfl rfl rfl) rfl (ltN rfl) (QP.pick_t rfl rfl rfl) ?_
            refine Dw.pure (i := 42) rfl (by kernel_rfl) (Want.none rfl) rfl (ltN rfl) (QP.pick_t rfl rfl rfl) ?_
            refine Dw.nil (by kernel_rfl) ?_
            refine hk18 _ _ ?_
            refine Run.cond_t rfl ?_
            refine Run.skip ?_
            refine hk17 _ _ ?_
            refine Run.block ?_
            refine Run.region ?_
            show Sq _ _ _ [0, 1, 2] _ _ _ _
            refine Sq.quiet (i := 0) rfl (Want.none rfl) rfl (ltN rfl) (QP.move rfl rfl).read ?_
            refine Sq.quiet (i := 1) rfl (Want.none rfl) rfl (ltN rfl) (QP.sub64 rfl rfl rfl (by first | omega | (simp <;> omega)) (by first | omega | (simp <;> omega))).read ?_
            refine Sq.quiet (i := 2) rfl (Want.none rfl) rfl (ltN rfl) (QP.assign rfl rfl).read ?_
            refine Sq.nil ?_
            exact J.envJ (J.keep (.cons (by repeat (first | exact Pick.head | apply Pick.tail)) (.cons (by repeat (first | exact Pick.head | apply Pick.tail)) (.cons (by repeat (first | exact Pick.head | apply Pick.tail)) (.cons (by repeat (first | exact Pick.head | apply Pick.tail)) (.cons (by repeat (first | exact Pick.head | apply Pick.tail)) Takes.nil))))) (hl16 (j - 1) (⟨by omega, behind_more (by omega) hi ((ahead_iff x p id d now).1 (.inl (hp74.1 c75))) haft⟩) (by omega))) ⟨rfl, rfl, rfl, rfl, rfl, (congrArg (fun n => some (Value.int .i64 n)) (show _ = _ by omega)), trivial⟩
          · skip
            refine Dw.pure (i := 15) rfl (by kernel_rfl) (Want.yes rfl rfl rfl rfl) rfl (ltN rfl) (QP.move rfl rfl) ?_
            refine Dw.pure (i := 16) rfl (by kernel_rfl) (Want.yes rfl rfl rfl rfl) rfl (ltN rfl) (QP.move rfl rfl) ?_
            refine Dw.pure (i := 17) rfl (by kernel_rfl) (Want.yes rfl rfl rfl rfl) rfl (ltN rfl) (QP.nilCheck rfl rfl) ?_
            refine Dw.pure (i := 18) rfl (by kernel_rfl) (Want.yes rfl rfl rfl rfl) rfl (ltN rfl) (QP.fieldAddr rfl rfl f56_1) ?_
            refine Dw.read (i := 19) rfl (by kernel_rfl) (Want.yes rfl rfl rfl rfl) rfl (ltN rfl) (QR.load1 (v := .slice _ L.length _) rfl rfl g42 (Ref15Table.sub_l _)) ?_
            refine Dw.pure (i := 20) rfl (by kernel_rfl) (Want.yes rfl rfl rfl rfl) rfl (ltN rfl) (QP.move rfl rfl) ?_
            refine Dw.pure (i := 21) rfl (by kernel_rfl) (Want.yes rfl rfl rfl rfl) rfl (ltN rfl) (QP.sub64 rfl rfl rfl (by first | omega | (simp <;> omega)) (by first | omega | (simp <;> omega))) ?_
            refine Dw.pure (i := 22) rfl (by kernel_rfl) (Want.yes rfl rfl rfl rfl) rfl (ltN rfl) (QP.indexAddr rfl rfl rfl Try.underlying42 z45 (by first | omega | (simp <;> omega)) (by first | omega | (simp <;> omega))) ?_
            refine Dw.pure (i := 23) rfl (by kernel_rfl) (Want.yes rfl rfl rfl rfl) rfl (ltN rfl) (QP.fieldAddr rfl rfl f45_0) ?_
            refine Dw.read (i := 24) rfl (by kernel_rfl) (Want.yes rfl rfl rfl rfl) rfl (ltN rfl) (QR.loadSlF rfl rfl g28 Source.enc_len (SlAt.own Source.enc_len (by repeat (first | exact List.Mem.head _ | apply List.Mem.tail))) hi (Source.sub_pair _)) ?_
            refine Dw.read (i := 25) rfl (by kernel_rfl) (Want.yes rfl rfl rfl rfl) rfl (ltN rfl) (QR.load rfl rfl g28 (Pair.enc_sub _)) ?_
            refine Dw.pure (i := 26) rfl (by kernel_rfl) (Want.yes rfl rfl rfl rfl) rfl (ltN rfl) (QP.eql_agg eq28 rfl rfl rfl) ?_
            refine J.caseD (fun c87 => ?_) (fun c87 => ?_)
            · skip
              refine Dw.pure (i := 27) rfl (by kernel_rfl) (Want.yes rfl rfl rfl rfl) rfl (ltN rfl) (QP.move rfl rfl) ?_
              refine Dw.pure (i := 28) rfl (by kernel_rfl) (Want.yes rfl rfl rfl rfl) rfl (ltN rfl) (QP.move rfl rfl) ?_
              refine Dw.pure (i := 29) rfl (by kernel_rfl) (Want.yes rfl rfl rfl rfl) rfl (ltN rfl) (QP.nilCheck rfl rfl) ?_
              refine Dw.pure (i := 30) rfl (by kernel_rfl) (Want.yes rfl rfl rfl rfl) rfl (ltN rfl) (QP.fieldAddr rfl rfl f56_1) ?_
              refine Dw.read (i := 31) rfl (by kernel_rfl) (Want.yes rfl rfl rfl rfl) rfl (ltN rfl) (QR.load1 (v := .slice _ L.length _) rfl rfl g42 (Ref15Table.sub_l _)) ?_
              refine Dw.pure (i := 32) rfl (by kernel_rfl) (Want.yes rfl rfl rfl rfl) rfl (ltN rfl) (QP.move rfl rfl) ?_
              refine Dw.pure (i := 33) rfl (by kernel_rfl) (Want.yes rfl rfl rfl rfl) rfl (ltN rfl) (QP.sub64 rfl rfl rfl (by first | omega | (simp <;> omega)) (by first | omega | (simp <;> omega))) ?_
              refine Dw.pure (i := 34) rfl (by kernel_rfl) (Want.yes rfl rfl rfl rfl) rfl (ltN rfl) (QP.indexAddr rfl rfl rfl Try.underlying42 z45 (by first | omega | (simp <;> omega)) (by first | omega | (simp <;> omega))) ?_
              refine Dw.pure (i := 35) rfl (by kernel_rfl) (Want.yes rfl rfl rfl rfl) rfl (ltN rfl) (QP.fieldAddr rfl rfl f45_1) ?_
              refine Dw.read (i := 36) rfl (by kernel_rfl) (Want.yes rfl rfl rfl rfl) rfl (ltN rfl) (QR.loadSlF rfl rfl g30 Source.enc_len (SlAt.own Source.enc_len (by repeat (first | exact List.Mem.head _ | apply List.Mem.tail))) hi (Source.sub_id_ _)) ?_
              refine Dw.read (i := 37) rfl (by kernel_rfl) (Want.yes rfl rfl rfl rfl) rfl (ltN rfl) (QR.load rfl rfl g30 (Bs.sub _)) ?_
              refine Dw.eff (i := 38) (by kernel_rfl) (by kernel_rfl) ?_
              refine One.mk (o := _) (l := []) rfl (by kernel_rfl) (Want.yes rfl rfl rfl rfl) rfl (ltN rfl) (EF.call rfl ce38 rfl Takes.nil (fun F' hle hr => rids_spec F' x.id_ id)) (by kernel_rfl) ?_
              rintro _ _ ⟨_, ⟨n99, rfl, rfl, hp99, hm99⟩, rfl⟩
              refine ⟨fun _ h => (by cases h), ?_⟩
              refine J.app ?_
              refine Dw.pure (i := 39) rfl (by kernel_rfl) (Want.yes rfl rfl rfl rfl) rfl (ltN rfl) (QP.gtr rfl rfl rfl) ?_
              refine J.caseD (fun c100 => ?_) (fun c100 => ?_)
              · skip
                refine Dw.pure (i := 40) rfl (by kernel_rfl) (Want.yes rfl rfl rfl rfl) rfl (ltN rfl) (QP.pick_t rfl rfl rfl) ?_
                refine Dw.pure (i := 41) rfl (by kernel_rfl) (Want.yes rfl rfl rfl rfl) rfl (ltN rfl) (QP.pick_f rfl rfl rfl) ?_
                refine Dw.pure (i := 42) rfl (by kernel_rfl) (Want.none rfl) rfl (ltN rfl) (QP.pick_t rfl rfl rfl) ?_
                refine Dw.nil (by kernel_rfl) ?_
                refine hk18 _ _ ?_
                refine Run.cond_t rfl ?_
                refine Run.skip ?_
                refine hk17 _ _ ?_
                refine Run.block ?_
                refine Run.region ?_
                show Sq _ _ _ [0, 1, 2] _ _ _ _
                refine Sq.quiet (i := 0) rfl (Want.none rfl) rfl (ltN rfl) (QP.move rfl rfl).read ?_
                refine Sq.quiet (i := 1) rfl (Want.none rfl) rfl (ltN rfl) (QP.sub64 rfl rfl rfl (by first | omega | (simp <;> omega)) (by first | omega | (simp <;> omega))).read ?_
                refine Sq.quiet (i := 2) rfl (Want.none rfl) rfl (ltN rfl) (QP.assign rfl rfl).read ?_
                refine Sq.nil ?_
                exact J.envJ (J.keep (.cons (by repeat (first | exact Pick.head | apply Pick.tail)) (.cons (by repeat (first | exact Pick.head | apply Pick.tail)) (.cons (by repeat (first | exact Pick.head | apply Pick.tail)) (.cons (by repeat (first | exact Pick.head | apply Pick.tail)) (.cons (by repeat (first | exact Pick.head | apply Pick.tail)) Takes.nil))))) (hl16 (j - 1) (⟨by omega, behind_more (by omega) hi ((ahead_iff x p id d now).1 (.inr ⟨c87, hp99.1 c100⟩)) haft⟩) (by omega))) ⟨rfl, rfl, rfl, rfl, rfl, (congrArg (fun n => some (Value.int .i64 n)) (show _ = _ by omega)), trivial⟩
              · skip
                refine Dw.pure (i := 40) rfl (by kernel_rfl) (Want.yes rfl rfl rfl rfl) rfl (ltN rfl) (QP.pick_t rfl rfl rfl) ?_
                refine Dw.pure (i := 41) rfl (by kernel_rfl) (Want.yes rfl rfl rfl rfl) rfl (ltN rfl) (QP.pick_f rfl rfl rfl) ?_
                refine Dw.pure (i := 42) rfl (by kernel_rfl) (Want.none rfl) rfl (ltN rfl) (QP.pick_t rfl rfl rfl) ?_
                refine Dw.nil (by kernel_rfl) ?_
                refine hk18 _ _ ?_
                refine Run.cond_f rfl ?_
                refine Run.exit rfl ?_
                refine hk15 _ _ ?_
                refine Run.seq fun k19 hk19 => ?_
                refine Run.regionD (M := [0, 0, 0, 4, 12, 28, 0, 124, 254, 0, 0, 0, 0, 7680, 15872, 32766, 0, 65536, 196608, 458752, 0, 2031616, 4194302, 8388607, 16777215, 33554431]) (q := 29310717) (r := 527904) (by kernel_rfl) ?_
                have hbef : ∀ y ∈ L.take j, cmpSource y (⟨p, id, d, now⟩ : Source) < 0 := before_all hs (by omega) hi (fun hc => (show ¬ (0 < cmpPair x.pair p ∨ x.pair = p ∧ 0 < Lib.compareBytes x.id_.l id.l) from by rintro (h1 | ⟨_, h1⟩); exact c75 (hp74.2 h1); exact c100 (hp99.2 h1)) ((ahead_iff x p id d now).2 hc)) (fun hc => hno x (List.mem_of_getElem? hi) hc)
                refine Dw.pure (i := 0) rfl (by kernel_rfl) (Want.none rfl) rfl (ltN rfl) (QP.move rfl rfl) ?_
                refine Dw.pure (i := 2) rfl (by kernel_rfl) (Want.none rfl) rfl (ltN rfl) (QP.move rfl rfl) ?_
                refine Dw.pure (i := 3) rfl (by kernel_rfl) (Want.none rfl) rfl (ltN rfl) (QP.nilCheck rfl rfl) ?_
                refine Dw.pure (i := 4) rfl (by kernel_rfl) (Want.none rfl) rfl (ltN rfl) (QP.fieldAddr rfl rfl f56_1) ?_
                refine Dw.read (i := 5) rfl (by kernel_rfl) (Want.none rfl) rfl (ltN rfl) (QR.load1 (v := .slice _ L.length _) rfl rfl g42 (Ref15Table.sub_l _)) ?_
                refine Dw.pure (i := 6) rfl (by kernel_rfl) (Want.none rfl) rfl (ltN rfl) (QP.move rfl rfl) ?_
                refine Dw.pure (i := 7) rfl (by kernel_rfl) (Want.none rfl) rfl (ltN rfl) (QP.sliceHi rfl rfl rfl Try.underlying42 z45 (by first | omega | (simp <;> omega)) (by first | omega | (simp <;> omega))) ?_
                refine Dw.read (i := 9) rfl (by kernel_rfl) (Want.none rfl) rfl (ltN rfl) (QR.load rfl rfl g28 (Pair.enc_sub _)) ?_
                refine Dw.read (i := 10) rfl (by kernel_rfl) (Want.none rfl) rfl (ltN rfl) (QR.load rfl rfl g30 (Bs.sub _)) ?_
                refine Dw.read (i := 11) rfl (by kernel_rfl) (Want.none rfl) rfl (ltN rfl) (QR.load rfl rfl g33 (Distance.enc_sub _)) ?_
                refine Dw.pure (i := 12) rfl (by kernel_rfl) (Want.none rfl) rfl (ltN rfl) (QP.move rfl rfl) ?_
                refine Dw.pure (i := 13) rfl (by kernel_rfl) (Want.none rfl) rfl (ltN rfl) (QP.build (l := Source.enc ⟨_, _, _, (now)⟩) rfl st45 rfl (by exact ⟨(congrArg some (Pair.enc_len _).symm), ⟨(congrArg some (Bs.len _).symm), ⟨(congrArg some (Distance.enc_len _).symm), ⟨rfl, trivial⟩⟩⟩⟩) rfl) ?_
                refine Dw.pure (i := 16) rfl (by kernel_rfl) (Want.none rfl) rfl (ltN rfl) (QP.move rfl rfl) ?_
                refine Dw.pure (i := 17) rfl (by kernel_rfl) (Want.none rfl) rfl (ltN rfl) (QP.nilCheck rfl rfl) ?_
                refine Dw.pure (i := 18) rfl (by kernel_rfl) (Want.none rfl) rfl (ltN rfl) (QP.fieldAddr rfl rfl f56_1) ?_
                refine Dw.read (i := 19) rfl (by kernel_rfl) (Want.none rfl) rfl (ltN rfl) (QR.load1 (v := .slice _ L.length _) rfl rfl g42 (Ref15Table.sub_l _)) ?_
                refine Dw.pure (i := 20) rfl (by kernel_rfl) (Want.none rfl) rfl (ltN rfl) (QP.move rfl rfl) ?_
                refine Dw.pure (i := 21) rfl (by kernel_rfl) (Want.none rfl) rfl (ltN rfl) (QP.sliceLo rfl rfl rfl Try.underlying42 z45 (by first | omega | (simp <;> omega)) (by first | omega | (simp <;> omega))) ?_
                refine Dw.effs (l := [1, 14]) (by kernel_rfl) (by kernel_rfl) ?_
                rw [List.forall_mem_cons, List.forall_mem_cons]
                refine ⟨?_, ?_, fun _ h => (by cases h)⟩
                · skip
                  refine One.mk (o := _) (l := [19, 11, 10, 9, 5]) rfl (by kernel_rfl) (Want.none rfl) rfl (ltN rfl) (EF.buildSlice0 (enc := Source.enc) rfl Try.underlying42 z45 zero45 (by simp [Value.cells, Source.enc_len]) (by decide)) (by kernel_rfl) ?_
                  rintro _ _ ⟨b107, rfl, rfl⟩
                  refine ⟨?_, ?_⟩
                  · rw [List.forall_mem_cons, List.forall_mem_cons, List.forall_mem_cons, List.forall_mem_cons, List.forall_mem_cons]
                    refine ⟨?_, ?_, ?_, ?_, ?_, fun _ h => (by cases h)⟩
                    · exact Look.mk rfl rfl rfl (QR.load1 (v := .slice _ L.length _) rfl rfl g42 (Ref15Table.sub_l _))
                    · exact Look.mk rfl rfl rfl (QR.load rfl rfl g33 (Distance.enc_sub _))
                    · exact Look.mk rfl rfl rfl (QR.load rfl rfl g30 (Bs.sub _))
                    · exact Look.mk rfl rfl rfl (QR.load rfl rfl g28 (Pair.enc_sub _))
                    · exact Look.mk rfl rfl rfl (QR.load1 (v := .slice _ L.length _) rfl rfl g42 (Ref15Table.sub_l _))
                  refine ?_
                  refine Dw.effs (l := [8, 14]) (by kernel_rfl) (by kernel_rfl) ?_
                  rw [List.forall_mem_cons, List.forall_mem_cons]
                  refine ⟨?_, ?_, fun _ h => (by cases h)⟩
                  · skip
                    refine One.mk (o := _) (l := [19, 11, 10, 9]) rfl (by kernel_rfl) (Want.none rfl) rfl (ltN rfl) (EF.append (xs := []) (ys := ((L.take j).drop 0)) el45 Source.enc_len Source.enc_cell rfl rfl rfl Try.underlying42 Try.underlying42 rfl rfl (by repeat (first | exact Pick.head | apply Pick.tail)) (RowsAt.cutOwn (i := 0) (j := j) Source.enc_len hh (by repeat (first | exact List.Mem.head _ | apply List.Mem.tail)) (by omega) (by omega)) (by first | omega | (simp <;> omega))) (by kernel_rfl) ?_
                    rintro sl114 _ rfl
                    refine ⟨?_, ?_⟩
                    · rw [List.forall_mem_cons, List.forall_mem_cons, List.forall_mem_cons, List.forall_mem_cons]
                      refine ⟨?_, ?_, ?_, ?_, fun _ h => (by cases h)⟩
                      · exact Look.mk rfl rfl rfl (QR.load1 (v := .slice _ L.length _) rfl rfl g42 (Ref15Table.sub_l _))
                      · exact Look.mk rfl rfl rfl (QR.load rfl rfl g33 (Distance.enc_sub _))
                      · exact Look.mk rfl rfl rfl (QR.load rfl rfl g30 (Bs.sub _))
                      · exact Look.mk rfl rfl rfl (QR.load rfl rfl g28 (Pair.enc_sub _))
                    refine ?_
                    refine Dw.slCase (v := sl114) (by repeat (first | exact List.Mem.head _ | apply List.Mem.tail)) (fun a114 c114 hv114 hh114 => ?_)
                    subst hv114
                    refine Dw.eff (i := 14) (by kernel_rfl) (by kernel_rfl) ?_
                    refine One.mk (o := _) (l := [19, 5]) rfl (by kernel_rfl) (Want.none rfl) rfl (ltN rfl) (EF.buildSlice1 rfl Try.underlying42 z45 zero45 (by simp [Value.cells, Source.enc_len]) (by decide) rfl rfl (Source.enc_len _) (by decide)) (by kernel_rfl) ?_
                    rintro _ _ ⟨b120, rfl, rfl⟩
                    refine ⟨?_, ?_⟩
                    · rw [List.forall_mem_cons, List.forall_mem_cons]
                      refine ⟨?_, ?_, fun _ h => (by cases h)⟩
                      · exact Look.mk rfl rfl rfl (QR.load1 (v := .slice _ L.length _) rfl rfl g42 (Ref15Table.sub_l _))
                      · exact Look.mk rfl rfl rfl (QR.load1 (v := .slice _ L.length _) rfl rfl g42 (Ref15Table.sub_l _))
                    refine ?_
                    refine Dw.eff (i := 15) (by kernel_rfl) (by kernel_rfl) ?_
                    refine One.mk (o := _) (l := [19]) rfl (by kernel_rfl) (Want.none rfl) rfl (ltN rfl) (EF.append1 (xs := _) (s := _) el45 Source.enc_len Source.enc_cell rfl rfl rfl Try.underlying42 Try.underlying42 rfl rfl (by repeat (first | exact Pick.head | apply Pick.tail)) (by repeat (first | exact List.Mem.head _ | apply List.Mem.tail)) (by first | omega | (simp <;> omega))) (by kernel_rfl) ?_
                    rintro sl121 _ rfl
                    refine ⟨?_, ?_⟩
                    · rw [List.forall_mem_cons]
                      refine ⟨?_, fun _ h => (by cases h)⟩
                      · exact Look.mk rfl rfl rfl (QR.load1 (v := .slice _ L.length _) rfl rfl g42 (Ref15Table.sub_l _))
                    refine ?_
                    refine Dw.slCase (v := sl121) (by repeat (first | exact List.Mem.head _ | apply List.Mem.tail)) (fun a121 c121 hv121 hh121 => ?_)
                    subst hv121
                    refine Dw.eff (i := 22) (by kernel_rfl) (by kernel_rfl) ?_
                    refine One.mk (o := _) (l := []) rfl (by kernel_rfl) (Want.none rfl) rfl (ltN rfl) (EF.append (xs := _) (ys := ((L.take L.length).drop j)) el45 Source.enc_len Source.enc_cell rfl rfl rfl Try.underlying42 Try.underlying42 rfl rfl (by repeat (first | exact Pick.head | apply Pick.tail)) (RowsAt.cutOwn (i := j) (j := L.length) Source.enc_len hh (by repeat (first | exact List.Mem.head _ | apply List.Mem.tail)) (by omega) (by omega)) (by first | omega | (simp <;> omega))) (by kernel_rfl) ?_
                    rintro sl128 _ rfl
                    refine ⟨fun _ h => (by cases h), ?_⟩
                    refine Dw.slCase (v := sl128) (by repeat (first | exact List.Mem.head _ | apply List.Mem.tail)) (fun a128 c128 hv128 hh128 => ?_)
                    subst hv128
                    refine Dw.pure (i := 23) rfl (by kernel_rfl) (Want.none rfl) rfl (ltN rfl) (QP.nilCheck rfl rfl) ?_
                    refine Dw.pure (i := 24) rfl (by kernel_rfl) (Want.none rfl) rfl (ltN rfl) (QP.fieldAddr rfl rfl f56_1) ?_
                    refine Dw.eff (i := 25) (by kernel_rfl) (by kernel_rfl) ?_
                    refine One.act (o := _) (l := []) rfl (by kernel_rfl) (Want.none rfl) rfl (EF.store rfl rfl rfl z42 (Ref15Table.set_l _ ⟨a128, _, c128⟩) (cell_one rfl)) (by kernel_rfl) ?_
                    rintro _ _ rfl
                    refine ⟨fun _ h => (by cases h), ?_⟩
                    refine Dw.nil (by kernel_rfl) ?_
                    refine hk19 _ _ ?_
                    refine Run.seq fun k20 hk20 => ?_
                    refine Run.region ?_
                    show Sq _ _ _ [0] _ _ _ _
                    refine Sq.quiet (i := 0) rfl (Want.none rfl) rfl (ltN rfl) (QP.assign rfl rfl).read ?_
                    refine Sq.nil ?_
                    refine hk20 _ _ ?_
                    refine Run.ret ?_
                    exact J.ends (res_tmp rfl rfl) (.cons (by repeat (first | exact Pick.head | apply Pick.tail)) (.cons (by repeat (first | exact Pick.head | apply Pick.tail)) Takes.nil)) ⟨_, _, _, hh128, 0, rfl, .inr ⟨c15, .inr ⟨hno, .inr ⟨c55, rfl, j, hjl, hbef, haft, cut_all _⟩⟩⟩, rfl⟩
                  · skip
                    refine One.mk (o := _) (l := [19, 5]) rfl (by kernel_rfl) (Want.none rfl) rfl (ltN rfl) (EF.buildSlice1 rfl Try.underlying42 z45 zero45 (by simp [Value.cells, Source.enc_len]) (by decide) rfl rfl (Source.enc_len _) (by decide)) (by kernel_rfl) ?_
                    rintro _ _ ⟨b120, rfl, rfl⟩
                    refine ⟨?_, ?_⟩
                    · rw [List.forall_mem_cons, List.forall_mem_cons]
                      refine ⟨?_, ?_, fun _ h => (by cases h)⟩
                      · exact Look.mk rfl rfl rfl (QR.load1 (v := .slice _ L.length _) rfl rfl g42 (Ref15Table.sub_l _))
                      · exact Look.mk rfl rfl rfl (QR.load1 (v := .slice _ L.length _) rfl rfl g42 (Ref15Table.sub_l _))
                    refine ?_
                    refine Dw.eff (i := 8) (by kernel_rfl) (by kernel_rfl) ?_
                    refine One.mk (o := _) (l := [19, 11, 10, 9]) rfl (by kernel_rfl) (Want.none rfl) rfl (ltN rfl) (EF.append (xs := []) (ys := ((L.take j).drop 0)) el45 Source.enc_len Source.enc_cell rfl rfl rfl Try.underlying42 Try.underlying42 rfl rfl (by repeat (first | exact Pick.head | apply Pick.tail)) (RowsAt.cutOwn (i := 0) (j := j) Source.enc_len hh (by repeat (first | exact List.Mem.head _ | apply List.Mem.tail)) (by omega) (by omega)) (by first | omega | (simp <;> omega))) (by kernel_rfl) ?_
                    rintro sl114 _ rfl
                    refine ⟨?_, ?_⟩
                    · rw [List.forall_mem_cons, List.forall_mem_cons, List.forall_mem_cons, List.forall_mem_cons]
                      refine ⟨?_, ?_, ?_, ?_, fun _ h => (by cases h)⟩
                      · exact Look.mk rfl rfl rfl (QR.load1 (v := .slice _ L.length _) rfl rfl g42 (Ref15Table.sub_l _))
                      · exact Look.mk rfl rfl rfl (QR.load rfl rfl g33 (Distance.enc_sub _))
                      · exact Look.mk rfl rfl rfl (QR.load rfl rfl g30 (Bs.sub _))
                      · exact Look.mk rfl rfl rfl (QR.load rfl rfl g28 (Pair.enc_sub _))
                    refine ?_
                    refine Dw.slCase (v := sl114) (by repeat (first | exact List.Mem.head _ | apply List.Mem.tail)) (fun a114 c114 hv114 hh114 => ?_)
                    subst hv114
                    refine Dw.eff (i := 15) (by kernel_rfl) (by kernel_rfl) ?_
                    refine One.mk (o := _) (l := [19]) rfl (by kernel_rfl) (Want.none rfl) rfl (ltN rfl) (EF.append1 (xs := _) (s := _) el45 Source.enc_len Source.enc_cell rfl rfl rfl Try.underlying42 Try.underlying42 rfl rfl (by repeat (first | exact Pick.head | apply Pick.tail)) (by repeat (first | exact List.Mem.head _ | apply List.Mem.tail)) (by first | omega | (simp <;> omega))) (by kernel_rfl) ?_
                    rintro sl121 _ rfl
                    refine ⟨?_, ?_⟩
                    · rw [List.forall_mem_cons]
                      refine ⟨?_, fun _ h => (by cases h)⟩
                      · exact Look.mk rfl rfl rfl (QR.load1 (v := .slice _ L.length _) rfl rfl g42 (Ref15Table.sub_l _))
                    refine ?_
                    refine Dw.slCase (v := sl121) (by repeat (first | exact List.Mem.head _ | apply List.Mem.tail)) (fun a121 c121 hv121 hh121 => ?_)
                    subst hv121
                    refine Dw.eff (i := 22) (by kernel_rfl) (by kernel_rfl) ?_
                    refine One.mk (o := _) (l := []) rfl (by kernel_rfl) (Want.none rfl) rfl (ltN rfl) (EF.append (xs := _) (ys := ((L.take L.length).drop j)) el45 Source.enc_len Source.enc_cell rfl rfl rfl Try.underlying42 Try.underlying42 rfl rfl (by repeat (first | exact Pick.head | apply Pick.tail)) (RowsAt.cutOwn (i := j) (j := L.length) Source.enc_len hh (by repeat (first | exact List.Mem.head _ | apply List.Mem.tail)) (by omega) (by omega)) (by first | omega | (simp <;> omega))) (by kernel_rfl) ?_
                    rintro sl128 _ rfl
                    refine ⟨fun _ h => (by cases h), ?_⟩
                    refine Dw.slCase (v := sl128) (by repeat (first | exact List.Mem.head _ | apply List.Mem.tail)) (fun a128 c128 hv128 hh128 => ?_)
                    subst hv128
                    refine Dw.pure (i := 23) rfl (by kernel_rfl) (Want.none rfl) rfl (ltN rfl) (QP.nilCheck rfl rfl) ?_
                    refine Dw.pure (i := 24) rfl (by kernel_rfl) (Want.none rfl) rfl (ltN rfl) (QP.fieldAddr rfl rfl f56_1) ?_
                    refine Dw.eff (i := 25) (by kernel_rfl) (by kernel_rfl) ?_
                    refine One.act (o := _) (l := []) rfl (by kernel_rfl) (Want.none rfl) rfl (EF.store rfl rfl rfl z42 (Ref15Table.set_l _ ⟨a128, _, c128⟩) (cell_one rfl)) (by kernel_rfl) ?_
                    rintro _ _ rfl
                    refine ⟨fun _ h => (by cases h), ?_⟩
                    refine Dw.nil (by kernel_rfl) ?_
                    refine hk19 _ _ ?_
                    refine Run.seq fun k21 hk21 => ?_
                    refine Run.region ?_
                    show Sq _ _ _ [0] _ _ _ _
                    refine Sq.quiet (i := 0) rfl (Want.none rfl) rfl (ltN rfl) (QP.assign rfl rfl).read ?_
                    refine Sq.nil ?_
                    refine hk21 _ _ ?_
                    refine Run.ret ?_
                    exact J.ends (res_tmp rfl rfl) (.cons (by repeat (first | exact Pick.head | apply Pick.tail)) (.cons (by repeat (first | exact Pick.head | apply Pick.tail)) Takes.nil)) ⟨_, _, _, hh128, 0, rfl, .inr ⟨c15, .inr ⟨hno, .inr ⟨c55, rfl, j, hjl, hbef, haft, cut_all _⟩⟩⟩, rfl⟩
                · skip
                  refine One.mk (o := _) (l := [19, 5]) rfl (by kernel_rfl) (Want.none rfl) rfl (ltN rfl) (EF.buildSlice1 rfl Try.underlying42 z45 zero45 (by simp [Value.cells, Source.enc_len]) (by decide) rfl rfl (Source.enc_len _) (by decide)) (by kernel_rfl) ?_
                  rintro _ _ ⟨b120, rfl, rfl⟩
                  refine ⟨?_, ?_⟩
                  · rw [List.forall_mem_cons, List.forall_mem_cons]
                    refine ⟨?_, ?_, fun _ h => (by cases h)⟩
                    · exact Look.mk rfl rfl rfl (QR.load1 (v := .slice _ L.length _) rfl rfl g42 (Ref15Table.sub_l _))
                    · exact Look.mk rfl rfl rfl (QR.load1 (v := .slice _ L.length _) rfl rfl g42 (Ref15Table.sub_l _))
                  refine ?_
                  refine Dw.eff (i := 1) (by kernel_rfl) (by kernel_rfl) ?_
                  refine One.mk (o := _) (l := [19, 11, 10, 9, 5]) rfl (by kernel_rfl) (Want.none rfl) rfl (ltN rfl) (EF.buildSlice0 (enc := Source.enc) rfl Try.underlying42 z45 zero45 (by simp [Value.cells, Source.enc_len]) (by decide)) (by kernel_rfl) ?_
                  rintro _ _ ⟨b107, rfl, rfl⟩
                  refine ⟨?_, ?_⟩
                  · rw [List.forall_mem_cons, List.forall_mem_cons, List.forall_mem_cons, List.forall_mem_cons, List.forall_mem_cons]
                    refine ⟨?_, ?_, ?_, ?_, ?_, fun _ h => (by cases h)⟩
                    · exact Look.mk rfl rfl rfl (QR.load1 (v := .slice _ L.length _) rfl rfl g42 (Ref15Table.sub_l _))
                    · exact Look.mk rfl rfl rfl (QR.load rfl rfl g33 (Distance.enc_sub _))
                    · exact Look.mk rfl rfl rfl (QR.load rfl rfl g30 (Bs.sub _))
                    · exact Look.mk rfl rfl rfl (QR.load rfl rfl g28 (Pair.enc_sub _))
                    · exact Look.mk rfl rfl rfl (QR.load1 (v := .slice _ L.length _) rfl rfl g42 (Ref15Table.sub_l _))
                  refine ?_
                  refine Dw.eff (i := 8) (by kernel_rfl) (by kernel_rfl) ?_
                  refine One.mk (o := _) (l := [19, 11, 10, 9]) rfl (by kernel_rfl) (Want.none rfl) rfl (ltN rfl) (EF.append (xs := []) (ys := ((L.take j).drop 0)) el45 Source.enc_len Source.enc_cell rfl rfl rfl Try.underlying42 Try.underlying42 rfl rfl (by repeat (first | exact Pick.head | apply Pick.tail)) (RowsAt.cutOwn (i := 0) (j := j) Source.enc_len hh (by repeat (first | exact List.Mem.head _ | apply List.Mem.tail)) (by omega) (by omega)) (by first | omega | (simp <;> omega))) (by kernel_rfl) ?_
                  rintro sl114 _ rfl
                  refine ⟨?_, ?_⟩
                  · rw [List.forall_mem_cons, List.forall_mem_cons, List.forall_mem_cons, List.forall_mem_cons]
                    refine ⟨?_, ?_, ?_, ?_, fun _ h => (by cases h)⟩
                    · exact Look.mk rfl rfl rfl (QR.load1 (v := .slice _ L.length _) rfl rfl g42 (Ref15Table.sub_l _))
                    · exact Look.mk rfl rfl rfl (QR.load rfl rfl g33 (Distance.enc_sub _))
                    · exact Look.mk rfl rfl rfl (QR.load rfl rfl g30 (Bs.sub _))
                    · exact Look.mk rfl rfl rfl (QR.load rfl rfl g28 (Pair.enc_sub _))
                  refine ?_
                  refine Dw.slCase (v := sl114) (by repeat (first | exact List.Mem.head _ | apply List.Mem.tail)) (fun a114 c114 hv114 hh114 => ?_)
                  subst hv114
                  refine Dw.eff (i := 15) (by kernel_rfl) (by kernel_rfl) ?_
                  refine One.mk (o := _) (l := [19]) rfl (by kernel_rfl) (Want.none rfl) rfl (ltN rfl) (EF.append1 (xs := _) (s := _) el45 Source.enc_len Source.enc_cell rfl rfl rfl Try.underlying42 Try.underlying42 rfl rfl (by repeat (first | exact Pick.head | apply Pick.tail)) (by repeat (first | exact List.Mem.head _ | apply List.Mem.tail)) (by first | omega | (simp <;> omega))) (by kernel_rfl) ?_
                  rintro sl121 _ rfl
                  refine ⟨?_, ?_⟩
                  · rw [List.forall_mem_cons]
                    refine ⟨?_, fun _ h => (by cases h)⟩
                    · exact Look.mk rfl rfl rfl (QR.load1 (v := .slice _ L.length _) rfl rfl g42 (Ref15Table.sub_l _))
                  refine ?_
                  refine Dw.slCase (v := sl121) (by repeat (first | exact List.Mem.head _ | apply List.Mem.tail)) (fun a121 c121 hv121 hh121 => ?_)
                  subst hv121
                  refine Dw.eff (i := 22) (by kernel_rfl) (by kernel_rfl) ?_
                  refine One.mk (o := _) (l := []) rfl (by kernel_rfl) (Want.none rfl) rfl (ltN rfl) (EF.append (xs := _) (ys := ((L.take L.length).drop j)) el45 Source.enc_len Source.enc_cell rfl rfl rfl Try.underlying42 Try.underlying42 rfl rfl (by repeat (first | exact Pick.head | apply Pick.tail)) (RowsAt.cutOwn (i := j) (j := L.length) Source.enc_len hh (by repeat (first | exact List.Mem.head _ | apply List.Mem.tail)) (by omega) (by omega)) (by first | omega | (simp <;> omega))) (by kernel_rfl) ?_
                  rintro sl128 _ rfl
                  refine ⟨fun _ h => (by cases h), ?_⟩
                  refine Dw.slCase (v := sl128) (by repeat (first | exact List.Mem.head _ | apply List.Mem.tail)) (fun a128 c128 hv128 hh128 => ?_)
                  subst hv128
                  refine Dw.pure (i := 23) rfl (by kernel_rfl) (Want.none rfl) rfl (ltN rfl) (QP.nilCheck rfl rfl) ?_
                  refine Dw.pure (i := 24) rfl (by kernel_rfl) (Want.none rfl) rfl (ltN rfl) (QP.fieldAddr rfl rfl f56_1) ?_
                  refine Dw.eff (i := 25) (by kernel_rfl) (by kernel_rfl) ?_
                  refine One.act (o := _) (l := []) rfl (by kernel_rfl) (Want.none rfl) rfl (EF.store rfl rfl rfl z42 (Ref15Table.set_l _ ⟨a128, _, c128⟩) (cell_one rfl)) (by kernel_rfl) ?_
                  rintro _ _ rfl
                  refine ⟨fun _ h => (by cases h), ?_⟩
                  refine Dw.nil (by kernel_rfl) ?_
                  refine hk19 _ _ ?_
                  refine Run.seq fun k22 hk22 => ?_
                  refine Run.region ?_
                  show Sq _ _ _ [0] _ _ _ _
                  refine Sq.quiet (i := 0) rfl (Want.none rfl) rfl (ltN rfl) (QP.assign rfl rfl).read ?_
                  refine Sq.nil ?_
                  refine hk22 _ _ ?_
                  refine Run.ret ?_
                  exact J.ends (res_tmp rfl rfl) (.cons (by repeat (first | exact Pick.head | apply Pick.tail)) (.cons (by repeat (first | exact Pick.head | apply Pick.tail)) Takes.nil)) ⟨_, _, _, hh128, 0, rfl, .inr ⟨c15, .inr ⟨hno, .inr ⟨c55, rfl, j, hjl, hbef, haft, cut_all _⟩⟩⟩, rfl⟩
            · skip
              refine Dw.pure (i := 27) rfl (by kernel_rfl) (Want.yes rfl rfl rfl rfl) rfl (ltN rfl) (QP.move rfl rfl) ?_
              refine Dw.skip (i := 28) rfl (by kernel_rfl) (Want.no rfl rfl rfl rfl) rfl (ltN rfl) ?_
              refine Dw.skip (i := 29) rfl (by kernel_rfl) (Want.no rfl rfl rfl rfl) rfl (ltN rfl) ?_
              refine Dw.skip (i := 30) rfl (by kernel_rfl) (Want.no rfl rfl rfl rfl) rfl (ltN rfl) ?_
              refine Dw.skip (i := 31) rfl (by kernel_rfl) (Want.no rfl rfl rfl rfl) rfl (ltN rfl) ?_
              refine Dw.skip (i := 32) rfl (by kernel_rfl) (Want.no rfl rfl rfl rfl) rfl (ltN rfl) ?_
              refine Dw.skip (i := 33) rfl (by kernel_rfl) (Want.no rfl rfl rfl rfl) rfl (ltN rfl) ?_
              refine Dw.skip (i := 34) rfl (by kernel_rfl) (Want.no rfl rfl rfl rfl) rfl (ltN rfl) ?_
              refine Dw.skip (i := 35) rfl (by kernel_rfl) (Want.no rfl rfl rfl rfl) rfl (ltN rfl) ?_
              refine Dw.skip (i := 36) rfl (by kernel_rfl) (Want.no rfl rfl rfl rfl) rfl (ltN rfl) ?_
              refine Dw.skip (i := 37) rfl (by kernel_rfl) (Want.no rfl rfl rfl rfl) rfl (ltN rfl) ?_
              refine Dw.eff (i := 38) (by kernel_rfl) (by kernel_rfl) ?_
              refine One.skipD (o := _) rfl (by kernel_rfl) (Want.no rfl rfl rfl rfl) rfl (ltN rfl) ?_
              refine Dw.skip (i := 39) rfl (by kernel_rfl) (Want.no rfl rfl rfl rfl) rfl (ltN rfl) ?_
              refine Dw.pure (i := 40) rfl (by kernel_rfl) (Want.yes rfl rfl rfl rfl) rfl (ltN rfl) (QP.pick_f rfl rfl rfl) ?_
              refine Dw.pure (i := 41) rfl (by kernel_rfl) (Want.yes rfl rfl rfl rfl) rfl (ltN rfl) (QP.pick_f rfl rfl rfl) ?_
              refine Dw.pure (i := 42) rfl (by kernel_rfl) (Want.none rfl) rfl (ltN rfl) (QP.pick_t rfl rfl rfl) ?_
              refine Dw.nil (by kernel_rfl) ?_
              refine hk18 _ _ ?_
              refine Run.cond_f rfl ?_
              refine Run.exit rfl ?_
              refine hk15 _ _ ?_
              refine Run.seq fun k23 hk23 => ?_
              refine Run.regionD (M := [0, 0, 0, 4, 12, 28, 0, 124, 254, 0, 0, 0, 0, 7680, 15872, 32766, 0, 65536, 196608, 458752, 0, 2031616, 4194302, 8388607, 16777215, 33554431]) (q := 29310717) (r := 527904) (by kernel_rfl) ?_
              have hbef : ∀ y ∈ L.take j, cmpSource y (⟨p, id, d, now⟩ : Source) < 0 := before_all hs (by omega) hi (fun hc => (show ¬ (0 < cmpPair x.pair p ∨ x.pair = p ∧ 0 < Lib.compareBytes x.id_.l id.l) from by rintro (h1 | ⟨h1, _⟩); exact c75 (hp74.2 h1); exact c87 h1) ((ahead_iff x p id d now).2 hc)) (fun hc => hno x (List.mem_of_getElem? hi) hc)
              refine Dw.pure (i := 0) rfl (by kernel_rfl) (Want.none rfl) rfl (ltN rfl) (QP.move rfl rfl) ?_
              refine Dw.pure (i := 2) rfl (by kernel_rfl) (Want.none rfl) rfl (ltN rfl) (QP.move rfl rfl) ?_
              refine Dw.pure (i := 3) rfl (by kernel_rfl) (Want.none rfl) rfl (ltN rfl) (QP.nilCheck rfl rfl) ?_
              refine Dw.pure (i := 4) rfl (by kernel_rfl) (Want.none rfl) rfl (ltN rfl) (QP.fieldAddr rfl rfl f56_1) ?_
              refine Dw.read (i := 5) rfl (by kernel_rfl) (Want.none rfl) rfl (ltN rfl) (QR.load1 (v := .slice _ L.length _) rfl rfl g42 (Ref15Table.sub_l _)) ?_
              refine Dw.pure (i := 6) rfl (by kernel_rfl) (Want.none rfl) rfl (ltN rfl) (QP.move rfl rfl) ?_
              refine Dw.pure (i := 7) rfl (by kernel_rfl) (Want.none rfl) rfl (ltN rfl) (QP.sliceHi rfl rfl rfl Try.underlying42 z45 (by first | omega | (simp <;> omega)) (by first | omega | (simp <;> omega))) ?_
              refine Dw.read (i := 9) rfl (by kernel_rfl) (Want.none rfl) rfl (ltN rfl) (QR.load rfl rfl g28 (Pair.enc_sub _)) ?_
              refine Dw.read (i := 10) rfl (by kernel_rfl) (Want.none rfl) rfl (ltN rfl) (QR.load rfl rfl g30 (Bs.sub _)) ?_
              refine Dw.read (i := 11) rfl (by kernel_rfl) (Want.none rfl) rfl (ltN rfl) (QR.load rfl rfl g33 (Distance.enc_sub _)) ?_
              refine Dw.pure (i := 12) rfl (by kernel_rfl) (Want.none rfl) rfl (ltN rfl) (QP.move rfl rfl) ?_
              refine Dw.pure (i := 13) rfl (by kernel_rfl) (Want.none rfl) rfl (ltN rfl) (QP.build (l := Source.enc ⟨_, _, _, (now)⟩) rfl st45 rfl (by exact ⟨(congrArg some (Pair.enc_len _).symm), ⟨(congrArg some (Bs.len _).symm), ⟨(congrArg some (Distance.enc_len _).symm), ⟨rfl, trivial⟩⟩⟩⟩) rfl) ?_
              refine Dw.pure (i := 16) rfl (by kernel_rfl) (Want.none rfl) rfl (ltN rfl) (QP.move rfl rfl) ?_
              refine Dw.pure (i := 17) rfl (by kernel_rfl) (Want.none rfl) rfl (ltN rfl) (QP.nilCheck rfl rfl) ?_
              refine Dw.pure (i := 18) rfl (by kernel_rfl) (Want.none rfl) rfl (ltN rfl) (QP.fieldAddr rfl rfl f56_1) ?_
              refine Dw.read (i := 19) rfl (by kernel_rfl) (Want.none rfl) rfl (ltN rfl) (QR.load1 (v := .slice _ L.length _) rfl rfl g42 (Ref15Table.sub_l _)) ?_
              refine Dw.pure (i := 20) rfl (by kernel_rfl) (Want.none rfl) rfl (ltN rfl) (QP.move rfl rfl) ?_
              refine Dw.pure (i := 21) rfl (by kernel_rfl) (Want.none rfl) rfl (ltN rfl) (QP.sliceLo rfl rfl rfl Try.underlying42 z45 (by first | omega | (simp <;> omega)) (by first | omega | (simp <;> omega))) ?_
              refine Dw.effs (l := [1, 14]) (by kernel_rfl) (by kernel_rfl) ?_
              rw [List.forall_mem_cons, List.forall_mem_cons]
              refine ⟨?_, ?_, fun _ h => (by cases h)⟩
              · skip
                refine One.mk (o := _) (l := [19, 11, 10, 9, 5]) rfl (by kernel_rfl) (Want.none rfl) rfl (ltN rfl) (EF.buildSlice0 (enc := Source.enc) rfl Try.underlying42 z45 zero45 (by simp [Value.cells, Source.enc_len]) (by decide)) (by kernel_rfl) ?_
                rintro _ _ ⟨b107, rfl, rfl⟩
                refine ⟨?_, ?_⟩
                · rw [List.forall_mem_cons, List.forall_mem_cons, List.forall_mem_cons, List.forall_mem_cons, List.forall_mem_cons]
                  refine ⟨?_, ?_, ?_, ?_, ?_, fun _ h => (by cases h)⟩
                  · exact Look.mk rfl rfl rfl (QR.load1 (v := .slice _ L.length _) rfl rfl g42 (Ref15Table.sub_l _))
                  · exact Look.mk rfl rfl rfl (QR.load rfl rfl g33 (Distance.enc_sub _))
                  · exact Look.mk rfl rfl rfl (QR.load rfl rfl g30 (Bs.sub _))
                  · exact Look.mk rfl rfl rfl (QR.load rfl rfl g28 (Pair.enc_sub _))
                  · exact Look.mk rfl rfl rfl (QR.load1 (v := .slice _ L.length _) rfl rfl g42 (Ref15Table.sub_l _))
                refine ?_
                refine Dw.effs (l := [8, 14]) (by kernel_rfl) (by kernel_rfl) ?_
                rw [List.forall_mem_cons, List.forall_mem_cons]
                refine ⟨?_, ?_, fun _ h => (by cases h)⟩
                · skip
                  refine One.mk (o := _) (l := [19, 11, 10, 9]) rfl (by kernel_rfl) (Want.none rfl) rfl (ltN rfl) (EF.append (xs := []) (ys := ((L.take j).drop 0)) el45 Source.enc_len Source.enc_cell rfl rfl rfl Try.underlying42 Try.underlying42 rfl rfl (by repeat (first | exact Pick.head | apply Pick.tail)) (RowsAt.cutOwn (i := 0) (j := j) Source.enc_len hh (by repeat (first | exact List.Mem.head _ | apply List.Mem.tail)) (by omega) (by omega)) (by first | omega | (simp <;> omega))) (by kernel_rfl) ?_
                  rintro sl114 _ rfl
                  refine ⟨?_, ?_⟩
                  · rw [List.forall_mem_cons, List.forall_mem_cons, List.forall_mem_cons, List.forall_mem_cons]
                    refine ⟨?_, ?_, ?_, ?_, fun _ h => (by cases h)⟩
                    · exact Look.mk rfl rfl rfl (QR.load1 (v := .slice _ L.length _) rfl rfl g42 (Ref15Table.sub_l _))
                    · exact Look.mk rfl rfl rfl (QR.load rfl rfl g33 (Distance.enc_sub _))
                    · exact Look.mk rfl rfl rfl (QR.load rfl rfl g30 (Bs.sub _))
                    · exact Look.mk rfl rfl rfl (QR.load rfl rfl g28 (Pair.enc_sub _))
                  refine ?_
                  refine Dw.slCase (v := sl114) (by repeat (first | exact List.Mem.head _ | apply List.Mem.tail)) (fun a114 c114 hv114 hh114 => ?_)
                  subst hv114
                  refine Dw.eff (i := 14) (by kernel_rfl) (by kernel_rfl) ?_
                  refine One.mk (o := _) (l := [19, 5]) rfl (by kernel_rfl) (Want.none rfl) rfl (ltN rfl) (EF.buildSlice1 rfl Try.underlying42 z45 zero45 (by simp [Value.cells, Source.enc_len]) (by decide) rfl rfl (Source.enc_len _) (by decide)) (by kernel_rfl) ?_
                  rintro _ _ ⟨b120, rfl, rfl⟩
                  refine ⟨?_, ?_⟩
                  · rw [List.forall_mem_cons, List.forall_mem_cons]
                    refine ⟨?_, ?_, fun _ h => (by cases h)⟩
                    · exact Look.mk rfl rfl rfl (QR.load1 (v := .slice _ L.length _) rfl rfl g42 (Ref15Table.sub_l _))
                    · exact Look.mk rfl rfl rfl (QR.load1 (v := .slice _ L.length _) rfl rfl g42 (Ref15Table.sub_l _))
                  refine ?_
                  refine Dw.eff (i := 15) (by kernel_rfl) (by kernel_rfl) ?_
                  refine One.mk (o := _) (l := [19]) rfl (by kernel_rfl) (Want.none rfl) rfl (ltN rfl) (EF.append1 (xs := _) (s := _) el45 Source.enc_len Source.enc_cell rfl rfl rfl Try.underlying42 Try.underlying42 rfl rfl (by repeat (first | exact Pick.head | apply Pick.tail)) (by repeat (first | exact List.Mem.head _ | apply List.Mem.tail)) (by first | omega | (simp <;> omega))) (by kernel_rfl) ?_
                  rintro sl121 _ rfl
                  refine ⟨?_, ?_⟩
                  · rw [List.forall_mem_cons]
                    refine ⟨?_, fun _ h => (by cases h)⟩
                    · exact Look.mk rfl rfl rfl (QR.load1 (v := .slice _ L.length _) rfl rfl g42 (Ref15Table.sub_l _))
                  refine ?_
                  refine Dw.slCase (v := sl121) (by repeat (first | exact List.Mem.head _ | apply List.Mem.tail)) (fun a121 c121 hv121 hh121 => ?_)
                  subst hv121
                  refine Dw.eff (i := 22) (by kernel_rfl) (by kernel_rfl) ?_
                  refine One.mk (o := _) (l := []) rfl (by kernel_rfl) (Want.none rfl) rfl (ltN rfl) (EF.append (xs := _) (ys := ((L.take L.length).drop j)) el45 Source.enc_len Source.enc_cell rfl rfl rfl Try.underlying42 Try.underlying42 rfl rfl (by repeat (first | exact Pick.head | apply Pick.tail)) (RowsAt.cutOwn (i := j) (j := L.length) Source.enc_len hh (by repeat (first | exact List.Mem.head _ | apply List.Mem.tail)) (by omega) (by omega)) (by first | omega | (simp <;> omega))) (by kernel_rfl) ?_
                  rintro sl128 _ rfl
                  refine ⟨fun _ h => (by cases h), ?_⟩
                  refine Dw.slCase (v := sl128) (by repeat (first | exact List.Mem.head _ | apply List.Mem.tail)) (fun a128 c128 hv128 hh128 => ?_)
                  subst hv128
                  refine Dw.pure (i := 23) rfl (by kernel_rfl) (Want.none rfl) rfl (ltN rfl) (QP.nilCheck rfl rfl) ?_
                  refine Dw.pure (i := 24) rfl (by kernel_rfl) (Want.none rfl) rfl (ltN rfl) (QP.fieldAddr rfl rfl f56_1) ?_
                  refine Dw.eff (i := 25) (by kernel_rfl) (by kernel_rfl) ?_
                  refine One.act (o := _) (l := []) rfl (by kernel_rfl) (Want.none rfl) rfl (EF.store rfl rfl rfl z42 (Ref15Table.set_l _ ⟨a128, _, c128⟩) (cell_one rfl)) (by kernel_rfl) ?_
                  rintro _ _ rfl
                  refine ⟨fun _ h => (by cases h), ?_⟩
                  refine Dw.nil (by kernel_rfl) ?_
                  refine hk23 _ _ ?_
                  refine Run.seq fun k24 hk24 => ?_
                  refine Run.region ?_
                  show Sq _ _ _ [0] _ _ _ _
                  refine Sq.quiet (i := 0) rfl (Want.none rfl) rfl (ltN rfl) (QP.assign rfl rfl).read ?_
                  refine Sq.nil ?_
                  refine hk24 _ _ ?_
                  refine Run.ret ?_
                  exact J.ends (res_tmp rfl rfl) (.cons (by repeat (first | exact Pick.head | apply Pick.tail)) (.cons (by repeat (first | exact Pick.head | apply Pick.tail)) Takes.nil)) ⟨_, _, _, hh128, 0, rfl, .inr ⟨c15, .inr ⟨hno, .inr ⟨c55, rfl, j, hjl, hbef, haft, cut_all _⟩⟩⟩, rfl⟩
                · skip
                  refine One.mk (o := _) (l := [19, 5]) rfl (by kernel_rfl) (Want.none rfl) rfl (ltN rfl) (EF.buildSlice1 rfl Try.underlying42 z45 zero45 (by simp [Value.cells, Source.enc_len]) (by decide) rfl rfl (Source.enc_len _) (by decide)) (by kernel_rfl) ?_
                  rintro _ _ ⟨b120, rfl, rfl⟩
                  refine ⟨?_, ?_⟩
                  · rw [List.forall_mem_cons, List.forall_mem_cons]
                    refine ⟨?_, ?_, fun _ h => (by cases h)⟩
                    · exact Look.mk rfl rfl rfl (QR.load1 (v := .slice _ L.length _) rfl rfl g42 (Ref15Table.sub_l _))
                    · exact Look.mk rfl rfl rfl (QR.load1 (v := .slice _ L.length _) rfl rfl g42 (Ref15Table.sub_l _))
                  refine ?_
                  refine Dw.eff (i := 8) (by kernel_rfl) (by kernel_rfl) ?_
                  refine One.mk (o := _) (l := [19, 11, 10, 9]) rfl (by kernel_rfl) (Want.none rfl) rfl (ltN rfl) (EF.append (xs := []) (ys := ((L.take j).drop 0)) el45 Source.enc_len Source.enc_cell rfl rfl rfl Try.underlying42 Try.underlying42 rfl rfl (by repeat (first | exact Pick.head | apply Pick.tail)) (RowsAt.cutOwn (i := 0) (j := j) Source.enc_len hh (by repeat (first | exact List.Mem.head _ | apply List.Mem.tail)) (by omega) (by omega)) (by first | omega | (simp <;> omega))) (by kernel_rfl) ?_
                  rintro sl114 _ rfl
                  refine ⟨?_, ?_⟩
                  · rw [List.forall_mem_cons, List.forall_mem_cons, List.forall_mem_cons, List.forall_mem_cons]
                    refine ⟨?_, ?_, ?_, ?_, fun _ h => (by cases h)⟩
                    · exact Look.mk rfl rfl rfl (QR.load1 (v := .slice _ L.length _) rfl rfl g42 (Ref15Table.sub_l _))
                    · exact Look.mk rfl rfl rfl (QR.load rfl rfl g33 (Distance.enc_sub _))
                    · exact Look.mk rfl rfl rfl (QR.load rfl rfl g30 (Bs.sub _))
                    · exact Look.mk rfl rfl rfl (QR.load rfl rfl g28 (Pair.enc_sub _))
                  refine ?_
                  refine Dw.slCase (v := sl114) (by repeat (first | exact List.Mem.head _ | apply List.Mem.tail)) (fun a114 c114 hv114 hh114 => ?_)
                  subst hv114
                  refine Dw.eff (i := 15) (by kernel_rfl) (by kernel_rfl) ?_
                  refine One.mk (o := _) (l := [19]) rfl (by kernel_rfl) (Want.none rfl) rfl (ltN rfl) (EF.append1 (xs := _) (s := _) el45 Source.enc_len Source.enc_cell rfl rfl rfl Try.underlying42 Try.underlying42 rfl rfl (by repeat (first | exact Pick.head | apply Pick.tail)) (by repeat (first | exact List.Mem.head _ | apply List.Mem.tail)) (by first | omega | (simp <;> omega))) (by kernel_rfl) ?_
                  rintro sl121 _ rfl
                  refine ⟨?_, ?_⟩
                  · rw [List.forall_mem_cons]
                    refine ⟨?_, fun _ h => (by cases h)⟩
                    · exact Look.mk rfl rfl rfl (QR.load1 (v := .slice _ L.length _) rfl rfl g42 (Ref15Table.sub_l _))
                  refine ?_
                  refine Dw.slCase (v := sl121) (by repeat (first | exact List.Mem.head _ | apply List.Mem.tail)) (fun a121 c121 hv121 hh121 => ?_)
                  subst hv121
                  refine Dw.eff (i := 22) (by kernel_rfl) (by kernel_rfl) ?_
                  refine One.mk (o := _) (l := []) rfl (by kernel_rfl) (Want.none rfl) rfl (ltN rfl) (EF.append (xs := _) (ys := ((L.take L.length).drop j)) el45 Source.enc_len Source.enc_cell rfl rfl rfl Try.underlying42 Try.underlying42 rfl rfl (by repeat (first | exact Pick.head | apply Pick.tail)) (RowsAt.cutOwn (i := j) (j := L.length) Source.enc_len hh (by repeat (first | exact List.Mem.head _ | apply List.Mem.tail)) (by omega) (by omega)) (by first | omega | (simp <;> omega))) (by kernel_rfl) ?_
                  rintro sl128 _ rfl
                  refine ⟨fun _ h => (by cases h), ?_⟩
                  refine Dw.slCase (v := sl128) (by repeat (first | exact List.Mem.head _ | apply List.Mem.tail)) (fun a128 c128 hv128 hh128 => ?_)
                  subst hv128
                  refine Dw.pure (i := 23) rfl (by kernel_rfl) (Want.none rfl) rfl (ltN rfl) (QP.nilCheck rfl rfl) ?_
                  refine Dw.pure (i := 24) rfl (by kernel_rfl) (Want.none rfl) rfl (ltN rfl) (QP.fieldAddr rfl rfl f56_1) ?_
                  refine Dw.eff (i := 25) (by kernel_rfl) (by kernel_rfl) ?_
                  refine One.act (o := _) (l := []) rfl (by kernel_rfl) (Want.none rfl) rfl (EF.store rfl rfl rfl z42 (Ref15Table.set_l _ ⟨a128, _, c128⟩) (cell_one rfl)) (by kernel_rfl) ?_
                  rintro _ _ rfl
                  refine ⟨fun _ h => (by cases h), ?_⟩
                  refine Dw.nil (by kernel_rfl) ?_
                  refine hk23 _ _ ?_
                  refine Run.seq fun k25 hk25 => ?_
                  refine Run.region ?_
                  show Sq _ _ _ [0] _ _ _ _
                  refine Sq.quiet (i := 0) rfl (Want.none rfl) rfl (ltN rfl) (QP.assign rfl rfl).read ?_
                  refine Sq.nil ?_
                  refine hk25 _ _ ?_
                  refine Run.ret ?_
                  exact J.ends (res_tmp rfl rfl) (.cons (by repeat (first | exact Pick.head | apply Pick.tail)) (.cons (by repeat (first | exact Pick.head | apply Pick.tail)) Takes.nil)) ⟨_, _, _, hh128, 0, rfl, .inr ⟨c15, .inr ⟨hno, .inr ⟨c55, rfl, j, hjl, hbef, haft, cut_all _⟩⟩⟩, rfl⟩
              · skip
                refine One.mk (o := _) (l := [19, 5]) rfl (by kernel_rfl) (Want.none rfl) rfl (ltN rfl) (EF.buildSlice1 rfl Try.underlying42 z45 zero45 (by simp [Value.cells, Source.enc_len]) (by decide) rfl rfl (Source.enc_len _) (by decide)) (by kernel_rfl) ?_
                rintro _ _ ⟨b120, rfl, rfl⟩
                refine ⟨?_, ?_⟩
                · rw [List.forall_mem_cons, List.forall_mem_cons]
                  refine ⟨?_, ?_, fun _ h => (by cases h)⟩
                  · exact Look.mk rfl rfl rfl (QR.load1 (v := .slice _ L.length _) rfl rfl g42 (Ref15Table.sub_l _))
                  · exact Look.mk rfl rfl rfl (QR.load1 (v := .slice _ L.length _) rfl rfl g42 (Ref15Table.sub_l _))
                refine ?_
                refine Dw.eff (i := 1) (by kernel_rfl) (by kernel_rfl) ?_
                refine One.mk (o := _) (l := [19, 11, 10, 9, 5]) rfl (by kernel_rfl) (Want.none rfl) rfl (ltN rfl) (EF.buildSlice0 (enc := Source.enc) rfl Try.underlying42 z45 zero45 (by simp [Value.cells, Source.enc_len]) (by decide)) (by kernel_rfl) ?_
                rintro _ _ ⟨b107, rfl, rfl⟩
                refine ⟨?_, ?_⟩
                · rw [List.forall_mem_cons, List.forall_mem_cons, List.forall_mem_cons, List.forall_mem_cons, List.forall_mem_cons]
                  refine ⟨?_, ?_, ?_, ?_, ?_, fun _ h => (by cases h)⟩
                  · exact Look.mk rfl rfl rfl (QR.load1 (v := .slice _ L.length _) rfl rfl g42 (Ref15Table.sub_l _))
                  · exact Look.mk rfl rfl rfl (QR.load rfl rfl g33 (Distance.enc_sub _))
                  · exact Look.mk rfl rfl rfl (QR.load rfl rfl g30 (Bs.sub _))
                  · exact Look.mk rfl rfl rfl (QR.load rfl rfl g28 (Pair.enc_sub _))
                  · exact Look.mk rfl rfl rfl (QR.load1 (v := .slice _ L.length _) rfl rfl g42 (Ref15Table.sub_l _))
                refine ?_
                refine Dw.eff (i := 8) (by kernel_rfl) (by kernel_rfl) ?_
                refine One.mk (o := _) (l := [19, 11, 10, 9]) rfl (by kernel_rfl) (Want.none rfl) rfl (ltN rfl) (EF.append (xs := []) (ys := ((L.take j).drop 0)) el45 Source.enc_len Source.enc_cell rfl rfl rfl Try.underlying42 Try.underlying42 rfl rfl (by repeat (first | exact Pick.head | apply Pick.tail)) (RowsAt.cutOwn (i := 0) (j := j) Source.enc_len hh (by repeat (first | exact List.Mem.head _ | apply List.Mem.tail)) (by omega) (by omega)) (by first | omega | (simp <;> omega))) (by kernel_rfl) ?_
                rintro sl114 _ rfl
                refine ⟨?_, ?_⟩
                · rw [List.forall_mem_cons, List.forall_mem_cons, List.forall_mem_cons, List.forall_mem_cons]
                  refine ⟨?_, ?_, ?_, ?_, fun _ h => (by cases h)⟩
                  · exact Look.mk rfl rfl rfl (QR.load1 (v := .slice _ L.length _) rfl rfl g42 (Ref15Table.sub_l _))
                  · exact Look.mk rfl rfl rfl (QR.load rfl rfl g33 (Distance.enc_sub _))
                  · exact Look.mk rfl rfl rfl (QR.load rfl rfl g30 (Bs.sub _))
                  · exact Look.mk rfl rfl rfl (QR.load rfl rfl g28 (Pair.enc_sub _))
                refine ?_
                refine Dw.slCase (v := sl114) (by repeat (first | exact List.Mem.head _ | apply List.Mem.tail)) (fun a114 c114 hv114 hh114 => ?_)
                subst hv114
                refine Dw.eff (i := 15) (by kernel_rfl) (by kernel_rfl) ?_
                refine One.mk (o := _) (l := [19]) rfl (by kernel_rfl) (Want.none rfl) rfl (ltN rfl) (EF.append1 (xs := _) (s := _) el45 Source.enc_len Source.enc_cell rfl rfl rfl Try.underlying42 Try.underlying42 rfl rfl (by repeat (first | exact Pick.head | apply Pick.tail)) (by repeat (first | exact List.Mem.head _ | apply List.Mem.tail)) (by first | omega | (simp <;> omega))) (by kernel_rfl) ?_
                rintro sl121 _ rfl
                refine ⟨?_, ?_⟩
                · rw [List.forall_mem_cons]
                  refine ⟨?_, fun _ h => (by cases h)⟩
                  · exact Look.mk rfl rfl rfl (QR.load1 (v := .slice _ L.length _) rfl rfl g42 (Ref15Table.sub_l _))
                refine ?_
                refine Dw.slCase (v := sl121) (by repeat (first | exact List.Mem.head _ | apply List.Mem.tail)) (fun a121 c121 hv121 hh121 => ?_)
                subst hv121
                refine Dw.eff (i := 22) (by kernel_rfl) (by kernel_rfl) ?_
                refine One.mk (o := _) (l := []) rfl (by kernel_rfl) (Want.none rfl) rfl (ltN rfl) (EF.append (xs := _) (ys := ((L.take L.length).drop j)) el45 Source.enc_len Source.enc_cell rfl rfl rfl Try.underlying42 Try.underlying42 rfl rfl (by repeat (first | exact Pick.head | apply Pick.tail)) (RowsAt.cutOwn (i := j) (j := L.length) Source.enc_len hh (by repeat (first | exact List.Mem.head _ | apply List.Mem.tail)) (by omega) (by omega)) (by first | omega | (simp <;> omega))) (by kernel_rfl) ?_
                rintro sl128 _ rfl
                refine ⟨fun _ h => (by cases h), ?_⟩
                refine Dw.slCase (v := sl128) (by repeat (first | exact List.Mem.head _ | apply List.Mem.tail)) (fun a128 c128 hv128 hh128 => ?_)
                subst hv128
                refine Dw.pure (i := 23) rfl (by kernel_rfl) (Want.none rfl) rfl (ltN rfl) (QP.nilCheck rfl rfl) ?_
                refine Dw.pure (i := 24) rfl (by kernel_rfl) (Want.none rfl) rfl (ltN rfl) (QP.fieldAddr rfl rfl f56_1) ?_
                refine Dw.eff (i := 25) (by kernel_rfl) (by kernel_rfl) ?_
                refine One.act (o := _) (l := []) rfl (by kernel_rfl) (Want.none rfl) rfl (EF.store rfl rfl rfl z42 (Ref15Table.set_l _ ⟨a128, _, c128⟩) (cell_one rfl)) (by kernel_rfl) ?_
                rintro _ _ rfl
                refine ⟨fun _ h => (by cases h), ?_⟩
                refine Dw.nil (by kernel_rfl) ?_
                refine hk23 _ _ ?_
                refine Run.seq fun k26 hk26 => ?_
                refine Run.region ?_
                show Sq _ _ _ [0] _ _ _ _
                refine Sq.quiet (i := 0) rfl (Want.none rfl) rfl (ltN rfl) (QP.assign rfl rfl).read ?_
                refine Sq.nil ?_
                refine hk26 _ _ ?_
                refine Run.ret ?_
                exact J.ends (res_tmp rfl rfl) (.cons (by repeat (first | exact Pick.head | apply Pick.tail)) (.cons (by repeat (first | exact Pick.head | apply Pick.tail)) Takes.nil)) ⟨_, _, _, hh128, 0, rfl, .inr ⟨c15, .inr ⟨hno, .inr ⟨c55, rfl, j, hjl, hbef, haft, cut_all _⟩⟩⟩, rfl⟩
        · skip
          refine Dw.pure (i := 2) rfl (by kernel_rfl) (Want.none rfl) rfl (ltN rfl) (QP.move rfl rfl) ?_
          refine Dw.skip (i := 3) rfl (by kernel_rfl) (Want.no rfl rfl rfl rfl) rfl (ltN rfl) ?_
          refine Dw.skip (i := 4) rfl (by kernel_rfl) (Want.no rfl rfl rfl rfl) rfl (ltN rfl) ?_
          refine Dw.skip (i := 5) rfl (by kernel_rfl) (Want.no rfl rfl rfl rfl) rfl (ltN rfl) ?_
          refine Dw.skip (i := 6) rfl (by kernel_rfl) (Want.no rfl rfl rfl rfl) rfl (ltN rfl) ?_
          refine Dw.skip (i := 7) rfl (by kernel_rfl) (Want.no rfl rfl rfl rfl) rfl (ltN rfl) ?_
          refine Dw.skip (i := 8) rfl (by kernel_rfl) (Want.no rfl rfl rfl rfl) rfl (ltN rfl) ?_
          refine Dw.skip (i := 9) rfl (by kernel_rfl) (Want.no rfl rfl rfl rfl) rfl (ltN rfl) ?_
          refine Dw.skip (i := 10) rfl (by kernel_rfl) (Want.no rfl rfl rfl rfl) rfl (ltN rfl) ?_
          refine Dw.skip (i := 11) rfl (by kernel_rfl) (Want.no rfl rfl rfl rfl) rfl (ltN rfl) ?_
          refine Dw.skip (i := 12) rfl (by kernel_rfl) (Want.no rfl rfl rfl rfl) rfl (ltN rfl) ?_
          refine Dw.eff (i := 13) (by kernel_rfl) (by kernel_rfl) ?_
          refine One.skipD (o := _) rfl (by kernel_rfl) (Want.no rfl rfl rfl rfl) rfl (ltN rfl) ?_
          refine Dw.skip (i := 14) rfl (by kernel_rfl) (Want.no rfl rfl rfl rfl) rfl (ltN rfl) ?_
          refine Dw.skip (i := 15) rfl (by kernel_rfl) (Want.no rfl rfl rfl rfl) rfl (ltN rfl) ?_
          refine Dw.skip (i := 16) rfl (by kernel_rfl) (Want.undef rfl rfl rfl) rfl (ltN rfl) ?_
          refine Dw.skip (i := 17) rfl (by kernel_rfl) (Want.undef rfl rfl rfl) rfl (ltN rfl) ?_
          refine Dw.skip (i := 18) rfl (by kernel_rfl) (Want.undef rfl rfl rfl) rfl (ltN rfl) ?_
          refine Dw.skip (i := 19) rfl (by kernel_rfl) (Want.undef rfl rfl rfl) rfl (ltN rfl) ?_
          refine Dw.skip (i := 20) rfl (by kernel_rfl) (Want.undef rfl rfl rfl) rfl (ltN rfl) ?_
          refine Dw.skip (i := 21) rfl (by kernel_rfl) (Want.undef rfl rfl rfl) rfl (ltN rfl) ?_
          refine Dw.skip (i := 22) rfl (by kernel_rfl) (Want.undef rfl rfl rfl) rfl (ltN rfl) ?_
          refine Dw.skip (i := 23) rfl (by kernel_rfl) (Want.undef rfl rfl rfl) rfl (ltN rfl) ?_
          refine Dw.skip (i := 24) rfl (by kernel_rfl) (Want.undef rfl rfl rfl) rfl (ltN rfl) ?_
          refine Dw.skip (i := 25) rfl (by kernel_rfl) (Want.undef rfl rfl rfl) rfl (ltN rfl) ?_
          refine Dw.skip (i := 26) rfl (by kernel_rfl) (Want.undef rfl rfl rfl) rfl (ltN rfl) ?_
          refine Dw.skip (i := 27) rfl (by kernel_rfl) (Want.undef rfl rfl rfl) rfl (ltN rfl) ?_
          refine Dw.skip (i := 28) rfl (by kernel_rfl) (Want.undef rfl rfl rfl) rfl (ltN rfl) ?_
          refine Dw.skip (i := 29) rfl (by kernel_rfl) (Want.undef rfl rfl rfl) rfl (ltN rfl) ?_
          refine Dw.skip (i := 30) rfl (by kernel_rfl) (Want.undef rfl rfl rfl) rfl (ltN rfl) ?_
          refine Dw.skip (i := 31) rfl (by kernel_rfl) (Want.undef rfl rfl rfl) rfl (ltN rfl) ?_
          refine Dw.skip (i := 32) rfl (by kernel_rfl) (Want.undef rfl rfl rfl) rfl (ltN rfl) ?_
          refine Dw.skip (i := 33) rfl (by kernel_rfl) (Want.undef rfl rfl rfl) rfl (ltN rfl) ?_
          refine Dw.skip (i := 34) rfl (by kernel_rfl) (Want.undef rfl rfl rfl) rfl (ltN rfl) ?_
          refine Dw.skip (i := 35) rfl (by kernel_rfl) (Want.undef rfl rfl rfl) rfl (ltN rfl) ?_
          refine Dw.skip (i := 36) rfl (by kernel_rfl) (Want.undef rfl rfl rfl) rfl (ltN rfl) ?_
          refine Dw.skip (i := 37) rfl (by kernel_rfl) (Want.undef rfl rfl rfl) rfl (ltN rfl) ?_
          refine Dw.eff (i := 38) (by kernel_rfl) (by kernel_rfl) ?_
          refine One.skipD (o := _) rfl (by kernel_rfl) (Want.undef rfl rfl rfl) rfl (ltN rfl) ?_
          refine Dw.skip (i := 39) rfl (by kernel_rfl) (Want.undef rfl rfl rfl) rfl (ltN rfl) ?_
          refine Dw.skip (i := 40) rfl (by kernel_rfl) (Want.undef rfl rfl rfl) rfl (ltN rfl) ?_
          refine Dw.skip (i := 41) rfl (by kernel_rfl) (Want.no rfl rfl rfl rfl) rfl (ltN rfl) ?_
          refine Dw.pure (i := 42) rfl (by kernel_rfl) (Want.none rfl) rfl (ltN rfl) (QP.pick_f rfl rfl rfl) ?_
          refine Dw.nil (by kernel_rfl) ?_
          refine hk18 _ _ ?_
          refine Run.cond_f rfl ?_
          refine Run.exit rfl ?_
          refine hk15 _ _ ?_
          refine Run.seq fun k27 hk27 => ?_
          refine Run.regionD (M := [0, 0, 0, 4, 12, 28, 0, 124, 254, 0, 0, 0, 0, 7680, 15872, 32766, 0, 65536, 196608, 458752, 0, 2031616, 4194302, 8388607, 16777215, 33554431]) (q := 29310717) (r := 527904) (by kernel_rfl) ?_
          have hbef : ∀ y ∈ L.take j, cmpSource y (⟨p, id, d, now⟩ : Source) < 0 := by rw [show j = 0 by omega]; simp
          refine Dw.pure (i := 0) rfl (by kernel_rfl) (Want.none rfl) rfl (ltN rfl) (QP.move rfl rfl) ?_
          refine Dw.pure (i := 2) rfl (by kernel_rfl) (Want.none rfl) rfl (ltN rfl) (QP.move rfl rfl) ?_
          refine Dw.pure (i := 3) rfl (by kernel_rfl) (Want.none rfl) rfl (ltN rfl) (QP.nilCheck rfl rfl) ?_
          refine Dw.pure (i := 4) rfl (by kernel_rfl) (Want.none rfl) rfl (ltN rfl) (QP.fieldAddr rfl rfl f56_1) ?_
          refine Dw.read (i := 5) rfl (by kernel_rfl) (Want.none rfl) rfl (ltN rfl) (QR.load1 (v := .slice _ L.length _) rfl rfl g42 (Ref15Table.sub_l _)) ?_
          refine Dw.pure (i := 6) rfl (by kernel_rfl) (Want.none rfl) rfl (ltN rfl) (QP.move rfl rfl) ?_
          refine Dw.pure (i := 7) rfl (by kernel_rfl) (Want.none rfl) rfl (ltN rfl) (QP.sliceHi rfl rfl rfl Try.underlying42 z45 (by first | omega | (simp <;> omega)) (by first | omega | (simp <;> omega))) ?_
          refine Dw.read (i := 9) rfl (by kernel_rfl) (Want.none rfl) rfl (ltN rfl) (QR.load rfl rfl g28 (Pair.enc_sub _)) ?_
          refine Dw.read (i := 10) rfl (by kernel_rfl) (Want.none rfl) rfl (ltN rfl) (QR.load rfl rfl g30 (Bs.sub _)) ?_
          refine Dw.read (i := 11) rfl (by kernel_rfl) (Want.none rfl) rfl (ltN rfl) (QR.load rfl rfl g33 (Distance.enc_sub _)) ?_
          refine Dw.pure (i := 12) rfl (by kernel_rfl) (Want.none rfl) rfl (ltN rfl) (QP.move rfl rfl) ?_
          refine Dw.pure (i := 13) rfl (by kernel_rfl) (Want.none rfl) rfl (ltN rfl) (QP.build (l := Source.enc ⟨_, _, _, (now)⟩) rfl st45 rfl (by exact ⟨(congrArg some (Pair.enc_len _).symm), ⟨(congrArg some (Bs.len _).symm), ⟨(congrArg some (Distance.enc_len _).symm), ⟨rfl, trivial⟩⟩⟩⟩) rfl) ?_
          refine Dw.pure (i := 16) rfl (by kernel_rfl) (Want.none rfl) rfl (ltN rfl) (QP.move rfl rfl) ?_
          refine Dw.pure (i := 17) rfl (by kernel_rfl) (Want.none rfl) rfl (ltN rfl) (QP.nilCheck rfl rfl) ?_
          refine Dw.pure (i := 18) rfl (by kernel_rfl) (Want.none rfl) rfl (ltN rfl) (QP.fieldAddr rfl rfl f56_1) ?_
          refine Dw.read (i := 19) rfl (by kernel_rfl) (Want.none rfl) rfl (ltN rfl) (QR.load1 (v := .slice _ L.length _) rfl rfl g42 (Ref15Table.sub_l _)) ?_
          refine Dw.pure (i := 20) rfl (by kernel_rfl) (Want.none rfl) rfl (ltN rfl) (QP.move rfl rfl) ?_
          refine Dw.pure (i := 21) rfl (by kernel_rfl) (Want.none rfl) rfl (ltN rfl) (QP.sliceLo rfl rfl rfl Try.underlying42 z45 (by first | omega | (simp <;> omega)) (by first | omega | (simp <;> omega))) ?_
          refine Dw.effs (l := [1, 14]) (by kernel_rfl) (by kernel_rfl) ?_
          rw [List.forall_mem_cons, List.forall_mem_cons]
          refine ⟨?_, ?_, fun _ h => (by cases h)⟩
          · skip
            refine One.mk (o := _) (l := [19, 11, 10, 9, 5]) rfl (by kernel_rfl) (Want.none rfl) rfl (ltN rfl) (EF.buildSlice0 (enc := Source.enc) rfl Try.underlying42 z45 zero45 (by simp [Value.cells, Source.enc_len]) (by decide)) (by kernel_rfl) ?_
            rintro _ _ ⟨b107, rfl, rfl⟩
            refine ⟨?_, ?_⟩
            · rw [List.forall_mem_cons, List.forall_mem_cons, List.forall_mem_cons, List.forall_mem_cons, List.forall_mem_cons]
              refine ⟨?_, ?_, ?_, ?_, ?_, fun _ h => (by cases h)⟩
              · exact Look.mk rfl rfl rfl (QR.load1 (v := .slice _ L.length _) rfl rfl g42 (Ref15Table.sub_l _))
              · exact Look.mk rfl rfl rfl (QR.load rfl rfl g33 (Distance.enc_sub _))
              · exact Look.mk rfl rfl rfl (QR.load rfl rfl g30 (Bs.sub _))
              · exact Look.mk rfl rfl rfl (QR.load rfl rfl g28 (Pair.enc_sub _))
              · exact Look.mk rfl rfl rfl (QR.load1 (v := .slice _ L.length _) rfl rfl g42 (Ref15Table.sub_l _))
            refine ?_
            refine Dw.effs (l := [8, 14]) (by kernel_rfl) (by kernel_rfl) ?_
            rw [List.forall_mem_cons, List.forall_mem_cons]
            refine ⟨?_, ?_, fun _ h => (by cases h)⟩
            · skip
              refine One.mk (o := _) (l := [19, 11, 10, 9]) rfl (by kernel_rfl) (Want.none rfl) rfl (ltN rfl) (EF.append (xs := []) (ys := ((L.take j).drop 0)) el45 Source.enc_len Source.enc_cell rfl rfl rfl Try.underlying42 Try.underlying42 rfl rfl (by repeat (first | exact Pick.head | apply Pick.tail)) (RowsAt.cutOwn (i := 0) (j := j) Source.enc_len hh (by repeat (first | exact List.Mem.head _ | apply List.Mem.tail)) (by omega) (by omega)) (by first | omega | (simp <;> omega))) (by kernel_rfl) ?_
              rintro sl114 _ rfl
              refine ⟨?_, ?_⟩
              · rw [List.forall_mem_cons, List.forall_mem_cons, List.forall_mem_cons, List.forall_mem_cons]
                refine ⟨?_, ?_, ?_, ?_, fun _ h => (by cases h)⟩
                · exact Look.mk rfl rfl rfl (QR.load1 (v := .slice _ L.length _) rfl rfl g42 (Ref15Table.sub_l _))
                · exact Look.mk rfl rfl rfl (QR.load rfl rfl g33 (Distance.enc_sub _))
                · exact Look.mk rfl rfl rfl (QR.load rfl rfl g30 (Bs.sub _))
                · exact Look.mk rfl rfl rfl (QR.load rfl rfl g28 (Pair.enc_sub _))
              refine ?_
              refine Dw.slCase (v := sl114) (by repeat (first | exact List.Mem.head _ | apply List.Mem.tail)) (fun a114 c114 hv114 hh114 => ?_)
              subst hv114
              refine Dw.eff (i := 14) (by kernel_rfl) (by kernel_rfl) ?_
              refine One.mk (o := _) (l := [19, 5]) rfl (by kernel_rfl) (Want.none rfl) rfl (ltN rfl) (EF.buildSlice1 rfl Try.underlying42 z45 zero45 (by simp [Value.cells, Source.enc_len]) (by decide) rfl rfl (Source.enc_len _) (by decide)) (by kernel_rfl) ?_
              rintro _ _ ⟨b120, rfl, rfl⟩
              refine ⟨?_, ?_⟩
              · rw [List.forall_mem_cons, List.forall_mem_cons]
                refine ⟨?_, ?_, fun _ h => (by cases h)⟩
                · exact Look.mk rfl rfl rfl (QR.load1 (v := .slice _ L.length _) rfl rfl g42 (Ref15Table.sub_l _))
                · exact Look.mk rfl rfl rfl (QR.load1 (v := .slice _ L.length _) rfl rfl g42 (Ref15Table.sub_l _))
              refine ?_
              refine Dw.eff (i := 15) (by kernel_rfl) (by kernel_rfl) ?_
              refine One.mk (o := _) (l := [19]) rfl (by kernel_rfl) (Want.none rfl) rfl (ltN rfl) (EF.append1 (xs := _) (s := _) el45 Source.enc_len Source.enc_cell rfl rfl rfl Try.underlying42 Try.underlying42 rfl rfl (by repeat (first | exact Pick.head | apply Pick.tail)) (by repeat (first | exact List.Mem.head _ | apply List.Mem.tail)) (by first | omega | (simp <;> omega))) (by kernel_rfl) ?_
              rintro sl121 _ rfl
              refine ⟨?_, ?_⟩
              · rw [List.forall_mem_cons]
                refine ⟨?_, fun _ h => (by cases h)⟩
                · exact Look.mk rfl rfl rfl (QR.load1 (v := .slice _ L.length _) rfl rfl g42 (Ref15Table.sub_l _))
              refine ?_
              refine Dw.slCase (v := sl121) (by repeat (first | exact List.Mem.head _ | apply List.Mem.tail)) (fun a121 c121 hv121 hh121 => ?_)
              subst hv121
              refine Dw.eff (i := 22) (by kernel_rfl) (by kernel_rfl) ?_
              refine One.mk (o := _) (l := []) rfl (by kernel_rfl) (Want.none rfl) rfl (ltN rfl) (EF.append (xs := _) (ys := ((L.take L.length).drop j)) el45 Source.enc_len Source.enc_cell rfl rfl rfl Try.underlying42 Try.underlying42 rfl rfl (by repeat (first | exact Pick.head | apply Pick.tail)) (RowsAt.cutOwn (i := j) (j := L.length) Source.enc_len hh (by repeat (first | exact List.Mem.head _ | apply List.Mem.tail)) (by omega) (by omega)) (by first | omega | (simp <;> omega))) (by kernel_rfl) ?_
              rintro sl128 _ rfl
              refine ⟨fun _ h => (by cases h), ?_⟩
              refine Dw.slCase (v := sl128) (by repeat (first | exact List.Mem.head _ | apply List.Mem.tail)) (fun a128 c128 hv128 hh128 => ?_)
              subst hv128
              refine Dw.pure (i := 23) rfl (by kernel_rfl) (Want.none rfl) rfl (ltN rfl) (QP.nilCheck rfl rfl) ?_
              refine Dw.pure (i := 24) rfl (by kernel_rfl) (Want.none rfl) rfl (ltN rfl) (QP.fieldAddr rfl rfl f56_1) ?_
              refine Dw.eff (i := 25) (by kernel_rfl) (by kernel_rfl) ?_
              refine One.act (o := _) (l := []) rfl (by kernel_rfl) (Want.none rfl) rfl (EF.store rfl rfl rfl z42 (Ref15Table.set_l _ ⟨a128, _, c128⟩) (cell_one rfl)) (by kernel_rfl) ?_
              rintro _ _ rfl
              refine ⟨fun _ h => (by cases h), ?_⟩
              refine Dw.nil (by kernel_rfl) ?_
              refine hk27 _ _ ?_
              refine Run.seq fun k28 hk28 => ?_
              refine Run.region ?_
              show Sq _ _ _ [0] _ _ _ _
              refine Sq.quiet (i := 0) rfl (Want.none rfl) rfl (ltN rfl) (QP.assign rfl rfl).read ?_
              refine Sq.nil ?_
              refine hk28 _ _ ?_
              refine Run.ret ?_
              exact J.ends (res_tmp rfl rfl) (.cons (by repeat (first | exact Pick.head | apply Pick.tail)) (.cons (by repeat (first | exact Pick.head | apply Pick.tail)) Takes.nil)) ⟨_, _, _, hh128, 0, rfl, .inr ⟨c15, .inr ⟨hno, .inr ⟨c55, rfl, j, hjl, hbef, haft, cut_all _⟩⟩⟩, rfl⟩
            · skip
              refine One.mk (o := _) (l := [19, 5]) rfl (by kernel_rfl) (Want.none rfl) rfl (ltN rfl) (EF.buildSlice1 rfl Try.underlying42 z45 zero45 (by simp [Value.cells, Source.enc_len]) (by decide) rfl rfl (Source.enc_len _) (by decide)) (by kernel_rfl) ?_
              rintro _ _ ⟨b120, rfl, rfl⟩
              refine ⟨?_, ?_⟩
              · rw [List.forall_mem_cons, List.forall_mem_cons]
                refine ⟨?_, ?_, fun _ h => (by cases h)⟩
                · exact Look.mk rfl rfl rfl (QR.load1 (v := .slice _ L.length _) rfl rfl g42 (Ref15Table.sub_l _))
                · exact Look.mk rfl rfl rfl (QR.load1 (v := .slice _ L.length _) rfl rfl g42 (Ref15Table.sub_l _))
              refine ?_
              refine Dw.eff (i := 8) (by kernel_rfl) (by kernel_rfl) ?_
              refine One.mk (o := _) (l := [19, 11, 10, 9]) rfl (by kernel_rfl) (Want.none rfl) rfl (ltN rfl) (EF.append (xs := []) (ys := ((L.take j).drop 0)) el45 Source.enc_len Source.enc_cell rfl rfl rfl Try.underlying42 Try.underlying42 rfl rfl (by repeat (first | exact Pick.head | apply Pick.tail)) (RowsAt.cutOwn (i := 0) (j := j) Source.enc_len hh (by repeat (first | exact List.Mem.head _ | apply List.Mem.tail)) (by omega) (by omega)) (by first | omega | (simp <;> omega))) (by kernel_rfl) ?_
              rintro sl114 _ rfl
              refine ⟨?_, ?_⟩
              · rw [List.forall_mem_cons, List.forall_mem_cons, List.forall_mem_cons, List.forall_mem_cons]
                refine ⟨?_, ?_, ?_, ?_, fun _ h => (by cases h)⟩
                · exact Look.mk rfl rfl rfl (QR.load1 (v := .slice _ L.length _) rfl rfl g42 (Ref15Table.sub_l _))
                · exact Look.mk rfl rfl rfl (QR.load rfl rfl g33 (Distance.enc_sub _))
                · exact Look.mk rfl rfl rfl (QR.load rfl rfl g30 (Bs.sub _))
                · exact Look.mk rfl rfl rfl (QR.load rfl rfl g28 (Pair.enc_sub _))
              refine ?_
              refine Dw.slCase (v := sl114) (by repeat (first | exact List.Mem.head _ | apply List.Mem.tail)) (fun a114 c114 hv114 hh114 => ?_)
              subst hv114
              refine Dw.eff (i := 15) (by kernel_rfl) (by kernel_rfl) ?_
              refine One.mk (o := _) (l := [19]) rfl (by kernel_rfl) (Want.none rfl) rfl (ltN rfl) (EF.append1 (xs := _) (s := _) el45 Source.enc_len Source.enc_cell rfl rfl rfl Try.underlying42 Try.underlying42 rfl rfl (by repeat (first | exact Pick.head | apply Pick.tail)) (by repeat (first | exact List.Mem.head _ | apply List.Mem.tail)) (by first | omega | (simp <;> omega))) (by kernel_rfl) ?_
              rintro sl121 _ rfl
              refine ⟨?_, ?_⟩
              · rw [List.forall_mem_cons]
                refine ⟨?_, fun _ h => (by cases h)⟩
                · exact Look.mk rfl rfl rfl (QR.load1 (v := .slice _ L.length _) rfl rfl g42 (Ref15Table.sub_l _))
              refine ?_
              refine Dw.slCase (v := sl121) (by repeat (first | exact List.Mem.head _ | apply List.Mem.tail)) (fun a121 c121 hv121 hh121 => ?_)
              subst hv121
              refine Dw.eff (i := 22) (by kernel_rfl) (by kernel_rfl) ?_
              refine One.mk (o := _) (l := []) rfl (by kernel_rfl) (Want.none rfl) rfl (ltN rfl) (EF.append (xs := _) (ys := ((L.take L.length).drop j)) el45 Source.enc_len Source.enc_cell rfl rfl rfl Try.underlying42 Try.underlying42 rfl rfl (by repeat (first | exact Pick.head | apply Pick.tail)) (RowsAt.cutOwn (i := j) (j := L.length) Source.enc_len hh (by repeat (first | exact List.Mem.head _ | apply List.Mem.tail)) (by omega) (by omega)) (by first | omega | (simp <;> omega))) (by kernel_rfl) ?_
              rintro sl128 _ rfl
              refine ⟨fun _ h => (by cases h), ?_⟩
              refine Dw.slCase (v := sl128) (by repeat (first | exact List.Mem.head _ | apply List.Mem.tail)) (fun a128 c128 hv128 hh128 => ?_)
              subst hv128
              refine Dw.pure (i := 23) rfl (by kernel_rfl) (Want.none rfl) rfl (ltN rfl) (QP.nilCheck rfl rfl) ?_
              refine Dw.pure (i := 24) rfl (by kernel_rfl) (Want.none rfl) rfl (ltN rfl) (QP.fieldAddr rfl rfl f56_1) ?_
              refine Dw.eff (i := 25) (by kernel_rfl) (by kernel_rfl) ?_
              refine One.act (o := _) (l := []) rfl (by kernel_rfl) (Want.none rfl) rfl (EF.store rfl rfl rfl z42 (Ref15Table.set_l _ ⟨a128, _, c128⟩) (cell_one rfl)) (by kernel_rfl) ?_
              rintro _ _ rfl
              refine ⟨fun _ h => (by cases h), ?_⟩
              refine Dw.nil (by kernel_rfl) ?_
              refine hk27 _ _ ?_
              refine Run.seq fun k29 hk29 => ?_
              refine Run.region ?_
              show Sq _ _ _ [0] _ _ _ _
              refine Sq.quiet (i := 0) rfl (Want.none rfl) rfl (ltN rfl) (QP.assign rfl rfl).read ?_
              refine Sq.nil ?_
              refine hk29 _ _ ?_
              refine Run.ret ?_
              exact J.ends (res_tmp rfl rfl) (.cons (by repeat (first | exact Pick.head | apply Pick.tail)) (.cons (by repeat (first | exact Pick.head | apply Pick.tail)) Takes.nil)) ⟨_, _, _, hh128, 0, rfl, .inr ⟨c15, .inr ⟨hno, .inr ⟨c55, rfl, j, hjl, hbef, haft, cut_all _⟩⟩⟩, rfl⟩
          · skip
            refine One.mk (o := _) (l := [19, 5]) rfl (by kernel_rfl) (Want.none rfl) rfl (ltN rfl) (EF.buildSlice1 rfl Try.underlying42 z45 zero45 (by simp [Value.cells, Source.enc_len]) (by decide) rfl rfl (Source.enc_len _) (by decide)) (by kernel_rfl) ?_
            rintro _ _ ⟨b120, rfl, rfl⟩
            refine ⟨?_, ?_⟩
            · rw [List.forall_mem_cons, List.forall_mem_cons]
              refine ⟨?_, ?_, fun _ h => (by cases h)⟩
              · exact Look.mk rfl rfl rfl (QR.load1 (v := .slice _ L.length _) rfl rfl g42 (Ref15Table.sub_l _))
              · exact Look.mk rfl rfl rfl (QR.load1 (v := .slice _ L.length _) rfl rfl g42 (Ref15Table.sub_l _))
            refine ?_
            refine Dw.eff (i := 1) (by kernel_rfl) (by kernel_rfl) ?_
            refine One.mk (o := _) (l := [19, 11, 10, 9, 5]) rfl (by kernel_rfl) (Want.none rfl) rfl (ltN rfl) (EF.buildSlice0 (enc := Source.enc) rfl Try.underlying42 z45 zero45 (by simp [Value.cells, Source.enc_len]) (by decide)) (by kernel_rfl) ?_
            rintro _ _ ⟨b107, rfl, rfl⟩
            refine ⟨?_, ?_⟩
            · rw [List.forall_mem_cons, List.forall_mem_cons, List.forall_mem_cons, List.forall_mem_cons, List.forall_mem_cons]
              refine ⟨?_, ?_, ?_, ?_, ?_, fun _ h => (by cases h)⟩
              · exact Look.mk rfl rfl rfl (QR.load1 (v := .slice _ L.length _) rfl rfl g42 (Ref15Table.sub_l _))
              · exact Look.mk rfl rfl rfl (QR.load rfl rfl g33 (Distance.enc_sub _))
              · exact Look.mk rfl rfl rfl (QR.load rfl rfl g30 (Bs.sub _))
              · exact Look.mk rfl rfl rfl (QR.load rfl rfl g28 (Pair.enc_sub _))
              · exact Look.mk rfl rfl rfl (QR.load1 (v := .slice _ L.length _) rfl rfl g42 (Ref15Table.sub_l _))
            refine ?_
            refine Dw.eff (i := 8) (by kernel_rfl) (by kernel_rfl) ?_
            refine One.mk (o := _) (l := [19, 11, 10, 9]) rfl (by kernel_rfl) (Want.none rfl) rfl (ltN rfl) (EF.append (xs := []) (ys := ((L.take j).drop 0)) el45 Source.enc_len Source.enc_cell rfl rfl rfl Try.underlying42 Try.underlying42 rfl rfl (by repeat (first | exact Pick.head | apply Pick.tail)) (RowsAt.cutOwn (i := 0) (j := j) Source.enc_len hh (by repeat (first | exact List.Mem.head _ | apply List.Mem.tail)) (by omega) (by omega)) (by first | omega | (simp <;> omega))) (by kernel_rfl) ?_
            rintro sl114 _ rfl
            refine ⟨?_, ?_⟩
            · rw [List.forall_mem_cons, List.forall_mem_cons, List.forall_mem_cons, List.forall_mem_cons]
              refine ⟨?_, ?_, ?_, ?_, fun _ h => (by cases h)⟩
              · exact Look.mk rfl rfl rfl (QR.load1 (v := .slice _ L.length _) rfl rfl g42 (Ref15Table.sub_l _))
              · exact Look.mk rfl rfl rfl (QR.load rfl rfl g33 (Distance.enc_sub _))
              · exact Look.mk rfl rfl rfl (QR.load rfl rfl g30 (Bs.sub _))
              · exact Look.mk rfl rfl rfl (QR.load rfl rfl g28 (Pair.enc_sub _))
            refine ?_
            refine Dw.slCase (v := sl114) (by repeat (first | exact List.Mem.head _ | apply List.Mem.tail)) (fun a114 c114 hv114 hh114 => ?_)
            subst hv114
            refine Dw.eff (i := 15) (by kernel_rfl) (by kernel_rfl) ?_
            refine One.mk (o := _) (l := [19]) rfl (by kernel_rfl) (Want.none rfl) rfl (ltN rfl) (EF.append1 (xs := _) (s := _) el45 Source.enc_len Source.enc_cell rfl rfl rfl Try.underlying42 Try.underlying42 rfl rfl (by repeat (first | exact Pick.head | apply Pick.tail)) (by repeat (first | exact List.Mem.head _ | apply List.Mem.tail)) (by first | omega | (simp <;> omega))) (by kernel_rfl) ?_
            rintro sl121 _ rfl
            refine ⟨?_, ?_⟩
            · rw [List.forall_mem_cons]
              refine ⟨?_, fun _ h => (by cases h)⟩
              · exact Look.mk rfl rfl rfl (QR.load1 (v := .slice _ L.length _) rfl rfl g42 (Ref15Table.sub_l _))
            refine ?_
            refine Dw.slCase (v := sl121) (by repeat (first | exact List.Mem.head _ | apply List.Mem.tail)) (fun a121 c121 hv121 hh121 => ?_)
            subst hv121
            refine Dw.eff (i := 22) (by kernel_rfl) (by kernel_rfl) ?_
            refine One.mk (o := _) (l := []) rfl (by kernel_rfl) (Want.none rfl) rfl (ltN rfl) (EF.append (xs := _) (ys := ((L.take L.length).drop j)) el45 Source.enc_len Source.enc_cell rfl rfl rfl Try.underlying42 Try.underlying42 rfl rfl (by repeat (first | exact Pick.head | apply Pick.tail)) (RowsAt.cutOwn (i := j) (j := L.length) Source.enc_len hh (by repeat (first | exact List.Mem.head _ | apply List.Mem.tail)) (by omega) (by omega)) (by first | omega | (simp <;> omega))) (by kernel_rfl) ?_
            rintro sl128 _ rfl
            refine ⟨fun _ h => (by cases h), ?_⟩
            refine Dw.slCase (v := sl128) (by repeat (first | exact List.Mem.head _ | apply List.Mem.tail)) (fun a128 c128 hv128 hh128 => ?_)
            subst hv128
            refine Dw.pure (i := 23) rfl (by kernel_rfl) (Want.none rfl) rfl (ltN rfl) (QP.nilCheck rfl rfl) ?_
            refine Dw.pure (i := 24) rfl (by kernel_rfl) (Want.none rfl) rfl (ltN rfl) (QP.fieldAddr rfl rfl f56_1) ?_
            refine Dw.eff (i := 25) (by kernel_rfl) (by kernel_rfl) ?_
            refine One.act (o := _) (l := []) rfl (by kernel_rfl) (Want.none rfl) rfl (EF.store rfl rfl rfl z42 (Ref15Table.set_l _ ⟨a128, _, c128⟩) (cell_one rfl)) (by kernel_rfl) ?_
            rintro _ _ rfl
            refine ⟨fun _ h => (by cases h), ?_⟩
            refine Dw.nil (by kernel_rfl) ?_
            refine hk27 _ _ ?_
            refine Run.seq fun k30 hk30 => ?_
            refine Run.region ?_
            show Sq _ _ _ [0] _ _ _ _
            refine Sq.quiet (i := 0) rfl (Want.none rfl) rfl (ltN rfl) (QP.assign rfl rfl).read ?_
            refine Sq.nil ?_
            refine hk30 _ _ ?_
            refine Run.ret ?_
            exact J.ends (res_tmp rfl rfl) (.cons (by repeat (first | exact Pick.head | apply Pick.tail)) (.cons (by repeat (first | exact Pick.head | apply Pick.tail)) Takes.nil)) ⟨_, _, _, hh128, 0, rfl, .inr ⟨c15, .inr ⟨hno, .inr ⟨c55, rfl, j, hjl, hbef, haft, cut_all _⟩⟩⟩, rfl⟩

theorem rtick_spec (F : Fr) {b : Nat} {most : Int} {a : Option Addr} {c : Nat} {L : List Source} (hh : SlH a c L) (hL : L.length ≤ 1000000) (now : Int) (hn0 : 0 ≤ now) (hn1 : now ≤ 2305843009213693952) (hT : ∀ x ∈ L, 0 ≤ x.at_ ∧ x.at_ ≤ 2305843009213693952) : Spec Try.prog 20 #[.pointer (some ⟨b, 0, none⟩), .int .i64 now] [blk b (Ref15Table.enc ⟨most, ⟨a, L.length, c⟩⟩) 56, slA 45 45 Source.enc (.slice a L.length c) L] F (fun v S => ∃ a2 c2, ∃ L2 : List Source, SlH a2 c2 L2 ∧ L2 = (L.filter fun s => !oldS now s) ∧ S = [blk b (Ref15Table.enc ⟨most, ⟨a2, L2.length, c2⟩⟩) 56, slA 45 45 Source.enc (.slice a2 L2.length c2) L2, slA 45 45 Source.enc v (L.filter (oldS now))]) := by
  refine Spec.intro (N := 53) (args := [.pointer (some ⟨b, 0, none⟩), .int .i64 now]) Try.func20 rfl rfl (by simp) ?_
  refine Run.seq fun k1 hk1 => ?_
  refine Run.region ?_
  show Sq _ _ _ [0] _ _ _ _
  refine J.addSl 45 45 Source.enc ?_
  refine J.addSl 45 45 Source.enc ?_
  refine Sq.quiet (i := 0) rfl (Want.none rfl) rfl (ltN rfl) (QP.assign rfl rfl).read ?_
  refine Sq.nil ?_
  refine hk1 _ _ ?_
  refine Run.seq fun k2 hk2 => ?_
  refine Run.region ?_
  show Sq _ _ _ [0, 1] _ _ _ _
  refine Sq.quiet (i := 0) rfl (Want.none rfl) rfl (ltN rfl) (QP.assign rfl rfl).read ?_
  refine Sq.quiet (i := 1) rfl (Want.none rfl) rfl (ltN rfl) (QP.assign rfl rfl).read ?_
  refine Sq.nil ?_
  refine hk2 _ _ ?_
  refine Run.seq fun k3 hk3 => ?_
  refine Run.seq fun k4 hk4 => ?_
  refine Run.region ?_
  show Sq _ _ _ [0] _ _ _ _
  refine Sq.quiet (i := 0) rfl (Want.none rfl) rfl (ltN rfl) (QP.assign rfl rfl).read ?_
  refine Sq.nil ?_
  refine hk4 _ _ ?_
  refine Run.block ?_
  refine Run.loop3 (fun (i : Nat) (va : Value) (vg : Value) => i ≤ L.length) (fun i va vg => .cons 0 (.pointer (some ⟨b, 0, none⟩)) (.cons 1 (.int .i64 now) (.cons 5 (va) (.cons 6 (vg) (.cons 7 (.int .i64 i) (.nil)))))) (fun i va vg => [blk b (Ref15Table.enc ⟨most, ⟨a, L.length, c⟩⟩) 56, slA 45 45 Source.enc (.slice a L.length c) L, slA 45 45 Source.enc va ((L.take i).filter fun s => !oldS now s), slA 45 45 Source.enc vg ((L.take i).filter (oldS now))]) (fun i va vg => L.length - i) (0) (.slice none 0 0) (.slice none 0 0) (Nat.zero_le _) ?_ ?_
  · exact fun _ j => J.envJ (J.keep (.cons (by repeat (first | exact Pick.head | apply Pick.tail)) (.cons (by repeat (first | exact Pick.head | apply Pick.tail)) (.cons (by repeat (first | exact Pick.head | apply Pick.tail)) (.cons (by repeat (first | exact Pick.head | apply Pick.tail)) Takes.nil)))) j) ⟨rfl, rfl, rfl, rfl, rfl, trivial⟩
  rintro i va vg hile kl5 hl5
  refine Run.seq fun k6 hk6 => ?_
  refine Run.seq fun k7 hk7 => ?_
  refine Run.region ?_
  show Sq _ _ _ [0, 1, 2, 3, 4, 5, 6] _ _ _ _
  refine Sq.quiet (i := 0) rfl (Want.none rfl) rfl (ltN rfl) (QP.move rfl rfl).read ?_
  refine Sq.quiet (i := 1) rfl (Want.none rfl) rfl (ltN rfl) (QP.move rfl rfl).read ?_
  refine Sq.quiet (i := 2) rfl (Want.none rfl) rfl (ltN rfl) (QP.nilCheck rfl rfl).read ?_
  refine Sq.quiet (i := 3) rfl (Want.none rfl) rfl (ltN rfl) (QP.fieldAddr rfl rfl f56_1).read ?_
  refine Sq.quiet (i := 4) rfl (Want.none rfl) rfl (ltN rfl) (QR.load1 (v := .slice _ L.length _) rfl rfl g42 (Ref15Table.sub_l _)) ?_
  refine Sq.quiet (i := 5) rfl (Want.none rfl) rfl (ltN rfl) (QP.len rfl rfl rfl Try.underlying42).read ?_
  refine Sq.quiet (i := 6) rfl (Want.none rfl) rfl (ltN rfl) (QP.lss rfl rfl rfl).read ?_
  refine J.caseD (fun c14 => ?_) (fun c14 => ?_)
  · skip
    refine Sq.nil ?_
    refine hk7 _ _ ?_
    refine Run.cond_t rfl ?_
    refine Run.skip ?_
    refine hk6 _ _ ?_
    refine Run.seq fun k8 hk8 => ?_
    refine Run.block ?_
    refine Run.seq fun k9 hk9 => ?_
    refine Run.region ?_
    show Sq _ _ _ [0, 1, 2, 3, 4, 5, 6, 7, 8, 9, 10] _ _ _ _
    have hlt : i < L.length := by omega
    obtain ⟨x, hi⟩ : ∃ x, L[i]? = some x := ⟨_, List.getElem?_eq_getElem hlt⟩
    obtain ⟨b0, o0, rfl⟩ := hh.get (by omega)
    have hat := hT x (List.mem_of_getElem? hi)
    have hfl : ((L.take i).filter (oldS now)).length ≤ 1000000 ∧ ((L.take i).filter fun s => !oldS now s).length ≤ 1000000 := by
      have := List.length_filter_le (oldS now) (L.take i)
      have := List.length_filter_le (fun s => !oldS now s) (L.take i)
      have := List.length_take_le i L
      omega
    refine Sq.quiet (i := 0) rfl (Want.none rfl) rfl (ltN rfl) (QP.move rfl rfl).read ?_
    refine Sq.quiet (i := 1) rfl (Want.none rfl) rfl (ltN rfl) (QP.move rfl rfl).read ?_
    refine Sq.quiet (i := 2) rfl (Want.none rfl) rfl (ltN rfl) (QP.nilCheck rfl rfl).read ?_
    refine Sq.quiet (i := 3) rfl (Want.none rfl) rfl (ltN rfl) (QP.fieldAddr rfl rfl f56_1).read ?_
    refine Sq.quiet (i := 4) rfl (Want.none rfl) rfl (ltN rfl) (QR.load1 (v := .slice _ L.length _) rfl rfl g42 (Ref15Table.sub_l _)) ?_
    refine Sq.quiet (i := 5) rfl (Want.none rfl) rfl (ltN rfl) (QP.move rfl rfl).read ?_
    refine Sq.quiet (i := 6) rfl (Want.none rfl) rfl (ltN rfl) (QP.indexAddr rfl rfl rfl Try.underlying42 z45 (by first | omega | (simp <;> omega)) (by first | omega | (simp <;> omega))).read ?_
    refine Sq.quiet (i := 7) rfl (Want.none rfl) rfl (ltN rfl) (QP.fieldAddr rfl rfl f45_3).read ?_
    refine Sq.quiet (i := 8) rfl (Want.none rfl) rfl (ltN rfl) (QR.loadSlF1 rfl rfl g3 Source.enc_len (SlAt.own Source.enc_len (by repeat (first | exact List.Mem.head _ | apply List.Mem.tail))) hi (Source.sub_at_ _)) ?_
    refine Sq.quiet (i := 9) rfl (Want.none rfl) rfl (ltN rfl) (QP.sub64 rfl rfl rfl (by first | omega | (simp <;> omega)) (by first | omega | (simp <;> omega))).read ?_
    refine Sq.quiet (i := 10) rfl (Want.none rfl) rfl (ltN rfl) (QP.geq rfl rfl rfl).read ?_
    refine J.caseD (fun c27 => ?_) (fun c27 => ?_)
    · skip
      refine Sq.nil ?_
      refine hk9 _ _ ?_
      refine Run.cond_t rfl ?_
      refine Run.region ?_
      show Sq _ _ _ [0, 1, 2, 3, 4, 5, 6, 7, 8, 9, 10] _ _ _ _
      refine Sq.quiet (i := 0) rfl (Want.none rfl) rfl (ltN rfl) (QP.move rfl rfl).read ?_
      refine Sq.quiet (i := 1) rfl (Want.none rfl) rfl (ltN rfl) (QP.move rfl rfl).read ?_
      refine Sq.quiet (i := 2) rfl (Want.none rfl) rfl (ltN rfl) (QP.nilCheck rfl rfl).read ?_
      refine Sq.quiet (i := 3) rfl (Want.none rfl) rfl (ltN rfl) (QP.fieldAddr rfl rfl f56_1).read ?_
      refine Sq.quiet (i := 4) rfl (Want.none rfl) rfl (ltN rfl) (QR.load1 (v := .slice _ L.length _) rfl rfl g42 (Ref15Table.sub_l _)) ?_
      refine Sq.quiet (i := 5) rfl (Want.none rfl) rfl (ltN rfl) (QP.move rfl rfl).read ?_
      refine Sq.quiet (i := 6) rfl (Want.none rfl) rfl (ltN rfl) (QP.indexAddr rfl rfl rfl Try.underlying42 z45 (by first | omega | (simp <;> omega)) (by first | omega | (simp <;> omega))).read ?_
      refine Sq.quiet (i := 7) rfl (Want.none rfl) rfl (ltN rfl) (QR.loadSl rfl rfl g45 Source.enc_len (SlAt.own Source.enc_len (by repeat (first | exact List.Mem.head _ | apply List.Mem.tail))) hi) ?_
      refine Sq.eff (i := 8) rfl (Want.none rfl) rfl (ltN rfl) (EF.buildSlice1 rfl Try.underlying42 z45 zero45 (by simp [Value.cells, Source.enc_len]) (by decide) rfl rfl (Source.enc_len _) (by decide)) ?_
      rintro _ _ ⟨b36, rfl, rfl⟩
      refine Sq.eff (i := 9) rfl (Want.none rfl) rfl (ltN rfl) (EF.append1 (xs := ((L.take i).filter (oldS now))) (s := x) el45 Source.enc_len Source.enc_cell rfl rfl rfl Try.underlying42 Try.underlying42 rfl rfl (by repeat (first | exact Pick.head | apply Pick.tail)) (by repeat (first | exact List.Mem.head _ | apply List.Mem.tail)) (by first | omega | (simp <;> omega))) ?_
      rintro sl37 _ rfl
      refine Sq.quiet (i := 10) rfl (Want.none rfl) rfl (ltN rfl) (QP.assign rfl rfl).read ?_
      refine Sq.nil ?_
      refine hk8 _ _ ?_
      refine Run.region ?_
      show Sq _ _ _ [0, 1, 2] _ _ _ _
      refine Sq.quiet (i := 0) rfl (Want.none rfl) rfl (ltN rfl) (QP.move rfl rfl).read ?_
      refine Sq.quiet (i := 1) rfl (Want.none rfl) rfl (ltN rfl) (QP.add64 rfl rfl rfl (by first | omega | (simp <;> omega)) (by first | omega | (simp <;> omega))).read ?_
      refine Sq.quiet (i := 2) rfl (Want.none rfl) rfl (ltN rfl) (QP.assign rfl rfl).read ?_
      refine Sq.nil ?_
      have hd : oldS now x = true := by simp only [oldS]; exact decide_eq_true c27
      have hf1 := filter_succ (oldS now) hi
      have hf2 := filter_succ (fun s => !oldS now s) hi
      rw [hd] at hf1 hf2
      simp only [if_true, if_false, Bool.false_eq_true, Bool.not_true, Bool.not_false, List.append_nil] at hf1 hf2
      refine J.slEq (v := sl37) (by repeat (first | exact Pick.head | apply Pick.tail)) hf1.symm ?_
      refine J.slEq (v := va) (by repeat (first | exact Pick.head | apply Pick.tail)) hf2.symm ?_
      exact J.envJ (J.keep (.cons (by repeat (first | exact Pick.head | apply Pick.tail)) (.cons (by repeat (first | exact Pick.head | apply Pick.tail)) (.cons (by repeat (first | exact Pick.head | apply Pick.tail)) (.cons (by repeat (first | exact Pick.head | apply Pick.tail)) Takes.nil)))) (hl5 (i + 1) (va) (sl37) (by omega) (by omega))) ⟨rfl, rfl, rfl, rfl, rfl, trivial⟩
    · skip
      refine Sq.nil ?_
      refine hk9 _ _ ?_
      refine Run.cond_f rfl ?_
      refine Run.region ?_
      show Sq _ _ _ [0, 1, 2, 3, 4, 5, 6, 7, 8, 9, 10] _ _ _ _
      refine Sq.quiet (i := 0) rfl (Want.none rfl) rfl (ltN rfl) (QP.move rfl rfl).read ?_
      refine Sq.quiet (i := 1) rfl (Want.none rfl) rfl (ltN rfl) (QP.move rfl rfl).read ?_
      refine Sq.quiet (i := 2) rfl (Want.none rfl) rfl (ltN rfl) (QP.nilCheck rfl rfl).read ?_
      refine Sq.quiet (i := 3) rfl (Want.none rfl) rfl (ltN rfl) (QP.fieldAddr rfl rfl f56_1).read ?_
      refine Sq.quiet (i := 4) rfl (Want.none rfl) rfl (ltN rfl) (QR.load1 (v := .slice _ L.length _) rfl rfl g42 (Ref15Table.sub_l _)) ?_
      refine Sq.quiet (i := 5) rfl (Want.none rfl) rfl (ltN rfl) (QP.move rfl rfl).read ?_
      refine Sq.quiet (i := 6) rfl (Want.none rfl) rfl (ltN rfl) (QP.indexAddr rfl rfl rfl Try.underlying42 z45 (by first | omega | (simp <;> omega)) (by first | omega | (simp <;> omega))).read ?_
      refine Sq.quiet (i := 7) rfl (Want.none rfl) rfl (ltN rfl) (QR.loadSl rfl rfl g45 Source.enc_len (SlAt.own Source.enc_len (by repeat (first | exact List.Mem.head _ | apply List.Mem.tail))) hi) ?_
      refine Sq.eff (i := 8) rfl (Want.none rfl) rfl (ltN rfl) (EF.buildSlice1 rfl Try.underlying42 z45 zero45 (by simp [Value.cells, Source.enc_len]) (by decide) rfl rfl (Source.enc_len _) (by decide)) ?_
      rintro _ _ ⟨b46, rfl, rfl⟩
      refine Sq.eff (i := 9) rfl (Want.none rfl) rfl (ltN rfl) (EF.append1 (xs := ((L.take i).filter fun s => !oldS now s)) (s := x) el45 Source.enc_len Source.enc_cell rfl rfl rfl Try.underlying42 Try.underlying42 rfl rfl (by repeat (first | exact Pick.head | apply Pick.tail)) (by repeat (first | exact List.Mem.head _ | apply List.Mem.tail)) (by first | omega | (simp <;> omega))) ?_
      rintro sl47 _ rfl
      refine Sq.quiet (i := 10) rfl (Want.none rfl) rfl (ltN rfl) (QP.assign rfl rfl).read ?_
      refine Sq.nil ?_
      refine hk8 _ _ ?_
      refine Run.region ?_
      show Sq _ _ _ [0, 1, 2] _ _ _ _
      refine Sq.quiet (i := 0) rfl (Want.none rfl) rfl (ltN rfl) (QP.move rfl rfl).read ?_
      refine Sq.quiet (i := 1) rfl (Want.none rfl) rfl (ltN rfl) (QP.add64 rfl rfl rfl (by first | omega | (simp <;> omega)) (by first | omega | (simp <;> omega))).read ?_
      refine Sq.quiet (i := 2) rfl (Want.none rfl) rfl (ltN rfl) (QP.assign rfl rfl).read ?_
      refine Sq.nil ?_
      have hd : oldS now x = false := by simp only [oldS]; exact decide_eq_false c27
      have hf1 := filter_succ (oldS now) hi
      have hf2 := filter_succ (fun s => !oldS now s) hi
      rw [hd] at hf1 hf2
      simp only [if_true, if_false, Bool.false_eq_true, Bool.not_true, Bool.not_false, List.append_nil] at hf1 hf2
      refine J.slEq (v := vg) (by repeat (first | exact Pick.head | apply Pick.tail)) hf1.symm ?_
      refine J.slEq (v := sl47) (by repeat (first | exact Pick.head | apply Pick.tail)) hf2.symm ?_
      exact J.envJ (J.keep (.cons (by repeat (first | exact Pick.head | apply Pick.tail)) (.cons (by repeat (first | exact Pick.head | apply Pick.tail)) (.cons (by repeat (first | exact Pick.head | apply Pick.tail)) (.cons (by repeat (first | exact Pick.head | apply Pick.tail)) Takes.nil)))) (hl5 (i + 1) (sl47) (vg) (by omega) (by omega))) ⟨rfl, rfl, rfl, rfl, rfl, trivial⟩
  · skip
    refine Sq.nil ?_
    refine hk7 _ _ ?_
    refine Run.cond_f rfl ?_
    refine Run.exit rfl ?_
    refine hk3 _ _ ?_
    refine Run.seq fun k10 hk10 => ?_
    refine Run.region ?_
    show Sq _ _ _ [0, 1, 2, 3, 4] _ _ _ _
    have hil : i = L.length := by omega
    subst hil
    rw [List.take_length]
    refine Sq.slCase (v := va) (xs := L.filter fun s => !oldS now s) (by repeat (first | exact List.Mem.head _ | apply List.Mem.tail)) (fun av cv hv hhv => ?_)
    subst hv
    refine Sq.quiet (i := 0) rfl (Want.none rfl) rfl (ltN rfl) (QP.move rfl rfl).read ?_
    refine Sq.quiet (i := 1) rfl (Want.none rfl) rfl (ltN rfl) (QP.move rfl rfl).read ?_
    refine Sq.quiet (i := 2) rfl (Want.none rfl) rfl (ltN rfl) (QP.nilCheck rfl rfl).read ?_
    refine Sq.quiet (i := 3) rfl (Want.none rfl) rfl (ltN rfl) (QP.fieldAddr rfl rfl f56_1).read ?_
    refine Sq.act (i := 4) rfl (Want.none rfl) rfl (EF.store rfl rfl rfl z42 (Ref15Table.set_l _ ⟨av, _, cv⟩) (cell_one rfl)) ?_
    rintro _ _ rfl
    refine Sq.nil ?_
    refine hk10 _ _ ?_
    refine Run.seq fun k11 hk11 => ?_
    refine Run.region ?_
    show Sq _ _ _ [0, 1] _ _ _ _
    refine Sq.quiet (i := 0) rfl (Want.none rfl) rfl (ltN rfl) (QP.move rfl rfl).read ?_
    refine Sq.quiet (i := 1) rfl (Want.none rfl) rfl (ltN rfl) (QP.assign rfl rfl).read ?_
    refine Sq.nil ?_
    refine hk11 _ _ ?_
    refine Run.ret ?_
    exact J.ends (res_tmp rfl rfl) (.cons (by repeat (first | exact Pick.head | apply Pick.tail)) (.cons (by repeat (first | exact Pick.head | apply Pick.tail)) (.cons (by repeat (first | exact Pick.head | apply Pick.tail)) Takes.nil))) ⟨_, _, _, hhv, rfl, rfl⟩
end Slb
