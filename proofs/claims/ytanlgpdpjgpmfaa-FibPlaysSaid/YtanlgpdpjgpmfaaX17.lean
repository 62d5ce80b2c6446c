/- X17: a part of the proof that a law of this package holds for every input; no condition. -/
import Derived.Test.YtanlgpdpjgpmfaaX15
import Derived.Test.YtanlgpdpjgpmfaaM2
namespace Slb
open Go Go.Proofs
set_option maxRecDepth 20000
theorem bs_at {n i : Nat} (x : Bs n) {u : UInt8} (h : x.l[i]? = some u) : SubL x.enc (0 + (Int.toNat i) * 1) 1 [byteV u] := by
  have hi : i < x.l.length := (List.getElem?_eq_some_iff.1 h).1
  have e : x.l = x.l.take i ++ u :: x.l.drop (i + 1) := by
    have : x.l[i] = u := (List.getElem?_eq_some_iff.1 h).2
    rw [← this, ← List.drop_eq_getElem_cons hi, List.take_append_drop]
  refine ⟨bytesV (x.l.take i), bytesV (x.l.drop (i + 1)), ?_, ?_, rfl⟩
  · unfold Bs.enc
    conv => lhs; rw [e]
    simp [bytesV]
  · rw [bytesV_length, List.length_take]
    simp; omega
theorem drop_at {n i : Nat} {x : Bs n} {u : UInt8} (h : x.l[i]? = some u) : x.l.drop i = u :: x.l.drop (i + 1) := by
  have hi : i < x.l.length := (List.getElem?_eq_some_iff.1 h).1
  have : x.l[i] = u := (List.getElem?_eq_some_iff.1 h).2
  rw [← this, ← List.drop_eq_getElem_cons hi]
theorem byte_eq {u t : UInt8} (h : (u.toNat : Int) = t.toNat) : u = t := UInt8.toNat_inj.1 (by omega)
theorem cmp_same {n i : Nat} {x y : Bs n} {u t : UInt8} (hx : x.l[i]? = some u) (hy : y.l[i]? = some t) (h : (u.toNat : Int) = t.toNat) : Lib.compareBytes (x.l.drop i) (y.l.drop i) = Lib.compareBytes (x.l.drop (i + 1)) (y.l.drop (i + 1)) := by
  rw [drop_at hx, drop_at hy, byte_eq h]
  conv => lhs; unfold Lib.compareBytes
  simp
theorem cmp_less {n i : Nat} {x y : Bs n} {u t : UInt8} (hx : x.l[i]? = some u) (hy : y.l[i]? = some t) (h : (u.toNat : Int) < t.toNat) : Lib.compareBytes (x.l.drop i) (y.l.drop i) = -1 := by
  rw [drop_at hx, drop_at hy]
  unfold Lib.compareBytes
  rw [if_pos (UInt8.lt_iff_toNat_lt.2 (by omega))]
theorem cmp_more {n i : Nat} {x y : Bs n} {u t : UInt8} (hx : x.l[i]? = some u) (hy : y.l[i]? = some t) (h0 : ¬ (u.toNat : Int) = t.toNat) (h : ¬ (u.toNat : Int) < t.toNat) : Lib.compareBytes (x.l.drop i) (y.l.drop i) = 1 := by
  rw [drop_at hx, drop_at hy]
  unfold Lib.compareBytes
  rw [if_neg (fun hc => h (by have := UInt8.lt_iff_toNat_lt.1 hc; omega)), if_pos (UInt8.lt_iff_toNat_lt.2 (by omega))]

theorem rcompare_spec (F : Fr) (x y : Bs 16) : Spec Try.prog 70 #[.agg (Bs.enc (x : Bs 16)).toArray, .agg (Bs.enc (y : Bs 16)).toArray] [] F (fun v S => ∃ n : Int, v = .int .i64 n ∧ S = [] ∧ (0 < n ↔ 0 < Lib.compareBytes x.l y.l) ∧ (n < 0 ↔ Lib.compareBytes x.l y.l < 0)) := by
 refine Spec.intro (N := 24) (args := [.agg (Bs.enc (x : Bs 16)).toArray, .agg (Bs.enc (y : Bs 16)).toArray]) Try.func70 rfl rfl (by simp) ?_
 refine Run.seq fun k1 hk1 => ?_
 refine Run.region ?_
 show Sq _ _ _ [0, 1, 2] _ _ _ _
 refine Sq.eff (i := 0) rfl (Want.none rfl) rfl (ltN rfl) (EF.boxA rfl rfl) ?_
 rintro _ _ ⟨b2, rfl, rfl⟩
 refine Sq.eff (i := 1) rfl (Want.none rfl) rfl (ltN rfl) (EF.boxA rfl rfl) ?_
 rintro _ _ ⟨b3, rfl, rfl⟩
 refine Sq.quiet (i := 2) rfl (Want.none rfl) rfl (ltN rfl) (QP.assign rfl rfl).read ?_
 refine Sq.nil ?_
 refine hk1 _ _ ?_
 refine Run.seq fun k2 hk2 => ?_
 refine Run.seq fun k3 hk3 => ?_
 refine Run.region ?_
 show Sq _ _ _ [0] _ _ _ _
 refine Sq.quiet (i := 0) rfl (Want.none rfl) rfl (ltN rfl) (QP.assign rfl rfl).read ?_
 refine Sq.nil ?_
 refine hk3 _ _ ?_
 refine Run.block ?_
 refine Run.loop1 (fun (i : Nat) => i ≤ 16 ∧ Lib.compareBytes x.l y.l = Lib.compareBytes (x.l.drop i) (y.l.drop i)) (fun i => .cons 2 (.pointer (some ⟨b2, 0, none⟩)) (.cons 3 (.pointer (some ⟨b3, 0, none⟩)) (.cons 5 (.int .i64 i) (.nil)))) (fun i => [blk b2 (Bs.enc x) 35, blk b3 (Bs.enc y) 35]) (fun i => 16 - i) (0) (⟨Nat.zero_le _, rfl⟩) ?_ ?_
 ·exact fun _ j => J.envJ (J.keep (.cons (by repeat constructor) (.cons (by repeat constructor) Takes.nil)) j) ⟨rfl, rfl, rfl, trivial⟩
 rintro i ⟨hile, hcmp⟩ kl4 hl4
 refine Run.seq fun k5 hk5 => ?_
 refine Run.seq fun k6 hk6 => ?_
 refine Run.region ?_
 show Sq _ _ _ [0, 1] _ _ _ _
 refine Sq.quiet (i := 0) rfl (Want.none rfl) rfl (ltN rfl) (QP.move rfl rfl).read ?_
 refine Sq.quiet (i := 1) rfl (Want.none rfl) rfl (ltN rfl) (QP.lss rfl rfl rfl).read ?_
 refine J.caseD (fun c7 => ?_) (fun c7 => ?_)
 ·skip
  refine Sq.nil ?_
  refine hk6 _ _ ?_
  refine Run.cond_t rfl ?_
  refine Run.skip ?_
  refine hk5 _ _ ?_
  refine Run.seq fun k7 hk7 => ?_
  refine Run.block ?_
  refine Run.seq fun k8 hk8 => ?_
  refine Run.regionD (M := [0, 1, 3, 0, 8, 24, 63]) (q := 127) (r := 36) (by kernel_rfl) ?_
  have hlt : i < 16 := by omega
  obtain ⟨u, hx⟩ : ∃ u, x.l[i]? = some u := ⟨_, List.getElem?_eq_getElem (by rw [x.h]; exact hlt)⟩
  obtain ⟨t, hy⟩ : ∃ t, y.l[i]? = some t := ⟨_, List.getElem?_eq_getElem (by rw [y.h]; exact hlt)⟩
  refine Dw.pure (i := 0) rfl (by kernel_rfl) (Want.none rfl) rfl (ltN rfl) (QP.move rfl rfl) ?_
  refine Dw.pure (i := 1) rfl (by kernel_rfl) (Want.none rfl) rfl (ltN rfl) (QP.indexArr rfl rfl rfl Try.underlying35 z5 (by omega) (by omega)) ?_
  refine Dw.read (i := 2) rfl (by kernel_rfl) (Want.none rfl) rfl (ltN rfl) (QR.load1 rfl rfl g5 (bs_at x hx)) ?_
  refine Dw.pure (i := 3) rfl (by kernel_rfl) (Want.none rfl) rfl (ltN rfl) (QP.move rfl rfl) ?_
  refine Dw.pure (i := 4) rfl (by kernel_rfl) (Want.none rfl) rfl (ltN rfl) (QP.indexArr rfl rfl rfl Try.underlying35 z5 (by omega) (by omega)) ?_
  refine Dw.read (i := 5) rfl (by kernel_rfl) (Want.none rfl) rfl (ltN rfl) (QR.load1 rfl rfl g5 (bs_at y hy)) ?_
  refine Dw.pure (i := 6) rfl (by kernel_rfl) (Want.none rfl) rfl (ltN rfl) (QP.neq rfl rfl rfl) ?_
  refine J.caseD (fun c16 => ?_) (fun c16 => ?_)
  ·skip
   refine Dw.nil (by kernel_rfl) ?_
   refine hk8 _ _ ?_
   refine Run.cond_t rfl ?_
   refine Run.seq fun k9 hk9 => ?_
   refine Run.seq fun k10 hk10 => ?_
   refine Run.regionD (M := [0, 1, 3, 0, 8, 24, 63]) (q := 127) (r := 36) (by kernel_rfl) ?_
   refine Dw.pure (i := 0) rfl (by kernel_rfl) (Want.none rfl) rfl (ltN rfl) (QP.move rfl rfl) ?_
   refine Dw.pure (i := 1) rfl (by kernel_rfl) (Want.none rfl) rfl (ltN rfl) (QP.indexArr rfl rfl rfl Try.underlying35 z5 (by omega) (by omega)) ?_
   refine Dw.read (i := 2) rfl (by kernel_rfl) (Want.none rfl) rfl (ltN rfl) (QR.load1 rfl rfl g5 (bs_at x hx)) ?_
   refine Dw.pure (i := 3) rfl (by kernel_rfl) (Want.none rfl) rfl (ltN rfl) (QP.move rfl rfl) ?_
   refine Dw.pure (i := 4) rfl (by kernel_rfl) (Want.none rfl) rfl (ltN rfl) (QP.indexArr rfl rfl rfl Try.underlying35 z5 (by omega) (by omega)) ?_
   refine Dw.read (i := 5) rfl (by kernel_rfl) (Want.none rfl) rfl (ltN rfl) (QR.load1 rfl rfl g5 (bs_at y hy)) ?_
   refine Dw.pure (i := 6) rfl (by kernel_rfl) (Want.none rfl) rfl (ltN rfl) (QP.lss rfl rfl rfl) ?_
   refine J.caseD (fun c23 => ?_) (fun c23 => ?_)
   ·skip
    refine Dw.nil (by kernel_rfl) ?_
    refine hk10 _ _ ?_
    refine Run.cond_t rfl ?_
    refine Run.seq fun k11 hk11 => ?_
    refine Run.region ?_
    show Sq _ _ _ [0] _ _ _ _
    refine Sq.quiet (i := 0) rfl (Want.none rfl) rfl (ltN rfl) (QP.assign rfl rfl).read ?_
    refine Sq.nil ?_
    refine hk11 _ _ ?_
    refine Run.ret ?_
    exact J.ends (res_tmp rfl rfl) Takes.nil ⟨_, rfl, rfl, by rw [hcmp, cmp_less hx hy (by simpa using c23)]; decide⟩
   ·skip
    refine Dw.nil (by kernel_rfl) ?_
    refine hk10 _ _ ?_
    refine Run.cond_f rfl ?_
    refine Run.skip ?_
    refine hk9 _ _ ?_
    refine Run.seq fun k12 hk12 => ?_
    refine Run.region ?_
    show Sq _ _ _ [0] _ _ _ _
    refine Sq.quiet (i := 0) rfl (Want.none rfl) rfl (ltN rfl) (QP.assign rfl rfl).read ?_
    refine Sq.nil ?_
    refine hk12 _ _ ?_
    refine Run.ret ?_
    exact J.ends (res_tmp rfl rfl) Takes.nil ⟨_, rfl, rfl, by rw [hcmp, cmp_more hx hy (by simpa using c16) (by simpa using c23)]; decide⟩
  ·skip
   refine Dw.nil (by kernel_rfl) ?_
   refine hk8 _ _ ?_
   refine Run.cond_f rfl ?_
   refine Run.skip ?_
   refine hk7 _ _ ?_
   refine Run.region ?_
   show Sq _ _ _ [0, 1, 2] _ _ _ _
   refine Sq.quiet (i := 0) rfl (Want.none rfl) rfl (ltN rfl) (QP.move rfl rfl).read ?_
   refine Sq.quiet (i := 1) rfl (Want.none rfl) rfl (ltN rfl) (QP.add64 rfl rfl rfl (by first | omega | (simp <;> omega)) (by first | omega | (simp <;> omega))).read ?_
   refine Sq.quiet (i := 2) rfl (Want.none rfl) rfl (ltN rfl) (QP.assign rfl rfl).read ?_
   refine Sq.nil ?_
   exact J.envJ (J.keep (.cons (by repeat constructor) (.cons (by repeat constructor) Takes.nil)) (hl4 (i + 1) (⟨by omega, by rw [hcmp]; exact cmp_same hx hy (by simpa using c16)⟩) (by omega))) ⟨rfl, rfl, rfl, trivial⟩
 ·skip
  refine Sq.nil ?_
  refine hk6 _ _ ?_
  refine Run.cond_f rfl ?_
  refine Run.exit rfl ?_
  refine hk2 _ _ ?_
  refine Run.seq fun k13 hk13 => ?_
  refine Run.region ?_
  show Sq _ _ _ [0] _ _ _ _
  refine Sq.quiet (i := 0) rfl (Want.none rfl) rfl (ltN rfl) (QP.assign rfl rfl).read ?_
  refine Sq.nil ?_
  refine hk13 _ _ ?_
  refine Run.ret ?_
  exact J.ends (res_tmp rfl rfl) Takes.nil ⟨_, rfl, rfl, by rw [hcmp, List.drop_eq_nil_of_le (by rw [x.h]; omega), List.drop_eq_nil_of_le (by rw [y.h]; omega)]; decide⟩

theorem cmpPrefix_sign {x y : Prefix} {n : Int} (h1 : 0 < n ↔ 0 < Lib.compareBytes x.a.l y.a.l) (h2 : n < 0 ↔ Lib.compareBytes x.a.l y.a.l < 0) (hn : n ≠ 0) : (0 < n ↔ 0 < cmpPrefix x y) ∧ (n < 0 ↔ cmpPrefix x y < 0) := by
  have : cmpPrefix x y = Lib.compareBytes x.a.l y.a.l := by
    simp only [cmpPrefix, orF]
    rw [if_pos (by omega)]
  rw [this]; exact ⟨h1, h2⟩
theorem cmpPrefix_len {x y : Prefix} {n : Int} (h1 : 0 < n ↔ 0 < Lib.compareBytes x.a.l y.a.l) (h2 : n < 0 ↔ Lib.compareBytes x.a.l y.a.l < 0) (hn : n = 0) : cmpPrefix x y = if x.len.val < y.len.val then -1 else if y.len.val < x.len.val then 1 else 0 := by
  simp only [cmpPrefix, orF, cmpF]
  rw [if_neg (by omega)]
  split
  · rfl
  · split
    · rfl
    · rfl
theorem cmpPair_sign {x y : Pair} {n : Int} (h1 : 0 < n ↔ 0 < cmpPrefix x.dst y.dst) (h2 : n < 0 ↔ cmpPrefix x.dst y.dst < 0) (hn : n ≠ 0) : (0 < n ↔ 0 < cmpPair x y) ∧ (n < 0 ↔ cmpPair x y < 0) := by
  have : cmpPair x y = cmpPrefix x.dst y.dst := by
    simp only [cmpPair, orF]
    rw [if_pos (by omega)]
  rw [this]; exact ⟨h1, h2⟩
theorem cmpPair_src {x y : Pair} {n m : Int} (h1 : 0 < n ↔ 0 < cmpPrefix x.dst y.dst) (h2 : n < 0 ↔ cmpPrefix x.dst y.dst < 0) (hn : n = 0) (h3 : 0 < m ↔ 0 < cmpPrefix x.src y.src) (h4 : m < 0 ↔ cmpPrefix x.src y.src < 0) : (0 < m ↔ 0 < cmpPair x y) ∧ (m < 0 ↔ cmpPair x y < 0) := by
  have : cmpPair x y = cmpPrefix x.src y.src := by
    simp only [cmpPair, orF]
    rw [if_neg (by omega)]
    split
    · rfl
    · rename_i h; simp at h; exact h.symm
  rw [this]; exact ⟨h3, h4⟩

theorem rcmpPrefix_spec (F : Fr) (x y : Prefix) : Spec Try.prog 62 #[.agg (Prefix.enc x).toArray, .agg (Prefix.enc y).toArray] [] F (fun v S => ∃ n : Int, v = .int .i64 n ∧ S = [] ∧ (0 < n ↔ 0 < cmpPrefix x y) ∧ (n < 0 ↔ cmpPrefix x y < 0)) := by
 refine Spec.intro (N := 27) (args := [.agg (Prefix.enc x).toArray, .agg (Prefix.enc y).toArray]) Try.func62 rfl rfl (by simp) ?_
 refine Run.seq fun k1 hk1 => ?_
 refine Run.region ?_
 show Sq _ _ _ [0, 1, 2] _ _ _ _
 refine Sq.eff (i := 0) rfl (Want.none rfl) rfl (ltN rfl) (EF.boxA rfl rfl) ?_
 rintro _ _ ⟨b2, rfl, rfl⟩
 refine Sq.eff (i := 1) rfl (Want.none rfl) rfl (ltN rfl) (EF.boxA rfl rfl) ?_
 rintro _ _ ⟨b3, rfl, rfl⟩
 refine Sq.quiet (i := 2) rfl (Want.none rfl) rfl (ltN rfl) (QP.assign rfl rfl).read ?_
 refine Sq.nil ?_
 refine hk1 _ _ ?_
 refine Run.seq fun k2 hk2 => ?_
 refine Run.region ?_
 show Sq _ _ _ [0, 1, 2, 3, 4, 5] _ _ _ _
 refine Sq.quiet (i := 0) rfl (Want.none rfl) rfl (ltN rfl) (QP.fieldAddr rfl rfl f37_0).read ?_
 refine Sq.quiet (i := 1) rfl (Want.none rfl) rfl (ltN rfl) (QR.load rfl rfl g35 (Prefix.sub_a _)) ?_
 refine Sq.quiet (i := 2) rfl (Want.none rfl) rfl (ltN rfl) (QP.fieldAddr rfl rfl f37_0).read ?_
 refine Sq.quiet (i := 3) rfl (Want.none rfl) rfl (ltN rfl) (QR.load rfl rfl g35 (Prefix.sub_a _)) ?_
 refine Sq.eff (i := 4) rfl (Want.none rfl) rfl (ltN rfl) (EF.call rfl ce70 rfl Takes.nil (fun F' hle hr => rcompare_spec F' x.a y.a)) ?_
 rintro _ _ ⟨_, ⟨n10, rfl, rfl, hp10, hm10⟩, rfl⟩
 refine J.app ?_
 refine Sq.quiet (i := 5) rfl (Want.none rfl) rfl (ltN rfl) (QP.assign rfl rfl).read ?_
 refine Sq.nil ?_
 refine hk2 _ _ ?_
 refine Run.seq fun k3 hk3 => ?_
 refine Run.block ?_
 refine Run.seq fun k4 hk4 => ?_
 refine Run.region ?_
 show Sq _ _ _ [0, 1, 2] _ _ _ _
 refine Sq.quiet (i := 0) rfl (Want.none rfl) rfl (ltN rfl) (QP.move rfl rfl).read ?_
 refine Sq.quiet (i := 1) rfl (Want.none rfl) rfl (ltN rfl) (QP.neq rfl rfl rfl).read ?_
 refine J.caseD (fun c13 => ?_) (fun c13 => ?_)
 ·skip
  refine Sq.quiet (i := 2) rfl (Want.none rfl) rfl (ltN rfl) (QP.assign rfl rfl).read ?_
  refine Sq.nil ?_
  refine hk4 _ _ ?_
  refine Run.cond_t rfl ?_
  refine Run.seq fun k5 hk5 => ?_
  refine Run.region ?_
  show Sq _ _ _ [0, 1] _ _ _ _
  refine Sq.quiet (i := 0) rfl (Want.none rfl) rfl (ltN rfl) (QP.move rfl rfl).read ?_
  refine Sq.quiet (i := 1) rfl (Want.none rfl) rfl (ltN rfl) (QP.assign rfl rfl).read ?_
  refine Sq.nil ?_
  refine hk5 _ _ ?_
  refine Run.ret ?_
  exact J.ends (res_tmp rfl rfl) Takes.nil ⟨_, rfl, rfl, cmpPrefix_sign hp10 hm10 c13⟩
 ·skip
  refine Sq.quiet (i := 2) rfl (Want.none rfl) rfl (ltN rfl) (QP.assign rfl rfl).read ?_
  refine Sq.nil ?_
  refine hk4 _ _ ?_
  refine Run.cond_f rfl ?_
  refine Run.seq fun k6 hk6 => ?_
  refine Run.region ?_
  show Sq _ _ _ [0, 1, 2, 3, 4, 5] _ _ _ _
  refine Sq.quiet (i := 0) rfl (Want.none rfl) rfl (ltN rfl) (QP.fieldAddr rfl rfl f37_1).read ?_
  refine Sq.quiet (i := 1) rfl (Want.none rfl) rfl (ltN rfl) (QR.load1 rfl rfl g3 (Prefix.sub_len _)) ?_
  refine Sq.quiet (i := 2) rfl (Want.none rfl) rfl (ltN rfl) (QP.fieldAddr rfl rfl f37_1).read ?_
  refine Sq.quiet (i := 3) rfl (Want.none rfl) rfl (ltN rfl) (QR.load1 rfl rfl g3 (Prefix.sub_len _)) ?_
  refine Sq.quiet (i := 4) rfl (Want.none rfl) rfl (ltN rfl) (QP.lss rfl rfl rfl).read ?_
  refine J.caseD (fun c20 => ?_) (fun c20 => ?_)
  ·skip
   refine Sq.quiet (i := 5) rfl (Want.none rfl) rfl (ltN rfl) (QP.assign rfl rfl).read ?_
   refine Sq.nil ?_
   refine hk6 _ _ ?_
   refine Run.cond_t rfl ?_
   refine Run.seq fun k7 hk7 => ?_
   refine Run.region ?_
   show Sq _ _ _ [0] _ _ _ _
   refine Sq.quiet (i := 0) rfl (Want.none rfl) rfl (ltN rfl) (QP.assign rfl rfl).read ?_
   refine Sq.nil ?_
   refine hk7 _ _ ?_
   refine Run.ret ?_
   exact J.ends (res_tmp rfl rfl) Takes.nil ⟨_, rfl, rfl, by rw [cmpPrefix_len hp10 hm10 (by omega)]; (repeat (first | rw [if_pos (by assumption)] | rw [if_neg (by assumption)])); decide⟩
  ·skip
   refine Sq.quiet (i := 5) rfl (Want.none rfl) rfl (ltN rfl) (QP.assign rfl rfl).read ?_
   refine Sq.nil ?_
   refine hk6 _ _ ?_
   refine Run.cond_f rfl ?_
   refine Run.seq fun k8 hk8 => ?_
   refine Run.region ?_
   show Sq _ _ _ [0, 1, 2, 3, 4, 5] _ _ _ _
   refine Sq.quiet (i := 0) rfl (Want.none rfl) rfl (ltN rfl) (QP.fieldAddr rfl rfl f37_1).read ?_
   refine Sq.quiet (i := 1) rfl (Want.none rfl) rfl (ltN rfl) (QR.load1 rfl rfl g3 (Prefix.sub_len _)) ?_
   refine Sq.quiet (i := 2) rfl (Want.none rfl) rfl (ltN rfl) (QP.fieldAddr rfl rfl f37_1).read ?_
   refine Sq.quiet (i := 3) rfl (Want.none rfl) rfl (ltN rfl) (QR.load1 rfl rfl g3 (Prefix.sub_len _)) ?_
   refine Sq.quiet (i := 4) rfl (Want.none rfl) rfl (ltN rfl) (QP.gtr rfl rfl rfl).read ?_
   refine J.caseD (fun c26 => ?_) (fun c26 => ?_)
   ·skip
    refine Sq.quiet (i := 5) rfl (Want.none rfl) rfl (ltN rfl) (QP.assign rfl rfl).read ?_
    refine Sq.nil ?_
    refine hk8 _ _ ?_
    refine Run.cond_t rfl ?_
    refine Run.seq fun k9 hk9 => ?_
    refine Run.region ?_
    show Sq _ _ _ [0] _ _ _ _
    refine Sq.quiet (i := 0) rfl (Want.none rfl) rfl (ltN rfl) (QP.assign rfl rfl).read ?_
    refine Sq.nil ?_
    refine hk9 _ _ ?_
    refine Run.ret ?_
    exact J.ends (res_tmp rfl rfl) Takes.nil ⟨_, rfl, rfl, by rw [cmpPrefix_len hp10 hm10 (by omega)]; (repeat (first | rw [if_pos (by assumption)] | rw [if_neg (by assumption)])); decide⟩
   ·skip
    refine Sq.quiet (i := 5) rfl (Want.none rfl) rfl (ltN rfl) (QP.assign rfl rfl).read ?_
    refine Sq.nil ?_
    refine hk8 _ _ ?_
    refine Run.cond_f rfl ?_
    refine Run.skip ?_
    refine hk3 _ _ ?_
    refine Run.seq fun k10 hk10 => ?_
    refine Run.region ?_
    show Sq _ _ _ [0] _ _ _ _
    refine Sq.quiet (i := 0) rfl (Want.none rfl) rfl (ltN rfl) (QP.assign rfl rfl).read ?_
    refine Sq.nil ?_
    refine hk10 _ _ ?_
    refine Run.ret ?_
    exact J.ends (res_tmp rfl rfl) Takes.nil ⟨_, rfl, rfl, by rw [cmpPrefix_len hp10 hm10 (by omega)]; (repeat (first | rw [if_pos (by assumption)] | rw [if_neg (by assumption)])); decide⟩

theorem rcmpPair_spec (F : Fr) (x y : Pair) : Spec Try.prog 48 #[.agg (Pair.enc x).toArray, .agg (Pair.enc y).toArray] [] F (fun v S => ∃ n : Int, v = .int .i64 n ∧ S = [] ∧ (0 < n ↔ 0 < cmpPair x y) ∧ (n < 0 ↔ cmpPair x y < 0)) := by
 refine Spec.intro (N := 19) (args := [.agg (Pair.enc x).toArray, .agg (Pair.enc y).toArray]) Try.func48 rfl rfl (by simp) ?_
 refine Run.seq fun k1 hk1 => ?_
 refine Run.region ?_
 show Sq _ _ _ [0, 1, 2] _ _ _ _
 refine Sq.eff (i := 0) rfl (Want.none rfl) rfl (ltN rfl) (EF.boxA rfl rfl) ?_
 rintro _ _ ⟨b2, rfl, rfl⟩
 refine Sq.eff (i := 1) rfl (Want.none rfl) rfl (ltN rfl) (EF.boxA rfl rfl) ?_
 rintro _ _ ⟨b3, rfl, rfl⟩
 refine Sq.quiet (i := 2) rfl (Want.none rfl) rfl (ltN rfl) (QP.assign rfl rfl).read ?_
 refine Sq.nil ?_
 refine hk1 _ _ ?_
 refine Run.seq fun k2 hk2 => ?_
 refine Run.region ?_
 show Sq _ _ _ [0, 1, 2, 3, 4, 5] _ _ _ _
 refine Sq.quiet (i := 0) rfl (Want.none rfl) rfl (ltN rfl) (QP.fieldAddr rfl rfl f39_0).read ?_
 refine Sq.quiet (i := 1) rfl (Want.none rfl) rfl (ltN rfl) (QR.load rfl rfl g37 (Pair.sub_dst _)) ?_
 refine Sq.quiet (i := 2) rfl (Want.none rfl) rfl (ltN rfl) (QP.fieldAddr rfl rfl f39_0).read ?_
 refine Sq.quiet (i := 3) rfl (Want.none rfl) rfl (ltN rfl) (QR.load rfl rfl g37 (Pair.sub_dst _)) ?_
 refine Sq.eff (i := 4) rfl (Want.none rfl) rfl (ltN rfl) (EF.call rfl ce62 rfl Takes.nil (fun F' hle hr => rcmpPrefix_spec F' x.dst y.dst)) ?_
 rintro _ _ ⟨_, ⟨n10, rfl, rfl, hp10, hm10⟩, rfl⟩
 refine J.app ?_
 refine Sq.quiet (i := 5) rfl (Want.none rfl) rfl (ltN rfl) (QP.assign rfl rfl).read ?_
 refine Sq.nil ?_
 refine hk2 _ _ ?_
 refine Run.seq fun k3 hk3 => ?_
 refine Run.seq fun k4 hk4 => ?_
 refine Run.region ?_
 show Sq _ _ _ [0, 1] _ _ _ _
 refine Sq.quiet (i := 0) rfl (Want.none rfl) rfl (ltN rfl) (QP.move rfl rfl).read ?_
 refine Sq.quiet (i := 1) rfl (Want.none rfl) rfl (ltN rfl) (QP.neq rfl rfl rfl).read ?_
 refine J.caseD (fun c12 => ?_) (fun c12 => ?_)
 ·skip
  refine Sq.nil ?_
  refine hk4 _ _ ?_
  refine Run.cond_t rfl ?_
  refine Run.seq fun k5 hk5 => ?_
  refine Run.region ?_
  show Sq _ _ _ [0, 1] _ _ _ _
  refine Sq.quiet (i := 0) rfl (Want.none rfl) rfl (ltN rfl) (QP.move rfl rfl).read ?_
  refine Sq.quiet (i := 1) rfl (Want.none rfl) rfl (ltN rfl) (QP.assign rfl rfl).read ?_
  refine Sq.nil ?_
  refine hk5 _ _ ?_
  refine Run.ret ?_
  exact J.ends (res_tmp rfl rfl) Takes.nil ⟨_, rfl, rfl, cmpPair_sign hp10 hm10 c12⟩
 ·skip
  refine Sq.nil ?_
  refine hk4 _ _ ?_
  refine Run.cond_f rfl ?_
  refine Run.skip ?_
  refine hk3 _ _ ?_
  refine Run.seq fun k6 hk6 => ?_
  refine Run.region ?_
  show Sq _ _ _ [0, 1, 2, 3, 4, 5] _ _ _ _
  refine Sq.quiet (i := 0) rfl (Want.none rfl) rfl (ltN rfl) (QP.fieldAddr rfl rfl f39_1).read ?_
  refine Sq.quiet (i := 1) rfl (Want.none rfl) rfl (ltN rfl) (QR.load rfl rfl g37 (Pair.sub_src _)) ?_
  refine Sq.quiet (i := 2) rfl (Want.none rfl) rfl (ltN rfl) (QP.fieldAddr rfl rfl f39_1).read ?_
  refine Sq.quiet (i := 3) rfl (Want.none rfl) rfl (ltN rfl) (QR.load rfl rfl g37 (Pair.sub_src _)) ?_
  refine Sq.eff (i := 4) rfl (Want.none rfl) rfl (ltN rfl) (EF.call rfl ce62 rfl Takes.nil (fun F' hle hr => rcmpPrefix_spec F' x.src y.src)) ?_
  rintro _ _ ⟨_, ⟨n18, rfl, rfl, hp18, hm18⟩, rfl⟩
  refine J.app ?_
  refine Sq.quiet (i := 5) rfl (Want.none rfl) rfl (ltN rfl) (QP.assign rfl rfl).read ?_
  refine Sq.nil ?_
  refine hk6 _ _ ?_
  refine Run.ret ?_
  exact J.ends (res_tmp rfl rfl) Takes.nil ⟨_, rfl, rfl, cmpPair_src hp10 hm10 (by omega) hp18 hm18⟩

theorem before_all {L : List Entry} (hs : L.Pairwise fun a b => cmpE a b < 0) {j : Nat} {x nw : Entry} (h0 : 0 < j) (hi : L[Int.toNat ((j : Int) - 1)]? = some x) (hx : ¬ 0 < cmpE x nw) (hne : Entry.pair x ≠ Entry.pair nw) : ∀ y ∈ L.take j, cmpE y nw < 0 := by
  have hxn : cmpE x nw < 0 := by
    have h1 : cmpE x nw ≠ 0 := fun h => hne ((keyCmpE.zero _ _).1 h)
    omega
  have hj : Int.toNat ((j : Int) - 1) = j - 1 := by omega
  rw [hj] at hi
  have hlt : j - 1 < L.length := (List.getElem?_eq_some_iff.1 hi).1
  have hL : L.take j = L.take (j - 1) ++ [x] := by
    have h1 : L.take (j - 1 + 1) = _ := List.take_add_one (l := L) (i := j - 1)
    rw [show j - 1 + 1 = j by omega, hi] at h1
    exact h1
  intro y hy
  have hs2 := hs.sublist (List.take_sublist j L)
  rw [hL] at hy hs2
  rcases List.mem_append.1 hy with hy | hy
  · rw [List.pairwise_append] at hs2
    exact keyCmpE.tr _ _ _ (hs2.2.2 y hy x (by simp)) hxn
  · simp at hy; subst hy; exact hxn
theorem behind_more {L : List Entry} {j : Nat} {x nw : Entry} (h0 : 0 < j) (hi : L[Int.toNat ((j : Int) - 1)]? = some x) (hx : 0 < cmpE x nw) (h : ∀ y ∈ L.drop j, 0 < cmpE y nw) : ∀ y ∈ L.drop (j - 1), 0 < cmpE y nw := by
  have hj : Int.toNat ((j : Int) - 1) = j - 1 := by omega
  rw [hj] at hi
  have hlt : j - 1 < L.length := (List.getElem?_eq_some_iff.1 hi).1
  intro y hy
  rw [List.drop_eq_getElem_cons hlt, show j - 1 + 1 = j by omega] at hy
  rcases List.mem_cons.1 hy with rfl | hy
  · have : L[j - 1] = x := (List.getElem?_eq_some_iff.1 hi).2
    rw [this]; exact hx
  · exact h y hy
theorem cut_all {L : List Entry} {j : Nat} (n : Entry) : (([] ++ (L.take j).drop 0) ++ [n]) ++ (L.take L.length).drop j = L.take j ++ n :: L.drop j := by simp

/-- What a list in order becomes where an entry is put into it. -/
def RPut (L : List Entry) (e : Entry) (L' : List Entry) : Prop := (∃ i x, L[i]? = some x ∧ x.pair = e.pair ∧ L' = L.set i e) ∨ ((∀ x ∈ L, x.pair ≠ e.pair) ∧ ∃ j, j ≤ L.length ∧ (∀ x ∈ L.take j, cmpE x e < 0) ∧ (∀ x ∈ L.drop j, 0 < cmpE x e) ∧ L' = L.take j ++ e :: L.drop j)
theorem RPut.ord {M : TabE} {L L' : List Entry} {e : Entry} (h : OrdE M L) (hp : RPut L e L') : OrdE (aset M e.pair e) L' := by
  rcases hp with ⟨i, x, h1, h2, rfl⟩ | ⟨h1, j, h2, h3, h4, rfl⟩
  · exact h.set keyCmpE rfl h1 h2
  · exact h.ins rfl (h.look_none.2 h1) h3 (fun x hx => (keyCmpE.neg _ _).2 (h4 x hx))

theorem put_spec (F : Fr) {a : Option Addr} {c : Nat} {L : List Entry} (hh : SlH a c L) (hL : L.length ≤ 1000000) (hs : L.Pairwise fun a b => cmpE a b < 0) (e : Entry) : Spec Try.prog 30 #[.slice a L.length c, .agg (Entry.enc e).toArray] [slA 41 51 Entry.enc (.slice a L.length c) L] F (fun v S => ∃ L', RPut L e L' ∧ S = [slA 41 51 Entry.enc v L']) := by
 refine Spec.intro (N := 51) (args := [.slice a L.length c, .agg (Entry.enc e).toArray]) Try.func30 rfl rfl (by simp) ?_
 refine Run.seq fun k1 hk1 => ?_
 refine Run.region ?_
 show Sq _ _ _ [0, 1] _ _ _ _
 refine Sq.eff (i := 0) rfl (Want.none rfl) rfl (ltN rfl) (EF.boxA rfl rfl) ?_
 rintro _ _ ⟨b3, rfl, rfl⟩
 refine Sq.quiet (i := 1) rfl (Want.none rfl) rfl (ltN rfl) (QP.assign rfl rfl).read ?_
 refine Sq.nil ?_
 refine hk1 _ _ ?_
 refine Run.seq fun k2 hk2 => ?_
 refine Run.region ?_
 show Sq _ _ _ [0, 1, 2, 3] _ _ _ _
 refine Sq.eff (i := 0) rfl (Want.none rfl) rfl (ltN rfl) (EF.buildSlice0 (enc := Entry.enc) rfl Try.underlying22 z41 zero41 (by simp [Value.cells, Entry.enc_len]) (by decide)) ?_
 rintro _ _ ⟨b7, rfl, rfl⟩
 refine Sq.quiet (i := 1) rfl (Want.none rfl) rfl (ltN rfl) (QP.move rfl rfl).read ?_
 refine Sq.eff (i := 2) rfl (Want.none rfl) rfl (ltN rfl) (EF.append (xs := []) (ys := L) el41 Entry.enc_len Entry.enc_cell rfl rfl rfl Try.underlying22 Try.underlying22 rfl rfl (by repeat constructor) (RowsAt.ownH Entry.enc_len hh (by repeat constructor)) (by first | omega | (simp <;> omega))) ?_
 rintro sl9 _ rfl
 refine Sq.slCase (v := sl9) (xs := [] ++ L) (by repeat constructor) (fun a9 c9 hv9 hh9 => ?_)
 subst hv9
 rw [List.nil_append] at hh9 ⊢
 have hcle9 := hh9.le
 refine Sq.quiet (i := 3) rfl (Want.none rfl) rfl (ltN rfl) (QP.assign rfl rfl).read ?_
 refine Sq.nil ?_
 refine hk2 _ _ ?_
 refine Run.seq fun k3 hk3 => ?_
 refine Run.region ?_
 show Sq _ _ _ [0, 1, 2, 3, 4] _ _ _ _
 refine Sq.quiet (i := 0) rfl (Want.none rfl) rfl (ltN rfl) (QP.move rfl rfl).read ?_
 refine Sq.quiet (i := 1) rfl (Want.none rfl) rfl (ltN rfl) (QP.fieldAddr rfl rfl f41_0).read ?_
 refine Sq.quiet (i := 2) rfl (Want.none rfl) rfl (ltN rfl) (QR.load rfl rfl g39 (Entry.sub_pair _)) ?_
 refine Sq.eff (i := 3) rfl (Want.none rfl) rfl (ltN rfl) (EF.call rfl ce29 rfl (.cons (by repeat constructor) Takes.nil) (fun F' hle hr => find_spec F' hL hh9 e.pair)) ?_
 rintro _ _ ⟨_, ⟨rfl, n13, rfl, hfind⟩, rfl⟩
 refine J.app ?_
 refine Sq.quiet (i := 4) rfl (Want.none rfl) rfl (ltN rfl) (QP.assign rfl rfl).read ?_
 refine Sq.nil ?_
 refine hk3 _ _ ?_
 refine Run.seq fun k4 hk4 => ?_
 refine Run.seq fun k5 hk5 => ?_
 refine Run.region ?_
 show Sq _ _ _ [0, 1] _ _ _ _
 refine Sq.quiet (i := 0) rfl (Want.none rfl) rfl (ltN rfl) (QP.move rfl rfl).read ?_
 refine Sq.quiet (i := 1) rfl (Want.none rfl) rfl (ltN rfl) (QP.geq rfl rfl rfl).read ?_
 refine J.caseD (fun c15 => ?_) (fun c15 => ?_)
 ·skip
  refine Sq.nil ?_
  refine hk5 _ _ ?_
  refine Run.cond_t rfl ?_
  refine Run.seq fun k6 hk6 => ?_
  refine Run.region ?_
  show Sq _ _ _ [0, 1, 2, 3, 4] _ _ _ _
  obtain ⟨i, x, rfl, hi, hkx⟩ : ∃ (i : Nat) (x : Entry), n13 = (i : Int) ∧ L[i]? = some x ∧ x.pair = e.pair := by
    rcases hfind with ⟨h1, _⟩ | ⟨i, x, h1, h2, h3⟩
    · omega
    · exact ⟨i, x, h1, h2, h3⟩
  have hlt : i < L.length := (List.getElem?_eq_some_iff.1 hi).1
  obtain ⟨b0, o0, rfl⟩ := hh9.get (by omega)
  refine Sq.quiet (i := 0) rfl (Want.none rfl) rfl (ltN rfl) (QP.move rfl rfl).read ?_
  refine Sq.quiet (i := 1) rfl (Want.none rfl) rfl (ltN rfl) (QP.move rfl rfl).read ?_
  refine Sq.quiet (i := 2) rfl (Want.none rfl) rfl (ltN rfl) (QR.load rfl rfl g41 (Entry.enc_sub _)) ?_
  refine Sq.quiet (i := 3) rfl (Want.none rfl) rfl (ltN rfl) (QP.indexAddr rfl rfl rfl Try.underlying22 z41 (by first | omega | (simp <;> omega)) (by first | omega | (simp <;> omega))).read ?_
  refine Sq.act (i := 4) rfl (Want.none rfl) rfl (EF.storeSl (enc := Entry.enc) (s := e) rfl rfl rfl z41 (by repeat constructor) Entry.enc_len Entry.enc_cell (by first | omega | (simp <;> omega))) ?_
  rintro _ _ rfl
  refine Sq.nil ?_
  refine hk6 _ _ ?_
  refine Run.seq fun k7 hk7 => ?_
  refine Run.region ?_
  show Sq _ _ _ [0, 1] _ _ _ _
  refine Sq.quiet (i := 0) rfl (Want.none rfl) rfl (ltN rfl) (QP.move rfl rfl).read ?_
  refine Sq.quiet (i := 1) rfl (Want.none rfl) rfl (ltN rfl) (QP.assign rfl rfl).read ?_
  refine Sq.nil ?_
  refine hk7 _ _ ?_
  refine Run.ret ?_
  exact J.ends (res_tmp rfl rfl) (.cons (by repeat constructor) Takes.nil) ⟨_, .inl ⟨i, x, hi, hkx, rfl⟩, rfl⟩
 ·skip
  refine Sq.nil ?_
  refine hk5 _ _ ?_
  refine Run.cond_f rfl ?_
  refine Run.skip ?_
  refine hk4 _ _ ?_
  refine Run.seq fun k8 hk8 => ?_
  refine Run.region ?_
  show Sq _ _ _ [0, 1, 2] _ _ _ _
  have hno : ∀ x ∈ L, x.pair ≠ e.pair := by
    rcases hfind with ⟨_, h1⟩ | ⟨i, x, h1, _, _⟩
    · exact h1
    · omega
  refine Sq.quiet (i := 0) rfl (Want.none rfl) rfl (ltN rfl) (QP.move rfl rfl).read ?_
  refine Sq.quiet (i := 1) rfl (Want.none rfl) rfl (ltN rfl) (QP.len rfl rfl rfl Try.underlying22).read ?_
  refine Sq.quiet (i := 2) rfl (Want.none rfl) rfl (ltN rfl) (QP.assign rfl rfl).read ?_
  refine Sq.nil ?_
  refine hk8 _ _ ?_
  refine Run.seq fun k9 hk9 => ?_
  refine Run.block ?_
  refine Run.loop1 (fun (j : Nat) => j ≤ L.length ∧ ∀ x ∈ L.drop j, 0 < cmpE x e) (fun j => .cons 0 (.slice a9 L.length c9) (.cons 3 (.pointer (some ⟨b3, 0, none⟩)) (.cons 6 (.int .i64 j) (.nil)))) (fun j => [slA 41 51 Entry.enc (.slice a9 L.length c9) L, blk b3 (Entry.enc e) 41]) (fun j => j) (L.length) (⟨Nat.le_refl _, by simp⟩) ?_ ?_
  ·exact fun _ j => J.envJ (J.keep (.cons (by repeat constructor) (.cons (by repeat constructor) Takes.nil)) j) ⟨rfl, rfl, rfl, trivial⟩
  rintro j ⟨hjl, haft⟩ kl10 hl10
  refine Run.seq fun k11 hk11 => ?_
  refine Run.seq fun k12 hk12 => ?_
  refine Run.regionD (M := [0, 1, 3, 7, 7, 23, 63, 127, 255, 7, 519, 2047, 4095, 8191]) (q := 14335) (r := 1280) (by kernel_rfl) ?_
  refine Dw.pure (i := 0) rfl (by kernel_rfl) (Want.none rfl) rfl (ltN rfl) (QP.move rfl rfl) ?_
  refine Dw.pure (i := 1) rfl (by kernel_rfl) (Want.none rfl) rfl (ltN rfl) (QP.gtr rfl rfl rfl) ?_
  refine J.caseD (fun c24 => ?_) (fun c24 => ?_)
  ·skip
   refine Dw.pure (i := 2) rfl (by kernel_rfl) (Want.none rfl) rfl (ltN rfl) (QP.move rfl rfl) ?_
   obtain ⟨x, hi⟩ : ∃ x, L[Int.toNat ((j : Int) - 1)]? = some x := ⟨_, List.getElem?_eq_getElem (by omega)⟩
   obtain ⟨b0, o0, rfl⟩ := hh9.get (by omega)
   refine Dw.pure (i := 3) rfl (by kernel_rfl) (Want.yes rfl rfl rfl rfl) rfl (ltN rfl) (QP.move rfl rfl) ?_
   refine Dw.pure (i := 4) rfl (by kernel_rfl) (Want.yes rfl rfl rfl rfl) rfl (ltN rfl) (QP.move rfl rfl) ?_
   refine Dw.pure (i := 5) rfl (by kernel_rfl) (Want.yes rfl rfl rfl rfl) rfl (ltN rfl) (QP.sub64 rfl rfl rfl (by first | omega | (simp <;> omega)) (by first | omega | (simp <;> omega))) ?_
   refine Dw.pure (i := 6) rfl (by kernel_rfl) (Want.yes rfl rfl rfl rfl) rfl (ltN rfl) (QP.indexAddr rfl rfl rfl Try.underlying22 z41 (by first | omega | (simp <;> omega)) (by first | omega | (simp <;> omega))) ?_
   refine Dw.pure (i := 7) rfl (by kernel_rfl) (Want.yes rfl rfl rfl rfl) rfl (ltN rfl) (QP.fieldAddr rfl rfl f41_0) ?_
   refine Dw.read (i := 8) rfl (by kernel_rfl) (Want.yes rfl rfl rfl rfl) rfl (ltN rfl) (QR.loadSlF rfl rfl g39 Entry.enc_len (SlAt.own Entry.enc_len (by repeat constructor)) hi (Entry.sub_pair _)) ?_
   refine Dw.pure (i := 9) rfl (by kernel_rfl) (Want.yes rfl rfl rfl rfl) rfl (ltN rfl) (QP.fieldAddr rfl rfl f41_0) ?_
   refine Dw.read (i := 10) rfl (by kernel_rfl) (Want.yes rfl rfl rfl rfl) rfl (ltN rfl) (QR.load rfl rfl g39 (Entry.sub_pair _)) ?_
   refine Dw.eff (i := 11) (by kernel_rfl) (by kernel_rfl) ?_
   refine One.mk (o := _) (l := []) rfl (by kernel_rfl) (Want.yes rfl rfl rfl rfl) rfl (ltN rfl) (EF.call rfl ce48 rfl Takes.nil (fun F' hle hr => rcmpPair_spec F' x.pair e.pair)) (by kernel_rfl) ?_
   rintro _ _ ⟨_, ⟨n34, rfl, rfl, hp34, hm34⟩, rfl⟩
   refine ⟨fun _ h => (by cases h), ?_⟩
   refine J.app ?_
   refine Dw.pure (i := 12) rfl (by kernel_rfl) (Want.yes rfl rfl rfl rfl) rfl (ltN rfl) (QP.gtr rfl rfl rfl) ?_
   refine J.caseD (fun c35 => ?_) (fun c35 => ?_)
   ·skip
    refine Dw.pure (i := 13) rfl (by kernel_rfl) (Want.none rfl) rfl (ltN rfl) (QP.pick_t rfl rfl rfl) ?_
    refine Dw.nil (by kernel_rfl) ?_
    refine hk12 _ _ ?_
    refine Run.cond_t rfl ?_
    refine Run.skip ?_
    refine hk11 _ _ ?_
    refine Run.block ?_
    refine Run.region ?_
    show Sq _ _ _ [0, 1, 2] _ _ _ _
    refine Sq.quiet (i := 0) rfl (Want.none rfl) rfl (ltN rfl) (QP.move rfl rfl).read ?_
    refine Sq.quiet (i := 1) rfl (Want.none rfl) rfl (ltN rfl) (QP.sub64 rfl rfl rfl (by first | omega | (simp <;> omega)) (by first | omega | (simp <;> omega))).read ?_
    refine Sq.quiet (i := 2) rfl (Want.none rfl) rfl (ltN rfl) (QP.assign rfl rfl).read ?_
    refine Sq.nil ?_
    exact J.envJ (J.keep (.cons (by repeat constructor) (.cons (by repeat constructor) Takes.nil)) (hl10 (j - 1) (⟨by omega, behind_more (by omega) hi (hp34.1 c35) haft⟩) (by omega))) ⟨rfl, rfl, (congrArg (fun n => some (Value.int .i64 n)) (show _ = _ by omega)), trivial⟩
   ·skip
    refine Dw.pure (i := 13) rfl (by kernel_rfl) (Want.none rfl) rfl (ltN rfl) (QP.pick_t rfl rfl rfl) ?_
    refine Dw.nil (by kernel_rfl) ?_
    refine hk12 _ _ ?_
    refine Run.cond_f rfl ?_
    refine Run.exit rfl ?_
    refine hk9 _ _ ?_
    refine Run.seq fun k13 hk13 => ?_
    refine Run.regionD (M := [0, 0, 0, 6, 15, 0, 32, 127, 0, 0, 768, 2047, 4095]) (q := 1838) (r := 32) (by kernel_rfl) ?_
    refine Dw.pure (i := 1) rfl (by kernel_rfl) (Want.none rfl) rfl (ltN rfl) (QP.move rfl rfl) ?_
    refine Dw.pure (i := 2) rfl (by kernel_rfl) (Want.none rfl) rfl (ltN rfl) (QP.move rfl rfl) ?_
    refine Dw.pure (i := 3) rfl (by kernel_rfl) (Want.none rfl) rfl (ltN rfl) (QP.sliceHi rfl rfl rfl Try.underlying22 z41 (by first | omega | (simp <;> omega)) (by first | omega | (simp <;> omega))) ?_
    refine Dw.read (i := 5) rfl (by kernel_rfl) (Want.none rfl) rfl (ltN rfl) (QR.load rfl rfl g41 (Entry.enc_sub _)) ?_
    refine Dw.pure (i := 8) rfl (by kernel_rfl) (Want.none rfl) rfl (ltN rfl) (QP.move rfl rfl) ?_
    refine Dw.pure (i := 9) rfl (by kernel_rfl) (Want.none rfl) rfl (ltN rfl) (QP.move rfl rfl) ?_
    refine Dw.pure (i := 10) rfl (by kernel_rfl) (Want.none rfl) rfl (ltN rfl) (QP.sliceLo rfl rfl rfl Try.underlying22 z41 (by first | omega | (simp <;> omega)) (by first | omega | (simp <;> omega))) ?_
    refine Dw.effs (l := [0, 6]) (by kernel_rfl) (by kernel_rfl) ?_
    rw [List.forall_mem_cons, List.forall_mem_cons]
    refine ⟨?_, ?_, fun _ h => (by cases h)⟩
    ·skip
     have hbef : ∀ y ∈ L.take j, cmpE y e < 0 := before_all hs (by omega) hi (fun hc => c35 (hp34.2 hc)) (fun hc => hno x (List.mem_of_getElem? hi) hc)
     refine One.mk (o := _) (l := [5]) rfl (by kernel_rfl) (Want.none rfl) rfl (ltN rfl) (EF.buildSlice0 (enc := Entry.enc) rfl Try.underlying22 z41 zero41 (by simp [Value.cells, Entry.enc_len]) (by decide)) (by kernel_rfl) ?_
     rintro _ _ ⟨b39, rfl, rfl⟩
     refine ⟨?_, ?_⟩
     ·rw [List.forall_mem_cons]
      refine ⟨?_, fun _ h => (by cases h)⟩
      ·exact Look.mk rfl rfl rfl (QR.load rfl rfl g41 (Entry.enc_sub _))
     refine ?_
     refine Dw.effs (l := [4, 6]) (by kernel_rfl) (by kernel_rfl) ?_
     rw [List.forall_mem_cons, List.forall_mem_cons]
     refine ⟨?_, ?_, fun _ h => (by cases h)⟩
     ·skip
      refine One.mk (o := _) (l := [5]) rfl (by kernel_rfl) (Want.none rfl) rfl (ltN rfl) (EF.append (xs := []) (ys := ((L.take j).drop 0)) el41 Entry.enc_len Entry.enc_cell rfl rfl rfl Try.underlying22 Try.underlying22 rfl rfl (by repeat constructor) (RowsAt.cutOwn (i := 0) (j := j) Entry.enc_len hh9 (by repeat constructor) (by omega) (by omega)) (by first | omega | (simp <;> omega))) (by kernel_rfl) ?_
      rintro sl43 _ rfl
      refine ⟨?_, ?_⟩
      ·rw [List.forall_mem_cons]
       refine ⟨?_, fun _ h => (by cases h)⟩
       ·exact Look.mk rfl rfl rfl (QR.load rfl rfl g41 (Entry.enc_sub _))
      refine ?_
      refine Dw.slCase (v := sl43) (xs := _) (by repeat constructor) (fun a43 c43 hv43 hh43 => ?_)
      subst hv43
      refine Dw.eff (i := 6) (by kernel_rfl) (by kernel_rfl) ?_
      refine One.mk (o := _) (l := []) rfl (by kernel_rfl) (Want.none rfl) rfl (ltN rfl) (EF.buildSlice1 rfl Try.underlying22 z41 zero41 (by simp [Value.cells, Entry.enc_len]) (by decide) rfl rfl (Entry.enc_len _) (by decide)) (by kernel_rfl) ?_
      rintro _ _ ⟨b45, rfl, rfl⟩
      refine ⟨fun _ h => (by cases h), ?_⟩
      refine Dw.eff (i := 7) (by kernel_rfl) (by kernel_rfl) ?_
      refine One.mk (o := _) (l := []) rfl (by kernel_rfl) (Want.none rfl) rfl (ltN rfl) (EF.append1 (xs := _) (s := e) el41 Entry.enc_len Entry.enc_cell rfl rfl rfl Try.underlying22 Try.underlying22 rfl rfl (by repeat constructor) (by repeat constructor) (by first | omega | (simp <;> omega))) (by kernel_rfl) ?_
      rintro sl46 _ rfl
      refine ⟨fun _ h => (by cases h), ?_⟩
      refine Dw.eff (i := 11) (by kernel_rfl) (by kernel_rfl) ?_
      refine One.mk (o := _) (l := []) rfl (by kernel_rfl) (Want.none rfl) rfl (ltN rfl) (EF.append (xs := _) (ys := ((L.take L.length).drop j)) el41 Entry.enc_len Entry.enc_cell rfl rfl rfl Try.underlying22 Try.underlying22 rfl rfl (by repeat constructor) (RowsAt.cutOwn (i := j) (j := L.length) Entry.enc_len hh9 (by repeat constructor) (by omega) (by omega)) (by first | omega | (simp <;> omega))) (by kernel_rfl) ?_
      rintro sl50 _ rfl
      refine ⟨fun _ h => (by cases h), ?_⟩
      refine Dw.eff (i := 12) (by kernel_rfl) (by kernel_rfl) ?_
      refine One.mk (o := _) (l := []) rfl (by kernel_rfl) (Want.none rfl) rfl (ltN rfl) ((QP.assign rfl rfl).eff) (by kernel_rfl) ?_
      rintro sl50 _ ⟨rfl, rfl⟩
      refine ⟨fun _ h => (by cases h), ?_⟩
      refine Dw.nil (by kernel_rfl) ?_
      refine hk13 _ _ ?_
      refine Run.ret ?_
      exact J.ends (res_tmp rfl rfl) (.cons (by repeat constructor) Takes.nil) ⟨_, .inr ⟨hno, j, hjl, hbef, haft, cut_all e⟩, rfl⟩
     ·skip
      refine One.mk (o := _) (l := []) rfl (by kernel_rfl) (Want.none rfl) rfl (ltN rfl) (EF.buildSlice1 rfl Try.underlying22 z41 zero41 (by simp [Value.cells, Entry.enc_len]) (by decide) rfl rfl (Entry.enc_len _) (by decide)) (by kernel_rfl) ?_
      rintro _ _ ⟨b45, rfl, rfl⟩
      refine ⟨fun _ h => (by cases h), ?_⟩
      refine Dw.eff (i := 4) (by kernel_rfl) (by kernel_rfl) ?_
      refine One.mk (o := _) (l := [5]) rfl (by kernel_rfl) (Want.none rfl) rfl (ltN rfl) (EF.append (xs := []) (ys := ((L.take j).drop 0)) el41 Entry.enc_len Entry.enc_cell rfl rfl rfl Try.underlying22 Try.underlying22 rfl rfl (by repeat constructor) (RowsAt.cutOwn (i := 0) (j := j) Entry.enc_len hh9 (by repeat constructor) (by omega) (by omega)) (by first | omega | (simp <;> omega))) (by kernel_rfl) ?_
      rintro sl43 _ rfl
      refine ⟨?_, ?_⟩
      ·rw [List.forall_mem_cons]
       refine ⟨?_, fun _ h => (by cases h)⟩
       ·exact Look.mk rfl rfl rfl (QR.load rfl rfl g41 (Entry.enc_sub _))
      refine ?_
      refine Dw.slCase (v := sl43) (xs := _) (by repeat constructor) (fun a43 c43 hv43 hh43 => ?_)
      subst hv43
      refine Dw.eff (i := 7) (by kernel_rfl) (by kernel_rfl) ?_
      refine One.mk (o := _) (l := []) rfl (by kernel_rfl) (Want.none rfl) rfl (ltN rfl) (EF.append1 (xs := _) (s := e) el41 Entry.enc_len Entry.enc_cell rfl rfl rfl Try.underlying22 Try.underlying22 rfl rfl (by repeat constructor) (by repeat constructor) (by first | omega | (simp <;> omega))) (by kernel_rfl) ?_
      rintro sl46 _ rfl
      refine ⟨fun _ h => (by cases h), ?_⟩
      refine Dw.eff (i := 11) (by kernel_rfl) (by kernel_rfl) ?_
      refine One.mk (o := _) (l := []) rfl (by kernel_rfl) (Want.none rfl) rfl (ltN rfl) (EF.append (xs := _) (ys := ((L.take L.length).drop j)) el41 Entry.enc_len Entry.enc_cell rfl rfl rfl Try.underlying22 Try.underlying22 rfl rfl (by repeat constructor) (RowsAt.cutOwn (i := j) (j := L.length) Entry.enc_len hh9 (by repeat constructor) (by omega) (by omega)) (by first | omega | (simp <;> omega))) (by kernel_rfl) ?_
      rintro sl50 _ rfl
      refine ⟨fun _ h => (by cases h), ?_⟩
      refine Dw.eff (i := 12) (by kernel_rfl) (by kernel_rfl) ?_
      refine One.mk (o := _) (l := []) rfl (by kernel_rfl) (Want.none rfl) rfl (ltN rfl) ((QP.assign rfl rfl).eff) (by kernel_rfl) ?_
      rintro sl50 _ ⟨rfl, rfl⟩
      refine ⟨fun _ h => (by cases h), ?_⟩
      refine Dw.nil (by kernel_rfl) ?_
      refine hk13 _ _ ?_
      refine Run.ret ?_
      exact J.ends (res_tmp rfl rfl) (.cons (by repeat constructor) Takes.nil) ⟨_, .inr ⟨hno, j, hjl, hbef, haft, cut_all e⟩, rfl⟩
    ·skip
     refine One.mk (o := _) (l := []) rfl (by kernel_rfl) (Want.none rfl) rfl (ltN rfl) (EF.buildSlice1 rfl Try.underlying22 z41 zero41 (by simp [Value.cells, Entry.enc_len]) (by decide) rfl rfl (Entry.enc_len _) (by decide)) (by kernel_rfl) ?_
     rintro _ _ ⟨b45, rfl, rfl⟩
     refine ⟨fun _ h => (by cases h), ?_⟩
     refine Dw.eff (i := 0) (by kernel_rfl) (by kernel_rfl) ?_
     have hbef : ∀ y ∈ L.take j, cmpE y e < 0 := before_all hs (by omega) hi (fun hc => c35 (hp34.2 hc)) (fun hc => hno x (List.mem_of_getElem? hi) hc)
     refine One.mk (o := _) (l := [5]) rfl (by kernel_rfl) (Want.none rfl) rfl (ltN rfl) (EF.buildSlice0 (enc := Entry.enc) rfl Try.underlying22 z41 zero41 (by simp [Value.cells, Entry.enc_len]) (by decide)) (by kernel_rfl) ?_
     rintro _ _ ⟨b39, rfl, rfl⟩
     refine ⟨?_, ?_⟩
     ·rw [List.forall_mem_cons]
      refine ⟨?_, fun _ h => (by cases h)⟩
      ·exact Look.mk rfl rfl rfl (QR.load rfl rfl g41 (Entry.enc_sub _))
     refine ?_
     refine Dw.eff (i := 4) (by kernel_rfl) (by kernel_rfl) ?_
     refine One.mk (o := _) (l := [5]) rfl (by kernel_rfl) (Want.none rfl) rfl (ltN rfl) (EF.append (xs := []) (ys := ((L.take j).drop 0)) el41 Entry.enc_len Entry.enc_cell rfl rfl rfl Try.underlying22 Try.underlying22 rfl rfl (by repeat constructor) (RowsAt.cutOwn (i := 0) (j := j) Entry.enc_len hh9 (by repeat constructor) (by omega) (by omega)) (by first | omega | (simp <;> omega))) (by kernel_rfl) ?_
     rintro sl43 _ rfl
     refine ⟨?_, ?_⟩
     ·rw [List.forall_mem_cons]
      refine ⟨?_, fun _ h => (by cases h)⟩
      ·exact Look.mk rfl rfl rfl (QR.load rfl rfl g41 (Entry.enc_sub _))
     refine ?_
     refine Dw.slCase (v := sl43) (xs := _) (by repeat constructor) (fun a43 c43 hv43 hh43 => ?_)
     subst hv43
     refine Dw.eff (i := 7) (by kernel_rfl) (by kernel_rfl) ?_
     refine One.mk (o := _) (l := []) rfl (by kernel_rfl) (Want.none rfl) rfl (ltN rfl) (EF.append1 (xs := _) (s := e) el41 Entry.enc_len Entry.enc_cell rfl rfl rfl Try.underlying22 Try.underlying22 rfl rfl (by repeat constructor) (by repeat constructor) (by first | omega | (simp <;> omega))) (by kernel_rfl) ?_
     rintro sl46 _ rfl
     refine ⟨fun _ h => (by cases h), ?_⟩
     refine Dw.eff (i := 11) (by kernel_rfl) (by kernel_rfl) ?_
     refine One.mk (o := _) (l := []) rfl (by kernel_rfl) (Want.none rfl) rfl (ltN rfl) (EF.append (xs := _) (ys := ((L.take L.length).drop j)) el41 Entry.enc_len Entry.enc_cell rfl rfl rfl Try.underlying22 Try.underlying22 rfl rfl (by repeat constructor) (RowsAt.cutOwn (i := j) (j := L.length) Entry.enc_len hh9 (by repeat constructor) (by omega) (by omega)) (by first | omega | (simp <;> omega))) (by kernel_rfl) ?_
     rintro sl50 _ rfl
     refine ⟨fun _ h => (by cases h), ?_⟩
     refine Dw.eff (i := 12) (by kernel_rfl) (by kernel_rfl) ?_
     refine One.mk (o := _) (l := []) rfl (by kernel_rfl) (Want.none rfl) rfl (ltN rfl) ((QP.assign rfl rfl).eff) (by kernel_rfl) ?_
     rintro sl50 _ ⟨rfl, rfl⟩
     refine ⟨fun _ h => (by cases h), ?_⟩
     refine Dw.nil (by kernel_rfl) ?_
     refine hk13 _ _ ?_
     refine Run.ret ?_
     exact J.ends (res_tmp rfl rfl) (.cons (by repeat constructor) Takes.nil) ⟨_, .inr ⟨hno, j, hjl, hbef, haft, cut_all e⟩, rfl⟩
  ·skip
   refine Dw.pure (i := 2) rfl (by kernel_rfl) (Want.none rfl) rfl (ltN rfl) (QP.move rfl rfl) ?_
   refine Dw.skip (i := 3) rfl (by kernel_rfl) (Want.no rfl rfl rfl rfl) rfl (ltN rfl) ?_
   refine Dw.skip (i := 4) rfl (by kernel_rfl) (Want.no rfl rfl rfl rfl) rfl (ltN rfl) ?_
   refine Dw.skip (i := 5) rfl (by kernel_rfl) (Want.no rfl rfl rfl rfl) rfl (ltN rfl) ?_
   refine Dw.skip (i := 6) rfl (by kernel_rfl) (Want.no rfl rfl rfl rfl) rfl (ltN rfl) ?_
   refine Dw.skip (i := 7) rfl (by kernel_rfl) (Want.no rfl rfl rfl rfl) rfl (ltN rfl) ?_
   refine Dw.skip (i := 8) rfl (by kernel_rfl) (Want.no rfl rfl rfl rfl) rfl (ltN rfl) ?_
   refine Dw.skip (i := 9) rfl (by kernel_rfl) (Want.no rfl rfl rfl rfl) rfl (ltN rfl) ?_
   refine Dw.skip (i := 10) rfl (by kernel_rfl) (Want.no rfl rfl rfl rfl) rfl (ltN rfl) ?_
   refine Dw.eff (i := 11) (by kernel_rfl) (by kernel_rfl) ?_
   refine One.skipD (o := _) rfl (by kernel_rfl) (Want.no rfl rfl rfl rfl) rfl (ltN rfl) ?_
   refine Dw.skip (i := 12) rfl (by kernel_rfl) (Want.no rfl rfl rfl rfl) rfl (ltN rfl) ?_
   refine Dw.pure (i := 13) rfl (by kernel_rfl) (Want.none rfl) rfl (ltN rfl) (QP.pick_f rfl rfl rfl) ?_
   refine Dw.nil (by kernel_rfl) ?_
   refine hk12 _ _ ?_
   refine Run.cond_f rfl ?_
   refine Run.exit rfl ?_
   refine hk9 _ _ ?_
   refine Run.seq fun k14 hk14 => ?_
   refine Run.regionD (M := [0, 0, 0, 6, 15, 0, 32, 127, 0, 0, 768, 2047, 4095]) (q := 1838) (r := 32) (by kernel_rfl) ?_
   refine Dw.pure (i := 1) rfl (by kernel_rfl) (Want.none rfl) rfl (ltN rfl) (QP.move rfl rfl) ?_
   refine Dw.pure (i := 2) rfl (by kernel_rfl) (Want.none rfl) rfl (ltN rfl) (QP.move rfl rfl) ?_
   refine Dw.pure (i := 3) rfl (by kernel_rfl) (Want.none rfl) rfl (ltN rfl) (QP.sliceHi rfl rfl rfl Try.underlying22 z41 (by first | omega | (simp <;> omega)) (by first | omega | (simp <;> omega))) ?_
   refine Dw.read (i := 5) rfl (by kernel_rfl) (Want.none rfl) rfl (ltN rfl) (QR.load rfl rfl g41 (Entry.enc_sub _)) ?_
   refine Dw.pure (i := 8) rfl (by kernel_rfl) (Want.none rfl) rfl (ltN rfl) (QP.move rfl rfl) ?_
   refine Dw.pure (i := 9) rfl (by kernel_rfl) (Want.none rfl) rfl (ltN rfl) (QP.move rfl rfl) ?_
   refine Dw.pure (i := 10) rfl (by kernel_rfl) (Want.none rfl) rfl (ltN rfl) (QP.sliceLo rfl rfl rfl Try.underlying22 z41 (by first | omega | (simp <;> omega)) (by first | omega | (simp <;> omega))) ?_
   refine Dw.effs (l := [0, 6]) (by kernel_rfl) (by kernel_rfl) ?_
   rw [List.forall_mem_cons, List.forall_mem_cons]
   refine ⟨?_, ?_, fun _ h => (by cases h)⟩
   ·skip
    have hbef : ∀ y ∈ L.take j, cmpE y e < 0 := by rw [show j = 0 by omega]; simp
    refine One.mk (o := _) (l := [5]) rfl (by kernel_rfl) (Want.none rfl) rfl (ltN rfl) (EF.buildSlice0 (enc := Entry.enc) rfl Try.underlying22 z41 zero41 (by simp [Value.cells, Entry.enc_len]) (by decide)) (by kernel_rfl) ?_
    rintro _ _ ⟨b39, rfl, rfl⟩
    refine ⟨?_, ?_⟩
    ·rw [List.forall_mem_cons]
     refine ⟨?_, fun _ h => (by cases h)⟩
     ·exact Look.mk rfl rfl rfl (QR.load rfl rfl g41 (Entry.enc_sub _))
    refine ?_
    refine Dw.effs (l := [4, 6]) (by kernel_rfl) (by kernel_rfl) ?_
    rw [List.forall_mem_cons, List.forall_mem_cons]
    refine ⟨?_, ?_, fun _ h => (by cases h)⟩
    ·skip
     refine One.mk (o := _) (l := [5]) rfl (by kernel_rfl) (Want.none rfl) rfl (ltN rfl) (EF.append (xs := []) (ys := ((L.take j).drop 0)) el41 Entry.enc_len Entry.enc_cell rfl rfl rfl Try.underlying22 Try.underlying22 rfl rfl (by repeat constructor) (RowsAt.cutOwn (i := 0) (j := j) Entry.enc_len hh9 (by repeat constructor) (by omega) (by omega)) (by first | omega | (simp <;> omega))) (by kernel_rfl) ?_
     rintro sl43 _ rfl
     refine ⟨?_, ?_⟩
     ·rw [List.forall_mem_cons]
      refine ⟨?_, fun _ h => (by cases h)⟩
      ·exact Look.mk rfl rfl rfl (QR.load rfl rfl g41 (Entry.enc_sub _))
     refine ?_
     refine Dw.slCase (v := sl43) (xs := _) (by repeat constructor) (fun a43 c43 hv43 hh43 => ?_)
     subst hv43
     refine Dw.eff (i := 6) (by kernel_rfl) (by kernel_rfl) ?_
     refine One.mk (o := _) (l := []) rfl (by kernel_rfl) (Want.none rfl) rfl (ltN rfl) (EF.buildSlice1 rfl Try.underlying22 z41 zero41 (by simp [Value.cells, Entry.enc_len]) (by decide) rfl rfl (Entry.enc_len _) (by decide)) (by kernel_rfl) ?_
     rintro _ _ ⟨b45, rfl, rfl⟩
     refine ⟨fun _ h => (by cases h), ?_⟩
     refine Dw.eff (i := 7) (by kernel_rfl) (by kernel_rfl) ?_
     refine One.mk (o := _) (l := []) rfl (by kernel_rfl) (Want.none rfl) rfl (ltN rfl) (EF.append1 (xs := _) (s := e) el41 Entry.enc_len Entry.enc_cell rfl rfl rfl Try.underlying22 Try.underlying22 rfl rfl (by repeat constructor) (by repeat constructor) (by first | omega | (simp <;> omega))) (by kernel_rfl) ?_
     rintro sl46 _ rfl
     refine ⟨fun _ h => (by cases h), ?_⟩
     refine Dw.eff (i := 11) (by kernel_rfl) (by kernel_rfl) ?_
     refine One.mk (o := _) (l := []) rfl (by kernel_rfl) (Want.none rfl) rfl (ltN rfl) (EF.append (xs := _) (ys := ((L.take L.length).drop j)) el41 Entry.enc_len Entry.enc_cell rfl rfl rfl Try.underlying22 Try.underlying22 rfl rfl (by repeat constructor) (RowsAt.cutOwn (i := j) (j := L.length) Entry.enc_len hh9 (by repeat constructor) (by omega) (by omega)) (by first | omega | (simp <;> omega))) (by kernel_rfl) ?_
     rintro sl50 _ rfl
     refine ⟨fun _ h => (by cases h), ?_⟩
     refine Dw.eff (i := 12) (by kernel_rfl) (by kernel_rfl) ?_
     refine One.mk (o := _) (l := []) rfl (by kernel_rfl) (Want.none rfl) rfl (ltN rfl) ((QP.assign rfl rfl).eff) (by kernel_rfl) ?_
     rintro sl50 _ ⟨rfl, rfl⟩
     refine ⟨fun _ h => (by cases h), ?_⟩
     refine Dw.nil (by kernel_rfl) ?_
     refine hk14 _ _ ?_
     refine Run.ret ?_
     exact J.ends (res_tmp rfl rfl) (.cons (by repeat constructor) Takes.nil) ⟨_, .inr ⟨hno, j, hjl, hbef, haft, cut_all e⟩, rfl⟩
    ·skip
     refine One.mk (o := _) (l := []) rfl (by kernel_rfl) (Want.none rfl) rfl (ltN rfl) (EF.buildSlice1 rfl Try.underlying22 z41 zero41 (by simp [Value.cells, Entry.enc_len]) (by decide) rfl rfl (Entry.enc_len _) (by decide)) (by kernel_rfl) ?_
     rintro _ _ ⟨b45, rfl, rfl⟩
     refine ⟨fun _ h => (by cases h), ?_⟩
     refine Dw.eff (i := 4) (by kernel_rfl) (by kernel_rfl) ?_
     refine One.mk (o := _) (l := [5]) rfl (by kernel_rfl) (Want.none rfl) rfl (ltN rfl) (EF.append (xs := []) (ys := ((L.take j).drop 0)) el41 Entry.enc_len Entry.enc_cell rfl rfl rfl Try.underlying22 Try.underlying22 rfl rfl (by repeat constructor) (RowsAt.cutOwn (i := 0) (j := j) Entry.enc_len hh9 (by repeat constructor) (by omega) (by omega)) (by first | omega | (simp <;> omega))) (by kernel_rfl) ?_
     rintro sl43 _ rfl
     refine ⟨?_, ?_⟩
     ·rw [List.forall_mem_cons]
      refine ⟨?_, fun _ h => (by cases h)⟩
      ·exact Look.mk rfl rfl rfl (QR.load rfl rfl g41 (Entry.enc_sub _))
     refine ?_
     refine Dw.slCase (v := sl43) (xs := _) (by repeat constructor) (fun a43 c43 hv43 hh43 => ?_)
     subst hv43
     refine Dw.eff (i := 7) (by kernel_rfl) (by kernel_rfl) ?_
     refine One.mk (o := _) (l := []) rfl (by kernel_rfl) (Want.none rfl) rfl (ltN rfl) (EF.append1 (xs := _) (s := e) el41 Entry.enc_len Entry.enc_cell rfl rfl rfl Try.underlying22 Try.underlying22 rfl rfl (by repeat constructor) (by repeat constructor) (by first | omega | (simp <;> omega))) (by kernel_rfl) ?_
     rintro sl46 _ rfl
     refine ⟨fun _ h => (by cases h), ?_⟩
     refine Dw.eff (i := 11) (by kernel_rfl) (by kernel_rfl) ?_
     refine One.mk (o := _) (l := []) rfl (by kernel_rfl) (Want.none rfl) rfl (ltN rfl) (EF.append (xs := _) (ys := ((L.take L.length).drop j)) el41 Entry.enc_len Entry.enc_cell rfl rfl rfl Try.underlying22 Try.underlying22 rfl rfl (by repeat constructor) (RowsAt.cutOwn (i := j) (j := L.length) Entry.enc_len hh9 (by repeat constructor) (by omega) (by omega)) (by first | omega | (simp <;> omega))) (by kernel_rfl) ?_
     rintro sl50 _ rfl
     refine ⟨fun _ h => (by cases h), ?_⟩
     refine Dw.eff (i := 12) (by kernel_rfl) (by kernel_rfl) ?_
     refine One.mk (o := _) (l := []) rfl (by kernel_rfl) (Want.none rfl) rfl (ltN rfl) ((QP.assign rfl rfl).eff) (by kernel_rfl) ?_
     rintro sl50 _ ⟨rfl, rfl⟩
     refine ⟨fun _ h => (by cases h), ?_⟩
     refine Dw.nil (by kernel_rfl) ?_
     refine hk14 _ _ ?_
     refine Run.ret ?_
     exact J.ends (res_tmp rfl rfl) (.cons (by repeat constructor) Takes.nil) ⟨_, .inr ⟨hno, j, hjl, hbef, haft, cut_all e⟩, rfl⟩
   ·skip
    refine One.mk (o := _) (l := []) rfl (by kernel_rfl) (Want.none rfl) rfl (ltN rfl) (EF.buildSlice1 rfl Try.underlying22 z41 zero41 (by simp [Value.cells, Entry.enc_len]) (by decide) rfl rfl (Entry.enc_len _) (by decide)) (by kernel_rfl) ?_
    rintro _ _ ⟨b45, rfl, rfl⟩
    refine ⟨fun _ h => (by cases h), ?_⟩
    refine Dw.eff (i := 0) (by kernel_rfl) (by kernel_rfl) ?_
    have hbef : ∀ y ∈ L.take j, cmpE y e < 0 := by rw [show j = 0 by omega]; simp
    refine One.mk (o := _) (l := [5]) rfl (by kernel_rfl) (Want.none rfl) rfl (ltN rfl) (EF.buildSlice0 (enc := Entry.enc) rfl Try.underlying22 z41 zero41 (by simp [Value.cells, Entry.enc_len]) (by decide)) (by kernel_rfl) ?_
    rintro _ _ ⟨b39, rfl, rfl⟩
    refine ⟨?_, ?_⟩
    ·rw [List.forall_mem_cons]
     refine ⟨?_, fun _ h => (by cases h)⟩
     ·exact Look.mk rfl rfl rfl (QR.load rfl rfl g41 (Entry.enc_sub _))
    refine ?_
    refine Dw.eff (i := 4) (by kernel_rfl) (by kernel_rfl) ?_
    refine One.mk (o := _) (l := [5]) rfl (by kernel_rfl) (Want.none rfl) rfl (ltN rfl) (EF.append (xs := []) (ys := ((L.take j).drop 0)) el41 Entry.enc_len Entry.enc_cell rfl rfl rfl Try.underlying22 Try.underlying22 rfl rfl (by repeat constructor) (RowsAt.cutOwn (i := 0) (j := j) Entry.enc_len hh9 (by repeat constructor) (by omega) (by omega)) (by first | omega | (simp <;> omega))) (by kernel_rfl) ?_
    rintro sl43 _ rfl
    refine ⟨?_, ?_⟩
    ·rw [List.forall_mem_cons]
     refine ⟨?_, fun _ h => (by cases h)⟩
     ·exact Look.mk rfl rfl rfl (QR.load rfl rfl g41 (Entry.enc_sub _))
    refine ?_
    refine Dw.slCase (v := sl43) (xs := _) (by repeat constructor) (fun a43 c43 hv43 hh43 => ?_)
    subst hv43
    refine Dw.eff (i := 7) (by kernel_rfl) (by kernel_rfl) ?_
    refine One.mk (o := _) (l := []) rfl (by kernel_rfl) (Want.none rfl) rfl (ltN rfl) (EF.append1 (xs := _) (s := e) el41 Entry.enc_len Entry.enc_cell rfl rfl rfl Try.underlying22 Try.underlying22 rfl rfl (by repeat constructor) (by repeat constructor) (by first | omega | (simp <;> omega))) (by kernel_rfl) ?_
    rintro sl46 _ rfl
    refine ⟨fun _ h => (by cases h), ?_⟩
    refine Dw.eff (i := 11) (by kernel_rfl) (by kernel_rfl) ?_
    refine One.mk (o := _) (l := []) rfl (by kernel_rfl) (Want.none rfl) rfl (ltN rfl) (EF.append (xs := _) (ys := ((L.take L.length).drop j)) el41 Entry.enc_len Entry.enc_cell rfl rfl rfl Try.underlying22 Try.underlying22 rfl rfl (by repeat constructor) (RowsAt.cutOwn (i := j) (j := L.length) Entry.enc_len hh9 (by repeat constructor) (by omega) (by omega)) (by first | omega | (simp <;> omega))) (by kernel_rfl) ?_
    rintro sl50 _ rfl
    refine ⟨fun _ h => (by cases h), ?_⟩
    refine Dw.eff (i := 12) (by kernel_rfl) (by kernel_rfl) ?_
    refine One.mk (o := _) (l := []) rfl (by kernel_rfl) (Want.none rfl) rfl (ltN rfl) ((QP.assign rfl rfl).eff) (by kernel_rfl) ?_
    rintro sl50 _ ⟨rfl, rfl⟩
    refine ⟨fun _ h => (by cases h), ?_⟩
    refine Dw.nil (by kernel_rfl) ?_
    refine hk14 _ _ ?_
    refine Run.ret ?_
    exact J.ends (res_tmp rfl rfl) (.cons (by repeat constructor) Takes.nil) ⟨_, .inr ⟨hno, j, hjl, hbef, haft, cut_all e⟩, rfl⟩
end Slb
