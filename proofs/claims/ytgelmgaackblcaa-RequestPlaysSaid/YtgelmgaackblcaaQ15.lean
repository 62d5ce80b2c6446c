/- Q15: a part of the proof that a law of this package holds for every input; no condition. -/
import Derived.Test.YtgelmgaackblcaaQ12
import Derived.Test.YtgelmgaackblcaaB18
namespace Slb
open Go Go.Proofs
set_option maxRecDepth 20000
theorem less_rem {a b : Int} (ha : 0 ≤ a ∧ a ≤ 65535) (hb : 0 ≤ b ∧ b ≤ 65535) : lessB a b = (decide (1 ≤ (b - a + 65536).tmod 65536) && decide ((b - a + 65536).tmod 65536 ≤ 32767)) := by
  rw [Int.tmod_eq_emod_of_nonneg (by omega)]
  simp only [lessB, wrap_u16]
  rw [Bool.eq_iff_iff]
  simp only [Bool.and_eq_true, decide_eq_true_eq]
  omega
theorem wrap_i64u {n : Int} (h : 0 ≤ n ∧ n ≤ 65535) : IntKind.i64.wrap n = n := wrap_i64 (by omega) (by omega)

theorem rless_spec (F : Fr) (a b : Int) (ha : 0 ≤ a ∧ a ≤ 65535) (hb : 0 ≤ b ∧ b ≤ 65535) : Spec Try.prog 35 #[.int .u16 a, .int .u16 b] [] F (fun v S => v = .bool (lessB a b) ∧ S = []) := by
  refine Spec.intro (N := 19) (args := [.int .u16 a, .int .u16 b]) Try.func35 rfl rfl (by simp) ?_
  refine Run.seq fun k1 hk1 => ?_
  refine Run.region ?_
  show Sq _ _ _ [0] _ _ _ _
  refine Sq.quiet (i := 0) rfl (Want.none rfl) rfl (ltN rfl) (QP.assign rfl rfl).read ?_
  refine Sq.nil ?_
  refine hk1 _ _ ?_
  refine Run.seq fun k2 hk2 => ?_
  refine Run.region ?_
  show Sq _ _ _ [0, 1, 2, 3, 4, 5, 6, 7] _ _ _ _
  refine Sq.quiet (i := 0) rfl (Want.none rfl) rfl (ltN rfl) (QP.move rfl rfl).read ?_
  refine Sq.quiet (i := 1) rfl (Want.none rfl) rfl (ltN rfl) (QP.conv rfl rfl Try.underlying31 Try.underlying3).read ?_
  rw [wrap_i64u hb]
  refine Sq.quiet (i := 2) rfl (Want.none rfl) rfl (ltN rfl) (QP.move rfl rfl).read ?_
  refine Sq.quiet (i := 3) rfl (Want.none rfl) rfl (ltN rfl) (QP.conv rfl rfl Try.underlying31 Try.underlying3).read ?_
  rw [wrap_i64u ha]
  refine Sq.quiet (i := 4) rfl (Want.none rfl) rfl (ltN rfl) (QP.sub64 rfl rfl rfl (by first | omega | (simp only [List.length_map, List.length_append, List.length_cons, List.length_nil, List.length_take, List.length_drop]; omega)) (by first | omega | (simp only [List.length_map, List.length_append, List.length_cons, List.length_nil, List.length_take, List.length_drop]; omega))).read ?_
  refine Sq.quiet (i := 5) rfl (Want.none rfl) rfl (ltN rfl) (QP.add64 rfl rfl rfl (by first | omega | (simp only [List.length_map, List.length_append, List.length_cons, List.length_nil, List.length_take, List.length_drop]; omega)) (by first | omega | (simp only [List.length_map, List.length_append, List.length_cons, List.length_nil, List.length_take, List.length_drop]; omega))).read ?_
  refine Sq.quiet (i := 6) rfl (Want.none rfl) rfl (ltN rfl) (QP.rem rfl rfl rfl (by first | omega | (simp only [List.length_map, List.length_append, List.length_cons, List.length_nil, List.length_take, List.length_drop]; omega))).read ?_
  refine Sq.quiet (i := 7) rfl (Want.none rfl) rfl (ltN rfl) (QP.assign rfl rfl).read ?_
  refine Sq.nil ?_
  refine hk2 _ _ ?_
  refine Run.seq fun k3 hk3 => ?_
  refine Run.region ?_
  show Sq _ _ _ [0, 1, 2, 3, 4, 5, 6] _ _ _ _
  refine Sq.quiet (i := 0) rfl (Want.none rfl) rfl (ltN rfl) (QP.move rfl rfl).read ?_
  refine Sq.quiet (i := 1) rfl (Want.none rfl) rfl (ltN rfl) (QP.geq rfl rfl rfl).read ?_
  refine J.caseD (fun c14 => ?_) (fun c14 => ?_)
  · skip
    refine Sq.quiet (i := 2) rfl (Want.none rfl) rfl (ltN rfl) (QP.move rfl rfl).read ?_
    refine Sq.quiet (i := 3) rfl (Want.yes rfl rfl rfl rfl) rfl (ltN rfl) (QP.move rfl rfl).read ?_
    refine Sq.quiet (i := 4) rfl (Want.yes rfl rfl rfl rfl) rfl (ltN rfl) (QP.leq rfl rfl rfl).read ?_
    refine Sq.quiet (i := 5) rfl (Want.none rfl) rfl (ltN rfl) (QP.pick_t rfl rfl rfl).read ?_
    refine Sq.quiet (i := 6) rfl (Want.none rfl) rfl (ltN rfl) (QP.assign rfl rfl).read ?_
    refine Sq.nil ?_
    refine hk3 _ _ ?_
    refine Run.ret ?_
    exact J.ends (res_tmp rfl rfl) Takes.nil ⟨by rw [less_rem ha hb]; first | (simp_all; done) | (simp_all; omega), rfl⟩
  · skip
    refine Sq.quiet (i := 2) rfl (Want.none rfl) rfl (ltN rfl) (QP.move rfl rfl).read ?_
    refine Sq.skip (i := 3) rfl (Want.no rfl rfl rfl rfl) rfl (ltN rfl) ?_
    refine Sq.skip (i := 4) rfl (Want.no rfl rfl rfl rfl) rfl (ltN rfl) ?_
    refine Sq.quiet (i := 5) rfl (Want.none rfl) rfl (ltN rfl) (QP.pick_f rfl rfl rfl).read ?_
    refine Sq.quiet (i := 6) rfl (Want.none rfl) rfl (ltN rfl) (QP.assign rfl rfl).read ?_
    refine Sq.nil ?_
    refine hk3 _ _ ?_
    refine Run.ret ?_
    exact J.ends (res_tmp rfl rfl) Takes.nil ⟨by rw [less_rem ha hb]; first | (simp_all; done) | (simp_all; omega), rfl⟩

theorem meets_rem {d : Distance} {s : Int} (hd : d.WF) (hs : 0 ≤ s ∧ s ≤ 65535) : meetsB d s = (decide (d.metric < 65535) && (decide (d.seqno = s) || lessB s d.seqno)) := by
  obtain ⟨q, m⟩ := d
  obtain ⟨h1, h2⟩ := hd
  simp only at h1 h2
  simp only [meetsB, lessB, wrap_u16]
  rw [Bool.eq_iff_iff]
  simp only [Bool.and_eq_true, Bool.or_eq_true, decide_eq_true_eq, Bool.not_eq_true', Bool.and_eq_false_iff, decide_eq_false_iff_not]
  omega

theorem rmeets_spec (F : Fr) (d : Distance) (s : Int) (hd : d.WF) (hs : 0 ≤ s ∧ s ≤ 65535) : Spec Try.prog 39 #[.agg (Distance.enc d).toArray, .int .u16 s] [] F (fun v S => v = .bool (meetsB d s) ∧ S = []) := by
  refine Spec.intro (N := 20) (args := [.agg (Distance.enc d).toArray, .int .u16 s]) Try.func39 rfl rfl (by simp) ?_
  refine Run.seq fun k1 hk1 => ?_
  refine Run.region ?_
  show Sq _ _ _ [0, 1] _ _ _ _
  refine Sq.eff (i := 0) rfl (Want.none rfl) rfl (ltN rfl) (EF.boxA rfl rfl) ?_
  rintro _ _ ⟨b2, rfl, rfl⟩
  refine Sq.quiet (i := 1) rfl (Want.none rfl) rfl (ltN rfl) (QP.assign rfl rfl).read ?_
  refine Sq.nil ?_
  refine hk1 _ _ ?_
  refine Run.seq fun k2 hk2 => ?_
  refine Run.region ?_
  show Sq _ _ _ [0, 1, 2, 3, 4, 5, 6, 7, 8, 9, 10, 11, 12, 13, 14, 15] _ _ _ _
  refine Sq.quiet (i := 0) rfl (Want.none rfl) rfl (ltN rfl) (QP.fieldAddr rfl rfl f45_1).read ?_
  refine Sq.quiet (i := 1) rfl (Want.none rfl) rfl (ltN rfl) (QR.load1 rfl rfl g31 (Distance.sub_metric _)) ?_
  refine Sq.quiet (i := 2) rfl (Want.none rfl) rfl (ltN rfl) (QP.lss rfl rfl rfl).read ?_
  refine J.caseD (fun c7 => ?_) (fun c7 => ?_)
  · skip
    refine Sq.quiet (i := 3) rfl (Want.none rfl) rfl (ltN rfl) (QP.move rfl rfl).read ?_
    refine Sq.quiet (i := 4) rfl (Want.yes rfl rfl rfl rfl) rfl (ltN rfl) (QP.fieldAddr rfl rfl f45_0).read ?_
    refine Sq.quiet (i := 5) rfl (Want.yes rfl rfl rfl rfl) rfl (ltN rfl) (QR.load1 rfl rfl g31 (Distance.sub_seqno _)) ?_
    refine Sq.quiet (i := 6) rfl (Want.yes rfl rfl rfl rfl) rfl (ltN rfl) (QP.move rfl rfl).read ?_
    refine Sq.quiet (i := 7) rfl (Want.yes rfl rfl rfl rfl) rfl (ltN rfl) (QP.eql rfl rfl rfl).read ?_
    refine J.caseD (fun c12 => ?_) (fun c12 => ?_)
    · skip
      refine Sq.quiet (i := 8) rfl (Want.yes rfl rfl rfl rfl) rfl (ltN rfl) (QP.move rfl rfl).read ?_
      refine Sq.skip (i := 9) rfl (Want.no rfl rfl rfl rfl) rfl (ltN rfl) ?_
      refine Sq.skip (i := 10) rfl (Want.no rfl rfl rfl rfl) rfl (ltN rfl) ?_
      refine Sq.skip (i := 11) rfl (Want.no rfl rfl rfl rfl) rfl (ltN rfl) ?_
      refine Sq.skip (i := 12) rfl (Want.no rfl rfl rfl rfl) rfl (ltN rfl) ?_
      refine Sq.quiet (i := 13) rfl (Want.yes rfl rfl rfl rfl) rfl (ltN rfl) (QP.pick_t rfl rfl rfl).read ?_
      refine Sq.quiet (i := 14) rfl (Want.none rfl) rfl (ltN rfl) (QP.pick_t rfl rfl rfl).read ?_
      refine Sq.quiet (i := 15) rfl (Want.none rfl) rfl (ltN rfl) (QP.assign rfl rfl).read ?_
      refine Sq.nil ?_
      refine hk2 _ _ ?_
      refine Run.ret ?_
      exact J.ends (res_tmp rfl rfl) Takes.nil ⟨by rw [meets_rem hd hs]; first | (simp_all; done) | (simp_all; omega), rfl⟩
    · skip
      refine Sq.quiet (i := 8) rfl (Want.yes rfl rfl rfl rfl) rfl (ltN rfl) (QP.move rfl rfl).read ?_
      refine Sq.quiet (i := 9) rfl (Want.yes rfl rfl rfl rfl) rfl (ltN rfl) (QP.move rfl rfl).read ?_
      refine Sq.quiet (i := 10) rfl (Want.yes rfl rfl rfl rfl) rfl (ltN rfl) (QP.fieldAddr rfl rfl f45_0).read ?_
      refine Sq.quiet (i := 11) rfl (Want.yes rfl rfl rfl rfl) rfl (ltN rfl) (QR.load1 rfl rfl g31 (Distance.sub_seqno _)) ?_
      refine Sq.eff (i := 12) rfl (Want.yes rfl rfl rfl rfl) rfl (ltN rfl) (EF.call rfl ce35 rfl Takes.nil (fun F' hle hr => rless_spec F' s d.seqno hs hd.1)) ?_
      rintro _ _ ⟨_, ⟨rfl, rfl⟩, rfl⟩
      refine J.app ?_
      refine Sq.quiet (i := 13) rfl (Want.yes rfl rfl rfl rfl) rfl (ltN rfl) (QP.pick_f rfl rfl rfl).read ?_
      refine Sq.quiet (i := 14) rfl (Want.none rfl) rfl (ltN rfl) (QP.pick_t rfl rfl rfl).read ?_
      refine Sq.quiet (i := 15) rfl (Want.none rfl) rfl (ltN rfl) (QP.assign rfl rfl).read ?_
      refine Sq.nil ?_
      refine hk2 _ _ ?_
      refine Run.ret ?_
      exact J.ends (res_tmp rfl rfl) Takes.nil ⟨by rw [meets_rem hd hs]; first | (simp_all; done) | (simp_all; omega), rfl⟩
  · skip
    refine Sq.quiet (i := 3) rfl (Want.none rfl) rfl (ltN rfl) (QP.move rfl rfl).read ?_
    refine Sq.skip (i := 4) rfl (Want.no rfl rfl rfl rfl) rfl (ltN rfl) ?_
    refine Sq.skip (i := 5) rfl (Want.no rfl rfl rfl rfl) rfl (ltN rfl) ?_
    refine Sq.skip (i := 6) rfl (Want.no rfl rfl rfl rfl) rfl (ltN rfl) ?_
    refine Sq.skip (i := 7) rfl (Want.no rfl rfl rfl rfl) rfl (ltN rfl) ?_
    refine Sq.skip (i := 8) rfl (Want.no rfl rfl rfl rfl) rfl (ltN rfl) ?_
    refine Sq.skip (i := 9) rfl (Want.undef rfl rfl rfl) rfl (ltN rfl) ?_
    refine Sq.skip (i := 10) rfl (Want.undef rfl rfl rfl) rfl (ltN rfl) ?_
    refine Sq.skip (i := 11) rfl (Want.undef rfl rfl rfl) rfl (ltN rfl) ?_
    refine Sq.skip (i := 12) rfl (Want.undef rfl rfl rfl) rfl (ltN rfl) ?_
    refine Sq.skip (i := 13) rfl (Want.no rfl rfl rfl rfl) rfl (ltN rfl) ?_
    refine Sq.quiet (i := 14) rfl (Want.none rfl) rfl (ltN rfl) (QP.pick_f rfl rfl rfl).read ?_
    refine Sq.quiet (i := 15) rfl (Want.none rfl) rfl (ltN rfl) (QP.assign rfl rfl).read ?_
    refine Sq.nil ?_
    refine hk2 _ _ ?_
    refine Run.ret ?_
    exact J.ends (res_tmp rfl rfl) Takes.nil ⟨by rw [meets_rem hd hs]; first | (simp_all; done) | (simp_all; omega), rfl⟩

theorem rown_spec (F : Fr) (own asked : Int) (ho : 0 ≤ own ∧ own ≤ 65535) (ha : 0 ≤ asked ∧ asked ≤ 65535) : Spec Try.prog 17 #[.int .u16 own, .int .u16 asked] [] F (fun v S => v = .int .u16 (ownF own asked) ∧ S = []) := by
  refine Spec.intro (N := 11) (args := [.int .u16 own, .int .u16 asked]) Try.func17 rfl rfl (by simp) ?_
  refine Run.seq fun k1 hk1 => ?_
  refine Run.region ?_
  show Sq _ _ _ [0] _ _ _ _
  refine Sq.quiet (i := 0) rfl (Want.none rfl) rfl (ltN rfl) (QP.assign rfl rfl).read ?_
  refine Sq.nil ?_
  refine hk1 _ _ ?_
  refine Run.seq fun k2 hk2 => ?_
  refine Run.seq fun k3 hk3 => ?_
  refine Run.region ?_
  show Sq _ _ _ [0, 1, 2] _ _ _ _
  refine Sq.quiet (i := 0) rfl (Want.none rfl) rfl (ltN rfl) (QP.move rfl rfl).read ?_
  refine Sq.quiet (i := 1) rfl (Want.none rfl) rfl (ltN rfl) (QP.move rfl rfl).read ?_
  refine Sq.eff (i := 2) rfl (Want.none rfl) rfl (ltN rfl) (EF.call rfl ce35 rfl Takes.nil (fun F' hle hr => rless_spec F' own asked (by omega) (by omega))) ?_
  rintro _ _ ⟨_, ⟨rfl, rfl⟩, rfl⟩
  refine J.app ?_
  refine J.caseB (fun c7 => ?_) (fun c7 => ?_)
  · skip
    refine Sq.nil ?_
    refine hk3 _ _ ?_
    refine Run.cond_t rfl ?_
    refine Run.seq fun k4 hk4 => ?_
    refine Run.region ?_
    show Sq _ _ _ [0, 1, 2] _ _ _ _
    refine Sq.quiet (i := 0) rfl (Want.none rfl) rfl (ltN rfl) (QP.move rfl rfl).read ?_
    refine Sq.quiet (i := 1) rfl (Want.none rfl) rfl (ltN rfl) (QP.add rfl rfl rfl).read ?_
    refine Sq.quiet (i := 2) rfl (Want.none rfl) rfl (ltN rfl) (QP.assign rfl rfl).read ?_
    refine Sq.nil ?_
    refine hk4 _ _ ?_
    refine Run.ret ?_
    exact J.ends (res_tmp rfl rfl) Takes.nil ⟨by simp_all [ownF], rfl⟩
  · skip
    refine Sq.nil ?_
    refine hk3 _ _ ?_
    refine Run.cond_f rfl ?_
    refine Run.skip ?_
    refine hk2 _ _ ?_
    refine Run.seq fun k5 hk5 => ?_
    refine Run.region ?_
    show Sq _ _ _ [0, 1] _ _ _ _
    refine Sq.quiet (i := 0) rfl (Want.none rfl) rfl (ltN rfl) (QP.move rfl rfl).read ?_
    refine Sq.quiet (i := 1) rfl (Want.none rfl) rfl (ltN rfl) (QP.assign rfl rfl).read ?_
    refine Sq.nil ?_
    refine hk5 _ _ ?_
    refine Run.ret ?_
    exact J.ends (res_tmp rfl rfl) Takes.nil ⟨by simp_all [ownF], rfl⟩

theorem bs_at {n i : Nat} (x : Bs n) {u : UInt8} (h : x.l[i]? = some u) : SubL x.enc (0 + (Int.toNat i) * 1) 1 [byteV u] := by
  have hi : i < x.l.length := (List.getElem?_eq_some_iff.1 h).1
  have e : x.l = x.l.take i ++ u :: x.l.drop (i + 1) := by
    have : x.l[i] = u := (List.getElem?_eq_some_iff.1 h).2
    rw [← this, ← List.drop_eq_getElem_cons hi, List.take_append_drop]
  refine ⟨bytesV (x.l.take i), bytesV (x.l.drop (i + 1)), ?_, ?_, rfl⟩
  · unfold Bs.enc
    conv => lhs; rw [e]
    simp [bytesV]
  · rw [bytesV_length, List.length_take]
    simp; omega
theorem drop_at {n i : Nat} {x : Bs n} {u : UInt8} (h : x.l[i]? = some u) : x.l.drop i = u :: x.l.drop (i + 1) := by
  have hi : i < x.l.length := (List.getElem?_eq_some_iff.1 h).1
  have : x.l[i] = u := (List.getElem?_eq_some_iff.1 h).2
  rw [← this, ← List.drop_eq_getElem_cons hi]
theorem byte_eq {u t : UInt8} (h : (u.toNat : Int) = t.toNat) : u = t := UInt8.toNat_inj.1 (by omega)
theorem cmp_same {n i : Nat} {x y : Bs n} {u t : UInt8} (hx : x.l[i]? = some u) (hy : y.l[i]? = some t) (h : (u.toNat : Int) = t.toNat) : Lib.compareBytes (x.l.drop i) (y.l.drop i) = Lib.compareBytes (x.l.drop (i + 1)) (y.l.drop (i + 1)) := by
  rw [drop_at hx, drop_at hy, byte_eq h]
  conv => lhs; unfold Lib.compareBytes
  simp
theorem cmp_less {n i : Nat} {x y : Bs n} {u t : UInt8} (hx : x.l[i]? = some u) (hy : y.l[i]? = some t) (h : (u.toNat : Int) < t.toNat) : Lib.compareBytes (x.l.drop i) (y.l.drop i) = -1 := by
  rw [drop_at hx, drop_at hy]
  unfold Lib.compareBytes
  rw [if_pos (UInt8.lt_iff_toNat_lt.2 (by omega))]
theorem cmp_more {n i : Nat} {x y : Bs n} {u t : UInt8} (hx : x.l[i]? = some u) (hy : y.l[i]? = some t) (h0 : ¬ (u.toNat : Int) = t.toNat) (h : ¬ (u.toNat : Int) < t.toNat) : Lib.compareBytes (x.l.drop i) (y.l.drop i) = 1 := by
  rw [drop_at hx, drop_at hy]
  unfold Lib.compareBytes
  rw [if_neg (fun hc => h (by have := UInt8.lt_iff_toNat_lt.1 hc; omega)), if_pos (UInt8.lt_iff_toNat_lt.2 (by omega))]

theorem rcompare_spec (F : Fr) (x y : Bs 16) : Spec Try.prog 61 #[.agg (Bs.enc (x : Bs 16)).toArray, .agg (Bs.enc (y : Bs 16)).toArray] [] F (fun v S => ∃ n : Int, v = .int .i64 n ∧ S = [] ∧ (0 < n ↔ 0 < Lib.compareBytes x.l y.l) ∧ (n < 0 ↔ Lib.compareBytes x.l y.l < 0)) := by
  refine Spec.intro (N := 24) (args := [.agg (Bs.enc (x : Bs 16)).toArray, .agg (Bs.enc (y : Bs 16)).toArray]) Try.func61 rfl rfl (by simp) ?_
  refine Run.seq fun k1 hk1 => ?_
  refine Run.region ?_
  show Sq _ _ _ [0, 1, 2] _ _ _ _
  refine Sq.eff (i := 0) rfl (Want.none rfl) rfl (ltN rfl) (EF.boxA rfl rfl) ?_
  rintro _ _ ⟨b2, rfl, rfl⟩
  refine Sq.eff (i := 1) rfl (Want.none rfl) rfl (ltN rfl) (EF.boxA rfl rfl) ?_
  rintro _ _ ⟨b3, rfl, rfl⟩
  refine Sq.quiet (i := 2) rfl (Want.none rfl) rfl (ltN rfl) (QP.assign rfl rfl).read ?_
  refine Sq.nil ?_
  refine hk1 _ _ ?_
  refine Run.seq fun k2 hk2 => ?_
  refine Run.seq fun k3 hk3 => ?_
  refine Run.region ?_
  show Sq _ _ _ [0] _ _ _ _
  refine Sq.quiet (i := 0) rfl (Want.none rfl) rfl (ltN rfl) (QP.assign rfl rfl).read ?_
  refine Sq.nil ?_
  refine hk3 _ _ ?_
  refine Run.block ?_
  refine Run.loop1 (fun (i : Nat) => i ≤ 16 ∧ Lib.compareBytes x.l y.l = Lib.compareBytes (x.l.drop i) (y.l.drop i)) (fun i => .cons 2 (.pointer (some ⟨b2, 0, none⟩)) (.cons 3 (.pointer (some ⟨b3, 0, none⟩)) (.cons 5 (.int .i64 i) (.nil)))) (fun i => [blk b2 (Bs.enc x) 24, blk b3 (Bs.enc y) 24]) (fun i => 16 - i) (0) (⟨Nat.zero_le _, rfl⟩) ?_ ?_
  · exact fun _ j => J.envJ (J.keep (.cons (by repeat (first | exact Pick.head | apply Pick.tail)) (.cons (by repeat (first | exact Pick.head | apply Pick.tail)) Takes.nil)) j) ⟨rfl, rfl, rfl, trivial⟩
  rintro i ⟨hile, hcmp⟩ kl4 hl4
  refine Run.seq fun k5 hk5 => ?_
  refine Run.seq fun k6 hk6 => ?_
  refine Run.region ?_
  show Sq _ _ _ [0, 1] _ _ _ _
  refine Sq.quiet (i := 0) rfl (Want.none rfl) rfl (ltN rfl) (QP.move rfl rfl).read ?_
  refine Sq.quiet (i := 1) rfl (Want.none rfl) rfl (ltN rfl) (QP.lss rfl rfl rfl).read ?_
  refine J.caseD (fun c7 => ?_) (fun c7 => ?_)
  · skip
    refine Sq.nil ?_
    refine hk6 _ _ ?_
    refine Run.cond_t rfl ?_
    refine Run.skip ?_
    refine hk5 _ _ ?_
    refine Run.seq fun k7 hk7 => ?_
    refine Run.block ?_
    refine Run.seq fun k8 hk8 => ?_
    refine Run.regionD (M := [0, 1, 3, 0, 8, 24, 63]) (q := 127) (r := 36) (by kernel_rfl) ?_
    have hlt : i < 16 := by omega
    obtain ⟨u, hx⟩ : ∃ u, x.l[i]? = some u := ⟨_, List.getElem?_eq_getElem (by rw [x.h]; exact hlt)⟩
    obtain ⟨t, hy⟩ : ∃ t, y.l[i]? = some t := ⟨_, List.getElem?_eq_getElem (by rw [y.h]; exact hlt)⟩
    refine Dw.pure (i := 0) rfl (by kernel_rfl) (Want.none rfl) rfl (ltN rfl) (QP.move rfl rfl) ?_
    refine Dw.pure (i := 1) rfl (by kernel_rfl) (Want.none rfl) rfl (ltN rfl) (QP.indexArr rfl rfl rfl Try.underlying24 z5 (by omega) (by omega)) ?_
    refine Dw.read (i := 2) rfl (by kernel_rfl) (Want.none rfl) rfl (ltN rfl) (QR.load1 rfl rfl g5 (bs_at x hx)) ?_
    refine Dw.pure (i := 3) rfl (by kernel_rfl) (Want.none rfl) rfl (ltN rfl) (QP.move rfl rfl) ?_
    refine Dw.pure (i := 4) rfl (by kernel_rfl) (Want.none rfl) rfl (ltN rfl) (QP.indexArr rfl rfl rfl Try.underlying24 z5 (by omega) (by omega)) ?_
    refine Dw.read (i := 5) rfl (by kernel_rfl) (Want.none rfl) rfl (ltN rfl) (QR.load1 rfl rfl g5 (bs_at y hy)) ?_
    refine Dw.pure (i := 6) rfl (by kernel_rfl) (Want.none rfl) rfl (ltN rfl) (QP.neq rfl rfl rfl) ?_
    refine J.caseD (fun c16 => ?_) (fun c16 => ?_)
    · skip
      refine Dw.nil (by kernel_rfl) ?_
      refine hk8 _ _ ?_
      refine Run.cond_t rfl ?_
      refine Run.seq fun k9 hk9 => ?_
      refine Run.seq fun k10 hk10 => ?_
      refine Run.regionD (M := [0, 1, 3, 0, 8, 24, 63]) (q := 127) (r := 36) (by kernel_rfl) ?_
      refine Dw.pure (i := 0) rfl (by kernel_rfl) (Want.none rfl) rfl (ltN rfl) (QP.move rfl rfl) ?_
      refine Dw.pure (i := 1) rfl (by kernel_rfl) (Want.none rfl) rfl (ltN rfl) (QP.indexArr rfl rfl rfl Try.underlying24 z5 (by omega) (by omega)) ?_
      refine Dw.read (i := 2) rfl (by kernel_rfl) (Want.none rfl) rfl (ltN rfl) (QR.load1 rfl rfl g5 (bs_at x hx)) ?_
      refine Dw.pure (i := 3) rfl (by kernel_rfl) (Want.none rfl) rfl (ltN rfl) (QP.move rfl rfl) ?_
      refine Dw.pure (i := 4) rfl (by kernel_rfl) (Want.none rfl) rfl (ltN rfl) (QP.indexArr rfl rfl rfl Try.underlying24 z5 (by omega) (by omega)) ?_
      refine Dw.read (i := 5) rfl (by kernel_rfl) (Want.none rfl) rfl (ltN rfl) (QR.load1 rfl rfl g5 (bs_at y hy)) ?_
      refine Dw.pure (i := 6) rfl (by kernel_rfl) (Want.none rfl) rfl (ltN rfl) (QP.lss rfl rfl rfl) ?_
      refine J.caseD (fun c23 => ?_) (fun c23 => ?_)
      · skip
        refine Dw.nil (by kernel_rfl) ?_
        refine hk10 _ _ ?_
        refine Run.cond_t rfl ?_
        refine Run.seq fun k11 hk11 => ?_
        refine Run.region ?_
        show Sq _ _ _ [0] _ _ _ _
        refine Sq.quiet (i := 0) rfl (Want.none rfl) rfl (ltN rfl) (QP.assign rfl rfl).read ?_
        refine Sq.nil ?_
        refine hk11 _ _ ?_
        refine Run.ret ?_
        exact J.ends (res_tmp rfl rfl) Takes.nil ⟨_, rfl, rfl, by rw [hcmp, cmp_less hx hy (by simpa using c23)]; decide⟩
      · skip
        refine Dw.nil (by kernel_rfl) ?_
        refine hk10 _ _ ?_
        refine Run.cond_f rfl ?_
        refine Run.skip ?_
        refine hk9 _ _ ?_
        refine Run.seq fun k12 hk12 => ?_
        refine Run.region ?_
        show Sq _ _ _ [0] _ _ _ _
        refine Sq.quiet (i := 0) rfl (Want.none rfl) rfl (ltN rfl) (QP.assign rfl rfl).read ?_
        refine Sq.nil ?_
        refine hk12 _ _ ?_
        refine Run.ret ?_
        exact J.ends (res_tmp rfl rfl) Takes.nil ⟨_, rfl, rfl, by rw [hcmp, cmp_more hx hy (by simpa using c16) (by simpa using c23)]; decide⟩
    · skip
      refine Dw.nil (by kernel_rfl) ?_
      refine hk8 _ _ ?_
      refine Run.cond_f rfl ?_
      refine Run.skip ?_
      refine hk7 _ _ ?_
      refine Run.region ?_
      show Sq _ _ _ [0, 1, 2] _ _ _ _
      refine Sq.quiet (i := 0) rfl (Want.none rfl) rfl (ltN rfl) (QP.move rfl rfl).read ?_
      refine Sq.quiet (i := 1) rfl (Want.none rfl) rfl (ltN rfl) (QP.add64 rfl rfl rfl (by first | omega | (simp only [List.length_map, List.length_append, List.length_cons, List.length_nil, List.length_take, List.length_drop]; omega)) (by first | omega | (simp only [List.length_map, List.length_append, List.length_cons, List.length_nil, List.length_take, List.length_drop]; omega))).read ?_
      refine Sq.quiet (i := 2) rfl (Want.none rfl) rfl (ltN rfl) (QP.assign rfl rfl).read ?_
      refine Sq.nil ?_
      exact J.envJ (J.keep (.cons (by repeat (first | exact Pick.head | apply Pick.tail)) (.cons (by repeat (first | exact Pick.head | apply Pick.tail)) Takes.nil)) (hl4 (i + 1) (⟨by omega, by rw [hcmp]; exact cmp_same hx hy (by simpa using c16)⟩) (by omega))) ⟨rfl, rfl, rfl, trivial⟩
  · skip
    refine Sq.nil ?_
    refine hk6 _ _ ?_
    refine Run.cond_f rfl ?_
    refine Run.exit rfl ?_
    refine hk2 _ _ ?_
    refine Run.seq fun k13 hk13 => ?_
    refine Run.region ?_
    show Sq _ _ _ [0] _ _ _ _
    refine Sq.quiet (i := 0) rfl (Want.none rfl) rfl (ltN rfl) (QP.assign rfl rfl).read ?_
    refine Sq.nil ?_
    refine hk13 _ _ ?_
    refine Run.ret ?_
    exact J.ends (res_tmp rfl rfl) Takes.nil ⟨_, rfl, rfl, by rw [hcmp, List.drop_eq_nil_of_le (by rw [x.h]; omega), List.drop_eq_nil_of_le (by rw [y.h]; omega)]; decide⟩

theorem rids_spec (F : Fr) (x y : Bs 8) : Spec Try.prog 38 #[.agg (Bs.enc (x : Bs 8)).toArray, .agg (Bs.enc (y : Bs 8)).toArray] [] F (fun v S => ∃ n : Int, v = .int .i64 n ∧ S = [] ∧ (0 < n ↔ 0 < Lib.compareBytes x.l y.l) ∧ (n < 0 ↔ Lib.compareBytes x.l y.l < 0)) := by
  refine Spec.intro (N := 24) (args := [.agg (Bs.enc (x : Bs 8)).toArray, .agg (Bs.enc (y : Bs 8)).toArray]) Try.func38 rfl rfl (by simp) ?_
  refine Run.seq fun k1 hk1 => ?_
  refine Run.region ?_
  show Sq _ _ _ [0, 1, 2] _ _ _ _
  refine Sq.eff (i := 0) rfl (Want.none rfl) rfl (ltN rfl) (EF.boxA rfl rfl) ?_
  rintro _ _ ⟨b2, rfl, rfl⟩
  refine Sq.eff (i := 1) rfl (Want.none rfl) rfl (ltN rfl) (EF.boxA rfl rfl) ?_
  rintro _ _ ⟨b3, rfl, rfl⟩
  refine Sq.quiet (i := 2) rfl (Want.none rfl) rfl (ltN rfl) (QP.assign rfl rfl).read ?_
  refine Sq.nil ?_
  refine hk1 _ _ ?_
  refine Run.seq fun k2 hk2 => ?_
  refine Run.seq fun k3 hk3 => ?_
  refine Run.region ?_
  show Sq _ _ _ [0] _ _ _ _
  refine Sq.quiet (i := 0) rfl (Want.none rfl) rfl (ltN rfl) (QP.assign rfl rfl).read ?_
  refine Sq.nil ?_
  refine hk3 _ _ ?_
  refine Run.block ?_
  refine Run.loop1 (fun (i : Nat) => i ≤ 8 ∧ Lib.compareBytes x.l y.l = Lib.compareBytes (x.l.drop i) (y.l.drop i)) (fun i => .cons 2 (.pointer (some ⟨b2, 0, none⟩)) (.cons 3 (.pointer (some ⟨b3, 0, none⟩)) (.cons 5 (.int .i64 i) (.nil)))) (fun i => [blk b2 (Bs.enc x) 30, blk b3 (Bs.enc y) 30]) (fun i => 8 - i) (0) (⟨Nat.zero_le _, rfl⟩) ?_ ?_
  · exact fun _ j => J.envJ (J.keep (.cons (by repeat (first | exact Pick.head | apply Pick.tail)) (.cons (by repeat (first | exact Pick.head | apply Pick.tail)) Takes.nil)) j) ⟨rfl, rfl, rfl, trivial⟩
  rintro i ⟨hile, hcmp⟩ kl4 hl4
  refine Run.seq fun k5 hk5 => ?_
  refine Run.seq fun k6 hk6 => ?_
  refine Run.region ?_
  show Sq _ _ _ [0, 1] _ _ _ _
  refine Sq.quiet (i := 0) rfl (Want.none rfl) rfl (ltN rfl) (QP.move rfl rfl).read ?_
  refine Sq.quiet (i := 1) rfl (Want.none rfl) rfl (ltN rfl) (QP.lss rfl rfl rfl).read ?_
  refine J.caseD (fun c7 => ?_) (fun c7 => ?_)
  · skip
    refine Sq.nil ?_
    refine hk6 _ _ ?_
    refine Run.cond_t rfl ?_
    refine Run.skip ?_
    refine hk5 _ _ ?_
    refine Run.seq fun k7 hk7 => ?_
    refine Run.block ?_
    refine Run.seq fun k8 hk8 => ?_
    refine Run.regionD (M := [0, 1, 3, 0, 8, 24, 63]) (q := 127) (r := 36) (by kernel_rfl) ?_
    have hlt : i < 8 := by omega
    obtain ⟨u, hx⟩ : ∃ u, x.l[i]? = some u := ⟨_, List.getElem?_eq_getElem (by rw [x.h]; exact hlt)⟩
    obtain ⟨t, hy⟩ : ∃ t, y.l[i]? = some t := ⟨_, List.getElem?_eq_getElem (by rw [y.h]; exact hlt)⟩
    refine Dw.pure (i := 0) rfl (by kernel_rfl) (Want.none rfl) rfl (ltN rfl) (QP.move rfl rfl) ?_
    refine Dw.pure (i := 1) rfl (by kernel_rfl) (Want.none rfl) rfl (ltN rfl) (QP.indexArr rfl rfl rfl Try.underlying30 z5 (by omega) (by omega)) ?_
    refine Dw.read (i := 2) rfl (by kernel_rfl) (Want.none rfl) rfl (ltN rfl) (QR.load1 rfl rfl g5 (bs_at x hx)) ?_
    refine Dw.pure (i := 3) rfl (by kernel_rfl) (Want.none rfl) rfl (ltN rfl) (QP.move rfl rfl) ?_
    refine Dw.pure (i := 4) rfl (by kernel_rfl) (Want.none rfl) rfl (ltN rfl) (QP.indexArr rfl rfl rfl Try.underlying30 z5 (by omega) (by omega)) ?_
    refine Dw.read (i := 5) rfl (by kernel_rfl) (Want.none rfl) rfl (ltN rfl) (QR.load1 rfl rfl g5 (bs_at y hy)) ?_
    refine Dw.pure (i := 6) rfl (by kernel_rfl) (Want.none rfl) rfl (ltN rfl) (QP.neq rfl rfl rfl) ?_
    refine J.caseD (fun c16 => ?_) (fun c16 => ?_)
    · skip
      refine Dw.nil (by kernel_rfl) ?_
      refine hk8 _ _ ?_
      refine Run.cond_t rfl ?_
      refine Run.seq fun k9 hk9 => ?_
      refine Run.seq fun k10 hk10 => ?_
      refine Run.regionD (M := [0, 1, 3, 0, 8, 24, 63]) (q := 127) (r := 36) (by kernel_rfl) ?_
      refine Dw.pure (i := 0) rfl (by kernel_rfl) (Want.none rfl) rfl (ltN rfl) (QP.move rfl rfl) ?_
      refine Dw.pure (i := 1) rfl (by kernel_rfl) (Want.none rfl) rfl (ltN rfl) (QP.indexArr rfl rfl rfl Try.underlying30 z5 (by omega) (by omega)) ?_
      refine Dw.read (i := 2) rfl (by kernel_rfl) (Want.none rfl) rfl (ltN rfl) (QR.load1 rfl rfl g5 (bs_at x hx)) ?_
      refine Dw.pure (i := 3) rfl (by kernel_rfl) (Want.none rfl) rfl (ltN rfl) (QP.move rfl rfl) ?_
      refine Dw.pure (i := 4) rfl (by kernel_rfl) (Want.none rfl) rfl (ltN rfl) (QP.indexArr rfl rfl rfl Try.underlying30 z5 (by omega) (by omega)) ?_
      refine Dw.read (i := 5) rfl (by kernel_rfl) (Want.none rfl) rfl (ltN rfl) (QR.load1 rfl rfl g5 (bs_at y hy)) ?_
      refine Dw.pure (i := 6) rfl (by kernel_rfl) (Want.none rfl) rfl (ltN rfl) (QP.lss rfl rfl rfl) ?_
      refine J.caseD (fun c23 => ?_) (fun c23 => ?_)
      · skip
        refine Dw.nil (by kernel_rfl) ?_
        refine hk10 _ _ ?_
        refine Run.cond_t rfl ?_
        refine Run.seq fun k11 hk11 => ?_
        refine Run.region ?_
        show Sq _ _ _ [0] _ _ _ _
        refine Sq.quiet (i := 0) rfl (Want.none rfl) rfl (ltN rfl) (QP.assign rfl rfl).read ?_
        refine Sq.nil ?_
        refine hk11 _ _ ?_
        refine Run.ret ?_
        exact J.ends (res_tmp rfl rfl) Takes.nil ⟨_, rfl, rfl, by rw [hcmp, cmp_less hx hy (by simpa using c23)]; decide⟩
      · skip
        refine Dw.nil (by kernel_rfl) ?_
        refine hk10 _ _ ?_
        refine Run.cond_f rfl ?_
        refine Run.skip ?_
        refine hk9 _ _ ?_
        refine Run.seq fun k12 hk12 => ?_
        refine Run.region ?_
        show Sq _ _ _ [0] _ _ _ _
        refine Sq.quiet (i := 0) rfl (Want.none rfl) rfl (ltN rfl) (QP.assign rfl rfl).read ?_
        refine Sq.nil ?_
        refine hk12 _ _ ?_
        refine Run.ret ?_
        exact J.ends (res_tmp rfl rfl) Takes.nil ⟨_, rfl, rfl, by rw [hcmp, cmp_more hx hy (by simpa using c16) (by simpa using c23)]; decide⟩
    · skip
      refine Dw.nil (by kernel_rfl) ?_
      refine hk8 _ _ ?_
      refine Run.cond_f rfl ?_
      refine Run.skip ?_
      refine hk7 _ _ ?_
      refine Run.region ?_
      show Sq _ _ _ [0, 1, 2] _ _ _ _
      refine Sq.quiet (i := 0) rfl (Want.none rfl) rfl (ltN rfl) (QP.move rfl rfl).read ?_
      refine Sq.quiet (i := 1) rfl (Want.none rfl) rfl (ltN rfl) (QP.add64 rfl rfl rfl (by first | omega | (simp only [List.length_map, List.length_append, List.length_cons, List.length_nil, List.length_take, List.length_drop]; omega)) (by first | omega | (simp only [List.length_map, List.length_append, List.length_cons, List.length_nil, List.length_take, List.length_drop]; omega))).read ?_
      refine Sq.quiet (i := 2) rfl (Want.none rfl) rfl (ltN rfl) (QP.assign rfl rfl).read ?_
      refine Sq.nil ?_
      exact J.envJ (J.keep (.cons (by repeat (first | exact Pick.head | apply Pick.tail)) (.cons (by repeat (first | exact Pick.head | apply Pick.tail)) Takes.nil)) (hl4 (i + 1) (⟨by omega, by rw [hcmp]; exact cmp_same hx hy (by simpa using c16)⟩) (by omega))) ⟨rfl, rfl, rfl, trivial⟩
  · skip
    refine Sq.nil ?_
    refine hk6 _ _ ?_
    refine Run.cond_f rfl ?_
    refine Run.exit rfl ?_
    refine hk2 _ _ ?_
    refine Run.seq fun k13 hk13 => ?_
    refine Run.region ?_
    show Sq _ _ _ [0] _ _ _ _
    refine Sq.quiet (i := 0) rfl (Want.none rfl) rfl (ltN rfl) (QP.assign rfl rfl).read ?_
    refine Sq.nil ?_
    refine hk13 _ _ ?_
    refine Run.ret ?_
    exact J.ends (res_tmp rfl rfl) Takes.nil ⟨_, rfl, rfl, by rw [hcmp, List.drop_eq_nil_of_le (by rw [x.h]; omega), List.drop_eq_nil_of_le (by rw [y.h]; omega)]; decide⟩

theorem cmpPrefix_sign {x y : Prefix} {n : Int} (h1 : 0 < n ↔ 0 < Lib.compareBytes x.a.l y.a.l) (h2 : n < 0 ↔ Lib.compareBytes x.a.l y.a.l < 0) (hn : n ≠ 0) : (0 < n ↔ 0 < cmpPrefix x y) ∧ (n < 0 ↔ cmpPrefix x y < 0) := by
  have : cmpPrefix x y = Lib.compareBytes x.a.l y.a.l := by
    simp only [cmpPrefix, orF]
    rw [if_pos (by omega)]
  rw [this]; exact ⟨h1, h2⟩
theorem cmpPrefix_len {x y : Prefix} {n : Int} (h1 : 0 < n ↔ 0 < Lib.compareBytes x.a.l y.a.l) (h2 : n < 0 ↔ Lib.compareBytes x.a.l y.a.l < 0) (hn : n = 0) : cmpPrefix x y = if x.len.val < y.len.val then -1 else if y.len.val < x.len.val then 1 else 0 := by
  simp only [cmpPrefix, orF, cmpF]
  rw [if_neg (by omega)]
  split
  · rfl
  · split
    · rfl
    · rfl
theorem cmpPair_sign {x y : Pair} {n : Int} (h1 : 0 < n ↔ 0 < cmpPrefix x.dst y.dst) (h2 : n < 0 ↔ cmpPrefix x.dst y.dst < 0) (hn : n ≠ 0) : (0 < n ↔ 0 < cmpPair x y) ∧ (n < 0 ↔ cmpPair x y < 0) := by
  have : cmpPair x y = cmpPrefix x.dst y.dst := by
    simp only [cmpPair, orF]
    rw [if_pos (by omega)]
  rw [this]; exact ⟨h1, h2⟩
theorem cmpPair_src {x y : Pair} {n m : Int} (h1 : 0 < n ↔ 0 < cmpPrefix x.dst y.dst) (h2 : n < 0 ↔ cmpPrefix x.dst y.dst < 0) (hn : n = 0) (h3 : 0 < m ↔ 0 < cmpPrefix x.src y.src) (h4 : m < 0 ↔ cmpPrefix x.src y.src < 0) : (0 < m ↔ 0 < cmpPair x y) ∧ (m < 0 ↔ cmpPair x y < 0) := by
  have : cmpPair x y = cmpPrefix x.src y.src := by
    simp only [cmpPair, orF]
    rw [if_neg (by omega)]
    split
    · rfl
    · rename_i h; simp at h; exact h.symm
  rw [this]; exact ⟨h3, h4⟩

theorem rcmpPrefix_spec (F : Fr) (x y : Prefix) : Spec Try.prog 48 #[.agg (Prefix.enc x).toArray, .agg (Prefix.enc y).toArray] [] F (fun v S => ∃ n : Int, v = .int .i64 n ∧ S = [] ∧ (0 < n ↔ 0 < cmpPrefix x y) ∧ (n < 0 ↔ cmpPrefix x y < 0)) := by
  refine Spec.intro (N := 27) (args := [.agg (Prefix.enc x).toArray, .agg (Prefix.enc y).toArray]) Try.func48 rfl rfl (by simp) ?_
  refine Run.seq fun k1 hk1 => ?_
  refine Run.region ?_
  show Sq _ _ _ [0, 1, 2] _ _ _ _
  refine Sq.eff (i := 0) rfl (Want.none rfl) rfl (ltN rfl) (EF.boxA rfl rfl) ?_
  rintro _ _ ⟨b2, rfl, rfl⟩
  refine Sq.eff (i := 1) rfl (Want.none rfl) rfl (ltN rfl) (EF.boxA rfl rfl) ?_
  rintro _ _ ⟨b3, rfl, rfl⟩
  refine Sq.quiet (i := 2) rfl (Want.none rfl) rfl (ltN rfl) (QP.assign rfl rfl).read ?_
  refine Sq.nil ?_
  refine hk1 _ _ ?_
  refine Run.seq fun k2 hk2 => ?_
  refine Run.region ?_
  show Sq _ _ _ [0, 1, 2, 3, 4, 5] _ _ _ _
  refine Sq.quiet (i := 0) rfl (Want.none rfl) rfl (ltN rfl) (QP.fieldAddr rfl rfl f26_0).read ?_
  refine Sq.quiet (i := 1) rfl (Want.none rfl) rfl (ltN rfl) (QR.load rfl rfl g24 (Prefix.sub_a _)) ?_
  refine Sq.quiet (i := 2) rfl (Want.none rfl) rfl (ltN rfl) (QP.fieldAddr rfl rfl f26_0).read ?_
  refine Sq.quiet (i := 3) rfl (Want.none rfl) rfl (ltN rfl) (QR.load rfl rfl g24 (Prefix.sub_a _)) ?_
  refine Sq.eff (i := 4) rfl (Want.none rfl) rfl (ltN rfl) (EF.call rfl ce61 rfl Takes.nil (fun F' hle hr => rcompare_spec F' x.a y.a)) ?_
  rintro _ _ ⟨_, ⟨n10, rfl, rfl, hp10, hm10⟩, rfl⟩
  refine J.app ?_
  refine Sq.quiet (i := 5) rfl (Want.none rfl) rfl (ltN rfl) (QP.assign rfl rfl).read ?_
  refine Sq.nil ?_
  refine hk2 _ _ ?_
  refine Run.seq fun k3 hk3 => ?_
  refine Run.block ?_
  refine Run.seq fun k4 hk4 => ?_
  refine Run.region ?_
  show Sq _ _ _ [0, 1, 2] _ _ _ _
  refine Sq.quiet (i := 0) rfl (Want.none rfl) rfl (ltN rfl) (QP.move rfl rfl).read ?_
  refine Sq.quiet (i := 1) rfl (Want.none rfl) rfl (ltN rfl) (QP.neq rfl rfl rfl).read ?_
  refine J.caseD (fun c13 => ?_) (fun c13 => ?_)
  · skip
    refine Sq.quiet (i := 2) rfl (Want.none rfl) rfl (ltN rfl) (QP.assign rfl rfl).read ?_
    refine Sq.nil ?_
    refine hk4 _ _ ?_
    refine Run.cond_t rfl ?_
    refine Run.seq fun k5 hk5 => ?_
    refine Run.region ?_
    show Sq _ _ _ [0, 1] _ _ _ _
    refine Sq.quiet (i := 0) rfl (Want.none rfl) rfl (ltN rfl) (QP.move rfl rfl).read ?_
    refine Sq.quiet (i := 1) rfl (Want.none rfl) rfl (ltN rfl) (QP.assign rfl rfl).read ?_
    refine Sq.nil ?_
    refine hk5 _ _ ?_
    refine Run.ret ?_
    exact J.ends (res_tmp rfl rfl) Takes.nil ⟨_, rfl, rfl, cmpPrefix_sign hp10 hm10 c13⟩
  · skip
    refine Sq.quiet (i := 2) rfl (Want.none rfl) rfl (ltN rfl) (QP.assign rfl rfl).read ?_
    refine Sq.nil ?_
    refine hk4 _ _ ?_
    refine Run.cond_f rfl ?_
    refine Run.seq fun k6 hk6 => ?_
    refine Run.region ?_
    show Sq _ _ _ [0, 1, 2, 3, 4, 5] _ _ _ _
    refine Sq.quiet (i := 0) rfl (Want.none rfl) rfl (ltN rfl) (QP.fieldAddr rfl rfl f26_1).read ?_
    refine Sq.quiet (i := 1) rfl (Want.none rfl) rfl (ltN rfl) (QR.load1 rfl rfl g3 (Prefix.sub_len _)) ?_
    refine Sq.quiet (i := 2) rfl (Want.none rfl) rfl (ltN rfl) (QP.fieldAddr rfl rfl f26_1).read ?_
    refine Sq.quiet (i := 3) rfl (Want.none rfl) rfl (ltN rfl) (QR.load1 rfl rfl g3 (Prefix.sub_len _)) ?_
    refine Sq.quiet (i := 4) rfl (Want.none rfl) rfl (ltN rfl) (QP.lss rfl rfl rfl).read ?_
    refine J.caseD (fun c20 => ?_) (fun c20 => ?_)
    · skip
      refine Sq.quiet (i := 5) rfl (Want.none rfl) rfl (ltN rfl) (QP.assign rfl rfl).read ?_
      refine Sq.nil ?_
      refine hk6 _ _ ?_
      refine Run.cond_t rfl ?_
      refine Run.seq fun k7 hk7 => ?_
      refine Run.region ?_
      show Sq _ _ _ [0] _ _ _ _
      refine Sq.quiet (i := 0) rfl (Want.none rfl) rfl (ltN rfl) (QP.assign rfl rfl).read ?_
      refine Sq.nil ?_
      refine hk7 _ _ ?_
      refine Run.ret ?_
      exact J.ends (res_tmp rfl rfl) Takes.nil ⟨_, rfl, rfl, by rw [cmpPrefix_len hp10 hm10 (by omega)]; (repeat (first | rw [if_pos (by assumption)] | rw [if_neg (by assumption)])); decide⟩
    · skip
      refine Sq.quiet (i := 5) rfl (Want.none rfl) rfl (ltN rfl) (QP.assign rfl rfl).read ?_
      refine Sq.nil ?_
      refine hk6 _ _ ?_
      refine Run.cond_f rfl ?_
      refine Run.seq fun k8 hk8 => ?_
      refine Run.region ?_
      show Sq _ _ _ [0, 1, 2, 3, 4, 5] _ _ _ _
      refine Sq.quiet (i := 0) rfl (Want.none rfl) rfl (ltN rfl) (QP.fieldAddr rfl rfl f26_1).read ?_
      refine Sq.quiet (i := 1) rfl (Want.none rfl) rfl (ltN rfl) (QR.load1 rfl rfl g3 (Prefix.sub_len _)) ?_
      refine Sq.quiet (i := 2) rfl (Want.none rfl) rfl (ltN rfl) (QP.fieldAddr rfl rfl f26_1).read ?_
      refine Sq.quiet (i := 3) rfl (Want.none rfl) rfl (ltN rfl) (QR.load1 rfl rfl g3 (Prefix.sub_len _)) ?_
      refine Sq.quiet (i := 4) rfl (Want.none rfl) rfl (ltN rfl) (QP.gtr rfl rfl rfl).read ?_
      refine J.caseD (fun c26 => ?_) (fun c26 => ?_)
      · skip
        refine Sq.quiet (i := 5) rfl (Want.none rfl) rfl (ltN rfl) (QP.assign rfl rfl).read ?_
        refine Sq.nil ?_
        refine hk8 _ _ ?_
        refine Run.cond_t rfl ?_
        refine Run.seq fun k9 hk9 => ?_
        refine Run.region ?_
        show Sq _ _ _ [0] _ _ _ _
        refine Sq.quiet (i := 0) rfl (Want.none rfl) rfl (ltN rfl) (QP.assign rfl rfl).read ?_
        refine Sq.nil ?_
        refine hk9 _ _ ?_
        refine Run.ret ?_
        exact J.ends (res_tmp rfl rfl) Takes.nil ⟨_, rfl, rfl, by rw [cmpPrefix_len hp10 hm10 (by omega)]; (repeat (first | rw [if_pos (by assumption)] | rw [if_neg (by assumption)])); decide⟩
      · skip
        refine Sq.quiet (i := 5) rfl (Want.none rfl) rfl (ltN rfl) (QP.assign rfl rfl).read ?_
        refine Sq.nil ?_
        refine hk8 _ _ ?_
        refine Run.cond_f rfl ?_
        refine Run.skip ?_
        refine hk3 _ _ ?_
        refine Run.seq fun k10 hk10 => ?_
        refine Run.region ?_
        show Sq _ _ _ [0] _ _ _ _
        refine Sq.quiet (i := 0) rfl (Want.none rfl) rfl (ltN rfl) (QP.assign rfl rfl).read ?_
        refine Sq.nil ?_
        refine hk10 _ _ ?_
        refine Run.ret ?_
        exact J.ends (res_tmp rfl rfl) Takes.nil ⟨_, rfl, rfl, by rw [cmpPrefix_len hp10 hm10 (by omega)]; (repeat (first | rw [if_pos (by assumption)] | rw [if_neg (by assumption)])); decide⟩

theorem rcmpPair_spec (F : Fr) (x y : Pair) : Spec Try.prog 37 #[.agg (Pair.enc x).toArray, .agg (Pair.enc y).toArray] [] F (fun v S => ∃ n : Int, v = .int .i64 n ∧ S = [] ∧ (0 < n ↔ 0 < cmpPair x y) ∧ (n < 0 ↔ cmpPair x y < 0)) := by
  refine Spec.intro (N := 19) (args := [.agg (Pair.enc x).toArray, .agg (Pair.enc y).toArray]) Try.func37 rfl rfl (by simp) ?_
  refine Run.seq fun k1 hk1 => ?_
  refine Run.region ?_
  show Sq _ _ _ [0, 1, 2] _ _ _ _
  refine Sq.eff (i := 0) rfl (Want.none rfl) rfl (ltN rfl) (EF.boxA rfl rfl) ?_
  rintro _ _ ⟨b2, rfl, rfl⟩
  refine Sq.eff (i := 1) rfl (Want.none rfl) rfl (ltN rfl) (EF.boxA rfl rfl) ?_
  rintro _ _ ⟨b3, rfl, rfl⟩
  refine Sq.quiet (i := 2) rfl (Want.none rfl) rfl (ltN rfl) (QP.assign rfl rfl).read ?_
  refine Sq.nil ?_
  refine hk1 _ _ ?_
  refine Run.seq fun k2 hk2 => ?_
  refine Run.region ?_
  show Sq _ _ _ [0, 1, 2, 3, 4, 5] _ _ _ _
  refine Sq.quiet (i := 0) rfl (Want.none rfl) rfl (ltN rfl) (QP.fieldAddr rfl rfl f28_0).read ?_
  refine Sq.quiet (i := 1) rfl (Want.none rfl) rfl (ltN rfl) (QR.load rfl rfl g26 (Pair.sub_dst _)) ?_
  refine Sq.quiet (i := 2) rfl (Want.none rfl) rfl (ltN rfl) (QP.fieldAddr rfl rfl f28_0).read ?_
  refine Sq.quiet (i := 3) rfl (Want.none rfl) rfl (ltN rfl) (QR.load rfl rfl g26 (Pair.sub_dst _)) ?_
  refine Sq.eff (i := 4) rfl (Want.none rfl) rfl (ltN rfl) (EF.call rfl ce48 rfl Takes.nil (fun F' hle hr => rcmpPrefix_spec F' x.dst y.dst)) ?_
  rintro _ _ ⟨_, ⟨n10, rfl, rfl, hp10, hm10⟩, rfl⟩
  refine J.app ?_
  refine Sq.quiet (i := 5) rfl (Want.none rfl) rfl (ltN rfl) (QP.assign rfl rfl).read ?_
  refine Sq.nil ?_
  refine hk2 _ _ ?_
  refine Run.seq fun k3 hk3 => ?_
  refine Run.seq fun k4 hk4 => ?_
  refine Run.region ?_
  show Sq _ _ _ [0, 1] _ _ _ _
  refine Sq.quiet (i := 0) rfl (Want.none rfl) rfl (ltN rfl) (QP.move rfl rfl).read ?_
  refine Sq.quiet (i := 1) rfl (Want.none rfl) rfl (ltN rfl) (QP.neq rfl rfl rfl).read ?_
  refine J.caseD (fun c12 => ?_) (fun c12 => ?_)
  · skip
    refine Sq.nil ?_
    refine hk4 _ _ ?_
    refine Run.cond_t rfl ?_
    refine Run.seq fun k5 hk5 => ?_
    refine Run.region ?_
    show Sq _ _ _ [0, 1] _ _ _ _
    refine Sq.quiet (i := 0) rfl (Want.none rfl) rfl (ltN rfl) (QP.move rfl rfl).read ?_
    refine Sq.quiet (i := 1) rfl (Want.none rfl) rfl (ltN rfl) (QP.assign rfl rfl).read ?_
    refine Sq.nil ?_
    refine hk5 _ _ ?_
    refine Run.ret ?_
    exact J.ends (res_tmp rfl rfl) Takes.nil ⟨_, rfl, rfl, cmpPair_sign hp10 hm10 c12⟩
  · skip
    refine Sq.nil ?_
    refine hk4 _ _ ?_
    refine Run.cond_f rfl ?_
    refine Run.skip ?_
    refine hk3 _ _ ?_
    refine Run.seq fun k6 hk6 => ?_
    refine Run.region ?_
    show Sq _ _ _ [0, 1, 2, 3, 4, 5] _ _ _ _
    refine Sq.quiet (i := 0) rfl (Want.none rfl) rfl (ltN rfl) (QP.fieldAddr rfl rfl f28_1).read ?_
    refine Sq.quiet (i := 1) rfl (Want.none rfl) rfl (ltN rfl) (QR.load rfl rfl g26 (Pair.sub_src _)) ?_
    refine Sq.quiet (i := 2) rfl (Want.none rfl) rfl (ltN rfl) (QP.fieldAddr rfl rfl f28_1).read ?_
    refine Sq.quiet (i := 3) rfl (Want.none rfl) rfl (ltN rfl) (QR.load rfl rfl g26 (Pair.sub_src _)) ?_
    refine Sq.eff (i := 4) rfl (Want.none rfl) rfl (ltN rfl) (EF.call rfl ce48 rfl Takes.nil (fun F' hle hr => rcmpPrefix_spec F' x.src y.src)) ?_
    rintro _ _ ⟨_, ⟨n18, rfl, rfl, hp18, hm18⟩, rfl⟩
    refine J.app ?_
    refine Sq.quiet (i := 5) rfl (Want.none rfl) rfl (ltN rfl) (QP.assign rfl rfl).read ?_
    refine Sq.nil ?_
    refine hk6 _ _ ?_
    refine Run.ret ?_
    exact J.ends (res_tmp rfl rfl) Takes.nil ⟨_, rfl, rfl, cmpPair_src hp10 hm10 (by omega) hp18 hm18⟩

theorem take_no {L : List Pending} {i : Nat} {x : Pending} {k : RequestKey} (h : ∀ y ∈ L.take i, keyQ y ≠ k) (hi : L[i]? = some x) (hx : ¬ (x.pair = k.p ∧ x.id_ = k.id_)) : ∀ y ∈ L.take (i + 1), keyQ y ≠ k := fun y hy => by
  rw [List.take_add_one, hi] at hy
  rcases List.mem_append.1 hy with hy | hy
  · exact h y hy
  · simp at hy; subst hy
    intro hc; subst hc
    exact hx ⟨rfl, rfl⟩

theorem rfind_spec (F : Fr) {b : Nat} {most : Int} {a : Option Addr} {c : Nat} {L : List Pending} (hh : SlH a c L) (hL : L.length ≤ 1000000) (p : Pair) (id : Bs 8) : Spec Try.prog 36 #[.pointer (some ⟨b, 0, none⟩), .agg (Pair.enc p).toArray, .agg (Bs.enc id).toArray] [blk b (Ref18Table.enc ⟨most, ⟨a, L.length, c⟩⟩) 57, slA 67 45 Pending.enc (.slice a L.length c) L] F (fun v S => S = [blk b (Ref18Table.enc ⟨most, ⟨a, L.length, c⟩⟩) 57, slA 67 45 Pending.enc (.slice a L.length c) L] ∧ ∃ n : Int, v = .int .i64 n ∧ ((n = -1 ∧ ∀ x ∈ L, keyQ x ≠ ⟨p, id⟩) ∨ ∃ i x, n = ((i : Nat) : Int) ∧ L[i]? = some x ∧ keyQ x = ⟨p, id⟩)) := by
  refine Spec.intro (N := 40) (args := [.pointer (some ⟨b, 0, none⟩), .agg (Pair.enc p).toArray, .agg (Bs.enc id).toArray]) Try.func36 rfl rfl (by simp) ?_
  refine Run.seq fun k1 hk1 => ?_
  refine Run.region ?_
  show Sq _ _ _ [0, 1, 2] _ _ _ _
  refine Sq.eff (i := 0) rfl (Want.none rfl) rfl (ltN rfl) (EF.boxA rfl rfl) ?_
  rintro _ _ ⟨b4, rfl, rfl⟩
  refine Sq.eff (i := 1) rfl (Want.none rfl) rfl (ltN rfl) (EF.boxA rfl rfl) ?_
  rintro _ _ ⟨b5, rfl, rfl⟩
  refine Sq.quiet (i := 2) rfl (Want.none rfl) rfl (ltN rfl) (QP.assign rfl rfl).read ?_
  refine Sq.nil ?_
  refine hk1 _ _ ?_
  refine Run.seq fun k2 hk2 => ?_
  refine Run.seq fun k3 hk3 => ?_
  refine Run.region ?_
  show Sq _ _ _ [0] _ _ _ _
  refine Sq.quiet (i := 0) rfl (Want.none rfl) rfl (ltN rfl) (QP.assign rfl rfl).read ?_
  refine Sq.nil ?_
  refine hk3 _ _ ?_
  refine Run.block ?_
  refine Run.loop1 (fun (i : Nat) => i ≤ L.length ∧ ∀ x ∈ L.take i, keyQ x ≠ ⟨p, id⟩) (fun i => .cons 0 (.pointer (some ⟨b, 0, none⟩)) (.cons 4 (.pointer (some ⟨b4, 0, none⟩)) (.cons 5 (.pointer (some ⟨b5, 0, none⟩)) (.cons 7 (.int .i64 i) (.nil))))) (fun i => [blk b (Ref18Table.enc ⟨most, ⟨a, L.length, c⟩⟩) 57, slA 67 45 Pending.enc (.slice a L.length c) L, blk b4 (Pair.enc p) 28, blk b5 (Bs.enc id) 30]) (fun i => L.length - i) (0) (⟨Nat.zero_le _, by simp⟩) ?_ ?_
  · exact fun _ j => J.envJ (J.keep (.cons (by repeat (first | exact Pick.head | apply Pick.tail)) (.cons (by repeat (first | exact Pick.head | apply Pick.tail)) (.cons (by repeat (first | exact Pick.head | apply Pick.tail)) (.cons (by repeat (first | exact Pick.head | apply Pick.tail)) Takes.nil)))) j) ⟨rfl, rfl, rfl, rfl, trivial⟩
  rintro i ⟨hile, hno⟩ kl4 hl4
  refine Run.seq fun k5 hk5 => ?_
  refine Run.seq fun k6 hk6 => ?_
  refine Run.region ?_
  show Sq _ _ _ [0, 1, 2, 3, 4, 5, 6] _ _ _ _
  refine Sq.quiet (i := 0) rfl (Want.none rfl) rfl (ltN rfl) (QP.move rfl rfl).read ?_
  refine Sq.quiet (i := 1) rfl (Want.none rfl) rfl (ltN rfl) (QP.move rfl rfl).read ?_
  refine Sq.quiet (i := 2) rfl (Want.none rfl) rfl (ltN rfl) (QP.nilCheck rfl rfl).read ?_
  refine Sq.quiet (i := 3) rfl (Want.none rfl) rfl (ltN rfl) (QP.fieldAddr rfl rfl f57_1).read ?_
  refine Sq.quiet (i := 4) rfl (Want.none rfl) rfl (ltN rfl) (QR.load1 (v := .slice _ L.length _) rfl rfl g40 (Ref18Table.sub_l _)) ?_
  refine Sq.quiet (i := 5) rfl (Want.none rfl) rfl (ltN rfl) (QP.len rfl rfl rfl Try.underlying40).read ?_
  refine Sq.quiet (i := 6) rfl (Want.none rfl) rfl (ltN rfl) (QP.lss rfl rfl rfl).read ?_
  refine J.caseD (fun c14 => ?_) (fun c14 => ?_)
  · skip
    refine Sq.nil ?_
    refine hk6 _ _ ?_
    refine Run.cond_t rfl ?_
    refine Run.skip ?_
    refine hk5 _ _ ?_
    refine Run.seq fun k7 hk7 => ?_
    refine Run.block ?_
    refine Run.seq fun k8 hk8 => ?_
    refine Run.regionD (M := [0, 1, 3, 7, 0, 31, 63, 127, 0, 511, 1023, 2047, 4095, 8191, 16383, 2047, 65535, 131071, 262143, 2047, 1048575, 2097151]) (q := 4194303) (r := 803208) (by kernel_rfl) ?_
    have hlt : i < L.length := by omega
    obtain ⟨x, hi⟩ : ∃ x, L[i]? = some x := ⟨_, List.getElem?_eq_getElem hlt⟩
    obtain ⟨b0, o0, rfl⟩ := hh.get (by omega)
    refine Dw.pure (i := 0) rfl (by kernel_rfl) (Want.none rfl) rfl (ltN rfl) (QP.move rfl rfl) ?_
    refine Dw.pure (i := 1) rfl (by kernel_rfl) (Want.none rfl) rfl (ltN rfl) (QP.nilCheck rfl rfl) ?_
    refine Dw.pure (i := 2) rfl (by kernel_rfl) (Want.none rfl) rfl (ltN rfl) (QP.fieldAddr rfl rfl f57_1) ?_
    refine Dw.read (i := 3) rfl (by kernel_rfl) (Want.none rfl) rfl (ltN rfl) (QR.load1 (v := .slice _ L.length _) rfl rfl g40 (Ref18Table.sub_l _)) ?_
    refine Dw.pure (i := 4) rfl (by kernel_rfl) (Want.none rfl) rfl (ltN rfl) (QP.move rfl rfl) ?_
    refine Dw.pure (i := 5) rfl (by kernel_rfl) (Want.none rfl) rfl (ltN rfl) (QP.indexAddr rfl rfl rfl Try.underlying40 z67 (by first | omega | (simp only [List.length_map, List.length_append, List.length_cons, List.length_nil, List.length_take, List.length_drop]; omega)) (by first | omega | (simp only [List.length_map, List.length_append, List.length_cons, List.length_nil, List.length_take, List.length_drop]; omega))) ?_
    refine Dw.pure (i := 6) rfl (by kernel_rfl) (Want.none rfl) rfl (ltN rfl) (QP.fieldAddr rfl rfl f67_0) ?_
    refine Dw.read (i := 7) rfl (by kernel_rfl) (Want.none rfl) rfl (ltN rfl) (QR.loadSlF rfl rfl g28 Pending.enc_len (SlAt.own Pending.enc_len (by repeat (first | exact List.Mem.head _ | apply List.Mem.tail))) hi (Pending.sub_pair _)) ?_
    refine Dw.read (i := 8) rfl (by kernel_rfl) (Want.none rfl) rfl (ltN rfl) (QR.load rfl rfl g28 (Pair.enc_sub _)) ?_
    refine Dw.pure (i := 9) rfl (by kernel_rfl) (Want.none rfl) rfl (ltN rfl) (QP.eql_agg eq28 rfl rfl rfl) ?_
    refine J.caseD (fun c26 => ?_) (fun c26 => ?_)
    · skip
      refine Dw.pure (i := 10) rfl (by kernel_rfl) (Want.none rfl) rfl (ltN rfl) (QP.move rfl rfl) ?_
      refine Dw.pure (i := 11) rfl (by kernel_rfl) (Want.yes rfl rfl rfl rfl) rfl (ltN rfl) (QP.move rfl rfl) ?_
      refine Dw.pure (i := 12) rfl (by kernel_rfl) (Want.yes rfl rfl rfl rfl) rfl (ltN rfl) (QP.nilCheck rfl rfl) ?_
      refine Dw.pure (i := 13) rfl (by kernel_rfl) (Want.yes rfl rfl rfl rfl) rfl (ltN rfl) (QP.fieldAddr rfl rfl f57_1) ?_
      refine Dw.read (i := 14) rfl (by kernel_rfl) (Want.yes rfl rfl rfl rfl) rfl (ltN rfl) (QR.load1 (v := .slice _ L.length _) rfl rfl g40 (Ref18Table.sub_l _)) ?_
      refine Dw.pure (i := 15) rfl (by kernel_rfl) (Want.yes rfl rfl rfl rfl) rfl (ltN rfl) (QP.move rfl rfl) ?_
      refine Dw.pure (i := 16) rfl (by kernel_rfl) (Want.yes rfl rfl rfl rfl) rfl (ltN rfl) (QP.indexAddr rfl rfl rfl Try.underlying40 z67 (by first | omega | (simp only [List.length_map, List.length_append, List.length_cons, List.length_nil, List.length_take, List.length_drop]; omega)) (by first | omega | (simp only [List.length_map, List.length_append, List.length_cons, List.length_nil, List.length_take, List.length_drop]; omega))) ?_
      refine Dw.pure (i := 17) rfl (by kernel_rfl) (Want.yes rfl rfl rfl rfl) rfl (ltN rfl) (QP.fieldAddr rfl rfl f67_1) ?_
      refine Dw.read (i := 18) rfl (by kernel_rfl) (Want.yes rfl rfl rfl rfl) rfl (ltN rfl) (QR.loadSlF rfl rfl g30 Pending.enc_len (SlAt.own Pending.enc_len (by repeat (first | exact List.Mem.head _ | apply List.Mem.tail))) hi (Pending.sub_id_ _)) ?_
      refine Dw.read (i := 19) rfl (by kernel_rfl) (Want.yes rfl rfl rfl rfl) rfl (ltN rfl) (QR.load rfl rfl g30 (Bs.sub _)) ?_
      refine Dw.pure (i := 20) rfl (by kernel_rfl) (Want.yes rfl rfl rfl rfl) rfl (ltN rfl) (QP.eql_agg eq30 rfl rfl rfl) ?_
      refine J.caseD (fun c37 => ?_) (fun c37 => ?_)
      · skip
        refine Dw.pure (i := 21) rfl (by kernel_rfl) (Want.none rfl) rfl (ltN rfl) (QP.pick_t rfl rfl rfl) ?_
        refine Dw.nil (by kernel_rfl) ?_
        refine hk8 _ _ ?_
        refine Run.cond_t rfl ?_
        refine Run.seq fun k9 hk9 => ?_
        refine Run.region ?_
        show Sq _ _ _ [0, 1] _ _ _ _
        refine Sq.quiet (i := 0) rfl (Want.none rfl) rfl (ltN rfl) (QP.move rfl rfl).read ?_
        refine Sq.quiet (i := 1) rfl (Want.none rfl) rfl (ltN rfl) (QP.assign rfl rfl).read ?_
        refine Sq.nil ?_
        refine hk9 _ _ ?_
        refine Run.ret ?_
        exact J.ends (res_tmp rfl rfl) (.cons (by repeat (first | exact Pick.head | apply Pick.tail)) (.cons (by repeat (first | exact Pick.head | apply Pick.tail)) Takes.nil)) ⟨rfl, _, rfl, .inr ⟨i, x, rfl, hi, by simp_all [keyQ]⟩⟩
      · skip
        refine Dw.pure (i := 21) rfl (by kernel_rfl) (Want.none rfl) rfl (ltN rfl) (QP.pick_t rfl rfl rfl) ?_
        refine Dw.nil (by kernel_rfl) ?_
        refine hk8 _ _ ?_
        refine Run.cond_f rfl ?_
        refine Run.skip ?_
        refine hk7 _ _ ?_
        refine Run.region ?_
        show Sq _ _ _ [0, 1, 2] _ _ _ _
        refine Sq.quiet (i := 0) rfl (Want.none rfl) rfl (ltN rfl) (QP.move rfl rfl).read ?_
        refine Sq.quiet (i := 1) rfl (Want.none rfl) rfl (ltN rfl) (QP.add64 rfl rfl rfl (by first | omega | (simp only [List.length_map, List.length_append, List.length_cons, List.length_nil, List.length_take, List.length_drop]; omega)) (by first | omega | (simp only [List.length_map, List.length_append, List.length_cons, List.length_nil, List.length_take, List.length_drop]; omega))).read ?_
        refine Sq.quiet (i := 2) rfl (Want.none rfl) rfl (ltN rfl) (QP.assign rfl rfl).read ?_
        refine Sq.nil ?_
        exact J.envJ (J.keep (.cons (by repeat (first | exact Pick.head | apply Pick.tail)) (.cons (by repeat (first | exact Pick.head | apply Pick.tail)) (.cons (by repeat (first | exact Pick.head | apply Pick.tail)) (.cons (by repeat (first | exact Pick.head | apply Pick.tail)) Takes.nil)))) (hl4 (i + 1) (⟨by omega, take_no hno hi (by simp_all)⟩) (by omega))) ⟨rfl, rfl, rfl, rfl, trivial⟩
    · skip
      refine Dw.pure (i := 10) rfl (by kernel_rfl) (Want.none rfl) rfl (ltN rfl) (QP.move rfl rfl) ?_
      refine Dw.skip (i := 11) rfl (by kernel_rfl) (Want.no rfl rfl rfl rfl) rfl (ltN rfl) ?_
      refine Dw.skip (i := 12) rfl (by kernel_rfl) (Want.no rfl rfl rfl rfl) rfl (ltN rfl) ?_
      refine Dw.skip (i := 13) rfl (by kernel_rfl) (Want.no rfl rfl rfl rfl) rfl (ltN rfl) ?_
      refine Dw.skip (i := 14) rfl (by kernel_rfl) (Want.no rfl rfl rfl rfl) rfl (ltN rfl) ?_
      refine Dw.skip (i := 15) rfl (by kernel_rfl) (Want.no rfl rfl rfl rfl) rfl (ltN rfl) ?_
      refine Dw.skip (i := 16) rfl (by kernel_rfl) (Want.no rfl rfl rfl rfl) rfl (ltN rfl) ?_
      refine Dw.skip (i := 17) rfl (by kernel_rfl) (Want.no rfl rfl rfl rfl) rfl (ltN rfl) ?_
      refine Dw.skip (i := 18) rfl (by kernel_rfl) (Want.no rfl rfl rfl rfl) rfl (ltN rfl) ?_
      refine Dw.skip (i := 19) rfl (by kernel_rfl) (Want.no rfl rfl rfl rfl) rfl (ltN rfl) ?_
      refine Dw.skip (i := 20) rfl (by kernel_rfl) (Want.no rfl rfl rfl rfl) rfl (ltN rfl) ?_
      refine Dw.pure (i := 21) rfl (by kernel_rfl) (Want.none rfl) rfl (ltN rfl) (QP.pick_f rfl rfl rfl) ?_
      refine Dw.nil (by kernel_rfl) ?_
      refine hk8 _ _ ?_
      refine Run.cond_f rfl ?_
      refine Run.skip ?_
      refine hk7 _ _ ?_
      refine Run.region ?_
      show Sq _ _ _ [0, 1, 2] _ _ _ _
      refine Sq.quiet (i := 0) rfl (Want.none rfl) rfl (ltN rfl) (QP.move rfl rfl).read ?_
      refine Sq.quiet (i := 1) rfl (Want.none rfl) rfl (ltN rfl) (QP.add64 rfl rfl rfl (by first | omega | (simp only [List.length_map, List.length_append, List.length_cons, List.length_nil, List.length_take, List.length_drop]; omega)) (by first | omega | (simp only [List.length_map, List.length_append, List.length_cons, List.length_nil, List.length_take, List.length_drop]; omega))).read ?_
      refine Sq.quiet (i := 2) rfl (Want.none rfl) rfl (ltN rfl) (QP.assign rfl rfl).read ?_
      refine Sq.nil ?_
      exact J.envJ (J.keep (.cons (by repeat (first | exact Pick.head | apply Pick.tail)) (.cons (by repeat (first | exact Pick.head | apply Pick.tail)) (.cons (by repeat (first | exact Pick.head | apply Pick.tail)) (.cons (by repeat (first | exact Pick.head | apply Pick.tail)) Takes.nil)))) (hl4 (i + 1) (⟨by omega, take_no hno hi (by simp_all)⟩) (by omega))) ⟨rfl, rfl, rfl, rfl, trivial⟩
  · skip
    refine Sq.nil ?_
    refine hk6 _ _ ?_
    refine Run.cond_f rfl ?_
    refine Run.exit rfl ?_
    refine hk2 _ _ ?_
    refine Run.seq fun k10 hk10 => ?_
    refine Run.region ?_
    show Sq _ _ _ [0] _ _ _ _
    refine Sq.quiet (i := 0) rfl (Want.none rfl) rfl (ltN rfl) (QP.assign rfl rfl).read ?_
    refine Sq.nil ?_
    refine hk10 _ _ ?_
    refine Run.ret ?_
    exact J.ends (res_tmp rfl rfl) (.cons (by repeat (first | exact Pick.head | apply Pick.tail)) (.cons (by repeat (first | exact Pick.head | apply Pick.tail)) Takes.nil)) ⟨rfl, _, rfl, .inl ⟨rfl, by rw [List.take_of_length_le (by omega)] at hno; exact hno⟩⟩

theorem ahead_iff (x : Pending) (p : Pair) (id : Bs 8) (q n t : Int) : (0 < cmpPair x.pair p ∨ x.pair = p ∧ 0 < Lib.compareBytes x.id_.l id.l) ↔ 0 < cmpPending x ⟨p, id, q, n, t⟩ := by
  have h0 := totPair.eq x.pair p
  simp only [cmpPending, orF]
  by_cases h : cmpPair x.pair p = 0
  · have e := h0.1 h
    rw [if_neg (by omega)]
    constructor
    · rintro (h1 | ⟨_, h1⟩)
      · omega
      · rw [if_pos (by omega)]; exact h1
    · intro h1
      right
      refine ⟨e, ?_⟩
      split at h1
      · exact h1
      · omega
  · rw [if_pos h]
    constructor
    · rintro (h1 | ⟨e, _⟩)
      · exact h1
      · exact absurd (h0.2 e) h
    · exact .inl
theorem keyCmpQ : KeyCmp keyQ cmpPending := KeyCmp.of (c := fun a b => orF [cmpPair a.p b.p, Lib.compareBytes a.id_.l b.id_.l]) (TotCmp.lex totPair (TotCmp.bytes 8) (fun a => a.p) (fun a => a.id_) (fun x y h1 h2 => by obtain ⟨a, b⟩ := x; obtain ⟨c, d⟩ := y; simp only at h1 h2; subst h1; subst h2; rfl) (fun _ _ => rfl)) (fun _ _ => rfl)
theorem before_all {L : List Pending} (hs : L.Pairwise fun a b => cmpPending a b < 0) {j : Nat} {x nw : Pending} (h0 : 0 < j) (hi : L[Int.toNat ((j : Int) - 1)]? = some x) (hx : ¬ 0 < cmpPending x nw) (hne : keyQ x ≠ keyQ nw) : ∀ y ∈ L.take j, cmpPending y nw < 0 := by
  have hxn : cmpPending x nw < 0 := by
    have h1 : cmpPending x nw ≠ 0 := fun h => hne ((keyCmpQ.zero _ _).1 h)
    omega
  have hj : Int.toNat ((j : Int) - 1) = j - 1 := by omega
  rw [hj] at hi
  have hlt : j - 1 < L.length := (List.getElem?_eq_some_iff.1 hi).1
  have hL : L.take j = L.take (j - 1) ++ [x] := by
    have h1 : L.take (j - 1 + 1) = _ := List.take_add_one (l := L) (i := j - 1)
    rw [show j - 1 + 1 = j by omega, hi] at h1
    exact h1
  intro y hy
  have hs2 := hs.sublist (List.take_sublist j L)
  rw [hL] at hy hs2
  rcases List.mem_append.1 hy with hy | hy
  · rw [List.pairwise_append] at hs2
    exact keyCmpQ.tr _ _ _ (hs2.2.2 y hy x (by simp)) hxn
  · simp at hy; subst hy; exact hxn
theorem behind_more {L : List Pending} {j : Nat} {x nw : Pending} (h0 : 0 < j) (hi : L[Int.toNat ((j : Int) - 1)]? = some x) (hx : 0 < cmpPending x nw) (h : ∀ y ∈ L.drop j, 0 < cmpPending y nw) : ∀ y ∈ L.drop (j - 1), 0 < cmpPending y nw := by
  have hj : Int.toNat ((j : Int) - 1) = j - 1 := by omega
  rw [hj] at hi
  have hlt : j - 1 < L.length := (List.getElem?_eq_some_iff.1 hi).1
  intro y hy
  rw [List.drop_eq_getElem_cons hlt, show j - 1 + 1 = j by omega] at hy
  rcases List.mem_cons.1 hy with rfl | hy
  · have : L[j - 1] = x := (List.getElem?_eq_some_iff.1 hi).2
    rw [this]; exact hx
  · exact h y hy
/-- What the document's table becomes where a request is asked. -/
def RAsk (most : Int) (L : List Pending) (now : Int) (p : Pair) (id : Bs 8) (q : Int) (ok : Bool) (e : Int) (L' : List Pending) : Prop :=
  (∃ (i : Nat) (x : Pending), L[i]? = some x ∧ keyQ x = ⟨p, id⟩ ∧ ((lessB x.seqno q = false ∧ ok = false ∧ e = 0 ∧ L' = L) ∨ (lessB x.seqno q = true ∧ ok = true ∧ e = 0 ∧ L' = L.set i ⟨p, id, q, 1, now + 2000⟩))) ∨
  ((∀ x ∈ L, keyQ x ≠ ⟨p, id⟩) ∧ (((L.length : Int) ≥ most ∧ ok = false ∧ e = 6 ∧ L' = L) ∨
    (¬ (L.length : Int) ≥ most ∧ ok = true ∧ e = 0 ∧ ∃ j, j ≤ L.length ∧ (∀ x ∈ L.take j, cmpPending x ⟨p, id, q, 1, now + 2000⟩ < 0) ∧ (∀ x ∈ L.drop j, 0 < cmpPending x ⟨p, id, q, 1, now + 2000⟩) ∧ L' = L.take j ++ ⟨p, id, q, 1, now + 2000⟩ :: L.drop j)))
theorem cut_all {L : List Pending} {j : Nat} (hj : j ≤ L.length) (n : Pending) : (([] ++ (L.take j).drop 0) ++ [n]) ++ (L.take L.length).drop j = L.take j ++ n :: L.drop j := by simp

theorem rt_set {b : Nat} {most : Int} {a : Option Addr} {c : Nat} {L : List Pending} (i : Nat) (x : Pending) : [blk b (Ref18Table.enc ⟨most, ⟨a, L.length, c⟩⟩) 57, slA 67 45 Pending.enc (.slice a L.length c) (L.set i x)] = [blk b (Ref18Table.enc ⟨most, ⟨a, (L.set i x).length, c⟩⟩) 57, slA 67 45 Pending.enc (.slice a (L.set i x).length c) (L.set i x)] := by rw [List.length_set]

theorem rask_spec (F : Fr) {b : Nat} {most : Int} {a : Option Addr} {c : Nat} {L : List Pending} (hh : SlH a c L) (hL : L.length ≤ 1000000) (hs : L.Pairwise fun a b => cmpPending a b < 0) (hW : ∀ x ∈ L, 0 ≤ x.seqno ∧ x.seqno ≤ 65535) (now : Int) (hn0 : 0 ≤ now) (hn1 : now ≤ 2305843009213693952) (p : Pair) (id : Bs 8) (q : Int) (hq : 0 ≤ q ∧ q ≤ 65535) : Spec Try.prog 18 #[.pointer (some ⟨b, 0, none⟩), .int .i64 now, .agg (Pair.enc p).toArray, .agg (Bs.enc id).toArray, .int .u16 q] [blk b (Ref18Table.enc ⟨most, ⟨a, L.length, c⟩⟩) 57, slA 67 45 Pending.enc (.slice a L.length c) L] F (fun v S => ∃ a2 c2, ∃ L2 : List Pending, SlH a2 c2 L2 ∧ ∃ ok e, v = .tuple #[.bool ok, .int .i64 e] ∧ RAsk most L now p id q ok e L2 ∧ S = [blk b (Ref18Table.enc ⟨most, ⟨a2, L2.length, c2⟩⟩) 57, slA 67 45 Pending.enc (.slice a2 L2.length c2) L2]) := by
  have hcle := hh.le
  refine Spec.intro (N := 126) (args := [.pointer (some ⟨b, 0, none⟩), .int .i64 now, .agg (Pair.enc p).toArray, .agg (Bs.enc id).toArray, .int .u16 q]) Try.func18 rfl rfl (by simp) ?_
  refine Run.seq fun k1 hk1 => ?_
  refine Run.region ?_
  show Sq _ _ _ [0, 1, 2, 3] _ _ _ _
  refine Sq.eff (i := 0) rfl (Want.none rfl) rfl (ltN rfl) (EF.boxA rfl rfl) ?_
  rintro _ _ ⟨b7, rfl, rfl⟩
  refine Sq.eff (i := 1) rfl (Want.none rfl) rfl (ltN rfl) (EF.boxA rfl rfl) ?_
  rintro _ _ ⟨b8, rfl, rfl⟩
  refine Sq.quiet (i := 2) rfl (Want.none rfl) rfl (ltN rfl) (QP.assign rfl rfl).read ?_
  refine Sq.quiet (i := 3) rfl (Want.none rfl) rfl (ltN rfl) (QP.assign rfl rfl).read ?_
  refine Sq.nil ?_
  refine hk1 _ _ ?_
  refine Run.seq fun k2 hk2 => ?_
  refine Run.region ?_
  show Sq _ _ _ [0, 1, 2, 3, 4, 5, 6, 7] _ _ _ _
  refine Sq.quiet (i := 0) rfl (Want.none rfl) rfl (ltN rfl) (QR.load rfl rfl g28 (Pair.enc_sub _)) ?_
  refine Sq.quiet (i := 1) rfl (Want.none rfl) rfl (ltN rfl) (QR.load rfl rfl g30 (Bs.sub _)) ?_
  refine Sq.quiet (i := 2) rfl (Want.none rfl) rfl (ltN rfl) (QP.move rfl rfl).read ?_
  refine Sq.quiet (i := 3) rfl (Want.none rfl) rfl (ltN rfl) (QP.move rfl rfl).read ?_
  refine Sq.quiet (i := 4) rfl (Want.none rfl) rfl (ltN rfl) (QP.add64 rfl rfl rfl (by first | omega | (simp only [List.length_map, List.length_append, List.length_cons, List.length_nil, List.length_take, List.length_drop]; omega)) (by first | omega | (simp only [List.length_map, List.length_append, List.length_cons, List.length_nil, List.length_take, List.length_drop]; omega))).read ?_
  refine Sq.quiet (i := 5) rfl (Want.none rfl) rfl (ltN rfl) (QP.build (l := Pending.enc ⟨(p), (id), (q), (1), _⟩) rfl st67 rfl (by exact ⟨(congrArg some (Pair.enc_len _).symm), ⟨(congrArg some (Bs.len _).symm), ⟨rfl, ⟨rfl, ⟨rfl, trivial⟩⟩⟩⟩⟩) rfl).read ?_
  refine Sq.eff (i := 6) rfl (Want.none rfl) rfl (ltN rfl) (EF.allocA (l := Pending.enc Pending.zero) rfl zero67) ?_
  rintro _ _ ⟨b12, rfl, rfl⟩
  refine Sq.act (i := 7) rfl (Want.none rfl) rfl (EF.storeA rfl rfl rfl z67 (SetL.all (Pending.enc_len _) (Pending.enc_len _)) (Pending.enc_cell _)) ?_
  rintro _ _ rfl
  refine Sq.nil ?_
  refine hk2 _ _ ?_
  refine Run.seq fun k3 hk3 => ?_
  refine Run.region ?_
  show Sq _ _ _ [0, 1, 2, 3, 4] _ _ _ _
  refine Sq.quiet (i := 0) rfl (Want.none rfl) rfl (ltN rfl) (QP.move rfl rfl).read ?_
  refine Sq.quiet (i := 1) rfl (Want.none rfl) rfl (ltN rfl) (QR.load rfl rfl g28 (Pair.enc_sub _)) ?_
  refine Sq.quiet (i := 2) rfl (Want.none rfl) rfl (ltN rfl) (QR.load rfl rfl g30 (Bs.sub _)) ?_
  refine Sq.eff (i := 3) rfl (Want.none rfl) rfl (ltN rfl) (EF.call rfl ce36 rfl (.cons (by repeat (first | exact Pick.head | apply Pick.tail)) (.cons (by repeat (first | exact Pick.head | apply Pick.tail)) Takes.nil)) (fun F' hle hr => rfind_spec F' hh hL p id)) ?_
  rintro _ _ ⟨_, ⟨rfl, n24, rfl, hfind⟩, rfl⟩
  refine J.app ?_
  refine Sq.quiet (i := 4) rfl (Want.none rfl) rfl (ltN rfl) (QP.assign rfl rfl).read ?_
  refine Sq.nil ?_
  refine hk3 _ _ ?_
  refine Run.seq fun k4 hk4 => ?_
  refine Run.seq fun k5 hk5 => ?_
  refine Run.region ?_
  show Sq _ _ _ [0, 1] _ _ _ _
  refine Sq.quiet (i := 0) rfl (Want.none rfl) rfl (ltN rfl) (QP.move rfl rfl).read ?_
  refine Sq.quiet (i := 1) rfl (Want.none rfl) rfl (ltN rfl) (QP.geq rfl rfl rfl).read ?_
  refine J.caseD (fun c26 => ?_) (fun c26 => ?_)
  · skip
    refine Sq.nil ?_
    refine hk5 _ _ ?_
    refine Run.cond_t rfl ?_
    refine Run.seq fun k6 hk6 => ?_
    refine Run.seq fun k7 hk7 => ?_
    refine Run.region ?_
    show Sq _ _ _ [0, 1, 2, 3, 4, 5, 6, 7, 8, 9, 10] _ _ _ _
    obtain ⟨i, x, rfl, hi, hkx⟩ : ∃ (i : Nat) (x : Pending), n24 = (i : Int) ∧ L[i]? = some x ∧ keyQ x = ⟨p, id⟩ := by
      rcases hfind with ⟨h1, _⟩ | ⟨i, x, h1, h2, h3⟩
      · omega
      · exact ⟨i, x, h1, h2, h3⟩
    have hlt : i < L.length := (List.getElem?_eq_some_iff.1 hi).1
    obtain ⟨b0, o0, rfl⟩ := hh.get (by omega)
    refine Sq.quiet (i := 0) rfl (Want.none rfl) rfl (ltN rfl) (QP.move rfl rfl).read ?_
    refine Sq.quiet (i := 1) rfl (Want.none rfl) rfl (ltN rfl) (QP.nilCheck rfl rfl).read ?_
    refine Sq.quiet (i := 2) rfl (Want.none rfl) rfl (ltN rfl) (QP.fieldAddr rfl rfl f57_1).read ?_
    refine Sq.quiet (i := 3) rfl (Want.none rfl) rfl (ltN rfl) (QR.load1 (v := .slice _ L.length _) rfl rfl g40 (Ref18Table.sub_l _)) ?_
    refine Sq.quiet (i := 4) rfl (Want.none rfl) rfl (ltN rfl) (QP.move rfl rfl).read ?_
    refine Sq.quiet (i := 5) rfl (Want.none rfl) rfl (ltN rfl) (QP.indexAddr rfl rfl rfl Try.underlying40 z67 (by first | omega | (simp only [List.length_map, List.length_append, List.length_cons, List.length_nil, List.length_take, List.length_drop]; omega)) (by first | omega | (simp only [List.length_map, List.length_append, List.length_cons, List.length_nil, List.length_take, List.length_drop]; omega))).read ?_
    refine Sq.quiet (i := 6) rfl (Want.none rfl) rfl (ltN rfl) (QP.fieldAddr rfl rfl f67_2).read ?_
    refine Sq.quiet (i := 7) rfl (Want.none rfl) rfl (ltN rfl) (QR.loadSlF1 rfl rfl g31 Pending.enc_len (SlAt.own Pending.enc_len (by repeat (first | exact List.Mem.head _ | apply List.Mem.tail))) hi (Pending.sub_seqno _)) ?_
    refine Sq.quiet (i := 8) rfl (Want.none rfl) rfl (ltN rfl) (QP.move rfl rfl).read ?_
    refine Sq.eff (i := 9) rfl (Want.none rfl) rfl (ltN rfl) (EF.call rfl ce35 rfl Takes.nil (fun F' hle hr => rless_spec F' x.seqno q (hW x (List.mem_of_getElem? hi)) hq)) ?_
    rintro _ _ ⟨_, ⟨rfl, rfl⟩, rfl⟩
    refine J.app ?_
    refine J.caseB (fun c36 => ?_) (fun c36 => ?_)
    · skip
      refine Sq.quiet (i := 10) rfl (Want.none rfl) rfl (ltN rfl) (QP.not rfl rfl).read ?_
      refine Sq.nil ?_
      refine hk7 _ _ ?_
      refine Run.cond_f rfl ?_
      refine Run.skip ?_
      refine hk6 _ _ ?_
      refine Run.seq fun k8 hk8 => ?_
      refine Run.regionD (M := [0, 1, 3, 7, 0, 0, 63, 127]) (q := 127) (r := 40) (by kernel_rfl) ?_
      refine Dw.pure (i := 0) rfl (by kernel_rfl) (Want.none rfl) rfl (ltN rfl) (QP.move rfl rfl) ?_
      refine Dw.pure (i := 1) rfl (by kernel_rfl) (Want.none rfl) rfl (ltN rfl) (QP.nilCheck rfl rfl) ?_
      refine Dw.pure (i := 2) rfl (by kernel_rfl) (Want.none rfl) rfl (ltN rfl) (QP.fieldAddr rfl rfl f57_1) ?_
      refine Dw.read (i := 3) rfl (by kernel_rfl) (Want.none rfl) rfl (ltN rfl) (QR.load1 (v := .slice _ L.length _) rfl rfl g40 (Ref18Table.sub_l _)) ?_
      refine Dw.pure (i := 4) rfl (by kernel_rfl) (Want.none rfl) rfl (ltN rfl) (QP.move rfl rfl) ?_
      refine Dw.read (i := 5) rfl (by kernel_rfl) (Want.none rfl) rfl (ltN rfl) (QR.load rfl rfl g67 (Pending.enc_sub _)) ?_
      refine Dw.pure (i := 6) rfl (by kernel_rfl) (Want.none rfl) rfl (ltN rfl) (QP.indexAddr rfl rfl rfl Try.underlying40 z67 (by first | omega | (simp only [List.length_map, List.length_append, List.length_cons, List.length_nil, List.length_take, List.length_drop]; omega)) (by first | omega | (simp only [List.length_map, List.length_append, List.length_cons, List.length_nil, List.length_take, List.length_drop]; omega))) ?_
      refine Dw.eff (i := 7) (by kernel_rfl) (by kernel_rfl) ?_
      refine One.act (o := _) (l := []) rfl (by kernel_rfl) (Want.none rfl) rfl (EF.storeSl (enc := Pending.enc) (s := _) rfl rfl rfl z67 (by repeat (first | exact Pick.head | apply Pick.tail)) Pending.enc_len Pending.enc_cell (by first | omega | (simp only [List.length_map, List.length_append, List.length_cons, List.length_nil, List.length_take, List.length_drop]; omega))) (by kernel_rfl) ?_
      rintro _ _ rfl
      refine ⟨fun _ h => (by cases h), ?_⟩
      refine Dw.nil (by kernel_rfl) ?_
      refine hk8 _ _ ?_
      refine Run.seq fun k9 hk9 => ?_
      refine Run.region ?_
      show Sq _ _ _ [0, 1] _ _ _ _
      have hh2 : SlH (some ⟨b0, o0, none⟩) c (L.set i (⟨p, id, q, 1, now + 2000⟩ : Pending)) := .inr ⟨⟨b0, o0, rfl⟩, by rw [List.length_set]; exact hh.le⟩
      refine Sq.quiet (i := 0) rfl (Want.none rfl) rfl (ltN rfl) (QP.assign rfl rfl).read ?_
      refine Sq.quiet (i := 1) rfl (Want.none rfl) rfl (ltN rfl) (QP.assign rfl rfl).read ?_
      refine Sq.nil ?_
      refine hk9 _ _ ?_
      refine Run.ret ?_
      exact J.ends (res_tmp2 rfl rfl rfl) (.cons (by repeat (first | exact Pick.head | apply Pick.tail)) (.cons (by repeat (first | exact Pick.head | apply Pick.tail)) Takes.nil)) ⟨_, _, _, hh2, true, 0, rfl, .inl ⟨i, x, hi, hkx, .inr ⟨c36, rfl, rfl, rfl⟩⟩, rt_set i _⟩
    · skip
      refine Sq.quiet (i := 10) rfl (Want.none rfl) rfl (ltN rfl) (QP.not rfl rfl).read ?_
      refine Sq.nil ?_
      refine hk7 _ _ ?_
      refine Run.cond_t rfl ?_
      refine Run.seq fun k10 hk10 => ?_
      refine Run.region ?_
      show Sq _ _ _ [0, 1] _ _ _ _
      refine Sq.quiet (i := 0) rfl (Want.none rfl) rfl (ltN rfl) (QP.assign rfl rfl).read ?_
      refine Sq.quiet (i := 1) rfl (Want.none rfl) rfl (ltN rfl) (QP.assign rfl rfl).read ?_
      refine Sq.nil ?_
      refine hk10 _ _ ?_
      refine Run.ret ?_
      exact J.ends (res_tmp2 rfl rfl rfl) (.cons (by repeat (first | exact Pick.head | apply Pick.tail)) (.cons (by repeat (first | exact Pick.head | apply Pick.tail)) Takes.nil)) ⟨_, _, _, hh, false, 0, rfl, .inl ⟨i, x, hi, hkx, .inl ⟨by simpa using c36, rfl, rfl, rfl⟩⟩, rfl⟩
  · skip
    refine Sq.nil ?_
    refine hk5 _ _ ?_
    refine Run.cond_f rfl ?_
    refine Run.skip ?_
    refine hk4 _ _ ?_
    refine Run.seq fun k11 hk11 => ?_
    refine Run.seq fun k12 hk12 => ?_
    refine Run.regionD (M := [0, 1, 3, 7, 15, 0, 32, 96, 224, 511]) (q := 1023) (r := 264) (by kernel_rfl) ?_
    have hno : ∀ x ∈ L, keyQ x ≠ ⟨p, id⟩ := by
      rcases hfind with ⟨_, h1⟩ | ⟨i, x, h1, _, _⟩
      · exact h1
      · omega
    refine Dw.pure (i := 0) rfl (by kernel_rfl) (Want.none rfl) rfl (ltN rfl) (QP.move rfl rfl) ?_
    refine Dw.pure (i := 1) rfl (by kernel_rfl) (Want.none rfl) rfl (ltN rfl) (QP.nilCheck rfl rfl) ?_
    refine Dw.pure (i := 2) rfl (by kernel_rfl) (Want.none rfl) rfl (ltN rfl) (QP.fieldAddr rfl rfl f57_1) ?_
    refine Dw.read (i := 3) rfl (by kernel_rfl) (Want.none rfl) rfl (ltN rfl) (QR.load1 (v := .slice _ L.length _) rfl rfl g40 (Ref18Table.sub_l _)) ?_
    refine Dw.pure (i := 4) rfl (by kernel_rfl) (Want.none rfl) rfl (ltN rfl) (QP.len rfl rfl rfl Try.underlying40) ?_
    refine Dw.pure (i := 5) rfl (by kernel_rfl) (Want.none rfl) rfl (ltN rfl) (QP.move rfl rfl) ?_
    refine Dw.pure (i := 6) rfl (by kernel_rfl) (Want.none rfl) rfl (ltN rfl) (QP.nilCheck rfl rfl) ?_
    refine Dw.pure (i := 7) rfl (by kernel_rfl) (Want.none rfl) rfl (ltN rfl) (QP.fieldAddr rfl rfl f57_0) ?_
    refine Dw.read (i := 8) rfl (by kernel_rfl) (Want.none rfl) rfl (ltN rfl) (QR.load1 rfl rfl g3 (Ref18Table.sub_most _)) ?_
    refine Dw.pure (i := 9) rfl (by kernel_rfl) (Want.none rfl) rfl (ltN rfl) (QP.geq rfl rfl rfl) ?_
    refine J.caseD (fun c54 => ?_) (fun c54 => ?_)
    · skip
      refine Dw.nil (by kernel_rfl) ?_
      refine hk12 _ _ ?_
      refine Run.cond_t rfl ?_
      refine Run.seq fun k13 hk13 => ?_
      refine Run.region ?_
      show Sq _ _ _ [0, 1] _ _ _ _
      refine Sq.quiet (i := 0) rfl (Want.none rfl) rfl (ltN rfl) (QP.assign rfl rfl).read ?_
      refine Sq.quiet (i := 1) rfl (Want.none rfl) rfl (ltN rfl) (QP.assign rfl rfl).read ?_
      refine Sq.nil ?_
      refine hk13 _ _ ?_
      refine Run.ret ?_
      exact J.ends (res_tmp2 rfl rfl rfl) (.cons (by repeat (first | exact Pick.head | apply Pick.tail)) (.cons (by repeat (first | exact Pick.head | apply Pick.tail)) Takes.nil)) ⟨_, _, _, hh, false, 6, rfl, .inr ⟨hno, .inl ⟨c54, rfl, rfl, rfl⟩⟩, rfl⟩
    · skip
      refine Dw.nil (by kernel_rfl) ?_
      refine hk12 _ _ ?_
      refine Run.cond_f rfl ?_
      refine Run.skip ?_
      refine hk11 _ _ ?_
      refine Run.seq fun k14 hk14 => ?_
      refine Run.region ?_
      show Sq _ _ _ [0, 1, 2, 3, 4, 5] _ _ _ _
      refine Sq.quiet (i := 0) rfl (Want.none rfl) rfl (ltN rfl) (QP.move rfl rfl).read ?_
      refine Sq.quiet (i := 1) rfl (Want.none rfl) rfl (ltN rfl) (QP.nilCheck rfl rfl).read ?_
      refine Sq.quiet (i := 2) rfl (Want.none rfl) rfl (ltN rfl) (QP.fieldAddr rfl rfl f57_1).read ?_
      refine Sq.quiet (i := 3) rfl (Want.none rfl) rfl (ltN rfl) (QR.load1 (v := .slice _ L.length _) rfl rfl g40 (Ref18Table.sub_l _)) ?_
      refine Sq.quiet (i := 4) rfl (Want.none rfl) rfl (ltN rfl) (QP.len rfl rfl rfl Try.underlying40).read ?_
      refine Sq.quiet (i := 5) rfl (Want.none rfl) rfl (ltN rfl) (QP.assign rfl rfl).read ?_
      refine Sq.nil ?_
      refine hk14 _ _ ?_
      refine Run.seq fun k15 hk15 => ?_
      refine Run.block ?_
      refine Run.loop1 (fun (j : Nat) => j ≤ L.length ∧ ∀ x ∈ L.drop j, 0 < cmpPending x (⟨p, id, q, 1, now + 2000⟩ : Pending)) (fun j => .cons 0 (.pointer (some ⟨b, 0, none⟩)) (.cons 4 (.int .u16 q) (.cons 7 (.pointer (some ⟨b7, 0, none⟩)) (.cons 8 (.pointer (some ⟨b8, 0, none⟩)) (.cons 12 (.pointer (some ⟨b12, 0, none⟩)) (.cons 14 (.int .i64 j) (.nil))))))) (fun j => [blk b (Ref18Table.enc ⟨most, ⟨a, L.length, c⟩⟩) 57, slA 67 45 Pending.enc (.slice a L.length c) L, blk b7 (Pair.enc p) 28, blk b8 (Bs.enc id) 30, blk b12 (Pending.enc (⟨p, id, q, 1, now + 2000⟩ : Pending)) 67]) (fun j => j) (L.length) (⟨Nat.le_refl _, by simp⟩) ?_ ?_
      · exact fun _ j => J.envJ (J.keep (.cons (by repeat (first | exact Pick.head | apply Pick.tail)) (.cons (by repeat (first | exact Pick.head | apply Pick.tail)) (.cons (by repeat (first | exact Pick.head | apply Pick.tail)) (.cons (by repeat (first | exact Pick.head | apply Pick.tail)) (.cons (by repeat (first | exact Pick.head | apply Pick.tail)) Takes.nil))))) j) ⟨rfl, rfl, rfl, rfl, rfl, rfl, trivial⟩
      rintro j ⟨hjl, haft⟩ kl16 hl16
      refine Run.seq fun k17 hk17 => ?_
      refine Run.seq fun k18 hk18 => ?_
      refine Run.regionD (M := [0, 1, 3, 7, 15, 31, 63, 7, 135, 511, 1023, 2047, 7, 8191, 16383, 32767, 65535, 131071, 262143, 524287, 65535, 1114111, 4194303, 8388607, 16777215, 65535, 67108863, 134217727, 268435455, 536870911, 1073741823, 2147483647, 268435455, 4563402751, 17179869183, 34359738367, 68719476735, 268435455, 274877906943, 549755813887, 1099511627775, 2199023255551, 4398046511103]) (q := 8521215107071) (r := 208356776000) (by kernel_rfl) ?_
      refine Dw.pure (i := 0) rfl (by kernel_rfl) (Want.none rfl) rfl (ltN rfl) (QP.move rfl rfl) ?_
      refine Dw.pure (i := 1) rfl (by kernel_rfl) (Want.none rfl) rfl (ltN rfl) (QP.gtr rfl rfl rfl) ?_
      refine J.caseD (fun c61 => ?_) (fun c61 => ?_)
      · skip
        refine Dw.pure (i := 2) rfl (by kernel_rfl) (Want.none rfl) rfl (ltN rfl) (QP.move rfl rfl) ?_
        refine Dw.pure (i := 3) rfl (by kernel_rfl) (Want.yes rfl rfl rfl rfl) rfl (ltN rfl) (QP.move rfl rfl) ?_
        refine Dw.pure (i := 4) rfl (by kernel_rfl) (Want.yes rfl rfl rfl rfl) rfl (ltN rfl) (QP.nilCheck rfl rfl) ?_
        refine Dw.pure (i := 5) rfl (by kernel_rfl) (Want.yes rfl rfl rfl rfl) rfl (ltN rfl) (QP.fieldAddr rfl rfl f57_1) ?_
        refine Dw.read (i := 6) rfl (by kernel_rfl) (Want.yes rfl rfl rfl rfl) rfl (ltN rfl) (QR.load1 (v := .slice _ L.length _) rfl rfl g40 (Ref18Table.sub_l _)) ?_
        refine Dw.pure (i := 7) rfl (by kernel_rfl) (Want.yes rfl rfl rfl rfl) rfl (ltN rfl) (QP.move rfl rfl) ?_
        refine Dw.pure (i := 8) rfl (by kernel_rfl) (Want.yes rfl rfl rfl rfl) rfl (ltN rfl) (QP.sub64 rfl rfl rfl (by first | omega | (simp only [List.length_map, List.length_append, List.length_cons, List.length_nil, List.length_take, List.length_drop]; omega)) (by first | omega | (simp only [List.length_map, List.length_append, List.length_cons, List.length_nil, List.length_take, List.length_drop]; omega))) ?_
        obtain ⟨x, hi⟩ : ∃ x, L[Int.toNat ((j : Int) - 1)]? = some x := ⟨_, List.getElem?_eq_getElem (by omega)⟩
        obtain ⟨b0, o0, rfl⟩ := hh.get (by omega)
        refine Dw.pure (i := 9) rfl (by kernel_rfl) (Want.yes rfl rfl rfl rfl) rfl (ltN rfl) (QP.indexAddr rfl rfl rfl Try.underlying40 z67 (by first | omega | (simp only [List.length_map, List.length_append, List.length_cons, List.length_nil, List.length_take, List.length_drop]; omega)) (by first | omega | (simp only [List.length_map, List.length_append, List.length_cons, List.length_nil, List.length_take, List.length_drop]; omega))) ?_
        refine Dw.pure (i := 10) rfl (by kernel_rfl) (Want.yes rfl rfl rfl rfl) rfl (ltN rfl) (QP.fieldAddr rfl rfl f67_0) ?_
        refine Dw.read (i := 11) rfl (by kernel_rfl) (Want.yes rfl rfl rfl rfl) rfl (ltN rfl) (QR.loadSlF rfl rfl g28 Pending.enc_len (SlAt.own Pending.enc_len (by repeat (first | exact List.Mem.head _ | apply List.Mem.tail))) hi (Pending.sub_pair _)) ?_
        refine Dw.read (i := 12) rfl (by kernel_rfl) (Want.yes rfl rfl rfl rfl) rfl (ltN rfl) (QR.load rfl rfl g28 (Pair.enc_sub _)) ?_
        refine Dw.eff (i := 13) (by kernel_rfl) (by kernel_rfl) ?_
        refine One.mk (o := _) (l := []) rfl (by kernel_rfl) (Want.yes rfl rfl rfl rfl) rfl (ltN rfl) (EF.call rfl ce37 rfl Takes.nil (fun F' hle hr => rcmpPair_spec F' x.pair p)) (by kernel_rfl) ?_
        rintro _ _ ⟨_, ⟨n73, rfl, rfl, hp73, hm73⟩, rfl⟩
        refine ⟨fun _ h => (by cases h), ?_⟩
        refine J.app ?_
        refine Dw.pure (i := 14) rfl (by kernel_rfl) (Want.yes rfl rfl rfl rfl) rfl (ltN rfl) (QP.gtr rfl rfl rfl) ?_
        refine J.caseD (fun c74 => ?_) (fun c74 => ?_)
        · skip
          refine Dw.pure (i := 15) rfl (by kernel_rfl) (Want.yes rfl rfl rfl rfl) rfl (ltN rfl) (QP.move rfl rfl) ?_
          refine Dw.skip (i := 16) rfl (by kernel_rfl) (Want.no rfl rfl rfl rfl) rfl (ltN rfl) ?_
          refine Dw.skip (i := 17) rfl (by kernel_rfl) (Want.no rfl rfl rfl rfl) rfl (ltN rfl) ?_
          refine Dw.skip (i := 18) rfl (by kernel_rfl) (Want.no rfl rfl rfl rfl) rfl (ltN rfl) ?_
          refine Dw.skip (i := 19) rfl (by kernel_rfl) (Want.no rfl rfl rfl rfl) rfl (ltN rfl) ?_
          refine Dw.skip (i := 20) rfl (by kernel_rfl) (Want.no rfl rfl rfl rfl) rfl (ltN rfl) ?_
          refine Dw.skip (i := 21) rfl (by kernel_rfl) (Want.no rfl rfl rfl rfl) rfl (ltN rfl) ?_
          refine Dw.skip (i := 22) rfl (by kernel_rfl) (Want.no rfl rfl rfl rfl) rfl (ltN rfl) ?_
          refine Dw.skip (i := 23) rfl (by kernel_rfl) (Want.no rfl rfl rfl rfl) rfl (ltN rfl) ?_
          refine Dw.skip (i := 24) rfl (by kernel_rfl) (Want.no rfl rfl rfl rfl) rfl (ltN rfl) ?_
          refine Dw.skip (i := 25) rfl (by kernel_rfl) (Want.no rfl rfl rfl rfl) rfl (ltN rfl) ?_
          refine Dw.skip (i := 26) rfl (by kernel_rfl) (Want.no rfl rfl rfl rfl) rfl (ltN rfl) ?_
          refine Dw.skip (i := 27) rfl (by kernel_rfl) (Want.no rfl rfl rfl rfl) rfl (ltN rfl) ?_
          refine Dw.skip (i := 28) rfl (by kernel_rfl) (Want.undef rfl rfl rfl) rfl (ltN rfl) ?_
          refine Dw.skip (i := 29) rfl (by kernel_rfl) (Want.undef rfl rfl rfl) rfl (ltN rfl) ?_
          refine Dw.skip (i := 30) rfl (by kernel_rfl) (Want.undef rfl rfl rfl) rfl (ltN rfl) ?_
          refine Dw.skip (i := 31) rfl (by kernel_rfl) (Want.undef rfl rfl rfl) rfl (ltN rfl) ?_
          refine Dw.skip (i := 32) rfl (by kernel_rfl) (Want.undef rfl rfl rfl) rfl (ltN rfl) ?_
          refine Dw.skip (i := 33) rfl (by kernel_rfl) (Want.undef rfl rfl rfl) rfl (ltN rfl) ?_
          refine Dw.skip (i := 34) rfl (by kernel_rfl) (Want.undef rfl rfl rfl) rfl (ltN rfl) ?_
          refine Dw.skip (i := 35) rfl (by kernel_rfl) (Want.undef rfl rfl rfl) rfl (ltN rfl) ?_
          refine Dw.skip (i := 36) rfl (by kernel_rfl) (Want.undef rfl rfl rfl) rfl (ltN rfl) ?_
          refine Dw.skip (i := 37) rfl (by kernel_rfl) (Want.undef rfl rfl rfl) rfl (ltN rfl) ?_
          refine Dw.eff (i := 38) (by kernel_rfl) (by kernel_rfl) ?_
          refine One.skipD (o := _) rfl (by kernel_rfl) (Want.undef rfl rfl rfl) rfl (ltN rfl) ?_
          refine Dw.skip (i := 39) rfl (by kernel_rfl) (Want.undef rfl rfl rfl) rfl (ltN rfl) ?_
          refine Dw.skip (i := 40) rfl (by kernel_rfl) (Want.no rfl rfl rfl rfl) rfl (ltN rfl) ?_
          refine Dw.pure (i := 41) rfl (by kernel_rfl) (Want.yes rfl rfl rfl rfl) rfl (ltN rfl) (QP.pick_t rfl rfl rfl) ?_
          refine Dw.pure (i := 42) rfl (by kernel_rfl) (Want.none rfl) rfl (ltN rfl) (QP.pick_t rfl rfl rfl) ?_
          refine Dw.nil (by kernel_rfl) ?_
          refine hk18 _ _ ?_
          refine Run.cond_t rfl ?_
          refine Run.skip ?_
          refine hk17 _ _ ?_
          refine Run.block ?_
          refine Run.region ?_
          show Sq _ _ _ [0, 1, 2] _ _ _ _
          refine Sq.quiet (i := 0) rfl (Want.none rfl) rfl (ltN rfl) (QP.move rfl rfl).read ?_
          refine Sq.quiet (i := 1) rfl (Want.none rfl) rfl (ltN rfl) (QP.sub64 rfl rfl rfl (by first | omega | (simp only [List.length_map, List.length_append, List.length_cons, List.length_nil, List.length_take, List.length_drop]; omega)) (by first | omega | (simp only [List.length_map, List.length_append, List.length_cons, List.length_nil, List.length_take, List.length_drop]; omega))).read ?_
          refine Sq.quiet (i := 2) rfl (Want.none rfl) rfl (ltN rfl) (QP.assign rfl rfl).read ?_
          refine Sq.nil ?_
          exact J.envJ (J.keep (.cons (by repeat (first | exact Pick.head | apply Pick.tail)) (.cons (by repeat (first | exact Pick.head | apply Pick.tail)) (.cons (by repeat (first | exact Pick.head | apply Pick.tail)) (.cons (by repeat (first | exact Pick.head | apply Pick.tail)) (.cons (by repeat (first | exact Pick.head | apply Pick.tail)) Takes.nil))))) (hl16 (j - 1) (⟨by omega, behind_more (by omega) hi ((ahead_iff x p id q 1 (now + 2000)).1 (.inl (hp73.1 c74))) haft⟩) (by omega))) ⟨rfl, rfl, rfl, rfl, rfl, (congrArg (fun n => some (Value.int .i64 n)) (show _ = _ by omega)), trivial⟩
        · skip
          refine Dw.pure (i := 15) rfl (by kernel_rfl) (Want.yes rfl rfl rfl rfl) rfl (ltN rfl) (QP.move rfl rfl) ?_
          refine Dw.pure (i := 16) rfl (by kernel_rfl) (Want.yes rfl rfl rfl rfl) rfl (ltN rfl) (QP.move rfl rfl) ?_
          refine Dw.pure (i := 17) rfl (by kernel_rfl) (Want.yes rfl rfl rfl rfl) rfl (ltN rfl) (QP.nilCheck rfl rfl) ?_
          refine Dw.pure (i := 18) rfl (by kernel_rfl) (Want.yes rfl rfl rfl rfl) rfl (ltN rfl) (QP.fieldAddr rfl rfl f57_1) ?_
          refine Dw.read (i := 19) rfl (by kernel_rfl) (Want.yes rfl rfl rfl rfl) rfl (ltN rfl) (QR.load1 (v := .slice _ L.length _) rfl rfl g40 (Ref18Table.sub_l _)) ?_
          refine Dw.pure (i := 20) rfl (by kernel_rfl) (Want.yes rfl rfl rfl rfl) rfl (ltN rfl) (QP.move rfl rfl) ?_
          refine Dw.pure (i := 21) rfl (by kernel_rfl) (Want.yes rfl rfl rfl rfl) rfl (ltN rfl) (QP.sub64 rfl rfl rfl (by first | omega | (simp only [List.length_map, List.length_append, List.length_cons, List.length_nil, List.length_take, List.length_drop]; omega)) (by first | omega | (simp only [List.length_map, List.length_append, List.length_cons, List.length_nil, List.length_take, List.length_drop]; omega))) ?_
          refine Dw.pure (i := 22) rfl (by kernel_rfl) (Want.yes rfl rfl rfl rfl) rfl (ltN rfl) (QP.indexAddr rfl rfl rfl Try.underlying40 z67 (by first | omega | (simp only [List.length_map, List.length_append, List.length_cons, List.length_nil, List.length_take, List.length_drop]; omega)) (by first | omega | (simp only [List.length_map, List.length_append, List.length_cons, List.length_nil, List.length_take, List.length_drop]; omega))) ?_
          refine Dw.pure (i := 23) rfl (by kernel_rfl) (Want.yes rfl rfl rfl rfl) rfl (ltN rfl) (QP.fieldAddr rfl rfl f67_0) ?_
          refine Dw.read (i := 24) rfl (by kernel_rfl) (Want.yes rfl rfl rfl rfl) rfl (ltN rfl) (QR.loadSlF rfl rfl g28 Pending.enc_len (SlAt.own Pending.enc_len (by repeat (first | exact List.Mem.head _ | apply List.Mem.tail))) hi (Pending.sub_pair _)) ?_
          refine Dw.read (i := 25) rfl (by kernel_rfl) (Want.yes rfl rfl rfl rfl) rfl (ltN rfl) (QR.load rfl rfl g28 (Pair.enc_sub _)) ?_
          refine Dw.pure (i := 26) rfl (by kernel_rfl) (Want.yes rfl rfl rfl rfl) rfl (ltN rfl) (QP.eql_agg eq28 rfl rfl rfl) ?_
          refine J.caseD (fun c86 => ?_) (fun c86 => ?_)
          · skip
            refine Dw.pure (i := 27) rfl (by kernel_rfl) (Want.yes rfl rfl rfl rfl) rfl (ltN rfl) (QP.move rfl rfl) ?_
            refine Dw.pure (i := 28) rfl (by kernel_rfl) (Want.yes rfl rfl rfl rfl) rfl (ltN rfl) (QP.move rfl rfl) ?_
            refine Dw.pure (i := 29) rfl (by kernel_rfl) (Want.yes rfl rfl rfl rfl) rfl (ltN rfl) (QP.nilCheck rfl rfl) ?_
            refine Dw.pure (i := 30) rfl (by kernel_rfl) (Want.yes rfl rfl rfl rfl) rfl (ltN rfl) (QP.fieldAddr rfl rfl f57_1) ?_
            refine Dw.read (i := 31) rfl (by kernel_rfl) (Want.yes rfl rfl rfl rfl) rfl (ltN rfl) (QR.load1 (v := .slice _ L.length _) rfl rfl g40 (Ref18Table.sub_l _)) ?_
            refine Dw.pure (i := 32) rfl (by kernel_rfl) (Want.yes rfl rfl rfl rfl) rfl (ltN rfl) (QP.move rfl rfl) ?_
            refine Dw.pure (i := 33) rfl (by kernel_rfl) (Want.yes rfl rfl rfl rfl) rfl (ltN rfl) (QP.sub64 rfl rfl rfl (by first | omega | (simp only [List.length_map, List.length_append, List.length_cons, List.length_nil, List.length_take, List.length_drop]; omega)) (by first | omega | (simp only [List.length_map, List.length_append, List.length_cons, List.length_nil, List.length_take, List.length_drop]; omega))) ?_
            refine Dw.pure (i := 34) rfl (by kernel_rfl) (Want.yes rfl rfl rfl rfl) rfl (ltN rfl) (QP.indexAddr rfl rfl rfl Try.underlying40 z67 (by first | omega | (simp only [List.length_map, List.length_append, List.length_cons, List.length_nil, List.length_take, List.length_drop]; omega)) (by first | omega | (simp only [List.length_map, List.length_append, List.length_cons, List.length_nil, List.length_take, List.length_drop]; omega))) ?_
            refine Dw.pure (i := 35) rfl (by kernel_rfl) (Want.yes rfl rfl rfl rfl) rfl (ltN rfl) (QP.fieldAddr rfl rfl f67_1) ?_
            refine Dw.read (i := 36) rfl (by kernel_rfl) (Want.yes rfl rfl rfl rfl) rfl (ltN rfl) (QR.loadSlF rfl rfl g30 Pending.enc_len (SlAt.own Pending.enc_len (by repeat (first | exact List.Mem.head _ | apply List.Mem.tail))) hi (Pending.sub_id_ _)) ?_
            refine Dw.read (i := 37) rfl (by kernel_rfl) (Want.yes rfl rfl rfl rfl) rfl (ltN rfl) (QR.load rfl rfl g30 (Bs.sub _)) ?_
            refine Dw.eff (i := 38) (by kernel_rfl) (by kernel_rfl) ?_
            refine One.mk (o := _) (l := []) rfl (by kernel_rfl) (Want.yes rfl rfl rfl rfl) rfl (ltN rfl) (EF.call rfl ce38 rfl Takes.nil (fun F' hle hr => rids_spec F' x.id_ id)) (by kernel_rfl) ?_
            rintro _ _ ⟨_, ⟨n98, rfl, rfl, hp98, hm98⟩, rfl⟩
            refine ⟨fun _ h => (by cases h), ?_⟩
            refine J.app ?_
            refine Dw.pure (i := 39) rfl (by kernel_rfl) (Want.yes rfl rfl rfl rfl) rfl (ltN rfl) (QP.gtr rfl rfl rfl) ?_
            refine J.caseD (fun c99 => ?_) (fun c99 => ?_)
            · skip
              refine Dw.pure (i := 40) rfl (by kernel_rfl) (Want.yes rfl rfl rfl rfl) rfl (ltN rfl) (QP.pick_t rfl rfl rfl) ?_
              refine Dw.pure (i := 41) rfl (by kernel_rfl) (Want.yes rfl rfl rfl rfl) rfl (ltN rfl) (QP.pick_f rfl rfl rfl) ?_
              refine Dw.pure (i := 42) rfl (by kernel_rfl) (Want.none rfl) rfl (ltN rfl) (QP.pick_t rfl rfl rfl) ?_
              refine Dw.nil (by kernel_rfl) ?_
              refine hk18 _ _ ?_
              refine Run.cond_t rfl ?_
              refine Run.skip ?_
              refine hk17 _ _ ?_
              refine Run.block ?_
              refine Run.region ?_
              show Sq _ _ _ [0, 1, 2] _ _ _ _
              refine Sq.quiet (i := 0) rfl (Want.none rfl) rfl (ltN rfl) (QP.move rfl rfl).read ?_
              refine Sq.quiet (i := 1) rfl (Want.none rfl) rfl (ltN rfl) (QP.sub64 rfl rfl rfl (by first | omega | (simp only [List.length_map, List.length_append, List.length_cons, List.length_nil, List.length_take, List.length_drop]; omega)) (by first | omega | (simp only [List.length_map, List.length_append, List.length_cons, List.length_nil, List.length_take, List.length_drop]; omega))).read ?_
              refine Sq.quiet (i := 2) rfl (Want.none rfl) rfl (ltN rfl) (QP.assign rfl rfl).read ?_
              refine Sq.nil ?_
              exact J.envJ (J.keep (.cons (by repeat (first | exact Pick.head | apply Pick.tail)) (.cons (by repeat (first | exact Pick.head | apply Pick.tail)) (.cons (by repeat (first | exact Pick.head | apply Pick.tail)) (.cons (by repeat (first | exact Pick.head | apply Pick.tail)) (.cons (by repeat (first | exact Pick.head | apply Pick.tail)) Takes.nil))))) (hl16 (j - 1) (⟨by omega, behind_more (by omega) hi ((ahead_iff x p id q 1 (now + 2000)).1 (.inr ⟨c86, hp98.1 c99⟩)) haft⟩) (by omega))) ⟨rfl, rfl, rfl, rfl, rfl, (congrArg (fun n => some (Value.int .i64 n)) (show _ = _ by omega)), trivial⟩
            · skip
              refine Dw.pure (i := 40) rfl (by kernel_rfl) (Want.yes rfl rfl rfl rfl) rfl (ltN rfl) (QP.pick_t rfl rfl rfl) ?_
              refine Dw.pure (i := 41) rfl (by kernel_rfl) (Want.yes rfl rfl rfl rfl) rfl (ltN rfl) (QP.pick_f rfl rfl rfl) ?_
              refine Dw.pure (i := 42) rfl (by kernel_rfl) (Want.none rfl) rfl (ltN rfl) (QP.pick_t rfl rfl rfl) ?_
              refine Dw.nil (by kernel_rfl) ?_
              refine hk18 _ _ ?_
              refine Run.cond_f rfl ?_
              refine Run.exit rfl ?_
              refine hk15 _ _ ?_
              refine Run.seq fun k19 hk19 => ?_
              refine Run.regionD (M := [0, 0, 0, 4, 12, 28, 0, 124, 254, 0, 512, 2046, 0, 4096, 12288, 28672, 0, 126976, 262142, 524287, 1048575, 2097151]) (q := 1831677) (r := 33312) (by kernel_rfl) ?_
              have hbef : ∀ y ∈ L.take j, cmpPending y (⟨p, id, q, 1, now + 2000⟩ : Pending) < 0 := before_all hs (by omega) hi (fun hc => (show ¬ (0 < cmpPair x.pair p ∨ x.pair = p ∧ 0 < Lib.compareBytes x.id_.l id.l) from by rintro (h1 | ⟨_, h1⟩); exact c74 (hp73.2 h1); exact c99 (hp98.2 h1)) ((ahead_iff x p id q 1 (now + 2000)).2 hc)) (fun hc => hno x (List.mem_of_getElem? hi) hc)
              refine Dw.pure (i := 0) rfl (by kernel_rfl) (Want.none rfl) rfl (ltN rfl) (QP.move rfl rfl) ?_
              refine Dw.pure (i := 2) rfl (by kernel_rfl) (Want.none rfl) rfl (ltN rfl) (QP.move rfl rfl) ?_
              refine Dw.pure (i := 3) rfl (by kernel_rfl) (Want.none rfl) rfl (ltN rfl) (QP.nilCheck rfl rfl) ?_
              refine Dw.pure (i := 4) rfl (by kernel_rfl) (Want.none rfl) rfl (ltN rfl) (QP.fieldAddr rfl rfl f57_1) ?_
              refine Dw.read (i := 5) rfl (by kernel_rfl) (Want.none rfl) rfl (ltN rfl) (QR.load1 (v := .slice _ L.length _) rfl rfl g40 (Ref18Table.sub_l _)) ?_
              refine Dw.pure (i := 6) rfl (by kernel_rfl) (Want.none rfl) rfl (ltN rfl) (QP.move rfl rfl) ?_
              refine Dw.pure (i := 7) rfl (by kernel_rfl) (Want.none rfl) rfl (ltN rfl) (QP.sliceHi rfl rfl rfl Try.underlying40 z67 (by first | omega | (simp only [List.length_map, List.length_append, List.length_cons, List.length_nil, List.length_take, List.length_drop]; omega)) (by first | omega | (simp only [List.length_map, List.length_append, List.length_cons, List.length_nil, List.length_take, List.length_drop]; omega))) ?_
              refine Dw.read (i := 9) rfl (by kernel_rfl) (Want.none rfl) rfl (ltN rfl) (QR.load rfl rfl g67 (Pending.enc_sub _)) ?_
              refine Dw.pure (i := 12) rfl (by kernel_rfl) (Want.none rfl) rfl (ltN rfl) (QP.move rfl rfl) ?_
              refine Dw.pure (i := 13) rfl (by kernel_rfl) (Want.none rfl) rfl (ltN rfl) (QP.nilCheck rfl rfl) ?_
              refine Dw.pure (i := 14) rfl (by kernel_rfl) (Want.none rfl) rfl (ltN rfl) (QP.fieldAddr rfl rfl f57_1) ?_
              refine Dw.read (i := 15) rfl (by kernel_rfl) (Want.none rfl) rfl (ltN rfl) (QR.load1 (v := .slice _ L.length _) rfl rfl g40 (Ref18Table.sub_l _)) ?_
              refine Dw.pure (i := 16) rfl (by kernel_rfl) (Want.none rfl) rfl (ltN rfl) (QP.move rfl rfl) ?_
              refine Dw.pure (i := 17) rfl (by kernel_rfl) (Want.none rfl) rfl (ltN rfl) (QP.sliceLo rfl rfl rfl Try.underlying40 z67 (by first | omega | (simp only [List.length_map, List.length_append, List.length_cons, List.length_nil, List.length_take, List.length_drop]; omega)) (by first | omega | (simp only [List.length_map, List.length_append, List.length_cons, List.length_nil, List.length_take, List.length_drop]; omega))) ?_
              refine Dw.effs (l := [1, 10]) (by kernel_rfl) (by kernel_rfl) ?_
              rw [List.forall_mem_cons, List.forall_mem_cons]
              refine ⟨?_, ?_, fun _ h => (by cases h)⟩
              · skip
                refine One.mk (o := _) (l := [15, 9, 5]) rfl (by kernel_rfl) (Want.none rfl) rfl (ltN rfl) (EF.buildSlice0 (enc := Pending.enc) rfl Try.underlying40 z67 zero67 (by simp [Value.cells, Pending.enc_len]) (by decide)) (by kernel_rfl) ?_
                rintro _ _ ⟨b106, rfl, rfl⟩
                refine ⟨?_, ?_⟩
                · rw [List.forall_mem_cons, List.forall_mem_cons, List.forall_mem_cons]
                  refine ⟨?_, ?_, ?_, fun _ h => (by cases h)⟩
                  · exact Look.mk rfl rfl rfl (QR.load1 (v := .slice _ L.length _) rfl rfl g40 (Ref18Table.sub_l _))
                  · exact Look.mk rfl rfl rfl (QR.load rfl rfl g67 (Pending.enc_sub _))
                  · exact Look.mk rfl rfl rfl (QR.load1 (v := .slice _ L.length _) rfl rfl g40 (Ref18Table.sub_l _))
                refine ?_
                refine Dw.effs (l := [8, 10]) (by kernel_rfl) (by kernel_rfl) ?_
                rw [List.forall_mem_cons, List.forall_mem_cons]
                refine ⟨?_, ?_, fun _ h => (by cases h)⟩
                · skip
                  refine One.mk (o := _) (l := [15, 9]) rfl (by kernel_rfl) (Want.none rfl) rfl (ltN rfl) (EF.append (xs := []) (ys := ((L.take j).drop 0)) el67 Pending.enc_len Pending.enc_cell rfl rfl rfl Try.underlying40 Try.underlying40 rfl rfl (by repeat (first | exact Pick.head | apply Pick.tail)) (RowsAt.cutOwn (i := 0) (j := j) Pending.enc_len hh (by repeat (first | exact List.Mem.head _ | apply List.Mem.tail)) (by omega) (by omega)) (by first | omega | (simp only [List.length_map, List.length_append, List.length_cons, List.length_nil, List.length_take, List.length_drop]; omega))) (by kernel_rfl) ?_
                  rintro sl113 _ rfl
                  refine ⟨?_, ?_⟩
                  · rw [List.forall_mem_cons, List.forall_mem_cons]
                    refine ⟨?_, ?_, fun _ h => (by cases h)⟩
                    · exact Look.mk rfl rfl rfl (QR.load1 (v := .slice _ L.length _) rfl rfl g40 (Ref18Table.sub_l _))
                    · exact Look.mk rfl rfl rfl (QR.load rfl rfl g67 (Pending.enc_sub _))
                  refine ?_
                  refine Dw.slCase (v := sl113) (by repeat (first | exact List.Mem.head _ | apply List.Mem.tail)) (fun a113 c113 hv113 hh113 => ?_)
                  subst hv113
                  refine Dw.eff (i := 10) (by kernel_rfl) (by kernel_rfl) ?_
                  refine One.mk (o := _) (l := [15, 5]) rfl (by kernel_rfl) (Want.none rfl) rfl (ltN rfl) (EF.buildSlice1 rfl Try.underlying40 z67 zero67 (by simp [Value.cells, Pending.enc_len]) (by decide) rfl rfl (Pending.enc_len _) (by decide)) (by kernel_rfl) ?_
                  rintro _ _ ⟨b115, rfl, rfl⟩
                  refine ⟨?_, ?_⟩
                  · rw [List.forall_mem_cons, List.forall_mem_cons]
                    refine ⟨?_, ?_, fun _ h => (by cases h)⟩
                    · exact Look.mk rfl rfl rfl (QR.load1 (v := .slice _ L.length _) rfl rfl g40 (Ref18Table.sub_l _))
                    · exact Look.mk rfl rfl rfl (QR.load1 (v := .slice _ L.length _) rfl rfl g40 (Ref18Table.sub_l _))
                  refine ?_
                  refine Dw.eff (i := 11) (by kernel_rfl) (by kernel_rfl) ?_
                  refine One.mk (o := _) (l := [15]) rfl (by kernel_rfl) (Want.none rfl) rfl (ltN rfl) (EF.append1 (xs := _) (s := _) el67 Pending.enc_len Pending.enc_cell rfl rfl rfl Try.underlying40 Try.underlying40 rfl rfl (by repeat (first | exact Pick.head | apply Pick.tail)) (by repeat (first | exact List.Mem.head _ | apply List.Mem.tail)) (by first | omega | (simp only [List.length_map, List.length_append, List.length_cons, List.length_nil, List.length_take, List.length_drop]; omega))) (by kernel_rfl) ?_
                  rintro sl116 _ rfl
                  refine ⟨?_, ?_⟩
                  · rw [List.forall_mem_cons]
                    refine ⟨?_, fun _ h => (by cases h)⟩
                    · exact Look.mk rfl rfl rfl (QR.load1 (v := .slice _ L.length _) rfl rfl g40 (Ref18Table.sub_l _))
                  refine ?_
                  refine Dw.slCase (v := sl116) (by repeat (first | exact List.Mem.head _ | apply List.Mem.tail)) (fun a116 c116 hv116 hh116 => ?_)
                  subst hv116
                  refine Dw.eff (i := 18) (by kernel_rfl) (by kernel_rfl) ?_
                  refine One.mk (o := _) (l := []) rfl (by kernel_rfl) (Want.none rfl) rfl (ltN rfl) (EF.append (xs := _) (ys := ((L.take L.length).drop j)) el67 Pending.enc_len Pending.enc_cell rfl rfl rfl Try.underlying40 Try.underlying40 rfl rfl (by repeat (first | exact Pick.head | apply Pick.tail)) (RowsAt.cutOwn (i := j) (j := L.length) Pending.enc_len hh (by repeat (first | exact List.Mem.head _ | apply List.Mem.tail)) (by omega) (by omega)) (by first | omega | (simp only [List.length_map, List.length_append, List.length_cons, List.length_nil, List.length_take, List.length_drop]; omega))) (by kernel_rfl) ?_
                  rintro sl123 _ rfl
                  refine ⟨fun _ h => (by cases h), ?_⟩
                  refine Dw.slCase (v := sl123) (by repeat (first | exact List.Mem.head _ | apply List.Mem.tail)) (fun a123 c123 hv123 hh123 => ?_)
                  subst hv123
                  refine Dw.pure (i := 19) rfl (by kernel_rfl) (Want.none rfl) rfl (ltN rfl) (QP.nilCheck rfl rfl) ?_
                  refine Dw.pure (i := 20) rfl (by kernel_rfl) (Want.none rfl) rfl (ltN rfl) (QP.fieldAddr rfl rfl f57_1) ?_
                  refine Dw.eff (i := 21) (by kernel_rfl) (by kernel_rfl) ?_
                  refine One.act (o := _) (l := []) rfl (by kernel_rfl) (Want.none rfl) rfl (EF.store rfl rfl rfl z40 (Ref18Table.set_l _ ⟨a123, _, c123⟩) (cell_one rfl)) (by kernel_rfl) ?_
                  rintro _ _ rfl
                  refine ⟨fun _ h => (by cases h), ?_⟩
                  refine Dw.nil (by kernel_rfl) ?_
                  refine hk19 _ _ ?_
                  refine Run.seq fun k20 hk20 => ?_
                  refine Run.region ?_
                  show Sq _ _ _ [0, 1] _ _ _ _
                  refine Sq.quiet (i := 0) rfl (Want.none rfl) rfl (ltN rfl) (QP.assign rfl rfl).read ?_
                  refine Sq.quiet (i := 1) rfl (Want.none rfl) rfl (ltN rfl) (QP.assign rfl rfl).read ?_
                  refine Sq.nil ?_
                  refine hk20 _ _ ?_
                  refine Run.ret ?_
                  exact J.ends (res_tmp2 rfl rfl rfl) (.cons (by repeat (first | exact Pick.head | apply Pick.tail)) (.cons (by repeat (first | exact Pick.head | apply Pick.tail)) Takes.nil)) ⟨_, _, _, hh123, true, 0, rfl, .inr ⟨hno, .inr ⟨c54, rfl, rfl, j, hjl, hbef, haft, cut_all hjl _⟩⟩, rfl⟩
                · skip
                  refine One.mk (o := _) (l := [15, 5]) rfl (by kernel_rfl) (Want.none rfl) rfl (ltN rfl) (EF.buildSlice1 rfl Try.underlying40 z67 zero67 (by simp [Value.cells, Pending.enc_len]) (by decide) rfl rfl (Pending.enc_len _) (by decide)) (by kernel_rfl) ?_
                  rintro _ _ ⟨b115, rfl, rfl⟩
                  refine ⟨?_, ?_⟩
                  · rw [List.forall_mem_cons, List.forall_mem_cons]
                    refine ⟨?_, ?_, fun _ h => (by cases h)⟩
                    · exact Look.mk rfl rfl rfl (QR.load1 (v := .slice _ L.length _) rfl rfl g40 (Ref18Table.sub_l _))
                    · exact Look.mk rfl rfl rfl (QR.load1 (v := .slice _ L.length _) rfl rfl g40 (Ref18Table.sub_l _))
                  refine ?_
                  refine Dw.eff (i := 8) (by kernel_rfl) (by kernel_rfl) ?_
                  refine One.mk (o := _) (l := [15, 9]) rfl (by kernel_rfl) (Want.none rfl) rfl (ltN rfl) (EF.append (xs := []) (ys := ((L.take j).drop 0)) el67 Pending.enc_len Pending.enc_cell rfl rfl rfl Try.underlying40 Try.underlying40 rfl rfl (by repeat (first | exact Pick.head | apply Pick.tail)) (RowsAt.cutOwn (i := 0) (j := j) Pending.enc_len hh (by repeat (first | exact List.Mem.head _ | apply List.Mem.tail)) (by omega) (by omega)) (by first | omega | (simp only [List.length_map, List.length_append, List.length_cons, List.length_nil, List.length_take, List.length_drop]; omega))) (by kernel_rfl) ?_
                  rintro sl113 _ rfl
                  refine ⟨?_, ?_⟩
                  · rw [List.forall_mem_cons, List.forall_mem_cons]
                    refine ⟨?_, ?_, fun _ h => (by cases h)⟩
                    · exact Look.mk rfl rfl rfl (QR.load1 (v := .slice _ L.length _) rfl rfl g40 (Ref18Table.sub_l _))
                    · exact Look.mk rfl rfl rfl (QR.load rfl rfl g67 (Pending.enc_sub _))
                  refine ?_
                  refine Dw.slCase (v := sl113) (by repeat (first | exact List.Mem.head _ | apply List.Mem.tail)) (fun a113 c113 hv113 hh113 => ?_)
                  subst hv113
                  refine Dw.eff (i := 11) (by kernel_rfl) (by kernel_rfl) ?_
                  refine One.mk (o := _) (l := [15]) rfl (by kernel_rfl) (Want.none rfl) rfl (ltN rfl) (EF.append1 (xs := _) (s := _) el67 Pending.enc_len Pending.enc_cell rfl rfl rfl Try.underlying40 Try.underlying40 rfl rfl (by repeat (first | exact Pick.head | apply Pick.tail)) (by repeat (first | exact List.Mem.head _ | apply List.Mem.tail)) (by first | omega | (simp only [List.length_map, List.length_append, List.length_cons, List.length_nil, List.length_take, List.length_drop]; omega))) (by kernel_rfl) ?_
                  rintro sl116 _ rfl
                  refine ⟨?_, ?_⟩
                  · rw [List.forall_mem_cons]
                    refine ⟨?_, fun _ h => (by cases h)⟩
                    · exact Look.mk rfl rfl rfl (QR.load1 (v := .slice _ L.length _) rfl rfl g40 (Ref18Table.sub_l _))
                  refine ?_
                  refine Dw.slCase (v := sl116) (by repeat (first | exact List.Mem.head _ | apply List.Mem.tail)) (fun a116 c116 hv116 hh116 => ?_)
                  subst hv116
                  refine Dw.eff (i := 18) (by kernel_rfl) (by kernel_rfl) ?_
                  refine One.mk (o := _) (l := []) rfl (by kernel_rfl) (Want.none rfl) rfl (ltN rfl) (EF.append (xs := _) (ys := ((L.take L.length).drop j)) el67 Pending.enc_len Pending.enc_cell rfl rfl rfl Try.underlying40 Try.underlying40 rfl rfl (by repeat (first | exact Pick.head | apply Pick.tail)) (RowsAt.cutOwn (i := j) (j := L.length) Pending.enc_len hh (by repeat (first | exact List.Mem.head _ | apply List.Mem.tail)) (by omega) (by omega)) (by first | omega | (simp only [List.length_map, List.length_append, List.length_cons, List.length_nil, List.length_take, List.length_drop]; omega))) (by kernel_rfl) ?_
                  rintro sl123 _ rfl
                  refine ⟨fun _ h => (by cases h), ?_⟩
                  refine Dw.slCase (v := sl123) (by repeat (first | exact List.Mem.head _ | apply List.Mem.tail)) (fun a123 c123 hv123 hh123 => ?_)
                  subst hv123
                  refine Dw.pure (i := 19) rfl (by kernel_rfl) (Want.none rfl) rfl (ltN rfl) (QP.nilCheck rfl rfl) ?_
                  refine Dw.pure (i := 20) rfl (by kernel_rfl) (Want.none rfl) rfl (ltN rfl) (QP.fieldAddr rfl rfl f57_1) ?_
                  refine Dw.eff (i := 21) (by kernel_rfl) (by kernel_rfl) ?_
                  refine One.act (o := _) (l := []) rfl (by kernel_rfl) (Want.none rfl) rfl (EF.store rfl rfl rfl z40 (Ref18Table.set_l _ ⟨a123, _, c123⟩) (cell_one rfl)) (by kernel_rfl) ?_
                  rintro _ _ rfl
                  refine ⟨fun _ h => (by cases h), ?_⟩
                  refine Dw.nil (by kernel_rfl) ?_
                  refine hk19 _ _ ?_
                  refine Run.seq fun k21 hk21 => ?_
                  refine Run.region ?_
                  show Sq _ _ _ [0, 1] _ _ _ _
                  refine Sq.quiet (i := 0) rfl (Want.none rfl) rfl (ltN rfl) (QP.assign rfl rfl).read ?_
                  refine Sq.quiet (i := 1) rfl (Want.none rfl) rfl (ltN rfl) (QP.assign rfl rfl).read ?_
                  refine Sq.nil ?_
                  refine hk21 _ _ ?_
                  refine Run.ret ?_
                  exact J.ends (res_tmp2 rfl rfl rfl) (.cons (by repeat (first | exact Pick.head | apply Pick.tail)) (.cons (by repeat (first | exact Pick.head | apply Pick.tail)) Takes.nil)) ⟨_, _, _, hh123, true, 0, rfl, .inr ⟨hno, .inr ⟨c54, rfl, rfl, j, hjl, hbef, haft, cut_all hjl _⟩⟩, rfl⟩
              · skip
                refine One.mk (o := _) (l := [15, 5]) rfl (by kernel_rfl) (Want.none rfl) rfl (ltN rfl) (EF.buildSlice1 rfl Try.underlying40 z67 zero67 (by simp [Value.cells, Pending.enc_len]) (by decide) rfl rfl (Pending.enc_len _) (by decide)) (by kernel_rfl) ?_
                rintro _ _ ⟨b115, rfl, rfl⟩
                refine ⟨?_, ?_⟩
                · rw [List.forall_mem_cons, List.forall_mem_cons]
                  refine ⟨?_, ?_, fun _ h => (by cases h)⟩
                  · exact Look.mk rfl rfl rfl (QR.load1 (v := .slice _ L.length _) rfl rfl g40 (Ref18Table.sub_l _))
                  · exact Look.mk rfl rfl rfl (QR.load1 (v := .slice _ L.length _) rfl rfl g40 (Ref18Table.sub_l _))
                refine ?_
                refine Dw.eff (i := 1) (by kernel_rfl) (by kernel_rfl) ?_
                refine One.mk (o := _) (l := [15, 9, 5]) rfl (by kernel_rfl) (Want.none rfl) rfl (ltN rfl) (EF.buildSlice0 (enc := Pending.enc) rfl Try.underlying40 z67 zero67 (by simp [Value.cells, Pending.enc_len]) (by decide)) (by kernel_rfl) ?_
                rintro _ _ ⟨b106, rfl, rfl⟩
                refine ⟨?_, ?_⟩
                · rw [List.forall_mem_cons, List.forall_mem_cons, List.forall_mem_cons]
                  refine ⟨?_, ?_, ?_, fun _ h => (by cases h)⟩
                  · exact Look.mk rfl rfl rfl (QR.load1 (v := .slice _ L.length _) rfl rfl g40 (Ref18Table.sub_l _))
                  · exact Look.mk rfl rfl rfl (QR.load rfl rfl g67 (Pending.enc_sub _))
                  · exact Look.mk rfl rfl rfl (QR.load1 (v := .slice _ L.length _) rfl rfl g40 (Ref18Table.sub_l _))
                refine ?_
                refine Dw.eff (i := 8) (by kernel_rfl) (by kernel_rfl) ?_
                refine One.mk (o := _) (l := [15, 9]) rfl (by kernel_rfl) (Want.none rfl) rfl (ltN rfl) (EF.append (xs := []) (ys := ((L.take j).drop 0)) el67 Pending.enc_len Pending.enc_cell rfl rfl rfl Try.underlying40 Try.underlying40 rfl rfl (by repeat (first | exact Pick.head | apply Pick.tail)) (RowsAt.cutOwn (i := 0) (j := j) Pending.enc_len hh (by repeat (first | exact List.Mem.head _ | apply List.Mem.tail)) (by omega) (by omega)) (by first | omega | (simp only [List.length_map, List.length_append, List.length_cons, List.length_nil, List.length_take, List.length_drop]; omega))) (by kernel_rfl) ?_
                rintro sl113 _ rfl
                refine ⟨?_, ?_⟩
                · rw [List.forall_mem_cons, List.forall_mem_cons]
                  refine ⟨?_, ?_, fun _ h => (by cases h)⟩
                  · exact Look.mk rfl rfl rfl (QR.load1 (v := .slice _ L.length _) rfl rfl g40 (Ref18Table.sub_l _))
                  · exact Look.mk rfl rfl rfl (QR.load rfl rfl g67 (Pending.enc_sub _))
                refine ?_
                refine Dw.slCase (v := sl113) (by repeat (first | exact List.Mem.head _ | apply List.Mem.tail)) (fun a113 c113 hv113 hh113 => ?_)
                subst hv113
                refine Dw.eff (i := 11) (by kernel_rfl) (by kernel_rfl) ?_
                refine One.mk (o := _) (l := [15]) rfl (by kernel_rfl) (Want.none rfl) rfl (ltN rfl) (EF.append1 (xs := _) (s := _) el67 Pending.enc_len Pending.enc_cell rfl rfl rfl Try.underlying40 Try.underlying40 rfl rfl (by repeat (first | exact Pick.head | apply Pick.tail)) (by repeat (first | exact List.Mem.head _ | apply List.Mem.tail)) (by first | omega | (simp only [List.length_map, List.length_append, List.length_cons, List.length_nil, List.length_take, List.length_drop]; omega))) (by kernel_rfl) ?_
                rintro sl116 _ rfl
                refine ⟨?_, ?_⟩
                · rw [List.forall_mem_cons]
                  refine ⟨?_, fun _ h => (by cases h)⟩
                  · exact Look.mk rfl rfl rfl (QR.load1 (v := .slice _ L.length _) rfl rfl g40 (Ref18Table.sub_l _))
                refine ?_
                refine Dw.slCase (v := sl116) (by repeat (first | exact List.Mem.head _ | apply List.Mem.tail)) (fun a116 c116 hv116 hh116 => ?_)
                subst hv116
                refine Dw.eff (i := 18) (by kernel_rfl) (by kernel_rfl) ?_
                refine One.mk (o := _) (l := []) rfl (by kernel_rfl) (Want.none rfl) rfl (ltN rfl) (EF.append (xs := _) (ys := ((L.take L.length).drop j)) el67 Pending.enc_len Pending.enc_cell rfl rfl rfl Try.underlying40 Try.underlying40 rfl rfl (by repeat (first | exact Pick.head | apply Pick.tail)) (RowsAt.cutOwn (i := j) (j := L.length) Pending.enc_len hh (by repeat (first | exact List.Mem.head _ | apply List.Mem.tail)) (by omega) (by omega)) (by first | omega | (simp only [List.length_map, List.length_append, List.length_cons, List.length_nil, List.length_take, List.length_drop]; omega))) (by kernel_rfl) ?_
                rintro sl123 _ rfl
                refine ⟨fun _ h => (by cases h), ?_⟩
                refine Dw.slCase (v := sl123) (by repeat (first | exact List.Mem.head _ | apply List.Mem.tail)) (fun a123 c123 hv123 hh123 => ?_)
                subst hv123
                refine Dw.pure (i := 19) rfl (by kernel_rfl) (Want.none rfl) rfl (ltN rfl) (QP.nilCheck rfl rfl) ?_
                refine Dw.pure (i := 20) rfl (by kernel_rfl) (Want.none rfl) rfl (ltN rfl) (QP.fieldAddr rfl rfl f57_1) ?_
                refine Dw.eff (i := 21) (by kernel_rfl) (by kernel_rfl) ?_
                refine One.act (o := _) (l := []) rfl (by kernel_rfl) (Want.none rfl) rfl (EF.store rfl rfl rfl z40 (Ref18Table.set_l _ ⟨a123, _, c123⟩) (cell_one rfl)) (by kernel_rfl) ?_
                rintro _ _ rfl
                refine ⟨fun _ h => (by cases h), ?_⟩
                refine Dw.nil (by kernel_rfl) ?_
                refine hk19 _ _ ?_
                refine Run.seq fun k22 hk22 => ?_
                refine Run.region ?_
                show Sq _ _ _ [0, 1] _ _ _ _
                refine Sq.quiet (i := 0) rfl (Want.none rfl) rfl (ltN rfl) (QP.assign rfl rfl).read ?_
                refine Sq.quiet (i := 1) rfl (Want.none rfl) rfl (ltN rfl) (QP.assign rfl rfl).read ?_
                refine Sq.nil ?_
                refine hk22 _ _ ?_
                refine Run.ret ?_
                exact J.ends (res_tmp2 rfl rfl rfl) (.cons (by repeat (first | exact Pick.head | apply Pick.tail)) (.cons (by repeat (first | exact Pick.head | apply Pick.tail)) Takes.nil)) ⟨_, _, _, hh123, true, 0, rfl, .inr ⟨hno, .inr ⟨c54, rfl, rfl, j, hjl, hbef, haft, cut_all hjl _⟩⟩, rfl⟩
          · skip
            refine Dw.pure (i := 27) rfl (by kernel_rfl) (Want.yes rfl rfl rfl rfl) rfl (ltN rfl) (QP.move rfl rfl) ?_
            refine Dw.skip (i := 28) rfl (by kernel_rfl) (Want.no rfl rfl rfl rfl) rfl (ltN rfl) ?_
            refine Dw.skip (i := 29) rfl (by kernel_rfl) (Want.no rfl rfl rfl rfl) rfl (ltN rfl) ?_
            refine Dw.skip (i := 30) rfl (by kernel_rfl) (Want.no rfl rfl rfl rfl) rfl (ltN rfl) ?_
            refine Dw.skip (i := 31) rfl (by kernel_rfl) (Want.no rfl rfl rfl rfl) rfl (ltN rfl) ?_
            refine Dw.skip (i := 32) rfl (by kernel_rfl) (Want.no rfl rfl rfl rfl) rfl (ltN rfl) ?_
            refine Dw.skip (i := 33) rfl (by kernel_rfl) (Want.no rfl rfl rfl rfl) rfl (ltN rfl) ?_
            refine Dw.skip (i := 34) rfl (by kernel_rfl) (Want.no rfl rfl rfl rfl) rfl (ltN rfl) ?_
            refine Dw.skip (i := 35) rfl (by kernel_rfl) (Want.no rfl rfl rfl rfl) rfl (ltN rfl) ?_
            refine Dw.skip (i := 36) rfl (by kernel_rfl) (Want.no rfl rfl rfl rfl) rfl (ltN rfl) ?_
            refine Dw.skip (i := 37) rfl (by kernel_rfl) (Want.no rfl rfl rfl rfl) rfl (ltN rfl) ?_
            refine Dw.eff (i := 38) (by kernel_rfl) (by kernel_rfl) ?_
            refine One.skipD (o := _) rfl (by kernel_rfl) (Want.no rfl rfl rfl rfl) rfl (ltN rfl) ?_
            refine Dw.skip (i := 39) rfl (by kernel_rfl) (Want.no rfl rfl rfl rfl) rfl (ltN rfl) ?_
            refine Dw.pure (i := 40) rfl (by kernel_rfl) (Want.yes rfl rfl rfl rfl) rfl (ltN rfl) (QP.pick_f rfl rfl rfl) ?_
            refine Dw.pure (i := 41) rfl (by kernel_rfl) (Want.yes rfl rfl rfl rfl) rfl (ltN rfl) (QP.pick_f rfl rfl rfl) ?_
            refine Dw.pure (i := 42) rfl (by kernel_rfl) (Want.none rfl) rfl (ltN rfl) (QP.pick_t rfl rfl rfl) ?_
            refine Dw.nil (by kernel_rfl) ?_
            refine hk18 _ _ ?_
            refine Run.cond_f rfl ?_
            refine Run.exit rfl ?_
            refine hk15 _ _ ?_
            refine Run.seq fun k23 hk23 => ?_
            refine Run.regionD (M := [0, 0, 0, 4, 12, 28, 0, 124, 254, 0, 512, 2046, 0, 4096, 12288, 28672, 0, 126976, 262142, 524287, 1048575, 2097151]) (q := 1831677) (r := 33312) (by kernel_rfl) ?_
            have hbef : ∀ y ∈ L.take j, cmpPending y (⟨p, id, q, 1, now + 2000⟩ : Pending) < 0 := before_all hs (by omega) hi (fun hc => (show ¬ (0 < cmpPair x.pair p ∨ x.pair = p ∧ 0 < Lib.compareBytes x.id_.l id.l) from by rintro (h1 | ⟨h1, _⟩); exact c74 (hp73.2 h1); exact c86 h1) ((ahead_iff x p id q 1 (now + 2000)).2 hc)) (fun hc => hno x (List.mem_of_getElem? hi) hc)
            refine Dw.pure (i := 0) rfl (by kernel_rfl) (Want.none rfl) rfl (ltN rfl) (QP.move rfl rfl) ?_
            refine Dw.pure (i := 2) rfl (by kernel_rfl) (Want.none rfl) rfl (ltN rfl) (QP.move rfl rfl) ?_
            refine Dw.pure (i := 3) rfl (by kernel_rfl) (Want.none rfl) rfl (ltN rfl) (QP.nilCheck rfl rfl) ?_
            refine Dw.pure (i := 4) rfl (by kernel_rfl) (Want.none rfl) rfl (ltN rfl) (QP.fieldAddr rfl rfl f57_1) ?_
            refine Dw.read (i := 5) rfl (by kernel_rfl) (Want.none rfl) rfl (ltN rfl) (QR.load1 (v := .slice _ L.length _) rfl rfl g40 (Ref18Table.sub_l _)) ?_
            refine Dw.pure (i := 6) rfl (by kernel_rfl) (Want.none rfl) rfl (ltN rfl) (QP.move rfl rfl) ?_
            refine Dw.pure (i := 7) rfl (by kernel_rfl) (Want.none rfl) rfl (ltN rfl) (QP.sliceHi rfl rfl rfl Try.underlying40 z67 (by first | omega | (simp only [List.length_map, List.length_append, List.length_cons, List.length_nil, List.length_take, List.length_drop]; omega)) (by first | omega | (simp only [List.length_map, List.length_append, List.length_cons, List.length_nil, List.length_take, List.length_drop]; omega))) ?_
            refine Dw.read (i := 9) rfl (by kernel_rfl) (Want.none rfl) rfl (ltN rfl) (QR.load rfl rfl g67 (Pending.enc_sub _)) ?_
            refine Dw.pure (i := 12) rfl (by kernel_rfl) (Want.none rfl) rfl (ltN rfl) (QP.move rfl rfl) ?_
            refine Dw.pure (i := 13) rfl (by kernel_rfl) (Want.none rfl) rfl (ltN rfl) (QP.nilCheck rfl rfl) ?_
            refine Dw.pure (i := 14) rfl (by kernel_rfl) (Want.none rfl) rfl (ltN rfl) (QP.fieldAddr rfl rfl f57_1) ?_
            refine Dw.read (i := 15) rfl (by kernel_rfl) (Want.none rfl) rfl (ltN rfl) (QR.load1 (v := .slice _ L.length _) rfl rfl g40 (Ref18Table.sub_l _)) ?_
            refine Dw.pure (i := 16) rfl (by kernel_rfl) (Want.none rfl) rfl (ltN rfl) (QP.move rfl rfl) ?_
            refine Dw.pure (i := 17) rfl (by kernel_rfl) (Want.none rfl) rfl (ltN rfl) (QP.sliceLo rfl rfl rfl Try.underlying40 z67 (by first | omega | (simp only [List.length_map, List.length_append, List.length_cons, List.length_nil, List.length_take, List.length_drop]; omega)) (by first | omega | (simp only [List.length_map, List.length_append, List.length_cons, List.length_nil, List.length_take, List.length_drop]; omega))) ?_
            refine Dw.effs (l := [1, 10]) (by kernel_rfl) (by kernel_rfl) ?_
            rw [List.forall_mem_cons, List.forall_mem_cons]
            refine ⟨?_, ?_, fun _ h => (by cases h)⟩
            · skip
              refine One.mk (o := _) (l := [15, 9, 5]) rfl (by kernel_rfl) (Want.none rfl) rfl (ltN rfl) (EF.buildSlice0 (enc := Pending.enc) rfl Try.underlying40 z67 zero67 (by simp [Value.cells, Pending.enc_len]) (by decide)) (by kernel_rfl) ?_
              rintro _ _ ⟨b106, rfl, rfl⟩
              refine ⟨?_, ?_⟩
              · rw [List.forall_mem_cons, List.forall_mem_cons, List.forall_mem_cons]
                refine ⟨?_, ?_, ?_, fun _ h => (by cases h)⟩
                · exact Look.mk rfl rfl rfl (QR.load1 (v := .slice _ L.length _) rfl rfl g40 (Ref18Table.sub_l _))
                · exact Look.mk rfl rfl rfl (QR.load rfl rfl g67 (Pending.enc_sub _))
                · exact Look.mk rfl rfl rfl (QR.load1 (v := .slice _ L.length _) rfl rfl g40 (Ref18Table.sub_l _))
              refine ?_
              refine Dw.effs (l := [8, 10]) (by kernel_rfl) (by kernel_rfl) ?_
              rw [List.forall_mem_cons, List.forall_mem_cons]
              refine ⟨?_, ?_, fun _ h => (by cases h)⟩
              · skip
                refine One.mk (o := _) (l := [15, 9]) rfl (by kernel_rfl) (Want.none rfl) rfl (ltN rfl) (EF.append (xs := []) (ys := ((L.take j).drop 0)) el67 Pending.enc_len Pending.enc_cell rfl rfl rfl Try.underlying40 Try.underlying40 rfl rfl (by repeat (first | exact Pick.head | apply Pick.tail)) (RowsAt.cutOwn (i := 0) (j := j) Pending.enc_len hh (by repeat (first | exact List.Mem.head _ | apply List.Mem.tail)) (by omega) (by omega)) (by first | omega | (simp only [List.length_map, List.length_append, List.length_cons, List.length_nil, List.length_take, List.length_drop]; omega))) (by kernel_rfl) ?_
                rintro sl113 _ rfl
                refine ⟨?_, ?_⟩
                · rw [List.forall_mem_cons, List.forall_mem_cons]
                  refine ⟨?_, ?_, fun _ h => (by cases h)⟩
                  · exact Look.mk rfl rfl rfl (QR.load1 (v := .slice _ L.length _) rfl rfl g40 (Ref18Table.sub_l _))
                  · exact Look.mk rfl rfl rfl (QR.load rfl rfl g67 (Pending.enc_sub _))
                refine ?_
                refine Dw.slCase (v := sl113) (by repeat (first | exact List.Mem.head _ | apply List.Mem.tail)) (fun a113 c113 hv113 hh113 => ?_)
                subst hv113
                refine Dw.eff (i := 10) (by kernel_rfl) (by kernel_rfl) ?_
                refine One.mk (o := _) (l := [15, 5]) rfl (by kernel_rfl) (Want.none rfl) rfl (ltN rfl) (EF.buildSlice1 rfl Try.underlying40 z67 zero67 (by simp [Value.cells, Pending.enc_len]) (by decide) rfl rfl (Pending.enc_len _) (by decide)) (by kernel_rfl) ?_
                rintro _ _ ⟨b115, rfl, rfl⟩
                refine ⟨?_, ?_⟩
                · rw [List.forall_mem_cons, List.forall_mem_cons]
                  refine ⟨?_, ?_, fun _ h => (by cases h)⟩
                  · exact Look.mk rfl rfl rfl (QR.load1 (v := .slice _ L.length _) rfl rfl g40 (Ref18Table.sub_l _))
                  · exact Look.mk rfl rfl rfl (QR.load1 (v := .slice _ L.length _) rfl rfl g40 (Ref18Table.sub_l _))
                refine ?_
                refine Dw.eff (i := 11) (by kernel_rfl) (by kernel_rfl) ?_
                refine One.mk (o := _) (l := [15]) rfl (by kernel_rfl) (Want.none rfl) rfl (ltN rfl) (EF.append1 (xs := _) (s := _) el67 Pending.enc_len Pending.enc_cell rfl rfl rfl Try.underlying40 Try.underlying40 rfl rfl (by repeat (first | exact Pick.head | apply Pick.tail)) (by repeat (first | exact List.Mem.head _ | apply List.Mem.tail)) (by first | omega | (simp only [List.length_map, List.length_append, List.length_cons, List.length_nil, List.length_take, List.length_drop]; omega))) (by kernel_rfl) ?_
                rintro sl116 _ rfl
                refine ⟨?_, ?_⟩
                · rw [List.forall_mem_cons]
                  refine ⟨?_, fun _ h => (by cases h)⟩
                  · exact Look.mk rfl rfl rfl (QR.load1 (v := .slice _ L.length _) rfl rfl g40 (Ref18Table.sub_l _))
                refine ?_
                refine Dw.slCase (v := sl116) (by repeat (first | exact List.Mem.head _ | apply List.Mem.tail)) (fun a116 c116 hv116 hh116 => ?_)
                subst hv116
                refine Dw.eff (i := 18) (by kernel_rfl) (by kernel_rfl) ?_
                refine One.mk (o := _) (l := []) rfl (by kernel_rfl) (Want.none rfl) rfl (ltN rfl) (EF.append (xs := _) (ys := ((L.take L.length).drop j)) el67 Pending.enc_len Pending.enc_cell rfl rfl rfl Try.underlying40 Try.underlying40 rfl rfl (by repeat (first | exact Pick.head | apply Pick.tail)) (RowsAt.cutOwn (i := j) (j := L.length) Pending.enc_len hh (by repeat (first | exact List.Mem.head _ | apply List.Mem.tail)) (by omega) (by omega)) (by first | omega | (simp only [List.length_map, List.length_append, List.length_cons, List.length_nil, List.length_take, List.length_drop]; omega))) (by kernel_rfl) ?_
                rintro sl123 _ rfl
                refine ⟨fun _ h => (by cases h), ?_⟩
                refine Dw.slCase (v := sl123) (by repeat (first | exact List.Mem.head _ | apply List.Mem.tail)) (fun a123 c123 hv123 hh123 => ?_)
                subst hv123
                refine Dw.pure (i := 19) rfl (by kernel_rfl) (Want.none rfl) rfl (ltN rfl) (QP.nilCheck rfl rfl) ?_
                refine Dw.pure (i := 20) rfl (by kernel_rfl) (Want.none rfl) rfl (ltN rfl) (QP.fieldAddr rfl rfl f57_1) ?_
                refine Dw.eff (i := 21) (by kernel_rfl) (by kernel_rfl) ?_
                refine One.act (o := _) (l := []) rfl (by kernel_rfl) (Want.none rfl) rfl (EF.store rfl rfl rfl z40 (Ref18Table.set_l _ ⟨a123, _, c123⟩) (cell_one rfl)) (by kernel_rfl) ?_
                rintro _ _ rfl
                refine ⟨fun _ h => (by cases h), ?_⟩
                refine Dw.nil (by kernel_rfl) ?_
                refine hk23 _ _ ?_
                refine Run.seq fun k24 hk24 => ?_
                refine Run.region ?_
                show Sq _ _ _ [0, 1] _ _ _ _
                refine Sq.quiet (i := 0) rfl (Want.none rfl) rfl (ltN rfl) (QP.assign rfl rfl).read ?_
                refine Sq.quiet (i := 1) rfl (Want.none rfl) rfl (ltN rfl) (QP.assign rfl rfl).read ?_
                refine Sq.nil ?_
                refine hk24 _ _ ?_
                refine Run.ret ?_
                exact J.ends (res_tmp2 rfl rfl rfl) (.cons (by repeat (first | exact Pick.head | apply Pick.tail)) (.cons (by repeat (first | exact Pick.head | apply Pick.tail)) Takes.nil)) ⟨_, _, _, hh123, true, 0, rfl, .inr ⟨hno, .inr ⟨c54, rfl, rfl, j, hjl, hbef, haft, cut_all hjl _⟩⟩, rfl⟩
              · skip
                refine One.mk (o := _) (l := [15, 5]) rfl (by kernel_rfl) (Want.none rfl) rfl (ltN rfl) (EF.buildSlice1 rfl Try.underlying40 z67 zero67 (by simp [Value.cells, Pending.enc_len]) (by decide) rfl rfl (Pending.enc_len _) (by decide)) (by kernel_rfl) ?_
                rintro _ _ ⟨b115, rfl, rfl⟩
                refine ⟨?_, ?_⟩
                · rw [List.forall_mem_cons, List.forall_mem_cons]
                  refine ⟨?_, ?_, fun _ h => (by cases h)⟩
                  · exact Look.mk rfl rfl rfl (QR.load1 (v := .slice _ L.length _) rfl rfl g40 (Ref18Table.sub_l _))
                  · exact Look.mk rfl rfl rfl (QR.load1 (v := .slice _ L.length _) rfl rfl g40 (Ref18Table.sub_l _))
                refine ?_
                refine Dw.eff (i := 8) (by kernel_rfl) (by kernel_rfl) ?_
                refine One.mk (o := _) (l := [15, 9]) rfl (by kernel_rfl) (Want.none rfl) rfl (ltN rfl) (EF.append (xs := []) (ys := ((L.take j).drop 0)) el67 Pending.enc_len Pending.enc_cell rfl rfl rfl Try.underlying40 Try.underlying40 rfl rfl (by repeat (first | exact Pick.head | apply Pick.tail)) (RowsAt.cutOwn (i := 0) (j := j) Pending.enc_len hh (by repeat (first | exact List.Mem.head _ | apply List.Mem.tail)) (by omega) (by omega)) (by first | omega | (simp only [List.length_map, List.length_append, List.length_cons, List.length_nil, List.length_take, List.length_drop]; omega))) (by kernel_rfl) ?_
                rintro sl113 _ rfl
                refine ⟨?_, ?_⟩
                · rw [List.forall_mem_cons, List.forall_mem_cons]
                  refine ⟨?_, ?_, fun _ h => (by cases h)⟩
                  · exact Look.mk rfl rfl rfl (QR.load1 (v := .slice _ L.length _) rfl rfl g40 (Ref18Table.sub_l _))
                  · exact Look.mk rfl rfl rfl (QR.load rfl rfl g67 (Pending.enc_sub _))
                refine ?_
                refine Dw.slCase (v := sl113) (by repeat (first | exact List.Mem.head _ | apply List.Mem.tail)) (fun a113 c113 hv113 hh113 => ?_)
                subst hv113
                refine Dw.eff (i := 11) (by kernel_rfl) (by kernel_rfl) ?_
                refine One.mk (o := _) (l := [15]) rfl (by kernel_rfl) (Want.none rfl) rfl (ltN rfl) (EF.append1 (xs := _) (s := _) el67 Pending.enc_len Pending.enc_cell rfl rfl rfl Try.underlying40 Try.underlying40 rfl rfl (by repeat (first | exact Pick.head | apply Pick.tail)) (by repeat (first | exact List.Mem.head _ | apply List.Mem.tail)) (by first | omega | (simp only [List.length_map, List.length_append, List.length_cons, List.length_nil, List.length_take, List.length_drop]; omega))) (by kernel_rfl) ?_
                rintro sl116 _ rfl
                refine ⟨?_, ?_⟩
                · rw [List.forall_mem_cons]
                  refine ⟨?_, fun _ h => (by cases h)⟩
                  · exact Look.mk rfl rfl rfl (QR.load1 (v := .slice _ L.length _) rfl rfl g40 (Ref18Table.sub_l _))
                refine ?_
                refine Dw.slCase (v := sl116) (by repeat (first | exact List.Mem.head _ | apply List.Mem.tail)) (fun a116 c116 hv116 hh116 => ?_)
                subst hv116
                refine Dw.eff (i := 18) (by kernel_rfl) (by kernel_rfl) ?_
                refine One.mk (o := _) (l := []) rfl (by kernel_rfl) (Want.none rfl) rfl (ltN rfl) (EF.append (xs := _) (ys := ((L.take L.length).drop j)) el67 Pending.enc_len Pending.enc_cell rfl rfl rfl Try.underlying40 Try.underlying40 rfl rfl (by repeat (first | exact Pick.head | apply Pick.tail)) (RowsAt.cutOwn (i := j) (j := L.length) Pending.enc_len hh (by repeat (first | exact List.Mem.head _ | apply List.Mem.tail)) (by omega) (by omega)) (by first | omega | (simp only [List.length_map, List.length_append, List.length_cons, List.length_nil, List.length_take, List.length_drop]; omega))) (by kernel_rfl) ?_
                rintro sl123 _ rfl
                refine ⟨fun _ h => (by cases h), ?_⟩
                refine Dw.slCase (v := sl123) (by repeat (first | exact List.Mem.head _ | apply List.Mem.tail)) (fun a123 c123 hv123 hh123 => ?_)
                subst hv123
                refine Dw.pure (i := 19) rfl (by kernel_rfl) (Want.none rfl) rfl (ltN rfl) (QP.nilCheck rfl rfl) ?_
                refine Dw.pure (i := 20) rfl (by kernel_rfl) (Want.none rfl) rfl (ltN rfl) (QP.fieldAddr rfl rfl f57_1) ?_
                refine Dw.eff (i := 21) (by kernel_rfl) (by kernel_rfl) ?_
                refine One.act (o := _) (l := []) rfl (by kernel_rfl) (Want.none rfl) rfl (EF.store rfl rfl rfl z40 (Ref18Table.set_l _ ⟨a123, _, c123⟩) (cell_one rfl)) (by kernel_rfl) ?_
                rintro _ _ rfl
                refine ⟨fun _ h => (by cases h), ?_⟩
                refine Dw.nil (by kernel_rfl) ?_
                refine hk23 _ _ ?_
                refine Run.seq fun k25 hk25 => ?_
                refine Run.region ?_
                show Sq _ _ _ [0, 1] _ _ _ _
                refine Sq.quiet (i := 0) rfl (Want.none rfl) rfl (ltN rfl) (QP.assign rfl rfl).read ?_
                refine Sq.quiet (i := 1) rfl (Want.none rfl) rfl (ltN rfl) (QP.assign rfl rfl).read ?_
                refine Sq.nil ?_
                refine hk25 _ _ ?_
                refine Run.ret ?_
                exact J.ends (res_tmp2 rfl rfl rfl) (.cons (by repeat (first | exact Pick.head | apply Pick.tail)) (.cons (by repeat (first | exact Pick.head | apply Pick.tail)) Takes.nil)) ⟨_, _, _, hh123, true, 0, rfl, .inr ⟨hno, .inr ⟨c54, rfl, rfl, j, hjl, hbef, haft, cut_all hjl _⟩⟩, rfl⟩
            · skip
              refine One.mk (o := _) (l := [15, 5]) rfl (by kernel_rfl) (Want.none rfl) rfl (ltN rfl) (EF.buildSlice1 rfl Try.underlying40 z67 zero67 (by simp [Value.cells, Pending.enc_len]) (by decide) rfl rfl (Pending.enc_len _) (by decide)) (by kernel_rfl) ?_
              rintro _ _ ⟨b115, rfl, rfl⟩
              refine ⟨?_, ?_⟩
              · rw [List.forall_mem_cons, List.forall_mem_cons]
                refine ⟨?_, ?_, fun _ h => (by cases h)⟩
                · exact Look.mk rfl rfl rfl (QR.load1 (v := .slice _ L.length _) rfl rfl g40 (Ref18Table.sub_l _))
                · exact Look.mk rfl rfl rfl (QR.load1 (v := .slice _ L.length _) rfl rfl g40 (Ref18Table.sub_l _))
              refine ?_
              refine Dw.eff (i := 1) (by kernel_rfl) (by kernel_rfl) ?_
              refine One.mk (o := _) (l := [15, 9, 5]) rfl (by kernel_rfl) (Want.none rfl) rfl (ltN rfl) (EF.buildSlice0 (enc := Pending.enc) rfl Try.underlying40 z67 zero67 (by simp [Value.cells, Pending.enc_len]) (by decide)) (by kernel_rfl) ?_
              rintro _ _ ⟨b106, rfl, rfl⟩
              refine ⟨?_, ?_⟩
              · rw [List.forall_mem_cons, List.forall_mem_cons, List.forall_mem_cons]
                refine ⟨?_, ?_, ?_, fun _ h => (by cases h)⟩
                · exact Look.mk rfl rfl rfl (QR.load1 (v := .slice _ L.length _) rfl rfl g40 (Ref18Table.sub_l _))
                · exact Look.mk rfl rfl rfl (QR.load rfl rfl g67 (Pending.enc_sub _))
                · exact Look.mk rfl rfl rfl (QR.load1 (v := .slice _ L.length _) rfl rfl g40 (Ref18Table.sub_l _))
              refine ?_
              refine Dw.eff (i := 8) (by kernel_rfl) (by kernel_rfl) ?_
              refine One.mk (o := _) (l := [15, 9]) rfl (by kernel_rfl) (Want.none rfl) rfl (ltN rfl) (EF.append (xs := []) (ys := ((L.take j).drop 0)) el67 Pending.enc_len Pending.enc_cell rfl rfl rfl Try.underlying40 Try.underlying40 rfl rfl (by repeat (first | exact Pick.head | apply Pick.tail)) (RowsAt.cutOwn (i := 0) (j := j) Pending.enc_len hh (by repeat (first | exact List.Mem.head _ | apply List.Mem.tail)) (by omega) (by omega)) (by first | omega | (simp only [List.length_map, List.length_append, List.length_cons, List.length_nil, List.length_take, List.length_drop]; omega))) (by kernel_rfl) ?_
              rintro sl113 _ rfl
              refine ⟨?_, ?_⟩
              · rw [List.forall_mem_cons, List.forall_mem_cons]
                refine ⟨?_, ?_, fun _ h => (by cases h)⟩
                · exact Look.mk rfl rfl rfl (QR.load1 (v := .slice _ L.length _) rfl rfl g40 (Ref18Table.sub_l _))
                · exact Look.mk rfl rfl rfl (QR.load rfl rfl g67 (Pending.enc_sub _))
              refine ?_
              refine Dw.slCase (v := sl113) (by repeat (first | exact List.Mem.head _ | apply List.Mem.tail)) (fun a113 c113 hv113 hh113 => ?_)
              subst hv113
              refine Dw.eff (i := 11) (by kernel_rfl) (by kernel_rfl) ?_
              refine One.mk (o := _) (l := [15]) rfl (by kernel_rfl) (Want.none rfl) rfl (ltN rfl) (EF.append1 (xs := _) (s := _) el67 Pending.enc_len Pending.enc_cell rfl rfl rfl Try.underlying40 Try.underlying40 rfl rfl (by repeat (first | exact Pick.head | apply Pick.tail)) (by repeat (first | exact List.Mem.head _ | apply List.Mem.tail)) (by first | omega | (simp only [List.length_map, List.length_append, List.length_cons, List.length_nil, List.length_take, List.length_drop]; omega))) (by kernel_rfl) ?_
              rintro sl116 _ rfl
              refine ⟨?_, ?_⟩
              · rw [List.forall_mem_cons]
                refine ⟨?_, fun _ h => (by cases h)⟩
                · exact Look.mk rfl rfl rfl (QR.load1 (v := .slice _ L.length _) rfl rfl g40 (Ref18Table.sub_l _))
              refine ?_
              refine Dw.slCase (v := sl116) (by repeat (first | exact List.Mem.head _ | apply List.Mem.tail)) (fun a116 c116 hv116 hh116 => ?_)
              subst hv116
              refine Dw.eff (i := 18) (by kernel_rfl) (by kernel_rfl) ?_
              refine One.mk (o := _) (l := []) rfl (by kernel_rfl) (Want.none rfl) rfl (ltN rfl) (EF.append (xs := _) (ys := ((L.take L.length).drop j)) el67 Pending.enc_len Pending.enc_cell rfl rfl rfl Try.underlying40 Try.underlying40 rfl rfl (by repeat (first | exact Pick.head | apply Pick.tail)) (RowsAt.cutOwn (i := j) (j := L.length) Pending.enc_len hh (by repeat (first | exact List.Mem.head _ | apply List.Mem.tail)) (by omega) (by omega)) (by first | omega | (simp only [List.length_map, List.length_append, List.length_cons, List.length_nil, List.length_take, List.length_drop]; omega))) (by kernel_rfl) ?_
              rintro sl123 _ rfl
              refine ⟨fun _ h => (by cases h), ?_⟩
              refine Dw.slCase (v := sl123) (by repeat (first | exact List.Mem.head _ | apply List.Mem.tail)) (fun a123 c123 hv123 hh123 => ?_)
              subst hv123
              refine Dw.pure (i := 19) rfl (by kernel_rfl) (Want.none rfl) rfl (ltN rfl) (QP.nilCheck rfl rfl) ?_
              refine Dw.pure (i := 20) rfl (by kernel_rfl) (Want.none rfl) rfl (ltN rfl) (QP.fieldAddr rfl rfl f57_1) ?_
              refine Dw.eff (i := 21) (by kernel_rfl) (by kernel_rfl) ?_
              refine One.act (o := _) (l := []) rfl (by kernel_rfl) (Want.none rfl) rfl (EF.store rfl rfl rfl z40 (Ref18Table.set_l _ ⟨a123, _, c123⟩) (cell_one rfl)) (by kernel_rfl) ?_
              rintro _ _ rfl
              refine ⟨fun _ h => (by cases h), ?_⟩
              refine Dw.nil (by kernel_rfl) ?_
              refine hk23 _ _ ?_
              refine Run.seq fun k26 hk26 => ?_
              refine Run.region ?_
              show Sq _ _ _ [0, 1] _ _ _ _
              refine Sq.quiet (i := 0) rfl (Want.none rfl) rfl (ltN rfl) (QP.assign rfl rfl).read ?_
              refine Sq.quiet (i := 1) rfl (Want.none rfl) rfl (ltN rfl) (QP.assign rfl rfl).read ?_
              refine Sq.nil ?_
              refine hk26 _ _ ?_
              refine Run.ret ?_
              exact J.ends (res_tmp2 rfl rfl rfl) (.cons (by repeat (first | exact Pick.head | apply Pick.tail)) (.cons (by repeat (first | exact Pick.head | apply Pick.tail)) Takes.nil)) ⟨_, _, _, hh123, true, 0, rfl, .inr ⟨hno, .inr ⟨c54, rfl, rfl, j, hjl, hbef, haft, cut_all hjl _⟩⟩, rfl⟩
      · skip
        refine Dw.pure (i := 2) rfl (by kernel_rfl) (Want.none rfl) rfl (ltN rfl) (QP.move rfl rfl) ?_
        refine Dw.skip (i := 3) rfl (by kernel_rfl) (Want.no rfl rfl rfl rfl) rfl (ltN rfl) ?_
        refine Dw.skip (i := 4) rfl (by kernel_rfl) (Want.no rfl rfl rfl rfl) rfl (ltN rfl) ?_
        refine Dw.skip (i := 5) rfl (by kernel_rfl) (Want.no rfl rfl rfl rfl) rfl (ltN rfl) ?_
        refine Dw.skip (i := 6) rfl (by kernel_rfl) (Want.no rfl rfl rfl rfl) rfl (ltN rfl) ?_
        refine Dw.skip (i := 7) rfl (by kernel_rfl) (Want.no rfl rfl rfl rfl) rfl (ltN rfl) ?_
        refine Dw.skip (i := 8) rfl (by kernel_rfl) (Want.no rfl rfl rfl rfl) rfl (ltN rfl) ?_
        refine Dw.skip (i := 9) rfl (by kernel_rfl) (Want.no rfl rfl rfl rfl) rfl (ltN rfl) ?_
        refine Dw.skip (i := 10) rfl (by kernel_rfl) (Want.no rfl rfl rfl rfl) rfl (ltN rfl) ?_
        refine Dw.skip (i := 11) rfl (by kernel_rfl) (Want.no rfl rfl rfl rfl) rfl (ltN rfl) ?_
        refine Dw.skip (i := 12) rfl (by kernel_rfl) (Want.no rfl rfl rfl rfl) rfl (ltN rfl) ?_
        refine Dw.eff (i := 13) (by kernel_rfl) (by kernel_rfl) ?_
        refine One.skipD (o := _) rfl (by kernel_rfl) (Want.no rfl rfl rfl rfl) rfl (ltN rfl) ?_
        refine Dw.skip (i := 14) rfl (by kernel_rfl) (Want.no rfl rfl rfl rfl) rfl (ltN rfl) ?_
        refine Dw.skip (i := 15) rfl (by kernel_rfl) (Want.no rfl rfl rfl rfl) rfl (ltN rfl) ?_
        refine Dw.skip (i := 16) rfl (by kernel_rfl) (Want.undef rfl rfl rfl) rfl (ltN rfl) ?_
        refine Dw.skip (i := 17) rfl (by kernel_rfl) (Want.undef rfl rfl rfl) rfl (ltN rfl) ?_
        refine Dw.skip (i := 18) rfl (by kernel_rfl) (Want.undef rfl rfl rfl) rfl (ltN rfl) ?_
        refine Dw.skip (i := 19) rfl (by kernel_rfl) (Want.undef rfl rfl rfl) rfl (ltN rfl) ?_
        refine Dw.skip (i := 20) rfl (by kernel_rfl) (Want.undef rfl rfl rfl) rfl (ltN rfl) ?_
        refine Dw.skip (i := 21) rfl (by kernel_rfl) (Want.undef rfl rfl rfl) rfl (ltN rfl) ?_
        refine Dw.skip (i := 22) rfl (by kernel_rfl) (Want.undef rfl rfl rfl) rfl (ltN rfl) ?_
        refine Dw.skip (i := 23) rfl (by kernel_rfl) (Want.undef rfl rfl rfl) rfl (ltN rfl) ?_
        refine Dw.skip (i := 24) rfl (by kernel_rfl) (Want.undef rfl rfl rfl) rfl (ltN rfl) ?_
        refine Dw.skip (i := 25) rfl (by kernel_rfl) (Want.undef rfl rfl rfl) rfl (ltN rfl) ?_
        refine Dw.skip (i := 26) rfl (by kernel_rfl) (Want.undef rfl rfl rfl) rfl (ltN rfl) ?_
        refine Dw.skip (i := 27) rfl (by kernel_rfl) (Want.undef rfl rfl rfl) rfl (ltN rfl) ?_
        refine Dw.skip (i := 28) rfl (by kernel_rfl) (Want.undef rfl rfl rfl) rfl (ltN rfl) ?_
        refine Dw.skip (i := 29) rfl (by kernel_rfl) (Want.undef rfl rfl rfl) rfl (ltN rfl) ?_
        refine Dw.skip (i := 30) rfl (by kernel_rfl) (Want.undef rfl rfl rfl) rfl (ltN rfl) ?_
        refine Dw.skip (i := 31) rfl (by kernel_rfl) (Want.undef rfl rfl rfl) rfl (ltN rfl) ?_
        refine Dw.skip (i := 32) rfl (by kernel_rfl) (Want.undef rfl rfl rfl) rfl (ltN rfl) ?_
        refine Dw.skip (i := 33) rfl (by kernel_rfl) (Want.undef rfl rfl rfl) rfl (ltN rfl) ?_
        refine Dw.skip (i := 34) rfl (by kernel_rfl) (Want.undef rfl rfl rfl) rfl (ltN rfl) ?_
        refine Dw.skip (i := 35) rfl (by kernel_rfl) (Want.undef rfl rfl rfl) rfl (ltN rfl) ?_
        refine Dw.skip (i := 36) rfl (by kernel_rfl) (Want.undef rfl rfl rfl) rfl (ltN rfl) ?_
        refine Dw.skip (i := 37) rfl (by kernel_rfl) (Want.undef rfl rfl rfl) rfl (ltN rfl) ?_
        refine Dw.eff (i := 38) (by kernel_rfl) (by kernel_rfl) ?_
        refine One.skipD (o := _) rfl (by kernel_rfl) (Want.undef rfl rfl rfl) rfl (ltN rfl) ?_
        refine Dw.skip (i := 39) rfl (by kernel_rfl) (Want.undef rfl rfl rfl) rfl (ltN rfl) ?_
        refine Dw.skip (i := 40) rfl (by kernel_rfl) (Want.undef rfl rfl rfl) rfl (ltN rfl) ?_
        refine Dw.skip (i := 41) rfl (by kernel_rfl) (Want.no rfl rfl rfl rfl) rfl (ltN rfl) ?_
        refine Dw.pure (i := 42) rfl (by kernel_rfl) (Want.none rfl) rfl (ltN rfl) (QP.pick_f rfl rfl rfl) ?_
        refine Dw.nil (by kernel_rfl) ?_
        refine hk18 _ _ ?_
        refine Run.cond_f rfl ?_
        refine Run.exit rfl ?_
        refine hk15 _ _ ?_
        refine Run.seq fun k27 hk27 => ?_
        refine Run.regionD (M := [0, 0, 0, 4, 12, 28, 0, 124, 254, 0, 512, 2046, 0, 4096, 12288, 28672, 0, 126976, 262142, 524287, 1048575, 2097151]) (q := 1831677) (r := 33312) (by kernel_rfl) ?_
        have hbef : ∀ y ∈ L.take j, cmpPending y (⟨p, id, q, 1, now + 2000⟩ : Pending) < 0 := by rw [show j = 0 by omega]; simp
        refine Dw.pure (i := 0) rfl (by kernel_rfl) (Want.none rfl) rfl (ltN rfl) (QP.move rfl rfl) ?_
        refine Dw.pure (i := 2) rfl (by kernel_rfl) (Want.none rfl) rfl (ltN rfl) (QP.move rfl rfl) ?_
        refine Dw.pure (i := 3) rfl (by kernel_rfl) (Want.none rfl) rfl (ltN rfl) (QP.nilCheck rfl rfl) ?_
        refine Dw.pure (i := 4) rfl (by kernel_rfl) (Want.none rfl) rfl (ltN rfl) (QP.fieldAddr rfl rfl f57_1) ?_
        refine Dw.read (i := 5) rfl (by kernel_rfl) (Want.none rfl) rfl (ltN rfl) (QR.load1 (v := .slice _ L.length _) rfl rfl g40 (Ref18Table.sub_l _)) ?_
        refine Dw.pure (i := 6) rfl (by kernel_rfl) (Want.none rfl) rfl (ltN rfl) (QP.move rfl rfl) ?_
        refine Dw.pure (i := 7) rfl (by kernel_rfl) (Want.none rfl) rfl (ltN rfl) (QP.sliceHi rfl rfl rfl Try.underlying40 z67 (by first | omega | (simp only [List.length_map, List.length_append, List.length_cons, List.length_nil, List.length_take, List.length_drop]; omega)) (by first | omega | (simp only [List.length_map, List.length_append, List.length_cons, List.length_nil, List.length_take, List.length_drop]; omega))) ?_
        refine Dw.read (i := 9) rfl (by kernel_rfl) (Want.none rfl) rfl (ltN rfl) (QR.load rfl rfl g67 (Pending.enc_sub _)) ?_
        refine Dw.pure (i := 12) rfl (by kernel_rfl) (Want.none rfl) rfl (ltN rfl) (QP.move rfl rfl) ?_
        refine Dw.pure (i := 13) rfl (by kernel_rfl) (Want.none rfl) rfl (ltN rfl) (QP.nilCheck rfl rfl) ?_
        refine Dw.pure (i := 14) rfl (by kernel_rfl) (Want.none rfl) rfl (ltN rfl) (QP.fieldAddr rfl rfl f57_1) ?_
        refine Dw.read (i := 15) rfl (by kernel_rfl) (Want.none rfl) rfl (ltN rfl) (QR.load1 (v := .slice _ L.length _) rfl rfl g40 (Ref18Table.sub_l _)) ?_
        refine Dw.pure (i := 16) rfl (by kernel_rfl) (Want.none rfl) rfl (ltN rfl) (QP.move rfl rfl) ?_
        refine Dw.pure (i := 17) rfl (by kernel_rfl) (Want.none rfl) rfl (ltN rfl) (QP.sliceLo rfl rfl rfl Try.underlying40 z67 (by first | omega | (simp only [List.length_map, List.length_append, List.length_cons, List.length_nil, List.length_take, List.length_drop]; omega)) (by first | omega | (simp only [List.length_map, List.length_append, List.length_cons, List.length_nil, List.length_take, List.length_drop]; omega))) ?_
        refine Dw.effs (l := [1, 10]) (by kernel_rfl) (by kernel_rfl) ?_
        rw [List.forall_mem_cons, List.forall_mem_cons]
        refine ⟨?_, ?_, fun _ h => (by cases h)⟩
        · skip
          refine One.mk (o := _) (l := [15, 9, 5]) rfl (by kernel_rfl) (Want.none rfl) rfl (ltN rfl) (EF.buildSlice0 (enc := Pending.enc) rfl Try.underlying40 z67 zero67 (by simp [Value.cells, Pending.enc_len]) (by decide)) (by kernel_rfl) ?_
          rintro _ _ ⟨b106, rfl, rfl⟩
          refine ⟨?_, ?_⟩
          · rw [List.forall_mem_cons, List.forall_mem_cons, List.forall_mem_cons]
            refine ⟨?_, ?_, ?_, fun _ h => (by cases h)⟩
            · exact Look.mk rfl rfl rfl (QR.load1 (v := .slice _ L.length _) rfl rfl g40 (Ref18Table.sub_l _))
            · exact Look.mk rfl rfl rfl (QR.load rfl rfl g67 (Pending.enc_sub _))
            · exact Look.mk rfl rfl rfl (QR.load1 (v := .slice _ L.length _) rfl rfl g40 (Ref18Table.sub_l _))
          refine ?_
          refine Dw.effs (l := [8, 10]) (by kernel_rfl) (by kernel_rfl) ?_
          rw [List.forall_mem_cons, List.forall_mem_cons]
          refine ⟨?_, ?_, fun _ h => (by cases h)⟩
          · skip
            refine One.mk (o := _) (l := [15, 9]) rfl (by kernel_rfl) (Want.none rfl) rfl (ltN rfl) (EF.append (xs := []) (ys := ((L.take j).drop 0)) el67 Pending.enc_len Pending.enc_cell rfl rfl rfl Try.underlying40 Try.underlying40 rfl rfl (by repeat (first | exact Pick.head | apply Pick.tail)) (RowsAt.cutOwn (i := 0) (j := j) Pending.enc_len hh (by repeat (first | exact List.Mem.head _ | apply List.Mem.tail)) (by omega) (by omega)) (by first | omega | (simp only [List.length_map, List.length_append, List.length_cons, List.length_nil, List.length_take, List.length_drop]; omega))) (by kernel_rfl) ?_
            rintro sl113 _ rfl
            refine ⟨?_, ?_⟩
            · rw [List.forall_mem_cons, List.forall_mem_cons]
              refine ⟨?_, ?_, fun _ h => (by cases h)⟩
              · exact Look.mk rfl rfl rfl (QR.load1 (v := .slice _ L.length _) rfl rfl g40 (Ref18Table.sub_l _))
              · exact Look.mk rfl rfl rfl (QR.load rfl rfl g67 (Pending.enc_sub _))
            refine ?_
            refine Dw.slCase (v := sl113) (by repeat (first | exact List.Mem.head _ | apply List.Mem.tail)) (fun a113 c113 hv113 hh113 => ?_)
            subst hv113
            refine Dw.eff (i := 10) (by kernel_rfl) (by kernel_rfl) ?_
            refine One.mk (o := _) (l := [15, 5]) rfl (by kernel_rfl) (Want.none rfl) rfl (ltN rfl) (EF.buildSlice1 rfl Try.underlying40 z67 zero67 (by simp [Value.cells, Pending.enc_len]) (by decide) rfl rfl (Pending.enc_len _) (by decide)) (by kernel_rfl) ?_
            rintro _ _ ⟨b115, rfl, rfl⟩
            refine ⟨?_, ?_⟩
            · rw [List.forall_mem_cons, List.forall_mem_cons]
              refine ⟨?_, ?_, fun _ h => (by cases h)⟩
              · exact Look.mk rfl rfl rfl (QR.load1 (v := .slice _ L.length _) rfl rfl g40 (Ref18Table.sub_l _))
              · exact Look.mk rfl rfl rfl (QR.load1 (v := .slice _ L.length _) rfl rfl g40 (Ref18Table.sub_l _))
            refine ?_
            refine Dw.eff (i := 11) (by kernel_rfl) (by kernel_rfl) ?_
            refine One.mk (o := _) (l := [15]) rfl (by kernel_rfl) (Want.none rfl) rfl (ltN rfl) (EF.append1 (xs := _) (s := _) el67 Pending.enc_len Pending.enc_cell rfl rfl rfl Try.underlying40 Try.underlying40 rfl rfl (by repeat (first | exact Pick.head | apply Pick.tail)) (by repeat (first | exact List.Mem.head _ | apply List.Mem.tail)) (by first | omega | (simp only [List.length_map, List.length_append, List.length_cons, List.length_nil, List.length_take, List.length_drop]; omega))) (by kernel_rfl) ?_
            rintro sl116 _ rfl
            refine ⟨?_, ?_⟩
            · rw [List.forall_mem_cons]
              refine ⟨?_, fun _ h => (by cases h)⟩
              · exact Look.mk rfl rfl rfl (QR.load1 (v := .slice _ L.length _) rfl rfl g40 (Ref18Table.sub_l _))
            refine ?_
            refine Dw.slCase (v := sl116) (by repeat (first | exact List.Mem.head _ | apply List.Mem.tail)) (fun a116 c116 hv116 hh116 => ?_)
            subst hv116
            refine Dw.eff (i := 18) (by kernel_rfl) (by kernel_rfl) ?_
            refine One.mk (o := _) (l := []) rfl (by kernel_rfl) (Want.none rfl) rfl (ltN rfl) (EF.append (xs := _) (ys := ((L.take L.length).drop j)) el67 Pending.enc_len Pending.enc_cell rfl rfl rfl Try.underlying40 Try.underlying40 rfl rfl (by repeat (first | exact Pick.head | apply Pick.tail)) (RowsAt.cutOwn (i := j) (j := L.length) Pending.enc_len hh (by repeat (first | exact List.Mem.head _ | apply List.Mem.tail)) (by omega) (by omega)) (by first | omega | (simp only [List.length_map, List.length_append, List.length_cons, List.length_nil, List.length_take, List.length_drop]; omega))) (by kernel_rfl) ?_
            rintro sl123 _ rfl
            refine ⟨fun _ h => (by cases h), ?_⟩
            refine Dw.slCase (v := sl123) (by repeat (first | exact List.Mem.head _ | apply List.Mem.tail)) (fun a123 c123 hv123 hh123 => ?_)
            subst hv123
            refine Dw.pure (i := 19) rfl (by kernel_rfl) (Want.none rfl) rfl (ltN rfl) (QP.nilCheck rfl rfl) ?_
            refine Dw.pure (i := 20) rfl (by kernel_rfl) (Want.none rfl) rfl (ltN rfl) (QP.fieldAddr rfl rfl f57_1) ?_
            refine Dw.eff (i := 21) (by kernel_rfl) (by kernel_rfl) ?_
            refine One.act (o := _) (l := []) rfl (by kernel_rfl) (Want.none rfl) rfl (EF.store rfl rfl rfl z40 (Ref18Table.set_l _ ⟨a123, _, c123⟩) (cell_one rfl)) (by kernel_rfl) ?_
            rintro _ _ rfl
            refine ⟨fun _ h => (by cases h), ?_⟩
            refine Dw.nil (by kernel_rfl) ?_
            refine hk27 _ _ ?_
            refine Run.seq fun k28 hk28 => ?_
            refine Run.region ?_
            show Sq _ _ _ [0, 1] _ _ _ _
            refine Sq.quiet (i := 0) rfl (Want.none rfl) rfl (ltN rfl) (QP.assign rfl rfl).read ?_
            refine Sq.quiet (i := 1) rfl (Want.none rfl) rfl (ltN rfl) (QP.assign rfl rfl).read ?_
            refine Sq.nil ?_
            refine hk28 _ _ ?_
            refine Run.ret ?_
            exact J.ends (res_tmp2 rfl rfl rfl) (.cons (by repeat (first | exact Pick.head | apply Pick.tail)) (.cons (by repeat (first | exact Pick.head | apply Pick.tail)) Takes.nil)) ⟨_, _, _, hh123, true, 0, rfl, .inr ⟨hno, .inr ⟨c54, rfl, rfl, j, hjl, hbef, haft, cut_all hjl _⟩⟩, rfl⟩
          · skip
            refine One.mk (o := _) (l := [15, 5]) rfl (by kernel_rfl) (Want.none rfl) rfl (ltN rfl) (EF.buildSlice1 rfl Try.underlying40 z67 zero67 (by simp [Value.cells, Pending.enc_len]) (by decide) rfl rfl (Pending.enc_len _) (by decide)) (by kernel_rfl) ?_
            rintro _ _ ⟨b115, rfl, rfl⟩
            refine ⟨?_, ?_⟩
            · rw [List.forall_mem_cons, List.forall_mem_cons]
              refine ⟨?_, ?_, fun _ h => (by cases h)⟩
              · exact Look.mk rfl rfl rfl (QR.load1 (v := .slice _ L.length _) rfl rfl g40 (Ref18Table.sub_l _))
              · exact Look.mk rfl rfl rfl (QR.load1 (v := .slice _ L.length _) rfl rfl g40 (Ref18Table.sub_l _))
            refine ?_
            refine Dw.eff (i := 8) (by kernel_rfl) (by kernel_rfl) ?_
            refine One.mk (o := _) (l := [15, 9]) rfl (by kernel_rfl) (Want.none rfl) rfl (ltN rfl) (EF.append (xs := []) (ys := ((L.take j).drop 0)) el67 Pending.enc_len Pending.enc_cell rfl rfl rfl Try.underlying40 Try.underlying40 rfl rfl (by repeat (first | exact Pick.head | apply Pick.tail)) (RowsAt.cutOwn (i := 0) (j := j) Pending.enc_len hh (by repeat (first | exact List.Mem.head _ | apply List.Mem.tail)) (by omega) (by omega)) (by first | omega | (simp only [List.length_map, List.length_append, List.length_cons, List.length_nil, List.length_take, List.length_drop]; omega))) (by kernel_rfl) ?_
            rintro sl113 _ rfl
            refine ⟨?_, ?_⟩
            · rw [List.forall_mem_cons, List.forall_mem_cons]
              refine ⟨?_, ?_, fun _ h => (by cases h)⟩
              · exact Look.mk rfl rfl rfl (QR.load1 (v := .slice _ L.length _) rfl rfl g40 (Ref18Table.sub_l _))
              · exact Look.mk rfl rfl rfl (QR.load rfl rfl g67 (Pending.enc_sub _))
            refine ?_
            refine Dw.slCase (v := sl113) (by repeat (first | exact List.Mem.head _ | apply List.Mem.tail)) (fun a113 c113 hv113 hh113 => ?_)
            subst hv113
            refine Dw.eff (i := 11) (by kernel_rfl) (by kernel_rfl) ?_
            refine One.mk (o := _) (l := [15]) rfl (by kernel_rfl) (Want.none rfl) rfl (ltN rfl) (EF.append1 (xs := _) (s := _) el67 Pending.enc_len Pending.enc_cell rfl rfl rfl Try.underlying40 Try.underlying40 rfl rfl (by repeat (first | exact Pick.head | apply Pick.tail)) (by repeat (first | exact List.Mem.head _ | apply List.Mem.tail)) (by first | omega | (simp only [List.length_map, List.length_append, List.length_cons, List.length_nil, List.length_take, List.length_drop]; omega))) (by kernel_rfl) ?_
            rintro sl116 _ rfl
            refine ⟨?_, ?_⟩
            · rw [List.forall_mem_cons]
              refine ⟨?_, fun _ h => (by cases h)⟩
              · exact Look.mk rfl rfl rfl (QR.load1 (v := .slice _ L.length _) rfl rfl g40 (Ref18Table.sub_l _))
            refine ?_
            refine Dw.slCase (v := sl116) (by repeat (first | exact List.Mem.head _ | apply List.Mem.tail)) (fun a116 c116 hv116 hh116 => ?_)
            subst hv116
            refine Dw.eff (i := 18) (by kernel_rfl) (by kernel_rfl) ?_
            refine One.mk (o := _) (l := []) rfl (by kernel_rfl) (Want.none rfl) rfl (ltN rfl) (EF.append (xs := _) (ys := ((L.take L.length).drop j)) el67 Pending.enc_len Pending.enc_cell rfl rfl rfl Try.underlying40 Try.underlying40 rfl rfl (by repeat (first | exact Pick.head | apply Pick.tail)) (RowsAt.cutOwn (i := j) (j := L.length) Pending.enc_len hh (by repeat (first | exact List.Mem.head _ | apply List.Mem.tail)) (by omega) (by omega)) (by first | omega | (simp only [List.length_map, List.length_append, List.length_cons, List.length_nil, List.length_take, List.length_drop]; omega))) (by kernel_rfl) ?_
            rintro sl123 _ rfl
            refine ⟨fun _ h => (by cases h), ?_⟩
            refine Dw.slCase (v := sl123) (by repeat (first | exact List.Mem.head _ | apply List.Mem.tail)) (fun a123 c123 hv123 hh123 => ?_)
            subst hv123
            refine Dw.pure (i := 19) rfl (by kernel_rfl) (Want.none rfl) rfl (ltN rfl) (QP.nilCheck rfl rfl) ?_
            refine Dw.pure (i := 20) rfl (by kernel_rfl) (Want.none rfl) rfl (ltN rfl) (QP.fieldAddr rfl rfl f57_1) ?_
            refine Dw.eff (i := 21) (by kernel_rfl) (by kernel_rfl) ?_
            refine One.act (o := _) (l := []) rfl (by kernel_rfl) (Want.none rfl) rfl (EF.store rfl rfl rfl z40 (Ref18Table.set_l _ ⟨a123, _, c123⟩) (cell_one rfl)) (by kernel_rfl) ?_
            rintro _ _ rfl
            refine ⟨fun _ h => (by cases h), ?_⟩
            refine Dw.nil (by kernel_rfl) ?_
            refine hk27 _ _ ?_
            refine Run.seq fun k29 hk29 => ?_
            refine Run.region ?_
            show Sq _ _ _ [0, 1] _ _ _ _
            refine Sq.quiet (i := 0) rfl (Want.none rfl) rfl (ltN rfl) (QP.assign rfl rfl).read ?_
            refine Sq.quiet (i := 1) rfl (Want.none rfl) rfl (ltN rfl) (QP.assign rfl rfl).read ?_
            refine Sq.nil ?_
            refine hk29 _ _ ?_
            refine Run.ret ?_
            exact J.ends (res_tmp2 rfl rfl rfl) (.cons (by repeat (first | exact Pick.head | apply Pick.tail)) (.cons (by repeat (first | exact Pick.head | apply Pick.tail)) Takes.nil)) ⟨_, _, _, hh123, true, 0, rfl, .inr ⟨hno, .inr ⟨c54, rfl, rfl, j, hjl, hbef, haft, cut_all hjl _⟩⟩, rfl⟩
        · skip
          refine One.mk (o := _) (l := [15, 5]) rfl (by kernel_rfl) (Want.none rfl) rfl (ltN rfl) (EF.buildSlice1 rfl Try.underlying40 z67 zero67 (by simp [Value.cells, Pending.enc_len]) (by decide) rfl rfl (Pending.enc_len _) (by decide)) (by kernel_rfl) ?_
          rintro _ _ ⟨b115, rfl, rfl⟩
          refine ⟨?_, ?_⟩
          · rw [List.forall_mem_cons, List.forall_mem_cons]
            refine ⟨?_, ?_, fun _ h => (by cases h)⟩
            · exact Look.mk rfl rfl rfl (QR.load1 (v := .slice _ L.length _) rfl rfl g40 (Ref18Table.sub_l _))
            · exact Look.mk rfl rfl rfl (QR.load1 (v := .slice _ L.length _) rfl rfl g40 (Ref18Table.sub_l _))
          refine ?_
          refine Dw.eff (i := 1) (by kernel_rfl) (by kernel_rfl) ?_
          refine One.mk (o := _) (l := [15, 9, 5]) rfl (by kernel_rfl) (Want.none rfl) rfl (ltN rfl) (EF.buildSlice0 (enc := Pending.enc) rfl Try.underlying40 z67 zero67 (by simp [Value.cells, Pending.enc_len]) (by decide)) (by kernel_rfl) ?_
          rintro _ _ ⟨b106, rfl, rfl⟩
          refine ⟨?_, ?_⟩
          · rw [List.forall_mem_cons, List.forall_mem_cons, List.forall_mem_cons]
            refine ⟨?_, ?_, ?_, fun _ h => (by cases h)⟩
            · exact Look.mk rfl rfl rfl (QR.load1 (v := .slice _ L.length _) rfl rfl g40 (Ref18Table.sub_l _))
            · exact Look.mk rfl rfl rfl (QR.load rfl rfl g67 (Pending.enc_sub _))
            · exact Look.mk rfl rfl rfl (QR.load1 (v := .slice _ L.length _) rfl rfl g40 (Ref18Table.sub_l _))
          refine ?_
          refine Dw.eff (i := 8) (by kernel_rfl) (by kernel_rfl) ?_
          refine One.mk (o := _) (l := [15, 9]) rfl (by kernel_rfl) (Want.none rfl) rfl (ltN rfl) (EF.append (xs := []) (ys := ((L.take j).drop 0)) el67 Pending.enc_len Pending.enc_cell rfl rfl rfl Try.underlying40 Try.underlying40 rfl rfl (by repeat (first | exact Pick.head | apply Pick.tail)) (RowsAt.cutOwn (i := 0) (j := j) Pending.enc_len hh (by repeat (first | exact List.Mem.head _ | apply List.Mem.tail)) (by omega) (by omega)) (by first | omega | (simp only [List.length_map, List.length_append, List.length_cons, List.length_nil, List.length_take, List.length_drop]; omega))) (by kernel_rfl) ?_
          rintro sl113 _ rfl
          refine ⟨?_, ?_⟩
          · rw [List.forall_mem_cons, List.forall_mem_cons]
            refine ⟨?_, ?_, fun _ h => (by cases h)⟩
            · exact Look.mk rfl rfl rfl (QR.load1 (v := .slice _ L.length _) rfl rfl g40 (Ref18Table.sub_l _))
            · exact Look.mk rfl rfl rfl (QR.load rfl rfl g67 (Pending.enc_sub _))
          refine ?_
          refine Dw.slCase (v := sl113) (by repeat (first | exact List.Mem.head _ | apply List.Mem.tail)) (fun a113 c113 hv113 hh113 => ?_)
          subst hv113
          refine Dw.eff (i := 11) (by kernel_rfl) (by kernel_rfl) ?_
          refine One.mk (o := _) (l := [15]) rfl (by kernel_rfl) (Want.none rfl) rfl (ltN rfl) (EF.append1 (xs := _) (s := _) el67 Pending.enc_len Pending.enc_cell rfl rfl rfl Try.underlying40 Try.underlying40 rfl rfl (by repeat (first | exact Pick.head | apply Pick.tail)) (by repeat (first | exact List.Mem.head _ | apply List.Mem.tail)) (by first | omega | (simp only [List.length_map, List.length_append, List.length_cons, List.length_nil, List.length_take, List.length_drop]; omega))) (by kernel_rfl) ?_
          rintro sl116 _ rfl
          refine ⟨?_, ?_⟩
          · rw [List.forall_mem_cons]
            refine ⟨?_, fun _ h => (by cases h)⟩
            · exact Look.mk rfl rfl rfl (QR.load1 (v := .slice _ L.length _) rfl rfl g40 (Ref18Table.sub_l _))
          refine ?_
          refine Dw.slCase (v := sl116) (by repeat (first | exact List.Mem.head _ | apply List.Mem.tail)) (fun a116 c116 hv116 hh116 => ?_)
          subst hv116
          refine Dw.eff (i := 18) (by kernel_rfl) (by kernel_rfl) ?_
          refine One.mk (o := _) (l := []) rfl (by kernel_rfl) (Want.none rfl) rfl (ltN rfl) (EF.append (xs := _) (ys := ((L.take L.length).drop j)) el67 Pending.enc_len Pending.enc_cell rfl rfl rfl Try.underlying40 Try.underlying40 rfl rfl (by repeat (first | exact Pick.head | apply Pick.tail)) (RowsAt.cutOwn (i := j) (j := L.length) Pending.enc_len hh (by repeat (first | exact List.Mem.head _ | apply List.Mem.tail)) (by omega) (by omega)) (by first | omega | (simp only [List.length_map, List.length_append, List.length_cons, List.length_nil, List.length_take, List.length_drop]; omega))) (by kernel_rfl) ?_
          rintro sl123 _ rfl
          refine ⟨fun _ h => (by cases h), ?_⟩
          refine Dw.slCase (v := sl123) (by repeat (first | exact List.Mem.head _ | apply List.Mem.tail)) (fun a123 c123 hv123 hh123 => ?_)
          subst hv123
          refine Dw.pure (i := 19) rfl (by kernel_rfl) (Want.none rfl) rfl (ltN rfl) (QP.nilCheck rfl rfl) ?_
          refine Dw.pure (i := 20) rfl (by kernel_rfl) (Want.none rfl) rfl (ltN rfl) (QP.fieldAddr rfl rfl f57_1) ?_
          refine Dw.eff (i := 21) (by kernel_rfl) (by kernel_rfl) ?_
          refine One.act (o := _) (l := []) rfl (by kernel_rfl) (Want.none rfl) rfl (EF.store rfl rfl rfl z40 (Ref18Table.set_l _ ⟨a123, _, c123⟩) (cell_one rfl)) (by kernel_rfl) ?_
          rintro _ _ rfl
          refine ⟨fun _ h => (by cases h), ?_⟩
          refine Dw.nil (by kernel_rfl) ?_
          refine hk27 _ _ ?_
          refine Run.seq fun k30 hk30 => ?_
          refine Run.region ?_
          show Sq _ _ _ [0, 1] _ _ _ _
          refine Sq.quiet (i := 0) rfl (Want.none rfl) rfl (ltN rfl) (QP.assign rfl rfl).read ?_
          refine Sq.quiet (i := 1) rfl (Want.none rfl) rfl (ltN rfl) (QP.assign rfl rfl).read ?_
          refine Sq.nil ?_
          refine hk30 _ _ ?_
          refine Run.ret ?_
          exact J.ends (res_tmp2 rfl rfl rfl) (.cons (by repeat (first | exact Pick.head | apply Pick.tail)) (.cons (by repeat (first | exact Pick.head | apply Pick.tail)) Takes.nil)) ⟨_, _, _, hh123, true, 0, rfl, .inr ⟨hno, .inr ⟨c54, rfl, rfl, j, hjl, hbef, haft, cut_all hjl _⟩⟩, rfl⟩
end Slb
