/- K2: a part of the proof that a law of this package holds for every input; no condition. -/
import Derived.Test.YtgcjmamfbcmccaaK1
import Derived.Test.YtgcjmamfbcmccaaB27
namespace Slb
open Go Go.Proofs
set_option maxRecDepth 20000
/-- How many bits of byte i are among the first n. -/
def keepN (n : Int) (i : Nat) : Nat := (min (max (n - 8 * i) 0) 8).toNat
def maskB (n : Int) (i : Nat) : UInt8 := UInt8.ofNat (65280 / 2 ^ keepN n i)
def maskedB (x : Bs 16) (n : Int) : Bs 16 := ⟨x.l.mapIdx fun i c => c &&& maskB n i, by rw [List.length_mapIdx, x.h]⟩
def maskedT (x : Bs 16) (n : Int) (k : Nat) : Bs 16 := ⟨x.l.mapIdx fun i c => if i < k then c &&& maskB n i else c, by rw [List.length_mapIdx, x.h]⟩
theorem maskedT_zero (x : Bs 16) (n : Int) : maskedT x n 0 = x := by
  apply Bs.ext
  show x.l.mapIdx _ = x.l
  apply List.ext_getElem?
  intro i
  rw [List.getElem?_mapIdx]
  cases x.l[i]? <;> simp
theorem maskedT_all (x : Bs 16) (n : Int) : maskedT x n 16 = maskedB x n := by
  apply Bs.ext
  show x.l.mapIdx _ = x.l.mapIdx _
  apply List.ext_getElem?
  intro i
  rw [List.getElem?_mapIdx, List.getElem?_mapIdx]
  by_cases h : i < 16
  · simp [h]
  · rw [List.getElem?_eq_none (by rw [x.h]; omega)]; rfl
theorem maskedT_at {x : Bs 16} {n : Int} {k : Nat} {c : UInt8} (h : x.l[k]? = some c) : (maskedT x n k).l[k]? = some c := by
  show (x.l.mapIdx _)[k]? = _
  rw [List.getElem?_mapIdx, h]
  simp
theorem maskedT_succ {x : Bs 16} {n : Int} {k : Nat} {c : UInt8} (h : x.l[k]? = some c) : (maskedT x n k).put k (c &&& maskB n k) = maskedT x n (k + 1) := by
  apply Bs.ext
  show (x.l.mapIdx _).set k _ = x.l.mapIdx _
  apply List.ext_getElem?
  intro i
  rw [List.getElem?_set, List.getElem?_mapIdx, List.getElem?_mapIdx]
  have hk := (List.getElem?_eq_some_iff.1 h).1
  by_cases he : k = i
  · subst he
    rw [List.length_mapIdx, if_pos rfl, if_pos hk, h]
    simp
  · rw [if_neg he]
    cases x.l[i]? with
    | none => rfl
    | some d =>
      simp only [Option.map_some]
      by_cases h1 : i < k
      · rw [if_pos h1, if_pos (by omega)]
      · rw [if_neg h1, if_neg (by omega)]
theorem maskB_wrap {n : Int} {k : Nat} {j : Int} (hj : j = min (max (n - 8 * (k : Int)) 0) 8) : IntKind.u8.wrap (65280 / 2 ^ j.toNat) = ((maskB n k).toNat : Int) := by
  subst hj
  unfold maskB keepN
  generalize (min (max (n - 8 * (k : Int)) 0) 8).toNat = m
  unfold IntKind.wrap
  simp only [show IntKind.u8.bits = 8 from rfl, show IntKind.u8.signed = false from rfl]
  simp
def checkB (p : Prefix) : Bool := !(decide (p.len.val < 0) || decide (p.len.val > 128) || decide (maskedB p.a p.len.val ≠ p.a))
def ernoB (b : Bool) : Int := if b then 0 else 21
theorem erno_zero {b : Bool} : ernoB b = 0 ↔ b = true := by cases b <;> simp [ernoB]
theorem checkB_len {p : Prefix} (h : checkB p = true) : 0 ≤ p.len.val ∧ p.len.val ≤ 128 ∧ maskedB p.a p.len.val = p.a := by
  simp only [checkB, Bool.not_eq_true', Bool.or_eq_false_iff, decide_eq_false_iff_not] at h
  exact ⟨by omega, by omega, Classical.not_not.1 h.2⟩
def familyB (a : Bs 16) : Int := if a.l.take 12 = [0, 0, 0, 0, 0, 0, 0, 0, 0, 0, 255, 255] then 4 else 6
def pfamilyB (p : Prefix) : Int := if p.len.val < 96 then 6 else familyB p.a
def checkPairB (p : Pair) : Bool := checkB p.dst && checkB p.src && decide (pfamilyB p.dst = pfamilyB p.src)
def containsB (p : Prefix) (a : Bs 16) : Bool := checkB p && decide (maskedB a p.len.val = p.a)
def coversB (p q : Prefix) : Bool := checkB q && decide (p.len.val ≤ q.len.val) && containsB p q.a
def matchesB (p : Pair) (s d : Bs 16) : Bool := checkPairB p && containsB p.dst d && containsB p.src s

theorem masked_spec (F : Fr) (x : Bs 16) (n : Int) (h0 : -4611686018427387904 ≤ n) (h1 : n ≤ 4611686018427387904) : Spec Try.prog 31 #[.agg (Bs.enc x).toArray, .int .i64 n] [] F (fun v S => v = .agg (Bs.enc (maskedB x n)).toArray ∧ S = []) := by
 refine Spec.intro (N := 26) (args := [.agg (Bs.enc x).toArray, .int .i64 n]) Try.func31 rfl rfl (by simp) ?_
 refine Run.seq fun k1 hk1 => ?_
 refine Run.region ?_
 show Sq _ _ _ [0, 1] _ _ _ _
 refine Sq.eff (i := 0) rfl (Want.none rfl) rfl (ltN rfl) (EF.boxA rfl rfl) ?_
 rintro _ _ ⟨b2, rfl, rfl⟩
 refine Sq.eff (i := 1) rfl (Want.none rfl) rfl (ltN rfl) (EF.allocA (l := (Bs.zero 16).enc) rfl zero30) ?_
 rintro _ _ ⟨b4, rfl, rfl⟩
 refine Sq.nil ?_
 refine hk1 _ _ ?_
 refine Run.seq fun k2 hk2 => ?_
 refine Run.seq fun k3 hk3 => ?_
 refine Run.region ?_
 show Sq _ _ _ [0] _ _ _ _
 rw [show Bs.enc x = Bs.enc (maskedT x n 0) by rw [maskedT_zero]]
 refine Sq.quiet (i := 0) rfl (Want.none rfl) rfl (ltN rfl) (QP.move rfl rfl).read ?_
 refine Sq.nil ?_
 refine hk3 _ _ ?_
 refine Run.block ?_
 refine Run.loop1 (fun (k : Nat) => k ≤ 16) (fun k => .cons 1 (.int .i64 n) (.cons 2 (.pointer (some ⟨b2, 0, none⟩)) (.cons 4 (.pointer (some ⟨b4, 0, none⟩)) (.cons 7 (.int .i64 k) (.nil))))) (fun k => [blk b2 (Bs.enc (maskedT x n k)) 30, blk b4 (Bs.enc (Bs.zero 16)) 30]) (fun k => 16 - k) (0) (Nat.zero_le _) ?_ ?_
 ·exact fun _ j => J.envJ (J.keep (.cons (by repeat constructor) (.cons (by repeat constructor) Takes.nil)) j) ⟨rfl, rfl, rfl, rfl, trivial⟩
 rintro k hk kl4 hl4
 refine Run.seq fun k5 hk5 => ?_
 refine Run.region ?_
 show Sq _ _ _ [0] _ _ _ _
 refine Sq.quiet (i := 0) rfl (Want.none rfl) rfl (ltN rfl) (QP.lss rfl rfl rfl).read ?_
 refine J.caseD (fun c8 => ?_) (fun c8 => ?_)
 ·skip
  refine Sq.nil ?_
  refine hk5 _ _ ?_
  refine Run.seq fun k6 hk6 => ?_
  refine Run.cond_t rfl ?_
  refine Run.skip ?_
  refine hk6 _ _ ?_
  refine Run.seq fun k7 hk7 => ?_
  refine Run.block ?_
  refine Run.seq fun k8 hk8 => ?_
  refine Run.region ?_
  show Sq _ _ _ [0, 1] _ _ _ _
  refine Sq.quiet (i := 0) rfl (Want.none rfl) rfl (ltN rfl) (QP.move rfl rfl).read ?_
  refine Sq.quiet (i := 1) rfl (Want.none rfl) rfl (ltN rfl) (QP.assign rfl rfl).read ?_
  refine Sq.nil ?_
  refine hk8 _ _ ?_
  refine Run.seq fun k9 hk9 => ?_
  refine Run.region ?_
  show Sq _ _ _ [0, 1, 2, 3, 4, 5, 6] _ _ _ _
  refine Sq.quiet (i := 0) rfl (Want.none rfl) rfl (ltN rfl) (QP.move rfl rfl).read ?_
  refine Sq.quiet (i := 1) rfl (Want.none rfl) rfl (ltN rfl) (QP.move rfl rfl).read ?_
  refine Sq.quiet (i := 2) rfl (Want.none rfl) rfl (ltN rfl) (QP.mul rfl rfl rfl).read ?_
  rw [wrap_i64 (n := 8 * (k : Int)) (by omega) (by omega)]
  refine Sq.quiet (i := 3) rfl (Want.none rfl) rfl (ltN rfl) (QP.sub64 rfl rfl rfl (by omega) (by omega)).read ?_
  refine Sq.quiet (i := 4) rfl (Want.none rfl) rfl (ltN rfl) (QP.max2 rfl rfl rfl).read ?_
  refine Sq.quiet (i := 5) rfl (Want.none rfl) rfl (ltN rfl) (QP.min2 rfl rfl rfl).read ?_
  refine Sq.quiet (i := 6) rfl (Want.none rfl) rfl (ltN rfl) (QP.assign rfl rfl).read ?_
  refine Sq.nil ?_
  refine hk9 _ _ ?_
  refine Run.regionD (M := [0, 1, 3, 0, 8, 24, 63, 127, 255]) (q := 255) (r := 4) (by kernel_rfl) ?_
  obtain ⟨c, hc⟩ : ∃ c, x.l[k]? = some c := ⟨_, List.getElem?_eq_getElem (by rw [x.h]; omega)⟩
  refine Dw.pure (i := 0) rfl (by kernel_rfl) (Want.none rfl) rfl (ltN rfl) (QP.move rfl rfl) ?_
  refine Dw.pure (i := 1) rfl (by kernel_rfl) (Want.none rfl) rfl (ltN rfl) (QP.indexArr rfl rfl rfl Try.underlying30 z5 (by first | omega | (simp <;> omega)) (by first | omega | (simp <;> omega))) ?_
  refine Dw.read (i := 2) rfl (by kernel_rfl) (Want.none rfl) rfl (ltN rfl) (QR.load1 rfl rfl g5 (Bs.subAt _ (maskedT_at hc) (by simp))) ?_
  refine Dw.pure (i := 3) rfl (by kernel_rfl) (Want.none rfl) rfl (ltN rfl) (QP.move rfl rfl) ?_
  refine Dw.pure (i := 4) rfl (by kernel_rfl) (Want.none rfl) rfl (ltN rfl) (QP.shr16 rfl rfl rfl (by first | omega | (simp <;> omega)) (by first | omega | (simp <;> omega))) ?_
  refine Dw.pure (i := 5) rfl (by kernel_rfl) (Want.none rfl) rfl (ltN rfl) (QP.conv rfl rfl Try.underlying80 Try.underlying5) ?_
  refine Dw.pure (i := 6) rfl (by kernel_rfl) (Want.none rfl) rfl (ltN rfl) (QP.and8 (a := c) (b := maskB n k) rfl rfl rfl rfl (maskB_wrap (by repeat (first | omega | split)))) ?_
  refine Dw.pure (i := 7) rfl (by kernel_rfl) (Want.none rfl) rfl (ltN rfl) (QP.indexArr rfl rfl rfl Try.underlying30 z5 (by first | omega | (simp <;> omega)) (by first | omega | (simp <;> omega))) ?_
  refine Dw.eff (i := 8) (by kernel_rfl) (by kernel_rfl) ?_
  refine One.act (o := _) (l := []) rfl (by kernel_rfl) (Want.none rfl) rfl (EF.store rfl rfl rfl z5 (Bs.setAt ((maskedT x n k)) (i := k) (c := (c &&& maskB n k)) (by first | omega | (simp <;> omega)) (by simp) rfl) (cell_one rfl)) (by kernel_rfl) ?_
  rintro _ _ rfl
  refine ⟨fun _ h => (by cases h), ?_⟩
  refine Dw.nil (by kernel_rfl) ?_
  refine hk7 _ _ ?_
  refine Run.region ?_
  show Sq _ _ _ [0, 1] _ _ _ _
  refine Sq.quiet (i := 0) rfl (Want.none rfl) rfl (ltN rfl) (QP.add64 rfl rfl rfl (by first | omega | (simp <;> omega)) (by first | omega | (simp <;> omega))).read ?_
  refine Sq.quiet (i := 1) rfl (Want.none rfl) rfl (ltN rfl) (QP.move rfl rfl).read ?_
  refine Sq.nil ?_
  rw [maskedT_succ hc]
  exact J.envJ (J.keep (.cons (by repeat constructor) (.cons (by repeat constructor) Takes.nil)) (hl4 (k + 1) (by omega) (by omega))) ⟨rfl, rfl, rfl, rfl, trivial⟩
 ·skip
  refine Sq.nil ?_
  refine hk5 _ _ ?_
  refine Run.seq fun k10 hk10 => ?_
  refine Run.cond_f rfl ?_
  refine Run.exit rfl ?_
  refine hk2 _ _ ?_
  refine Run.seq fun k11 hk11 => ?_
  refine Run.region ?_
  show Sq _ _ _ [0, 1] _ _ _ _
  obtain rfl : k = 16 := by omega
  refine Sq.quiet (i := 0) rfl (Want.none rfl) rfl (ltN rfl) (QR.load rfl rfl g30 (Bs.sub _)) ?_
  refine Sq.act (i := 1) rfl (Want.none rfl) rfl (EF.storeA rfl rfl rfl z30 (SetL.all (Bs.len _) (Bs.len _)) (Bs.cell _)) ?_
  rintro _ _ rfl
  refine Sq.nil ?_
  refine hk11 _ _ ?_
  refine Run.ret ?_
  exact J.ends (res_cell rfl rfl g30 (Bs.sub _)) Takes.nil ⟨by rw [maskedT_all], rfl⟩

theorem check_spec (F : Fr) (p : Prefix) : Spec Try.prog 30 #[.agg (Prefix.enc p).toArray] [] F (fun v S => v = .int .i64 (ernoB (checkB p)) ∧ S = []) := by
 refine Spec.intro (N := 21) (args := [.agg (Prefix.enc p).toArray]) Try.func30 rfl rfl (by simp) ?_
 refine Run.seq fun k1 hk1 => ?_
 refine Run.region ?_
 show Sq _ _ _ [0, 1] _ _ _ _
 refine Sq.eff (i := 0) rfl (Want.none rfl) rfl (ltN rfl) (EF.boxA rfl rfl) ?_
 rintro _ _ ⟨b1, rfl, rfl⟩
 refine Sq.quiet (i := 1) rfl (Want.none rfl) rfl (ltN rfl) (QP.assign rfl rfl).read ?_
 refine Sq.nil ?_
 refine hk1 _ _ ?_
 refine Run.seq fun k2 hk2 => ?_
 refine Run.seq fun k3 hk3 => ?_
 refine Run.regionD (M := [0, 1, 3, 7, 15, 31, 63, 127, 255, 511, 1023, 511, 2559, 8191, 511, 16895, 65535, 131071]) (q := 253951) (r := 37922) (by kernel_rfl) ?_
 refine Dw.pure (i := 0) rfl (by kernel_rfl) (Want.none rfl) rfl (ltN rfl) (QP.fieldAddr rfl rfl f33_1) ?_
 refine Dw.read (i := 1) rfl (by kernel_rfl) (Want.none rfl) rfl (ltN rfl) (QR.load1 rfl rfl g3 (Prefix.sub_len _)) ?_
 refine Dw.pure (i := 2) rfl (by kernel_rfl) (Want.none rfl) rfl (ltN rfl) (QP.lss rfl rfl rfl) ?_
 refine J.caseD (fun c5 => ?_) (fun c5 => ?_)
 ·skip
  refine Dw.pure (i := 3) rfl (by kernel_rfl) (Want.none rfl) rfl (ltN rfl) (QP.move rfl rfl) ?_
  refine Dw.skip (i := 4) rfl (by kernel_rfl) (Want.no rfl rfl rfl rfl) rfl (ltN rfl) ?_
  refine Dw.skip (i := 5) rfl (by kernel_rfl) (Want.no rfl rfl rfl rfl) rfl (ltN rfl) ?_
  refine Dw.skip (i := 6) rfl (by kernel_rfl) (Want.no rfl rfl rfl rfl) rfl (ltN rfl) ?_
  refine Dw.pure (i := 7) rfl (by kernel_rfl) (Want.none rfl) rfl (ltN rfl) (QP.pick_t rfl rfl rfl) ?_
  refine Dw.pure (i := 8) rfl (by kernel_rfl) (Want.none rfl) rfl (ltN rfl) (QP.move rfl rfl) ?_
  refine Dw.skip (i := 9) rfl (by kernel_rfl) (Want.no rfl rfl rfl rfl) rfl (ltN rfl) ?_
  refine Dw.skip (i := 10) rfl (by kernel_rfl) (Want.no rfl rfl rfl rfl) rfl (ltN rfl) ?_
  refine Dw.skip (i := 11) rfl (by kernel_rfl) (Want.no rfl rfl rfl rfl) rfl (ltN rfl) ?_
  refine Dw.skip (i := 12) rfl (by kernel_rfl) (Want.no rfl rfl rfl rfl) rfl (ltN rfl) ?_
  refine Dw.skip (i := 14) rfl (by kernel_rfl) (Want.no rfl rfl rfl rfl) rfl (ltN rfl) ?_
  refine Dw.skip (i := 15) rfl (by kernel_rfl) (Want.no rfl rfl rfl rfl) rfl (ltN rfl) ?_
  refine Dw.eff (i := 13) (by kernel_rfl) (by kernel_rfl) ?_
  refine One.skipD (o := _) rfl (by kernel_rfl) (Want.no rfl rfl rfl rfl) rfl (ltN rfl) ?_
  refine Dw.skip (i := 16) rfl (by kernel_rfl) (Want.no rfl rfl rfl rfl) rfl (ltN rfl) ?_
  refine Dw.pure (i := 17) rfl (by kernel_rfl) (Want.none rfl) rfl (ltN rfl) (QP.pick_t rfl rfl rfl) ?_
  refine Dw.nil (by kernel_rfl) ?_
  refine hk3 _ _ ?_
  refine Run.cond_t rfl ?_
  refine Run.seq fun k4 hk4 => ?_
  refine Run.region ?_
  show Sq _ _ _ [0] _ _ _ _
  refine Sq.quiet (i := 0) rfl (Want.none rfl) rfl (ltN rfl) (QP.assign rfl rfl).read ?_
  refine Sq.nil ?_
  refine hk4 _ _ ?_
  refine Run.ret ?_
  exact J.ends (res_tmp rfl rfl) Takes.nil ⟨by rw [show checkB p = false by simp_all [checkB]]; rfl, rfl⟩
 ·skip
  refine Dw.pure (i := 3) rfl (by kernel_rfl) (Want.none rfl) rfl (ltN rfl) (QP.move rfl rfl) ?_
  refine Dw.pure (i := 4) rfl (by kernel_rfl) (Want.yes rfl rfl rfl rfl) rfl (ltN rfl) (QP.fieldAddr rfl rfl f33_1) ?_
  refine Dw.read (i := 5) rfl (by kernel_rfl) (Want.yes rfl rfl rfl rfl) rfl (ltN rfl) (QR.load1 rfl rfl g3 (Prefix.sub_len _)) ?_
  refine Dw.pure (i := 6) rfl (by kernel_rfl) (Want.yes rfl rfl rfl rfl) rfl (ltN rfl) (QP.gtr rfl rfl rfl) ?_
  refine J.caseD (fun c9 => ?_) (fun c9 => ?_)
  ·skip
   refine Dw.pure (i := 7) rfl (by kernel_rfl) (Want.none rfl) rfl (ltN rfl) (QP.pick_f rfl rfl rfl) ?_
   refine Dw.pure (i := 8) rfl (by kernel_rfl) (Want.none rfl) rfl (ltN rfl) (QP.move rfl rfl) ?_
   refine Dw.skip (i := 9) rfl (by kernel_rfl) (Want.no rfl rfl rfl rfl) rfl (ltN rfl) ?_
   refine Dw.skip (i := 10) rfl (by kernel_rfl) (Want.no rfl rfl rfl rfl) rfl (ltN rfl) ?_
   refine Dw.skip (i := 11) rfl (by kernel_rfl) (Want.no rfl rfl rfl rfl) rfl (ltN rfl) ?_
   refine Dw.skip (i := 12) rfl (by kernel_rfl) (Want.no rfl rfl rfl rfl) rfl (ltN rfl) ?_
   refine Dw.skip (i := 14) rfl (by kernel_rfl) (Want.no rfl rfl rfl rfl) rfl (ltN rfl) ?_
   refine Dw.skip (i := 15) rfl (by kernel_rfl) (Want.no rfl rfl rfl rfl) rfl (ltN rfl) ?_
   refine Dw.eff (i := 13) (by kernel_rfl) (by kernel_rfl) ?_
   refine One.skipD (o := _) rfl (by kernel_rfl) (Want.no rfl rfl rfl rfl) rfl (ltN rfl) ?_
   refine Dw.skip (i := 16) rfl (by kernel_rfl) (Want.no rfl rfl rfl rfl) rfl (ltN rfl) ?_
   refine Dw.pure (i := 17) rfl (by kernel_rfl) (Want.none rfl) rfl (ltN rfl) (QP.pick_t rfl rfl rfl) ?_
   refine Dw.nil (by kernel_rfl) ?_
   refine hk3 _ _ ?_
   refine Run.cond_t rfl ?_
   refine Run.seq fun k5 hk5 => ?_
   refine Run.region ?_
   show Sq _ _ _ [0] _ _ _ _
   refine Sq.quiet (i := 0) rfl (Want.none rfl) rfl (ltN rfl) (QP.assign rfl rfl).read ?_
   refine Sq.nil ?_
   refine hk5 _ _ ?_
   refine Run.ret ?_
   exact J.ends (res_tmp rfl rfl) Takes.nil ⟨by rw [show checkB p = false by simp_all [checkB]]; rfl, rfl⟩
  ·skip
   refine Dw.pure (i := 7) rfl (by kernel_rfl) (Want.none rfl) rfl (ltN rfl) (QP.pick_f rfl rfl rfl) ?_
   refine Dw.pure (i := 8) rfl (by kernel_rfl) (Want.none rfl) rfl (ltN rfl) (QP.move rfl rfl) ?_
   refine Dw.pure (i := 9) rfl (by kernel_rfl) (Want.yes rfl rfl rfl rfl) rfl (ltN rfl) (QP.fieldAddr rfl rfl f33_0) ?_
   refine Dw.read (i := 10) rfl (by kernel_rfl) (Want.yes rfl rfl rfl rfl) rfl (ltN rfl) (QR.load rfl rfl g30 (Prefix.sub_a _)) ?_
   refine Dw.pure (i := 11) rfl (by kernel_rfl) (Want.yes rfl rfl rfl rfl) rfl (ltN rfl) (QP.fieldAddr rfl rfl f33_1) ?_
   refine Dw.read (i := 12) rfl (by kernel_rfl) (Want.yes rfl rfl rfl rfl) rfl (ltN rfl) (QR.load1 rfl rfl g3 (Prefix.sub_len _)) ?_
   refine Dw.pure (i := 14) rfl (by kernel_rfl) (Want.yes rfl rfl rfl rfl) rfl (ltN rfl) (QP.fieldAddr rfl rfl f33_0) ?_
   refine Dw.read (i := 15) rfl (by kernel_rfl) (Want.yes rfl rfl rfl rfl) rfl (ltN rfl) (QR.load rfl rfl g30 (Prefix.sub_a _)) ?_
   refine Dw.eff (i := 13) (by kernel_rfl) (by kernel_rfl) ?_
   refine One.mk (o := _) (l := [15]) rfl (by kernel_rfl) (Want.yes rfl rfl rfl rfl) rfl (ltN rfl) (EF.call rfl ce31 rfl Takes.nil (fun F' hle hr => masked_spec F' ((p).a) (((p).len).val) (by omega) (by omega))) (by kernel_rfl) ?_
   rintro _ _ ⟨_, ⟨rfl, rfl⟩, rfl⟩
   refine ⟨?_, ?_⟩
   ·rw [List.forall_mem_cons]
    refine ⟨?_, fun _ h => (by cases h)⟩
    ·refine Look.app ?_
     exact Look.mk rfl rfl rfl (QR.load rfl rfl g30 (Prefix.sub_a _))
   refine ?_
   refine J.app ?_
   refine Dw.pure (i := 16) rfl (by kernel_rfl) (Want.yes rfl rfl rfl rfl) rfl (ltN rfl) (QP.neq_agg eq30 rfl rfl rfl) ?_
   refine J.caseD (fun c19 => ?_) (fun c19 => ?_)
   ·skip
    refine Dw.pure (i := 17) rfl (by kernel_rfl) (Want.none rfl) rfl (ltN rfl) (QP.pick_f rfl rfl rfl) ?_
    refine Dw.nil (by kernel_rfl) ?_
    refine hk3 _ _ ?_
    refine Run.cond_t rfl ?_
    refine Run.seq fun k6 hk6 => ?_
    refine Run.region ?_
    show Sq _ _ _ [0] _ _ _ _
    refine Sq.quiet (i := 0) rfl (Want.none rfl) rfl (ltN rfl) (QP.assign rfl rfl).read ?_
    refine Sq.nil ?_
    refine hk6 _ _ ?_
    refine Run.ret ?_
    exact J.ends (res_tmp rfl rfl) Takes.nil ⟨by rw [show checkB p = false by simp_all [checkB]]; rfl, rfl⟩
   ·skip
    refine Dw.pure (i := 17) rfl (by kernel_rfl) (Want.none rfl) rfl (ltN rfl) (QP.pick_f rfl rfl rfl) ?_
    refine Dw.nil (by kernel_rfl) ?_
    refine hk3 _ _ ?_
    refine Run.cond_f rfl ?_
    refine Run.skip ?_
    refine hk2 _ _ ?_
    refine Run.seq fun k7 hk7 => ?_
    refine Run.region ?_
    show Sq _ _ _ [0] _ _ _ _
    refine Sq.quiet (i := 0) rfl (Want.none rfl) rfl (ltN rfl) (QP.assign rfl rfl).read ?_
    refine Sq.nil ?_
    refine hk7 _ _ ?_
    refine Run.ret ?_
    exact J.ends (res_tmp rfl rfl) Takes.nil ⟨by rw [show checkB p = true by simp_all [checkB]]; rfl, rfl⟩

theorem family_spec (F : Fr) (a : Bs 16) : Spec Try.prog 21 #[.agg (Bs.enc a).toArray] [] F (fun v S => v = .int .i64 (familyB a) ∧ S = []) := by
 refine Spec.intro (N := 6) (args := [.agg (Bs.enc a).toArray]) Try.func21 rfl rfl (by simp) ?_
 refine Run.seq fun k1 hk1 => ?_
 refine Run.region ?_
 show Sq _ _ _ [0, 1] _ _ _ _
 refine Sq.eff (i := 0) rfl (Want.none rfl) rfl (ltN rfl) (EF.boxA rfl rfl) ?_
 rintro _ _ ⟨b1, rfl, rfl⟩
 refine Sq.quiet (i := 1) rfl (Want.none rfl) rfl (ltN rfl) (QP.assign rfl rfl).read ?_
 refine Sq.nil ?_
 refine hk1 _ _ ?_
 refine Run.seq fun k2 hk2 => ?_
 refine Run.seq fun k3 hk3 => ?_
 refine Run.region ?_
 show Sq _ _ _ [0, 1, 2] _ _ _ _
 refine Sq.quiet (i := 0) rfl (Want.none rfl) rfl (ltN rfl) (QP.sliceArrHi rfl rfl rfl Try.underlying30 z5 (by first | omega | (simp <;> omega)) (by first | omega | (simp <;> omega)) (by decide)).read ?_
 refine Sq.quiet (i := 1) rfl (Want.none rfl) rfl (ltN rfl) (QR.bytesStr (xs := (a).l.take 12) rfl rfl Try.underlying68 Try.underlying5 Try.underlying9 (by first | exact Rd.own (by repeat constructor) | exact Rd.fr (by assumption)) (Bs.subTake (Bs.sub _) (by decide)) (Bs.takeLen _ (by decide))) ?_
 refine Sq.quiet (i := 2) rfl (Want.none rfl) rfl (ltN rfl) (QP.eqlStr (b := [0, 0, 0, 0, 0, 0, 0, 0, 0, 0, 255, 255]) rfl rfl rfl).read ?_
 refine J.caseD (fun c5 => ?_) (fun c5 => ?_)
 ·skip
  refine Sq.nil ?_
  refine hk3 _ _ ?_
  refine Run.cond_t rfl ?_
  refine Run.seq fun k4 hk4 => ?_
  refine Run.region ?_
  show Sq _ _ _ [0] _ _ _ _
  refine Sq.quiet (i := 0) rfl (Want.none rfl) rfl (ltN rfl) (QP.assign rfl rfl).read ?_
  refine Sq.nil ?_
  refine hk4 _ _ ?_
  refine Run.ret ?_
  exact J.ends (res_tmp rfl rfl) Takes.nil ⟨by unfold familyB; rw [if_pos c5], rfl⟩
 ·skip
  refine Sq.nil ?_
  refine hk3 _ _ ?_
  refine Run.cond_f rfl ?_
  refine Run.skip ?_
  refine hk2 _ _ ?_
  refine Run.seq fun k5 hk5 => ?_
  refine Run.region ?_
  show Sq _ _ _ [0] _ _ _ _
  refine Sq.quiet (i := 0) rfl (Want.none rfl) rfl (ltN rfl) (QP.assign rfl rfl).read ?_
  refine Sq.nil ?_
  refine hk5 _ _ ?_
  refine Run.ret ?_
  exact J.ends (res_tmp rfl rfl) Takes.nil ⟨by unfold familyB; rw [if_neg c5], rfl⟩

theorem pfamily_spec (F : Fr) (p : Prefix) : Spec Try.prog 20 #[.agg (Prefix.enc p).toArray] [] F (fun v S => v = .int .i64 (pfamilyB p) ∧ S = []) := by
 refine Spec.intro (N := 9) (args := [.agg (Prefix.enc p).toArray]) Try.func20 rfl rfl (by simp) ?_
 refine Run.seq fun k1 hk1 => ?_
 refine Run.region ?_
 show Sq _ _ _ [0, 1] _ _ _ _
 refine Sq.eff (i := 0) rfl (Want.none rfl) rfl (ltN rfl) (EF.boxA rfl rfl) ?_
 rintro _ _ ⟨b1, rfl, rfl⟩
 refine Sq.quiet (i := 1) rfl (Want.none rfl) rfl (ltN rfl) (QP.assign rfl rfl).read ?_
 refine Sq.nil ?_
 refine hk1 _ _ ?_
 refine Run.seq fun k2 hk2 => ?_
 refine Run.seq fun k3 hk3 => ?_
 refine Run.region ?_
 show Sq _ _ _ [0, 1, 2] _ _ _ _
 refine Sq.quiet (i := 0) rfl (Want.none rfl) rfl (ltN rfl) (QP.fieldAddr rfl rfl f33_1).read ?_
 refine Sq.quiet (i := 1) rfl (Want.none rfl) rfl (ltN rfl) (QR.load1 rfl rfl g3 (Prefix.sub_len _)) ?_
 refine Sq.quiet (i := 2) rfl (Want.none rfl) rfl (ltN rfl) (QP.lss rfl rfl rfl).read ?_
 refine J.caseD (fun c5 => ?_) (fun c5 => ?_)
 ·skip
  refine Sq.nil ?_
  refine hk3 _ _ ?_
  refine Run.cond_t rfl ?_
  refine Run.seq fun k4 hk4 => ?_
  refine Run.region ?_
  show Sq _ _ _ [0] _ _ _ _
  refine Sq.quiet (i := 0) rfl (Want.none rfl) rfl (ltN rfl) (QP.assign rfl rfl).read ?_
  refine Sq.nil ?_
  refine hk4 _ _ ?_
  refine Run.ret ?_
  exact J.ends (res_tmp rfl rfl) Takes.nil ⟨by unfold pfamilyB; rw [if_pos c5], rfl⟩
 ·skip
  refine Sq.nil ?_
  refine hk3 _ _ ?_
  refine Run.cond_f rfl ?_
  refine Run.skip ?_
  refine hk2 _ _ ?_
  refine Run.seq fun k5 hk5 => ?_
  refine Run.region ?_
  show Sq _ _ _ [0, 1, 2, 3] _ _ _ _
  refine Sq.quiet (i := 0) rfl (Want.none rfl) rfl (ltN rfl) (QP.fieldAddr rfl rfl f33_0).read ?_
  refine Sq.quiet (i := 1) rfl (Want.none rfl) rfl (ltN rfl) (QR.load rfl rfl g30 (Prefix.sub_a _)) ?_
  refine Sq.eff (i := 2) rfl (Want.none rfl) rfl (ltN rfl) (EF.call rfl ce21 rfl Takes.nil (fun F' hle hr => family_spec F' ((p).a))) ?_
  rintro _ _ ⟨_, ⟨rfl, rfl⟩, rfl⟩
  refine J.app ?_
  refine Sq.quiet (i := 3) rfl (Want.none rfl) rfl (ltN rfl) (QP.assign rfl rfl).read ?_
  refine Sq.nil ?_
  refine hk5 _ _ ?_
  refine Run.ret ?_
  exact J.ends (res_tmp rfl rfl) Takes.nil ⟨by unfold pfamilyB; rw [if_neg c5], rfl⟩

theorem checkPair_spec (F : Fr) (p : Pair) : Spec Try.prog 28 #[.agg (Pair.enc p).toArray] [] F (fun v S => v = .int .i64 (ernoB (checkPairB p)) ∧ S = []) := by
 refine Spec.intro (N := 22) (args := [.agg (Pair.enc p).toArray]) Try.func28 rfl rfl (by simp) ?_
 refine Run.seq fun k1 hk1 => ?_
 refine Run.region ?_
 show Sq _ _ _ [0, 1] _ _ _ _
 refine Sq.eff (i := 0) rfl (Want.none rfl) rfl (ltN rfl) (EF.boxA rfl rfl) ?_
 rintro _ _ ⟨b1, rfl, rfl⟩
 refine Sq.quiet (i := 1) rfl (Want.none rfl) rfl (ltN rfl) (QP.assign rfl rfl).read ?_
 refine Sq.nil ?_
 refine hk1 _ _ ?_
 refine Run.seq fun k2 hk2 => ?_
 refine Run.seq fun k3 hk3 => ?_
 refine Run.regionD (M := [0, 1, 3, 7, 15, 31, 63, 127, 255, 511, 1023, 2047, 4095, 8191, 2047, 18431, 65535, 131071, 262143]) (q := 450427) (r := 36930) (by kernel_rfl) ?_
 refine Dw.pure (i := 0) rfl (by kernel_rfl) (Want.none rfl) rfl (ltN rfl) (QP.fieldAddr rfl rfl f36_0) ?_
 refine Dw.read (i := 1) rfl (by kernel_rfl) (Want.none rfl) rfl (ltN rfl) (QR.load rfl rfl g33 (Pair.sub_dst _)) ?_
 refine Dw.eff (i := 2) (by kernel_rfl) (by kernel_rfl) ?_
 refine One.mk (o := _) (l := []) rfl (by kernel_rfl) (Want.none rfl) rfl (ltN rfl) (EF.call rfl ce30 rfl Takes.nil (fun F' hle hr => check_spec F' ((p).dst))) (by kernel_rfl) ?_
 rintro _ _ ⟨_, ⟨rfl, rfl⟩, rfl⟩
 refine ⟨fun _ h => (by cases h), ?_⟩
 refine J.app ?_
 refine Dw.pure (i := 3) rfl (by kernel_rfl) (Want.none rfl) rfl (ltN rfl) (QP.neq rfl rfl rfl) ?_
 refine J.caseD (fun c6 => ?_) (fun c6 => ?_)
 ·skip
  refine Dw.pure (i := 4) rfl (by kernel_rfl) (Want.none rfl) rfl (ltN rfl) (QP.move rfl rfl) ?_
  refine Dw.skip (i := 5) rfl (by kernel_rfl) (Want.no rfl rfl rfl rfl) rfl (ltN rfl) ?_
  refine Dw.skip (i := 6) rfl (by kernel_rfl) (Want.no rfl rfl rfl rfl) rfl (ltN rfl) ?_
  refine Dw.eff (i := 7) (by kernel_rfl) (by kernel_rfl) ?_
  refine One.skipD (o := _) rfl (by kernel_rfl) (Want.no rfl rfl rfl rfl) rfl (ltN rfl) ?_
  refine Dw.skip (i := 8) rfl (by kernel_rfl) (Want.no rfl rfl rfl rfl) rfl (ltN rfl) ?_
  refine Dw.pure (i := 9) rfl (by kernel_rfl) (Want.none rfl) rfl (ltN rfl) (QP.pick_t rfl rfl rfl) ?_
  refine Dw.pure (i := 10) rfl (by kernel_rfl) (Want.none rfl) rfl (ltN rfl) (QP.move rfl rfl) ?_
  refine Dw.skip (i := 11) rfl (by kernel_rfl) (Want.no rfl rfl rfl rfl) rfl (ltN rfl) ?_
  refine Dw.skip (i := 12) rfl (by kernel_rfl) (Want.no rfl rfl rfl rfl) rfl (ltN rfl) ?_
  refine Dw.skip (i := 14) rfl (by kernel_rfl) (Want.no rfl rfl rfl rfl) rfl (ltN rfl) ?_
  refine Dw.skip (i := 15) rfl (by kernel_rfl) (Want.no rfl rfl rfl rfl) rfl (ltN rfl) ?_
  refine Dw.eff (i := 13) (by kernel_rfl) (by kernel_rfl) ?_
  refine One.skipD (o := _) rfl (by kernel_rfl) (Want.no rfl rfl rfl rfl) rfl (ltN rfl) ?_
  refine Dw.eff (i := 16) (by kernel_rfl) (by kernel_rfl) ?_
  refine One.skipD (o := _) rfl (by kernel_rfl) (Want.no rfl rfl rfl rfl) rfl (ltN rfl) ?_
  refine Dw.skip (i := 17) rfl (by kernel_rfl) (Want.no rfl rfl rfl rfl) rfl (ltN rfl) ?_
  refine Dw.pure (i := 18) rfl (by kernel_rfl) (Want.none rfl) rfl (ltN rfl) (QP.pick_t rfl rfl rfl) ?_
  refine Dw.nil (by kernel_rfl) ?_
  refine hk3 _ _ ?_
  refine Run.cond_t rfl ?_
  refine Run.seq fun k4 hk4 => ?_
  refine Run.region ?_
  show Sq _ _ _ [0] _ _ _ _
  refine Sq.quiet (i := 0) rfl (Want.none rfl) rfl (ltN rfl) (QP.assign rfl rfl).read ?_
  refine Sq.nil ?_
  refine hk4 _ _ ?_
  refine Run.ret ?_
  exact J.ends (res_tmp rfl rfl) Takes.nil ⟨by rw [show checkPairB p = false by simp_all [checkPairB, ernoB]]; rfl, rfl⟩
 ·skip
  refine Dw.pure (i := 4) rfl (by kernel_rfl) (Want.none rfl) rfl (ltN rfl) (QP.move rfl rfl) ?_
  refine Dw.pure (i := 5) rfl (by kernel_rfl) (Want.yes rfl rfl rfl rfl) rfl (ltN rfl) (QP.fieldAddr rfl rfl f36_1) ?_
  refine Dw.read (i := 6) rfl (by kernel_rfl) (Want.yes rfl rfl rfl rfl) rfl (ltN rfl) (QR.load rfl rfl g33 (Pair.sub_src _)) ?_
  refine Dw.eff (i := 7) (by kernel_rfl) (by kernel_rfl) ?_
  refine One.mk (o := _) (l := []) rfl (by kernel_rfl) (Want.yes rfl rfl rfl rfl) rfl (ltN rfl) (EF.call rfl ce30 rfl Takes.nil (fun F' hle hr => check_spec F' ((p).src))) (by kernel_rfl) ?_
  rintro _ _ ⟨_, ⟨rfl, rfl⟩, rfl⟩
  refine ⟨fun _ h => (by cases h), ?_⟩
  refine J.app ?_
  refine Dw.pure (i := 8) rfl (by kernel_rfl) (Want.yes rfl rfl rfl rfl) rfl (ltN rfl) (QP.neq rfl rfl rfl) ?_
  refine J.caseD (fun c11 => ?_) (fun c11 => ?_)
  ·skip
   refine Dw.pure (i := 9) rfl (by kernel_rfl) (Want.none rfl) rfl (ltN rfl) (QP.pick_f rfl rfl rfl) ?_
   refine Dw.pure (i := 10) rfl (by kernel_rfl) (Want.none rfl) rfl (ltN rfl) (QP.move rfl rfl) ?_
   refine Dw.skip (i := 11) rfl (by kernel_rfl) (Want.no rfl rfl rfl rfl) rfl (ltN rfl) ?_
   refine Dw.skip (i := 12) rfl (by kernel_rfl) (Want.no rfl rfl rfl rfl) rfl (ltN rfl) ?_
   refine Dw.skip (i := 14) rfl (by kernel_rfl) (Want.no rfl rfl rfl rfl) rfl (ltN rfl) ?_
   refine Dw.skip (i := 15) rfl (by kernel_rfl) (Want.no rfl rfl rfl rfl) rfl (ltN rfl) ?_
   refine Dw.eff (i := 13) (by kernel_rfl) (by kernel_rfl) ?_
   refine One.skipD (o := _) rfl (by kernel_rfl) (Want.no rfl rfl rfl rfl) rfl (ltN rfl) ?_
   refine Dw.eff (i := 16) (by kernel_rfl) (by kernel_rfl) ?_
   refine One.skipD (o := _) rfl (by kernel_rfl) (Want.no rfl rfl rfl rfl) rfl (ltN rfl) ?_
   refine Dw.skip (i := 17) rfl (by kernel_rfl) (Want.no rfl rfl rfl rfl) rfl (ltN rfl) ?_
   refine Dw.pure (i := 18) rfl (by kernel_rfl) (Want.none rfl) rfl (ltN rfl) (QP.pick_t rfl rfl rfl) ?_
   refine Dw.nil (by kernel_rfl) ?_
   refine hk3 _ _ ?_
   refine Run.cond_t rfl ?_
   refine Run.seq fun k5 hk5 => ?_
   refine Run.region ?_
   show Sq _ _ _ [0] _ _ _ _
   refine Sq.quiet (i := 0) rfl (Want.none rfl) rfl (ltN rfl) (QP.assign rfl rfl).read ?_
   refine Sq.nil ?_
   refine hk5 _ _ ?_
   refine Run.ret ?_
   exact J.ends (res_tmp rfl rfl) Takes.nil ⟨by rw [show checkPairB p = false by simp_all [checkPairB, ernoB]]; rfl, rfl⟩
  ·skip
   refine Dw.pure (i := 9) rfl (by kernel_rfl) (Want.none rfl) rfl (ltN rfl) (QP.pick_f rfl rfl rfl) ?_
   refine Dw.pure (i := 10) rfl (by kernel_rfl) (Want.none rfl) rfl (ltN rfl) (QP.move rfl rfl) ?_
   refine Dw.pure (i := 11) rfl (by kernel_rfl) (Want.yes rfl rfl rfl rfl) rfl (ltN rfl) (QP.fieldAddr rfl rfl f36_0) ?_
   refine Dw.read (i := 12) rfl (by kernel_rfl) (Want.yes rfl rfl rfl rfl) rfl (ltN rfl) (QR.load rfl rfl g33 (Pair.sub_dst _)) ?_
   refine Dw.pure (i := 14) rfl (by kernel_rfl) (Want.yes rfl rfl rfl rfl) rfl (ltN rfl) (QP.fieldAddr rfl rfl f36_1) ?_
   refine Dw.read (i := 15) rfl (by kernel_rfl) (Want.yes rfl rfl rfl rfl) rfl (ltN rfl) (QR.load rfl rfl g33 (Pair.sub_src _)) ?_
   refine Dw.eff (i := 13) (by kernel_rfl) (by kernel_rfl) ?_
   refine One.mk (o := _) (l := [15]) rfl (by kernel_rfl) (Want.yes rfl rfl rfl rfl) rfl (ltN rfl) (EF.call rfl ce20 rfl Takes.nil (fun F' hle hr => pfamily_spec F' ((p).dst))) (by kernel_rfl) ?_
   rintro _ _ ⟨_, ⟨rfl, rfl⟩, rfl⟩
   refine ⟨?_, ?_⟩
   ·rw [List.forall_mem_cons]
    refine ⟨?_, fun _ h => (by cases h)⟩
    ·refine Look.app ?_
     exact Look.mk rfl rfl rfl (QR.load rfl rfl g33 (Pair.sub_src _))
   refine ?_
   refine J.app ?_
   refine Dw.eff (i := 16) (by kernel_rfl) (by kernel_rfl) ?_
   refine One.mk (o := _) (l := []) rfl (by kernel_rfl) (Want.yes rfl rfl rfl rfl) rfl (ltN rfl) (EF.call rfl ce20 rfl Takes.nil (fun F' hle hr => pfamily_spec F' ((p).src))) (by kernel_rfl) ?_
   rintro _ _ ⟨_, ⟨rfl, rfl⟩, rfl⟩
   refine ⟨fun _ h => (by cases h), ?_⟩
   refine J.app ?_
   refine Dw.pure (i := 17) rfl (by kernel_rfl) (Want.yes rfl rfl rfl rfl) rfl (ltN rfl) (QP.neq rfl rfl rfl) ?_
   refine J.caseD (fun c20 => ?_) (fun c20 => ?_)
   ·skip
    refine Dw.pure (i := 18) rfl (by kernel_rfl) (Want.none rfl) rfl (ltN rfl) (QP.pick_f rfl rfl rfl) ?_
    refine Dw.nil (by kernel_rfl) ?_
    refine hk3 _ _ ?_
    refine Run.cond_t rfl ?_
    refine Run.seq fun k6 hk6 => ?_
    refine Run.region ?_
    show Sq _ _ _ [0] _ _ _ _
    refine Sq.quiet (i := 0) rfl (Want.none rfl) rfl (ltN rfl) (QP.assign rfl rfl).read ?_
    refine Sq.nil ?_
    refine hk6 _ _ ?_
    refine Run.ret ?_
    exact J.ends (res_tmp rfl rfl) Takes.nil ⟨by rw [show checkPairB p = false by simp_all [checkPairB, ernoB]]; rfl, rfl⟩
   ·skip
    refine Dw.pure (i := 18) rfl (by kernel_rfl) (Want.none rfl) rfl (ltN rfl) (QP.pick_f rfl rfl rfl) ?_
    refine Dw.nil (by kernel_rfl) ?_
    refine hk3 _ _ ?_
    refine Run.cond_f rfl ?_
    refine Run.skip ?_
    refine hk2 _ _ ?_
    refine Run.seq fun k7 hk7 => ?_
    refine Run.region ?_
    show Sq _ _ _ [0] _ _ _ _
    refine Sq.quiet (i := 0) rfl (Want.none rfl) rfl (ltN rfl) (QP.assign rfl rfl).read ?_
    refine Sq.nil ?_
    refine hk7 _ _ ?_
    refine Run.ret ?_
    exact J.ends (res_tmp rfl rfl) Takes.nil ⟨by rw [show checkPairB p = true by simp_all [checkPairB, ernoB]]; rfl, rfl⟩

theorem contains_spec (F : Fr) (p : Prefix) (a : Bs 16) : Spec Try.prog 22 #[.agg (Prefix.enc p).toArray, .agg (Bs.enc a).toArray] [] F (fun v S => v = .bool (containsB p a) ∧ S = []) := by
 refine Spec.intro (N := 17) (args := [.agg (Prefix.enc p).toArray, .agg (Bs.enc a).toArray]) Try.func22 rfl rfl (by simp) ?_
 refine Run.seq fun k1 hk1 => ?_
 refine Run.region ?_
 show Sq _ _ _ [0, 1, 2] _ _ _ _
 refine Sq.eff (i := 0) rfl (Want.none rfl) rfl (ltN rfl) (EF.boxA rfl rfl) ?_
 rintro _ _ ⟨b2, rfl, rfl⟩
 refine Sq.eff (i := 1) rfl (Want.none rfl) rfl (ltN rfl) (EF.boxA rfl rfl) ?_
 rintro _ _ ⟨b3, rfl, rfl⟩
 refine Sq.quiet (i := 2) rfl (Want.none rfl) rfl (ltN rfl) (QP.assign rfl rfl).read ?_
 refine Sq.nil ?_
 refine hk1 _ _ ?_
 refine Run.seq fun k2 hk2 => ?_
 refine Run.regionD (M := [0, 1, 3, 7, 15, 15, 47, 127, 15, 271, 1023, 2047, 4095]) (q := 3965) (r := 593) (by kernel_rfl) ?_
 refine Dw.read (i := 0) rfl (by kernel_rfl) (Want.none rfl) rfl (ltN rfl) (QR.load rfl rfl g33 (Prefix.enc_sub _)) ?_
 refine Dw.eff (i := 1) (by kernel_rfl) (by kernel_rfl) ?_
 refine One.mk (o := _) (l := []) rfl (by kernel_rfl) (Want.none rfl) rfl (ltN rfl) (EF.call rfl ce30 rfl Takes.nil (fun F' hle hr => check_spec F' (p))) (by kernel_rfl) ?_
 rintro _ _ ⟨_, ⟨rfl, rfl⟩, rfl⟩
 refine ⟨fun _ h => (by cases h), ?_⟩
 refine J.app ?_
 refine Dw.pure (i := 2) rfl (by kernel_rfl) (Want.none rfl) rfl (ltN rfl) (QP.eql rfl rfl rfl) ?_
 refine J.caseD (fun c7 => ?_) (fun c7 => ?_)
 ·skip
  refine Dw.pure (i := 3) rfl (by kernel_rfl) (Want.none rfl) rfl (ltN rfl) (QP.move rfl rfl) ?_
  refine Dw.read (i := 4) rfl (by kernel_rfl) (Want.yes rfl rfl rfl rfl) rfl (ltN rfl) (QR.load rfl rfl g30 (Bs.sub _)) ?_
  refine Dw.pure (i := 5) rfl (by kernel_rfl) (Want.yes rfl rfl rfl rfl) rfl (ltN rfl) (QP.fieldAddr rfl rfl f33_1) ?_
  refine Dw.read (i := 6) rfl (by kernel_rfl) (Want.yes rfl rfl rfl rfl) rfl (ltN rfl) (QR.load1 rfl rfl g3 (Prefix.sub_len _)) ?_
  refine Dw.pure (i := 8) rfl (by kernel_rfl) (Want.yes rfl rfl rfl rfl) rfl (ltN rfl) (QP.fieldAddr rfl rfl f33_0) ?_
  refine Dw.read (i := 9) rfl (by kernel_rfl) (Want.yes rfl rfl rfl rfl) rfl (ltN rfl) (QR.load rfl rfl g30 (Prefix.sub_a _)) ?_
  refine Dw.eff (i := 7) (by kernel_rfl) (by kernel_rfl) ?_
  have hlen := checkB_len (erno_zero.1 c7)
  refine One.mk (o := _) (l := [9]) rfl (by kernel_rfl) (Want.yes rfl rfl rfl rfl) rfl (ltN rfl) (EF.call rfl ce31 rfl Takes.nil (fun F' hle hr => masked_spec F' (a) (((p).len).val) (by omega) (by omega))) (by kernel_rfl) ?_
  rintro _ _ ⟨_, ⟨rfl, rfl⟩, rfl⟩
  refine ⟨?_, ?_⟩
  ·rw [List.forall_mem_cons]
   refine ⟨?_, fun _ h => (by cases h)⟩
   ·refine Look.app ?_
    exact Look.mk rfl rfl rfl (QR.load rfl rfl g30 (Prefix.sub_a _))
  refine ?_
  refine J.app ?_
  refine Dw.pure (i := 10) rfl (by kernel_rfl) (Want.yes rfl rfl rfl rfl) rfl (ltN rfl) (QP.eql_agg eq30 rfl rfl rfl) ?_
  refine Dw.pure (i := 11) rfl (by kernel_rfl) (Want.none rfl) rfl (ltN rfl) (QP.pick_t rfl rfl rfl) ?_
  refine Dw.eff (i := 12) (by kernel_rfl) (by kernel_rfl) ?_
  refine One.mk (o := _) (l := []) rfl (by kernel_rfl) (Want.none rfl) rfl (ltN rfl) ((QP.assign rfl rfl).eff) (by kernel_rfl) ?_
  rintro _ _ ⟨rfl, rfl⟩
  refine ⟨fun _ h => (by cases h), ?_⟩
  refine Dw.nil (by kernel_rfl) ?_
  refine hk2 _ _ ?_
  refine Run.ret ?_
  exact J.ends (res_tmp rfl rfl) Takes.nil ⟨by simp_all [containsB, ernoB], rfl⟩
 ·skip
  refine Dw.pure (i := 3) rfl (by kernel_rfl) (Want.none rfl) rfl (ltN rfl) (QP.move rfl rfl) ?_
  refine Dw.skip (i := 4) rfl (by kernel_rfl) (Want.no rfl rfl rfl rfl) rfl (ltN rfl) ?_
  refine Dw.skip (i := 5) rfl (by kernel_rfl) (Want.no rfl rfl rfl rfl) rfl (ltN rfl) ?_
  refine Dw.skip (i := 6) rfl (by kernel_rfl) (Want.no rfl rfl rfl rfl) rfl (ltN rfl) ?_
  refine Dw.skip (i := 8) rfl (by kernel_rfl) (Want.no rfl rfl rfl rfl) rfl (ltN rfl) ?_
  refine Dw.skip (i := 9) rfl (by kernel_rfl) (Want.no rfl rfl rfl rfl) rfl (ltN rfl) ?_
  refine Dw.eff (i := 7) (by kernel_rfl) (by kernel_rfl) ?_
  refine One.skipD (o := _) rfl (by kernel_rfl) (Want.no rfl rfl rfl rfl) rfl (ltN rfl) ?_
  refine Dw.skip (i := 10) rfl (by kernel_rfl) (Want.no rfl rfl rfl rfl) rfl (ltN rfl) ?_
  refine Dw.pure (i := 11) rfl (by kernel_rfl) (Want.none rfl) rfl (ltN rfl) (QP.pick_f rfl rfl rfl) ?_
  refine Dw.eff (i := 12) (by kernel_rfl) (by kernel_rfl) ?_
  refine One.mk (o := _) (l := []) rfl (by kernel_rfl) (Want.none rfl) rfl (ltN rfl) ((QP.assign rfl rfl).eff) (by kernel_rfl) ?_
  rintro _ _ ⟨rfl, rfl⟩
  refine ⟨fun _ h => (by cases h), ?_⟩
  refine Dw.nil (by kernel_rfl) ?_
  refine hk2 _ _ ?_
  refine Run.ret ?_
  exact J.ends (res_tmp rfl rfl) Takes.nil ⟨by simp_all [containsB, ernoB], rfl⟩

theorem matches_spec (F : Fr) (p : Pair) (s d : Bs 16) : Spec Try.prog 23 #[.agg (Pair.enc p).toArray, .agg (Bs.enc s).toArray, .agg (Bs.enc d).toArray] [] F (fun v S => v = .bool (matchesB p s d) ∧ S = []) := by
 refine Spec.intro (N := 22) (args := [.agg (Pair.enc p).toArray, .agg (Bs.enc s).toArray, .agg (Bs.enc d).toArray]) Try.func23 rfl rfl (by simp) ?_
 refine Run.seq fun k1 hk1 => ?_
 refine Run.region ?_
 show Sq _ _ _ [0, 1, 2, 3] _ _ _ _
 refine Sq.eff (i := 0) rfl (Want.none rfl) rfl (ltN rfl) (EF.boxA rfl rfl) ?_
 rintro _ _ ⟨b3, rfl, rfl⟩
 refine Sq.eff (i := 1) rfl (Want.none rfl) rfl (ltN rfl) (EF.boxA rfl rfl) ?_
 rintro _ _ ⟨b4, rfl, rfl⟩
 refine Sq.eff (i := 2) rfl (Want.none rfl) rfl (ltN rfl) (EF.boxA rfl rfl) ?_
 rintro _ _ ⟨b5, rfl, rfl⟩
 refine Sq.quiet (i := 3) rfl (Want.none rfl) rfl (ltN rfl) (QP.assign rfl rfl).read ?_
 refine Sq.nil ?_
 refine hk1 _ _ ?_
 refine Run.seq fun k2 hk2 => ?_
 refine Run.region ?_
 show Sq _ _ _ [0, 1, 2, 3, 4, 5, 6, 7, 8, 9, 10, 11, 12, 13, 14, 15] _ _ _ _
 refine Sq.quiet (i := 0) rfl (Want.none rfl) rfl (ltN rfl) (QR.load rfl rfl g36 (Pair.enc_sub _)) ?_
 refine Sq.eff (i := 1) rfl (Want.none rfl) rfl (ltN rfl) (EF.call rfl ce28 rfl Takes.nil (fun F' hle hr => checkPair_spec F' (p))) ?_
 rintro _ _ ⟨_, ⟨rfl, rfl⟩, rfl⟩
 refine J.app ?_
 refine Sq.quiet (i := 2) rfl (Want.none rfl) rfl (ltN rfl) (QP.eql rfl rfl rfl).read ?_
 refine J.caseD (fun c9 => ?_) (fun c9 => ?_)
 ·skip
  refine Sq.quiet (i := 3) rfl (Want.none rfl) rfl (ltN rfl) (QP.move rfl rfl).read ?_
  refine Sq.quiet (i := 4) rfl (Want.yes rfl rfl rfl rfl) rfl (ltN rfl) (QP.fieldAddr rfl rfl f36_0).read ?_
  refine Sq.quiet (i := 5) rfl (Want.yes rfl rfl rfl rfl) rfl (ltN rfl) (QR.load rfl rfl g33 (Pair.sub_dst _)) ?_
  refine Sq.quiet (i := 6) rfl (Want.yes rfl rfl rfl rfl) rfl (ltN rfl) (QR.load rfl rfl g30 (Bs.sub _)) ?_
  refine Sq.eff (i := 7) rfl (Want.yes rfl rfl rfl rfl) rfl (ltN rfl) (EF.call rfl ce22 rfl Takes.nil (fun F' hle hr => contains_spec F' ((p).dst) (d))) ?_
  rintro _ _ ⟨_, ⟨rfl, rfl⟩, rfl⟩
  refine J.app ?_
  refine J.caseB (fun c14 => ?_) (fun c14 => ?_)
  ·skip
   refine Sq.quiet (i := 8) rfl (Want.none rfl) rfl (ltN rfl) (QP.pick_t rfl rfl rfl).read ?_
   refine Sq.quiet (i := 9) rfl (Want.none rfl) rfl (ltN rfl) (QP.move rfl rfl).read ?_
   refine Sq.quiet (i := 10) rfl (Want.yes rfl rfl rfl rfl) rfl (ltN rfl) (QP.fieldAddr rfl rfl f36_1).read ?_
   refine Sq.quiet (i := 11) rfl (Want.yes rfl rfl rfl rfl) rfl (ltN rfl) (QR.load rfl rfl g33 (Pair.sub_src _)) ?_
   refine Sq.quiet (i := 12) rfl (Want.yes rfl rfl rfl rfl) rfl (ltN rfl) (QR.load rfl rfl g30 (Bs.sub _)) ?_
   refine Sq.eff (i := 13) rfl (Want.yes rfl rfl rfl rfl) rfl (ltN rfl) (EF.call rfl ce22 rfl Takes.nil (fun F' hle hr => contains_spec F' ((p).src) (s))) ?_
   rintro _ _ ⟨_, ⟨rfl, rfl⟩, rfl⟩
   refine J.app ?_
   refine Sq.quiet (i := 14) rfl (Want.none rfl) rfl (ltN rfl) (QP.pick_t rfl rfl rfl).read ?_
   refine Sq.quiet (i := 15) rfl (Want.none rfl) rfl (ltN rfl) (QP.assign rfl rfl).read ?_
   refine Sq.nil ?_
   refine hk2 _ _ ?_
   refine Run.ret ?_
   exact J.ends (res_tmp rfl rfl) Takes.nil ⟨by simp_all [matchesB, ernoB], rfl⟩
  ·skip
   refine Sq.quiet (i := 8) rfl (Want.none rfl) rfl (ltN rfl) (QP.pick_t rfl rfl rfl).read ?_
   refine Sq.quiet (i := 9) rfl (Want.none rfl) rfl (ltN rfl) (QP.move rfl rfl).read ?_
   refine Sq.skip (i := 10) rfl (Want.no rfl rfl rfl rfl) rfl (ltN rfl) ?_
   refine Sq.skip (i := 11) rfl (Want.no rfl rfl rfl rfl) rfl (ltN rfl) ?_
   refine Sq.skip (i := 12) rfl (Want.no rfl rfl rfl rfl) rfl (ltN rfl) ?_
   refine Sq.skip (i := 13) rfl (Want.no rfl rfl rfl rfl) rfl (ltN rfl) ?_
   refine Sq.quiet (i := 14) rfl (Want.none rfl) rfl (ltN rfl) (QP.pick_f rfl rfl rfl).read ?_
   refine Sq.quiet (i := 15) rfl (Want.none rfl) rfl (ltN rfl) (QP.assign rfl rfl).read ?_
   refine Sq.nil ?_
   refine hk2 _ _ ?_
   refine Run.ret ?_
   exact J.ends (res_tmp rfl rfl) Takes.nil ⟨by simp_all [matchesB, ernoB], rfl⟩
 ·skip
  refine Sq.quiet (i := 3) rfl (Want.none rfl) rfl (ltN rfl) (QP.move rfl rfl).read ?_
  refine Sq.skip (i := 4) rfl (Want.no rfl rfl rfl rfl) rfl (ltN rfl) ?_
  refine Sq.skip (i := 5) rfl (Want.no rfl rfl rfl rfl) rfl (ltN rfl) ?_
  refine Sq.skip (i := 6) rfl (Want.no rfl rfl rfl rfl) rfl (ltN rfl) ?_
  refine Sq.skip (i := 7) rfl (Want.no rfl rfl rfl rfl) rfl (ltN rfl) ?_
  refine Sq.quiet (i := 8) rfl (Want.none rfl) rfl (ltN rfl) (QP.pick_f rfl rfl rfl).read ?_
  refine Sq.quiet (i := 9) rfl (Want.none rfl) rfl (ltN rfl) (QP.move rfl rfl).read ?_
  refine Sq.skip (i := 10) rfl (Want.no rfl rfl rfl rfl) rfl (ltN rfl) ?_
  refine Sq.skip (i := 11) rfl (Want.no rfl rfl rfl rfl) rfl (ltN rfl) ?_
  refine Sq.skip (i := 12) rfl (Want.no rfl rfl rfl rfl) rfl (ltN rfl) ?_
  refine Sq.skip (i := 13) rfl (Want.no rfl rfl rfl rfl) rfl (ltN rfl) ?_
  refine Sq.quiet (i := 14) rfl (Want.none rfl) rfl (ltN rfl) (QP.pick_f rfl rfl rfl).read ?_
  refine Sq.quiet (i := 15) rfl (Want.none rfl) rfl (ltN rfl) (QP.assign rfl rfl).read ?_
  refine Sq.nil ?_
  refine hk2 _ _ ?_
  refine Run.ret ?_
  exact J.ends (res_tmp rfl rfl) Takes.nil ⟨by simp_all [matchesB, ernoB], rfl⟩
end Slb
