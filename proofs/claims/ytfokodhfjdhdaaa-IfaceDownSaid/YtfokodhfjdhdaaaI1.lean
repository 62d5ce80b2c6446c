/- I1: a part of the proof that a law of this package holds for every input; no condition. -/
import Derived.Test.YtfokodhfjdhdaaaM2
import Derived.Test.YtfokodhfjdhdaaaC12
namespace Slb
open Go Go.Proofs
set_option maxRecDepth 20000
/-- How many bits of byte i are among the first n. -/
def keepN (n : Int) (i : Nat) : Nat := (min (max (n - 8 * i) 0) 8).toNat
def maskB (n : Int) (i : Nat) : UInt8 := UInt8.ofNat (65280 / 2 ^ keepN n i)
def maskedB (x : Bs 16) (n : Int) : Bs 16 := ⟨x.l.mapIdx fun i c => c &&& maskB n i, by rw [List.length_mapIdx, x.h]⟩
def maskedT (x : Bs 16) (n : Int) (k : Nat) : Bs 16 := ⟨x.l.mapIdx fun i c => if i < k then c &&& maskB n i else c, by rw [List.length_mapIdx, x.h]⟩
theorem maskedT_zero (x : Bs 16) (n : Int) : maskedT x n 0 = x := by
  apply Bs.ext
  show x.l.mapIdx _ = x.l
  apply List.ext_getElem?
  intro i
  rw [List.getElem?_mapIdx]
  cases x.l[i]? <;> simp
theorem maskedT_all (x : Bs 16) (n : Int) : maskedT x n 16 = maskedB x n := by
  apply Bs.ext
  show x.l.mapIdx _ = x.l.mapIdx _
  apply List.ext_getElem?
  intro i
  rw [List.getElem?_mapIdx, List.getElem?_mapIdx]
  by_cases h : i < 16
  · simp [h]
  · rw [List.getElem?_eq_none (by rw [x.h]; omega)]; rfl
theorem maskedT_at {x : Bs 16} {n : Int} {k : Nat} {c : UInt8} (h : x.l[k]? = some c) : (maskedT x n k).l[k]? = some c := by
  show (x.l.mapIdx _)[k]? = _
  rw [List.getElem?_mapIdx, h]
  simp
theorem maskedT_succ {x : Bs 16} {n : Int} {k : Nat} {c : UInt8} (h : x.l[k]? = some c) : (maskedT x n k).put k (c &&& maskB n k) = maskedT x n (k + 1) := by
  apply Bs.ext
  show (x.l.mapIdx _).set k _ = x.l.mapIdx _
  apply List.ext_getElem?
  intro i
  rw [List.getElem?_set, List.getElem?_mapIdx, List.getElem?_mapIdx]
  have hk := (List.getElem?_eq_some_iff.1 h).1
  by_cases he : k = i
  · subst he
    rw [List.length_mapIdx, if_pos rfl, if_pos hk, h]
    simp
  · rw [if_neg he]
    cases x.l[i]? with
    | none => rfl
    | some d =>
      simp only [Option.map_some]
      by_cases h1 : i < k
      · rw [if_pos h1, if_pos (by omega)]
      · rw [if_neg h1, if_neg (by omega)]
theorem maskB_wrap {n : Int} {k : Nat} {j : Int} (hj : j = min (max (n - 8 * (k : Int)) 0) 8) : IntKind.u8.wrap (65280 / 2 ^ j.toNat) = ((maskB n k).toNat : Int) := by
  subst hj
  unfold maskB keepN
  generalize (min (max (n - 8 * (k : Int)) 0) 8).toNat = m
  unfold IntKind.wrap
  simp only [show IntKind.u8.bits = 8 from rfl, show IntKind.u8.signed = false from rfl]
  simp
def checkB (p : Prefix) : Bool := !(decide (p.len.val < 0) || decide (p.len.val > 128) || decide (maskedB p.a p.len.val ≠ p.a))
def ernoB (b : Bool) : Int := if b then 0 else 21
theorem checkB_len {p : Prefix} (h : checkB p = true) : 0 ≤ p.len.val ∧ p.len.val ≤ 128 ∧ maskedB p.a p.len.val = p.a := by
  simp only [checkB, Bool.not_eq_true', Bool.or_eq_false_iff, decide_eq_false_iff_not] at h
  exact ⟨by omega, by omega, Classical.not_not.1 h.2⟩
def familyB (a : Bs 16) : Int := if a.l.take 12 = [0, 0, 0, 0, 0, 0, 0, 0, 0, 0, 255, 255] then 4 else 6
def pfamilyB (p : Prefix) : Int := if p.len.val < 96 then 6 else familyB p.a
def checkPairB (p : Pair) : Bool := checkB p.dst && checkB p.src && decide (pfamilyB p.dst = pfamilyB p.src)
def containsB (p : Prefix) (a : Bs 16) : Bool := checkB p && decide (maskedB a p.len.val = p.a)
def coversB (p q : Prefix) : Bool := checkB q && decide (p.len.val ≤ q.len.val) && containsB p q.a
def matchesB (p : Pair) (s d : Bs 16) : Bool := checkPairB p && containsB p.dst d && containsB p.src s

theorem masked_spec (F : Fr) (x : Bs 16) (n : Int) (h0 : -4611686018427387904 ≤ n) (h1 : n ≤ 4611686018427387904) : Spec Try.prog 97 #[.agg (Bs.enc x).toArray, .int .i64 n] [] F (fun v S => v = .agg (Bs.enc (maskedB x n)).toArray ∧ S = []) := by
 refine Spec.intro (N := 26) (args := [.agg (Bs.enc x).toArray, .int .i64 n]) Try.func97 rfl rfl (by simp) ?_
 refine Run.seq fun k1 hk1 => Run.region ?_
 show Sq _ _ _ [0, 1] _ _ _ _
 refine Ef 0 rfl rfl (EF.boxA rfl rfl) ?_
 rintro _ _ ⟨b2, rfl, rfl⟩
 refine Ef 1 rfl rfl (EF.allocA (l := (Bs.zero 16).enc) rfl zero23) ?_
 rintro _ _ ⟨b4, rfl, rfl⟩
 refine Sq.nil <| hk1 _ _ <| Run.seq fun k2 hk2 => Run.seq fun k3 hk3 => Run.region ?_
 show Sq _ _ _ [0] _ _ _ _
 rw [show Bs.enc x = Bs.enc (maskedT x n 0) by rw [maskedT_zero]]
 refine Mv 0 rfl rfl rfl <| Sq.nil <| hk3 _ _ <| Run.block <| Run.loop1 (fun (k : Nat) => k ≤ 16) (fun k => .cons 1 (.int .i64 n) (.cons 2 (.pointer (some ⟨b2, 0, none⟩)) (.cons 4 (.pointer (some ⟨b4, 0, none⟩)) (.cons 7 (.int .i64 k) (.nil))))) (fun k => [blk b2 (Bs.enc (maskedT x n k)) 23, blk b4 (Bs.enc (Bs.zero 16)) 23]) (fun k => 16 - k) (0) (Nat.zero_le _) ?_ ?_
 ·exact fun _ j => J.envJ (J.keep Tk2 j) ⟨rfl, rfl, rfl, rfl, trivial⟩
 rintro k hk kl4 hl4
 refine Run.seq fun k5 hk5 => Run.region ?_
 show Sq _ _ _ [0] _ _ _ _
 refine Qp 0 rfl rfl (QP.lss rfl rfl rfl) <| J.caseD (fun c8 => ?_) (fun c8 => ?_)
 ·refine Sq.nil <| hk5 _ _ <| Run.seq fun k6 hk6 => Run.cond_t rfl <| Run.skip <| hk6 _ _ <| Run.seq fun k7 hk7 => Run.block <| Run.seq fun k8 hk8 => Run.region ?_
  show Sq _ _ _ [0, 1] _ _ _ _
  refine Mv 0 rfl rfl rfl <| Sg 1 rfl rfl rfl <| Sq.nil <| hk8 _ _ <| Run.seq fun k9 hk9 => Run.region ?_
  show Sq _ _ _ [0, 1, 2, 3, 4, 5, 6] _ _ _ _
  refine Mv 0 rfl rfl rfl <| Mv 1 rfl rfl rfl <| Qp 2 rfl rfl (QP.mul rfl rfl rfl) ?_
  rw [wrap_i64 (n := 8 * (k : Int)) (by omega) (by omega)]
  refine Qp 3 rfl rfl (QP.sub64 rfl rfl rfl (by omega) (by omega)) <| Qp 4 rfl rfl (QP.max2 rfl rfl rfl) <| Qp 5 rfl rfl (QP.min2 rfl rfl rfl) <| Sg 6 rfl rfl rfl <| Sq.nil <| hk9 _ _ <| Run.regionD (M := [0, 1, 3, 0, 8, 24, 63, 127, 255]) (q := 255) (r := 4) Kr ?_
  obtain ⟨c, hc⟩ : ∃ c, x.l[k]? = some c := ⟨_, List.getElem?_eq_getElem (by rw [x.h]; omega)⟩
  refine Dp 0 rfl rfl (QP.move rfl rfl) <| Dp 1 rfl rfl (QP.indexArr rfl rfl rfl Try.underlying23 z5 Og Og) <| Dr 2 rfl rfl (QR.load1 rfl rfl g5 (Bs.subAt _ (maskedT_at hc) (by simp))) ?_
  refine Dp 3 rfl rfl (QP.move rfl rfl) <| Dp 4 rfl rfl (QP.shr16 rfl rfl rfl Og Og) <| Dp 5 rfl rfl (QP.conv rfl rfl Try.underlying37 Try.underlying5) <| Dp 6 rfl rfl (QP.and8 (a := c) (b := maskB n k) rfl rfl rfl rfl (maskB_wrap (by repeat (first | omega | split)))) <| Dp 7 rfl rfl (QP.indexArr rfl rfl rfl Try.underlying23 z5 Og Og) <| De 8 <| Oa [] rfl (EF.store rfl rfl rfl z5 (Bs.setAt ((maskedT x n k)) (i := k) (c := (c &&& maskB n k)) Og (by simp) rfl) (cell_one rfl)) ?_
  rintro _ _ rfl
  refine ⟨fun _ h => (by cases h), ?_⟩
  refine Dn <| hk7 _ _ <| Run.region ?_
  show Sq _ _ _ [0, 1] _ _ _ _
  refine Qp 0 rfl rfl (QP.add64 rfl rfl rfl Og Og) <| Mv 1 rfl rfl rfl <| Sq.nil ?_
  rw [maskedT_succ hc]
  exact J.envJ (J.keep Tk2 (hl4 (k + 1) (by omega) (by omega))) ⟨rfl, rfl, rfl, rfl, trivial⟩
 ·refine Sq.nil <| hk5 _ _ <| Run.seq fun k10 hk10 => Run.cond_f rfl <| Run.exit rfl ?_
  refine hk2 _ _ <| Run.seq fun k11 hk11 => Run.region ?_
  show Sq _ _ _ [0, 1] _ _ _ _
  obtain rfl : k = 16 := by omega
  refine Qq 0 rfl rfl (QR.load rfl rfl g23 (Bs.sub _)) ?_
  refine Ac 1 rfl (EF.storeA rfl rfl rfl z23 (SetL.all (Bs.len _) (Bs.len _)) (Bs.cell _)) ?_
  rintro _ _ rfl
  refine Sq.nil <| hk11 _ _ <| Run.ret ?_
  exact J.ends (res_cell rfl rfl g23 (Bs.sub _)) Takes.nil ⟨by rw [maskedT_all], rfl⟩

theorem check_spec (F : Fr) (p : Prefix) : Spec Try.prog 89 #[.agg (Prefix.enc p).toArray] [] F (fun v S => v = .int .i64 (ernoB (checkB p)) ∧ S = []) := by
 refine Spec.intro (N := 21) (args := [.agg (Prefix.enc p).toArray]) Try.func89 rfl rfl (by simp) ?_
 refine Run.seq fun k1 hk1 => Run.region ?_
 show Sq _ _ _ [0, 1] _ _ _ _
 refine Ef 0 rfl rfl (EF.boxA rfl rfl) ?_
 rintro _ _ ⟨b1, rfl, rfl⟩
 refine Sg 1 rfl rfl rfl <| Sq.nil <| hk1 _ _ <| Run.seq fun k2 hk2 => Run.seq fun k3 hk3 => Run.regionD (M := [0, 1, 3, 7, 15, 31, 63, 127, 255, 511, 1023, 511, 2559, 8191, 511, 16895, 65535, 131071]) (q := 253951) (r := 37922) Kr ?_
 refine Dp 0 rfl rfl (QP.fieldAddr rfl rfl f41_1) <| Dr 1 rfl rfl (QR.load1 rfl rfl g3 (Prefix.sub_len _)) ?_
 refine Dp 2 rfl rfl (QP.lss rfl rfl rfl) <| J.caseD (fun c5 => ?_) (fun c5 => ?_)
 ·refine Dp 3 rfl rfl (QP.move rfl rfl) <| Ds 4 rfl rfl rfl <| Ds 5 rfl rfl rfl <| Ds 6 rfl rfl rfl <| Dp 7 rfl rfl (QP.pick_t rfl rfl rfl) <| Dp 8 rfl rfl (QP.move rfl rfl) <| Ds 9 rfl rfl rfl <| Ds 10 rfl rfl rfl <| Ds 11 rfl rfl rfl <| Ds 12 rfl rfl rfl <| Ds 14 rfl rfl rfl <| Ds 15 rfl rfl rfl <| De 13 <| One.skipD (o := _) rfl Kr (Want.no rfl rfl rfl rfl) rfl (ltN rfl) ?_
  refine Ds 16 rfl rfl rfl <| Dp 17 rfl rfl (QP.pick_t rfl rfl rfl) <| Dn <| hk3 _ _ <| Run.cond_t rfl <| Run.seq fun k4 hk4 => Run.region ?_
  show Sq _ _ _ [0] _ _ _ _
  refine Sg 0 rfl rfl rfl <| Sq.nil <| hk4 _ _ <| Run.ret ?_
  exact J.ends (res_tmp rfl rfl) Takes.nil ⟨by rw [show checkB p = false by simp_all [checkB]]; rfl, rfl⟩
 ·refine Dp 3 rfl rfl (QP.move rfl rfl) <| Dy 4 rfl rfl rfl (QP.fieldAddr rfl rfl f41_1) <| Dz 5 rfl rfl rfl (QR.load1 rfl rfl g3 (Prefix.sub_len _)) ?_
  refine Dy 6 rfl rfl rfl (QP.gtr rfl rfl rfl) <| J.caseD (fun c9 => ?_) (fun c9 => ?_)
  ·refine Dp 7 rfl rfl (QP.pick_f rfl rfl rfl) <| Dp 8 rfl rfl (QP.move rfl rfl) <| Ds 9 rfl rfl rfl <| Ds 10 rfl rfl rfl <| Ds 11 rfl rfl rfl <| Ds 12 rfl rfl rfl <| Ds 14 rfl rfl rfl <| Ds 15 rfl rfl rfl <| De 13 <| One.skipD (o := _) rfl Kr (Want.no rfl rfl rfl rfl) rfl (ltN rfl) ?_
   refine Ds 16 rfl rfl rfl <| Dp 17 rfl rfl (QP.pick_t rfl rfl rfl) <| Dn <| hk3 _ _ <| Run.cond_t rfl <| Run.seq fun k5 hk5 => Run.region ?_
   show Sq _ _ _ [0] _ _ _ _
   refine Sg 0 rfl rfl rfl <| Sq.nil <| hk5 _ _ <| Run.ret ?_
   exact J.ends (res_tmp rfl rfl) Takes.nil ⟨by rw [show checkB p = false by simp_all [checkB]]; rfl, rfl⟩
  ·refine Dp 7 rfl rfl (QP.pick_f rfl rfl rfl) <| Dp 8 rfl rfl (QP.move rfl rfl) <| Dy 9 rfl rfl rfl (QP.fieldAddr rfl rfl f41_0) <| Dz 10 rfl rfl rfl (QR.load rfl rfl g23 (Prefix.sub_a _)) ?_
   refine Dy 11 rfl rfl rfl (QP.fieldAddr rfl rfl f41_1) <| Dz 12 rfl rfl rfl (QR.load1 rfl rfl g3 (Prefix.sub_len _)) ?_
   refine Dy 14 rfl rfl rfl (QP.fieldAddr rfl rfl f41_0) <| Dz 15 rfl rfl rfl (QR.load rfl rfl g23 (Prefix.sub_a _)) ?_
   refine De 13 <| One.mk (o := _) (l := [15]) rfl Kr (Want.yes rfl rfl rfl rfl) rfl (ltN rfl) (EF.call rfl ce97 rfl Takes.nil (fun F' hle hr => masked_spec F' ((p).a) (((p).len).val) (by omega) (by omega))) Kr ?_
   rintro _ _ ⟨_, ⟨rfl, rfl⟩, rfl⟩
   refine ⟨?_, ?_⟩
   ·rw [List.forall_mem_cons]
    refine ⟨?_, fun _ h => (by cases h)⟩
    ·refine Look.app ?_
     exact Look.mk rfl rfl rfl (QR.load rfl rfl g23 (Prefix.sub_a _))
   refine ?_
   refine J.app ?_
   refine Dy 16 rfl rfl rfl (QP.neq_agg eq23 rfl rfl rfl) <| J.caseD (fun c19 => ?_) (fun c19 => ?_)
   ·refine Dp 17 rfl rfl (QP.pick_f rfl rfl rfl) <| Dn <| hk3 _ _ <| Run.cond_t rfl <| Run.seq fun k6 hk6 => Run.region ?_
    show Sq _ _ _ [0] _ _ _ _
    refine Sg 0 rfl rfl rfl <| Sq.nil <| hk6 _ _ <| Run.ret ?_
    exact J.ends (res_tmp rfl rfl) Takes.nil ⟨by rw [show checkB p = false by simp_all [checkB]]; rfl, rfl⟩
   ·refine Dp 17 rfl rfl (QP.pick_f rfl rfl rfl) <| Dn <| hk3 _ _ <| Run.cond_f rfl <| Run.skip <| hk2 _ _ <| Run.seq fun k7 hk7 => Run.region ?_
    show Sq _ _ _ [0] _ _ _ _
    refine Sg 0 rfl rfl rfl <| Sq.nil <| hk7 _ _ <| Run.ret ?_
    exact J.ends (res_tmp rfl rfl) Takes.nil ⟨by rw [show checkB p = true by simp_all [checkB]]; rfl, rfl⟩

theorem family_spec (F : Fr) (a : Bs 16) : Spec Try.prog 55 #[.agg (Bs.enc a).toArray] [] F (fun v S => v = .int .i64 (familyB a) ∧ S = []) := by
 refine Spec.intro (N := 6) (args := [.agg (Bs.enc a).toArray]) Try.func55 rfl rfl (by simp) ?_
 refine Run.seq fun k1 hk1 => Run.region ?_
 show Sq _ _ _ [0, 1] _ _ _ _
 refine Ef 0 rfl rfl (EF.boxA rfl rfl) ?_
 rintro _ _ ⟨b1, rfl, rfl⟩
 refine Sg 1 rfl rfl rfl <| Sq.nil <| hk1 _ _ <| Run.seq fun k2 hk2 => Run.seq fun k3 hk3 => Run.region ?_
 show Sq _ _ _ [0, 1, 2] _ _ _ _
 refine Qp 0 rfl rfl (QP.sliceArrHi rfl rfl rfl Try.underlying23 z5 Og Og (by decide)) <| Qq 1 rfl rfl (QR.bytesStr (xs := (a).l.take 12) rfl rfl Try.underlying50 Try.underlying5 Try.underlying9 (by first | exact Rd.own Rc | exact Rd.fr (by assumption)) (Bs.subTake (Bs.sub _) (by decide)) (Bs.takeLen _ (by decide))) ?_
 refine Qp 2 rfl rfl (QP.eqlStr (b := [0, 0, 0, 0, 0, 0, 0, 0, 0, 0, 255, 255]) rfl rfl rfl) <| J.caseD (fun c5 => ?_) (fun c5 => ?_)
 ·refine Sq.nil <| hk3 _ _ <| Run.cond_t rfl <| Run.seq fun k4 hk4 => Run.region ?_
  show Sq _ _ _ [0] _ _ _ _
  refine Sg 0 rfl rfl rfl <| Sq.nil <| hk4 _ _ <| Run.ret ?_
  exact J.ends (res_tmp rfl rfl) Takes.nil ⟨by unfold familyB; rw [if_pos c5], rfl⟩
 ·refine Sq.nil <| hk3 _ _ <| Run.cond_f rfl <| Run.skip <| hk2 _ _ <| Run.seq fun k5 hk5 => Run.region ?_
  show Sq _ _ _ [0] _ _ _ _
  refine Sg 0 rfl rfl rfl <| Sq.nil <| hk5 _ _ <| Run.ret ?_
  exact J.ends (res_tmp rfl rfl) Takes.nil ⟨by unfold familyB; rw [if_neg c5], rfl⟩

theorem pfamily_spec (F : Fr) (p : Prefix) : Spec Try.prog 56 #[.agg (Prefix.enc p).toArray] [] F (fun v S => v = .int .i64 (pfamilyB p) ∧ S = []) := by
 refine Spec.intro (N := 9) (args := [.agg (Prefix.enc p).toArray]) Try.func56 rfl rfl (by simp) ?_
 refine Run.seq fun k1 hk1 => Run.region ?_
 show Sq _ _ _ [0, 1] _ _ _ _
 refine Ef 0 rfl rfl (EF.boxA rfl rfl) ?_
 rintro _ _ ⟨b1, rfl, rfl⟩
 refine Sg 1 rfl rfl rfl <| Sq.nil <| hk1 _ _ <| Run.seq fun k2 hk2 => Run.seq fun k3 hk3 => Run.region ?_
 show Sq _ _ _ [0, 1, 2] _ _ _ _
 refine Fa 0 rfl rfl rfl f41_1 <| Qq 1 rfl rfl (QR.load1 rfl rfl g3 (Prefix.sub_len _)) ?_
 refine Qp 2 rfl rfl (QP.lss rfl rfl rfl) <| J.caseD (fun c5 => ?_) (fun c5 => ?_)
 ·refine Sq.nil <| hk3 _ _ <| Run.cond_t rfl <| Run.seq fun k4 hk4 => Run.region ?_
  show Sq _ _ _ [0] _ _ _ _
  refine Sg 0 rfl rfl rfl <| Sq.nil <| hk4 _ _ <| Run.ret ?_
  exact J.ends (res_tmp rfl rfl) Takes.nil ⟨by unfold pfamilyB; rw [if_pos c5], rfl⟩
 ·refine Sq.nil <| hk3 _ _ <| Run.cond_f rfl <| Run.skip <| hk2 _ _ <| Run.seq fun k5 hk5 => Run.region ?_
  show Sq _ _ _ [0, 1, 2, 3] _ _ _ _
  refine Fa 0 rfl rfl rfl f41_0 <| Qq 1 rfl rfl (QR.load rfl rfl g23 (Prefix.sub_a _)) ?_
  refine Ef 2 rfl rfl (EF.call rfl ce55 rfl Takes.nil (fun F' hle hr => family_spec F' ((p).a))) ?_
  rintro _ _ ⟨_, ⟨rfl, rfl⟩, rfl⟩
  refine J.app ?_
  refine Sg 3 rfl rfl rfl <| Sq.nil <| hk5 _ _ <| Run.ret ?_
  exact J.ends (res_tmp rfl rfl) Takes.nil ⟨by unfold pfamilyB; rw [if_neg c5], rfl⟩

theorem checkPair_spec (F : Fr) (p : Pair) : Spec Try.prog 74 #[.agg (Pair.enc p).toArray] [] F (fun v S => v = .int .i64 (ernoB (checkPairB p)) ∧ S = []) := by
 refine Spec.intro (N := 22) (args := [.agg (Pair.enc p).toArray]) Try.func74 rfl rfl (by simp) ?_
 refine Run.seq fun k1 hk1 => Run.region ?_
 show Sq _ _ _ [0, 1] _ _ _ _
 refine Ef 0 rfl rfl (EF.boxA rfl rfl) ?_
 rintro _ _ ⟨b1, rfl, rfl⟩
 refine Sg 1 rfl rfl rfl <| Sq.nil <| hk1 _ _ <| Run.seq fun k2 hk2 => Run.seq fun k3 hk3 => Run.regionD (M := [0, 1, 3, 7, 15, 31, 63, 127, 255, 511, 1023, 2047, 4095, 8191, 2047, 18431, 65535, 131071, 262143]) (q := 450427) (r := 36930) Kr ?_
 refine Dp 0 rfl rfl (QP.fieldAddr rfl rfl f43_0) <| Dr 1 rfl rfl (QR.load rfl rfl g41 (Pair.sub_dst _)) ?_
 refine De 2 <| Om [] rfl rfl (EF.call rfl ce89 rfl Takes.nil (fun F' hle hr => check_spec F' ((p).dst))) ?_
 rintro _ _ ⟨_, ⟨rfl, rfl⟩, rfl⟩
 refine ⟨fun _ h => (by cases h), ?_⟩
 refine J.app ?_
 refine Dp 3 rfl rfl (QP.neq rfl rfl rfl) <| J.caseD (fun c6 => ?_) (fun c6 => ?_)
 ·refine Dp 4 rfl rfl (QP.move rfl rfl) <| Ds 5 rfl rfl rfl <| Ds 6 rfl rfl rfl <| De 7 <| One.skipD (o := _) rfl Kr (Want.no rfl rfl rfl rfl) rfl (ltN rfl) ?_
  refine Ds 8 rfl rfl rfl <| Dp 9 rfl rfl (QP.pick_t rfl rfl rfl) <| Dp 10 rfl rfl (QP.move rfl rfl) <| Ds 11 rfl rfl rfl <| Ds 12 rfl rfl rfl <| Ds 14 rfl rfl rfl <| Ds 15 rfl rfl rfl <| De 13 <| One.skipD (o := _) rfl Kr (Want.no rfl rfl rfl rfl) rfl (ltN rfl) ?_
  refine De 16 <| One.skipD (o := _) rfl Kr (Want.no rfl rfl rfl rfl) rfl (ltN rfl) ?_
  refine Ds 17 rfl rfl rfl <| Dp 18 rfl rfl (QP.pick_t rfl rfl rfl) <| Dn <| hk3 _ _ <| Run.cond_t rfl <| Run.seq fun k4 hk4 => Run.region ?_
  show Sq _ _ _ [0] _ _ _ _
  refine Sg 0 rfl rfl rfl <| Sq.nil <| hk4 _ _ <| Run.ret ?_
  exact J.ends (res_tmp rfl rfl) Takes.nil ⟨by rw [show checkPairB p = false by simp_all [checkPairB, ernoB]]; rfl, rfl⟩
 ·refine Dp 4 rfl rfl (QP.move rfl rfl) <| Dy 5 rfl rfl rfl (QP.fieldAddr rfl rfl f43_1) <| Dz 6 rfl rfl rfl (QR.load rfl rfl g41 (Pair.sub_src _)) ?_
  refine De 7 <| One.mk (o := _) (l := []) rfl Kr (Want.yes rfl rfl rfl rfl) rfl (ltN rfl) (EF.call rfl ce89 rfl Takes.nil (fun F' hle hr => check_spec F' ((p).src))) Kr ?_
  rintro _ _ ⟨_, ⟨rfl, rfl⟩, rfl⟩
  refine ⟨fun _ h => (by cases h), ?_⟩
  refine J.app ?_
  refine Dy 8 rfl rfl rfl (QP.neq rfl rfl rfl) <| J.caseD (fun c11 => ?_) (fun c11 => ?_)
  ·refine Dp 9 rfl rfl (QP.pick_f rfl rfl rfl) <| Dp 10 rfl rfl (QP.move rfl rfl) <| Ds 11 rfl rfl rfl <| Ds 12 rfl rfl rfl <| Ds 14 rfl rfl rfl <| Ds 15 rfl rfl rfl <| De 13 <| One.skipD (o := _) rfl Kr (Want.no rfl rfl rfl rfl) rfl (ltN rfl) ?_
   refine De 16 <| One.skipD (o := _) rfl Kr (Want.no rfl rfl rfl rfl) rfl (ltN rfl) ?_
   refine Ds 17 rfl rfl rfl <| Dp 18 rfl rfl (QP.pick_t rfl rfl rfl) <| Dn <| hk3 _ _ <| Run.cond_t rfl <| Run.seq fun k5 hk5 => Run.region ?_
   show Sq _ _ _ [0] _ _ _ _
   refine Sg 0 rfl rfl rfl <| Sq.nil <| hk5 _ _ <| Run.ret ?_
   exact J.ends (res_tmp rfl rfl) Takes.nil ⟨by rw [show checkPairB p = false by simp_all [checkPairB, ernoB]]; rfl, rfl⟩
  ·refine Dp 9 rfl rfl (QP.pick_f rfl rfl rfl) <| Dp 10 rfl rfl (QP.move rfl rfl) <| Dy 11 rfl rfl rfl (QP.fieldAddr rfl rfl f43_0) <| Dz 12 rfl rfl rfl (QR.load rfl rfl g41 (Pair.sub_dst _)) ?_
   refine Dy 14 rfl rfl rfl (QP.fieldAddr rfl rfl f43_1) <| Dz 15 rfl rfl rfl (QR.load rfl rfl g41 (Pair.sub_src _)) ?_
   refine De 13 <| One.mk (o := _) (l := [15]) rfl Kr (Want.yes rfl rfl rfl rfl) rfl (ltN rfl) (EF.call rfl ce56 rfl Takes.nil (fun F' hle hr => pfamily_spec F' ((p).dst))) Kr ?_
   rintro _ _ ⟨_, ⟨rfl, rfl⟩, rfl⟩
   refine ⟨?_, ?_⟩
   ·rw [List.forall_mem_cons]
    refine ⟨?_, fun _ h => (by cases h)⟩
    ·refine Look.app ?_
     exact Look.mk rfl rfl rfl (QR.load rfl rfl g41 (Pair.sub_src _))
   refine ?_
   refine J.app ?_
   refine De 16 <| One.mk (o := _) (l := []) rfl Kr (Want.yes rfl rfl rfl rfl) rfl (ltN rfl) (EF.call rfl ce56 rfl Takes.nil (fun F' hle hr => pfamily_spec F' ((p).src))) Kr ?_
   rintro _ _ ⟨_, ⟨rfl, rfl⟩, rfl⟩
   refine ⟨fun _ h => (by cases h), ?_⟩
   refine J.app ?_
   refine Dy 17 rfl rfl rfl (QP.neq rfl rfl rfl) <| J.caseD (fun c20 => ?_) (fun c20 => ?_)
   ·refine Dp 18 rfl rfl (QP.pick_f rfl rfl rfl) <| Dn <| hk3 _ _ <| Run.cond_t rfl <| Run.seq fun k6 hk6 => Run.region ?_
    show Sq _ _ _ [0] _ _ _ _
    refine Sg 0 rfl rfl rfl <| Sq.nil <| hk6 _ _ <| Run.ret ?_
    exact J.ends (res_tmp rfl rfl) Takes.nil ⟨by rw [show checkPairB p = false by simp_all [checkPairB, ernoB]]; rfl, rfl⟩
   ·refine Dp 18 rfl rfl (QP.pick_f rfl rfl rfl) <| Dn <| hk3 _ _ <| Run.cond_f rfl <| Run.skip <| hk2 _ _ <| Run.seq fun k7 hk7 => Run.region ?_
    show Sq _ _ _ [0] _ _ _ _
    refine Sg 0 rfl rfl rfl <| Sq.nil <| hk7 _ _ <| Run.ret ?_
    exact J.ends (res_tmp rfl rfl) Takes.nil ⟨by rw [show checkPairB p = true by simp_all [checkPairB, ernoB]]; rfl, rfl⟩

@[reducible] def fp (b : Nat) : Value := .pointer (some ⟨b, 0, none⟩)
theorem mixedT : Try.prog.follows .mixedOrders = true := by kernel_rfl
section
variable {P : Program} {N : Nat} {G : Env} {S : List HProp} {F : Fr} {o : Oper} {t t' e : TypeId} {x y y2 : Operand} {z : Nat}
theorem ArgSl.cut {α : Type} {enc : α → List Value} {a : Option Addr} {c i j : Nat} {xs : List α} (hl : ∀ x, (enc x).length = z) (h : ArgSl F a z enc xs) (hij : i ≤ j) (hj : j ≤ xs.length) (hc : xs.length ≤ c) : ArgSl F (slOff a c i z) z enc ((xs.take j).drop i) := fun h0 => by
  rw [List.length_drop, List.length_take] at h0
  obtain ⟨b, off, rfl, l, ty, fz, h1, h2⟩ := h (by omega)
  refine ⟨b, off + i * z, by unfold slOff; rw [if_neg (by omega)]; simp [add_lit], l, ty, fz, h1, h2.trans ?_⟩
  have e : xs = xs.take i ++ ((xs.take j).drop i ++ xs.drop j) := by
    have e1 : xs.take j = xs.take i ++ (xs.take j).drop i := by
      conv => lhs; rw [← List.take_append_drop i (xs.take j)]
      rw [List.take_take, show min i j = i by omega]
    conv => lhs; rw [← List.take_append_drop j xs, e1]
    rw [List.append_assoc]
  refine ⟨(xs.take i).flatMap enc, (xs.drop j).flatMap enc, ?_, ?_, flatMap_len hl _⟩
  · conv => lhs; rw [e]
    simp only [List.flatMap_append, List.append_assoc]
  · rw [flatMap_len hl, List.length_take, Nat.min_eq_left (by omega)]
theorem res_tmp3 {fn : Func} {t u r : Nat} {v x w0 : Value} (h : fn.results = #[.tmp t, .tmp u, .tmp r]) (hv : lk G t = some v) (hx : lk G u = some x) (hw : lk G r = some w0) : J N G S F fun a w => (results fn a.tmps).run P w = .ok (.tuple #[v, x, w0]) w := fun a w s => by
  have h1 := s.slots t v hv
  have h2 := s.slots u x hx
  have h3 := s.slots r w0 hw
  simp [results, h, h1, h2, h3, Sem.run, pure]
def or32 (m n : Int) : Int := ((BitVec.ofInt 32 m ||| BitVec.ofInt 32 n).toNat : Int)
theorem wrap32_bv (b : BitVec 32) : IntKind.u32.wrap (b.toNat : Int) = (b.toNat : Int) := by
  have h3 := b.isLt
  generalize b.toNat = k at h3 ⊢
  unfold IntKind.wrap
  have h4 : (IntKind.u32.bits : Nat) = 32 := rfl
  simp only [h4, show IntKind.u32.signed = false from rfl]
  simp
  omega
theorem bits_or32 (a b : Int) : Op.intBits .or .u32 a b = pure (.int .u32 (or32 a b)) := by
  have h : IntKind.u32.wrap ((BitVec.ofInt 32 a ||| BitVec.ofInt 32 b).toNat : Int) = or32 a b := wrap32_bv _
  unfold Op.intBits
  exact congrArg (fun n => (pure (Value.int .u32 n) : Sem Value)) h
theorem QP.or32 {m n : Int} (ho : o.op = .binOp .or t x y t') (hx : opv G x = some (.int .u32 m)) (hy : opv G y = some (.int .u32 n)) : QP P N G S F o (.int .u32 (or32 m n)) := fun ac w s w' => by
  unfold execOp
  simp [ho, s.eval hx, s.eval hy, eqGuard_at_int, binOp, bits_or32]
end
theorem wrap_u32 {n : Int} (h0 : 0 ≤ n) (h1 : n < 4294967296) : IntKind.u32.wrap n = n := by
  unfold IntKind.wrap
  simp only [show (IntKind.u32.bits : Nat) = 32 from rfl, show IntKind.u32.signed = false from rfl]
  simp; omega
theorem wrap_u8 {n : Int} (h0 : 0 ≤ n) (h1 : n < 256) : IntKind.u8.wrap n = n := by
  unfold IntKind.wrap
  simp only [show (IntKind.u8.bits : Nat) = 8 from rfl, show IntKind.u8.signed = false from rfl]
  simp; omega
/-! ### A reader of bytes -/
/-- What is left, and whether it failed. -/
structure Rs where
  l : List UInt8
  e : Int
def rdTake (r : Rs) (n : Int) : List UInt8 × Rs :=
  if r.e ≠ 0 then ([], r) else if n < 0 then ([], ⟨r.l, 2⟩) else if n > r.l.length then ([], ⟨r.l, 3⟩) else (r.l.take n.toNat, ⟨r.l.drop n.toNat, 0⟩)
def numN (bs : List UInt8) : Nat := bs.foldl (fun n c => n * 256 + c.toNat) 0
structure RZ where
  a : Option Addr
  c : Nat
  p : List UInt8
  at_ : Nat
  spot : Int
structure RdI (z : RZ) (r : Rs) : Prop where
  rest : z.p.drop z.at_ = r.l
  le : z.at_ ≤ z.p.length
  few : z.p.length ≤ 1000000
end Slb
