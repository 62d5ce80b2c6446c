/- J1: a part of the proof that a law of this package holds for every input; no condition. -/
import Derived.Test.YtfokodhfjdhdaaaGreatM2
import Derived.Test.YtfokodhfjdhdaaaGreatC13
namespace Slb
open Go Go.Proofs
set_option maxRecDepth 20000
/-- How many bits of byte i are among the first n. -/
def keepN (n : Int) (i : Nat) : Nat := (min (max (n - 8 * i) 0) 8).toNat
def maskB (n : Int) (i : Nat) : UInt8 := UInt8.ofNat (65280 / 2 ^ keepN n i)
def maskedB (x : Bs 16) (n : Int) : Bs 16 := ⟨x.l.mapIdx fun i c => c &&& maskB n i, by rw [List.length_mapIdx, x.h]⟩
def maskedT (x : Bs 16) (n : Int) (k : Nat) : Bs 16 := ⟨x.l.mapIdx fun i c => if i < k then c &&& maskB n i else c, by rw [List.length_mapIdx, x.h]⟩
theorem maskedT_zero (x : Bs 16) (n : Int) : maskedT x n 0 = x := by
 apply Bs.ext
 show x.l.mapIdx _ = x.l
 apply List.ext_getElem?
 intro i
 rw [List.getElem?_mapIdx]
 cases x.l[i]? <;> simp
theorem maskedT_all (x : Bs 16) (n : Int) : maskedT x n 16 = maskedB x n := by
 apply Bs.ext
 show x.l.mapIdx _ = x.l.mapIdx _
 apply List.ext_getElem?
 intro i
 rw [List.getElem?_mapIdx, List.getElem?_mapIdx]
 by_cases h : i < 16
 · simp [h]
 · rw [List.getElem?_eq_none (by rw [x.h]; omega)]; rfl
theorem maskedT_at {x : Bs 16} {n : Int} {k : Nat} {c : UInt8} (h : x.l[k]? = some c) : (maskedT x n k).l[k]? = some c := by
 show (x.l.mapIdx _)[k]? = _
 rw [List.getElem?_mapIdx, h]
 simp
theorem maskedT_succ {x : Bs 16} {n : Int} {k : Nat} {c : UInt8} (h : x.l[k]? = some c) : (maskedT x n k).put k (c &&& maskB n k) = maskedT x n (k + 1) := by
 apply Bs.ext
 show (x.l.mapIdx _).set k _ = x.l.mapIdx _
 apply List.ext_getElem?
 intro i
 rw [List.getElem?_set, List.getElem?_mapIdx, List.getElem?_mapIdx]
 have hk := (List.getElem?_eq_some_iff.1 h).1
 by_cases he : k = i
 · subst he
   rw [List.length_mapIdx, if_pos rfl, if_pos hk, h]
   simp
 · rw [if_neg he]
   cases x.l[i]? with
   | none => rfl
   | some d =>
     simp only [Option.map_some]
     by_cases h1 : i < k
     · rw [if_pos h1, if_pos (by omega)]
     · rw [if_neg h1, if_neg (by omega)]
theorem maskB_wrap {n : Int} {k : Nat} {j : Int} (hj : j = min (max (n - 8 * (k : Int)) 0) 8) : IntKind.u8.wrap (65280 / 2 ^ j.toNat) = ((maskB n k).toNat : Int) := by
 subst hj
 unfold maskB keepN
 generalize (min (max (n - 8 * (k : Int)) 0) 8).toNat = m
 unfold IntKind.wrap
 simp only [show IntKind.u8.bits = 8 from rfl, show IntKind.u8.signed = false from rfl]
 simp
def checkB (p : Prefix) : Bool := !(decide (p.len.val < 0) || decide (p.len.val > 128) || decide (maskedB p.a p.len.val ≠ p.a))
def ernoB (b : Bool) : Int := if b then 0 else 21
theorem checkB_len {p : Prefix} (h : checkB p = true) : 0 ≤ p.len.val ∧ p.len.val ≤ 128 ∧ maskedB p.a p.len.val = p.a := by
 simp only [checkB, Bool.not_eq_true', Bool.or_eq_false_iff, decide_eq_false_iff_not] at h
 exact ⟨by omega, by omega, Classical.not_not.1 h.2⟩
def familyB (a : Bs 16) : Int := if a.l.take 12 = [0, 0, 0, 0, 0, 0, 0, 0, 0, 0, 255, 255] then 4 else 6
def pfamilyB (p : Prefix) : Int := if p.len.val < 96 then 6 else familyB p.a
def checkPairB (p : Pair) : Bool := checkB p.dst && checkB p.src && decide (pfamilyB p.dst = pfamilyB p.src)
def containsB (p : Prefix) (a : Bs 16) : Bool := checkB p && decide (maskedB a p.len.val = p.a)
def coversB (p q : Prefix) : Bool := checkB q && decide (p.len.val ≤ q.len.val) && containsB p q.a
def matchesB (p : Pair) (s d : Bs 16) : Bool := checkPairB p && containsB p.dst d && containsB p.src s

theorem masked_spec (F : Fr) (x : Bs 16) (n : Int) (h0 : -4611686018427387904 ≤ n) (h1 : n ≤ 4611686018427387904) : Spec Tryz.prog 162 #[.agg (Bs.enc x).toArray, .int .i64 n] [] F (fun v S => v = .agg (Bs.enc (maskedB x n)).toArray ∧ S = []) := by
 refine Spec.intro (N := 26) (args := [.agg (Bs.enc x).toArray, .int .i64 n]) Tryz.func162 rfl rfl (by simp) ?_
 refine Zs fun _ hk1 => Ef 0 E2 (EF.boxA rfl rfl) ?_
 rintro _ _ ⟨b2, rfl, rfl⟩
 refine Ef 1 E2 (EF.allocA (l := (Bs.zero 16).enc) rfl zero32) ?_
 rintro _ _ ⟨b4, rfl, rfl⟩
 refine Zl hk1 <| Run.seq fun _ hk2 => Run.seq fun _ hk3 => Run.region ?_
 rw [show Bs.enc x = Bs.enc (maskedT x n 0) by rw [maskedT_zero]]
 refine Mv 0 E3 <| Zl hk3 <| Run.block <| Run.loop1 (fun (k : Nat) => k ≤ 16) (fun k => .cons 1 (.int .i64 n) (.cons 2 (.pointer (some ⟨b2, 0, none⟩)) (.cons 4 (.pointer (some ⟨b4, 0, none⟩)) (.cons 7 (.int .i64 k) (.nil))))) (fun k => [blk b2 (Bs.enc (maskedT x n k)) 32, blk b4 (Bs.enc (Bs.zero 16)) 32]) (fun k => 16 - k) (0) (Nat.zero_le _) ?_ ?_
 ·exact fun _ j => J.envJ (J.keep Tk2 j) ⟨rfl, rfl, rfl, rfl, trivial⟩
 rintro k hk kl4 hl4
 refine Zs fun _ hk5 => Qp 0 E2 (Zb E3) <| J.caseD (fun c8 => ?_) (fun c8 => ?_)
 ·refine Zl hk5 <| Run.seq fun _ hk6 => Zt <| Run.skip <| hk6 _ _ <| Run.seq fun _ hk7 => Run.block <| Zs fun _ hk8 => Mv 0 E3 <| Sg 1 E3 <| Zl hk8 <| Zs fun _ hk9 => Mv 0 E3 <| Mv 1 E3 <| Qp 2 E2 (QP.mul rfl rfl rfl) ?_
  rw [wrap_i64 (n := 8 * (k : Int)) (by omega) (by omega)]
  refine Qp 3 E2 (QP.sub64 rfl rfl rfl (by omega) (by omega)) <| Qp 4 E2 (QP.max2 rfl rfl rfl) <| Qp 5 E2 (QP.min2 rfl rfl rfl) <| Sg 6 E3 <| Zl hk9 <| Run.regionD (M := [0, 1, 3, 0, 8, 24, 63, 127, 255]) (q := 255) (r := 4) Kr ?_
  obtain ⟨c, hc⟩ : ∃ c, x.l[k]? = some c := ⟨_, GE (by rw [x.h]; omega)⟩
  refine Dp 0 E2 (Zm E2) <| Dp 1 E2 (QP.indexArr rfl rfl rfl Tryz.underlying32 z5 Og Og) <| Dr 2 E2 (Z1 E2 g5 (Bs.subAt _ (maskedT_at hc) (by simp))) ?_
  refine Dp 3 E2 (Zm E2) <| Dp 4 E2 (QP.shr16 rfl rfl rfl Og Og) <| Dp 5 E2 (QP.conv rfl rfl Tryz.underlying40 Tryz.underlying5) <| Dp 6 E2 (QP.and8 (a := c) (b := maskB n k) rfl rfl rfl rfl (maskB_wrap (by repeat (first | omega | split)))) <| Dp 7 E2 (QP.indexArr rfl rfl rfl Tryz.underlying32 z5 Og Og) <| De 8 <| Oa [] rfl (EF.store rfl rfl rfl z5 (Bs.setAt ((maskedT x n k)) (i := k) (c := (c &&& maskB n k)) Og (by simp) rfl) (cell_one rfl)) ?_
  rintro _ _ rfl
  refine N0 <| Dn <| hk7 _ _ <| Run.region <| Qp 0 E2 (QP.add64 rfl rfl rfl Og Og) <| Mv 1 E3 <| Sq.nil ?_
  rw [maskedT_succ hc]
  exact J.envJ (J.keep Tk2 (hl4 (k + 1) (by omega) (by omega))) ⟨rfl, rfl, rfl, rfl, trivial⟩
 ·refine Zl hk5 <| Run.seq fun _ hk10 => Zf <| Run.exit rfl <| hk2 _ _ <| Run.seq fun _ hk11 => Run.region ?_
  obtain rfl : k = 16 := by omega
  refine Qq 0 E2 (Z0 E2 g32 (Bs.sub _)) ?_
  refine Ac 1 rfl (EF.storeA rfl rfl rfl z32 (SetL.all (Bs.len _) (Bs.len _)) (Bs.cell _)) ?_
  rintro _ _ rfl
  exact Zl hk11 <| Run.ret <| J.ends (res_cell rfl rfl g32 (Bs.sub _)) TN ⟨by rw [maskedT_all], rfl⟩

theorem check_spec (F : Fr) (p : Prefix) : Spec Tryz.prog 148 #[.agg (Prefix.enc p).toArray] [] F (fun v S => v = .int .i64 (ernoB (checkB p)) ∧ S = []) := by
 refine Spec.intro (N := 21) (args := [.agg (Prefix.enc p).toArray]) Tryz.func148 rfl rfl (by simp) ?_
 refine Zs fun _ hk1 => Ef 0 E2 (EF.boxA rfl rfl) ?_
 rintro _ _ ⟨b1, rfl, rfl⟩
 refine Sg 1 E3 <| Zl hk1 <| Run.seq fun _ hk2 => Run.seq fun _ hk3 => Run.regionD (M := [0, 1, 3, 7, 15, 31, 63, 127, 255, 511, 1023, 511, 2559, 8191, 511, 16895, 65535, 131071]) (q := 253951) (r := 37922) Kr ?_
 refine Dp 0 E2 (Za E2 f44_1) <| Dr 1 E2 (Z1 E2 g3 (Prefix.sub_len _)) ?_
 refine Dp 2 E2 (Zb E3) <| J.caseD (fun c5 => ?_) (fun c5 => ?_)
 ·refine Dp 3 E2 (Zm E2) <| Ds 4 E3 <| Ds 5 E3 <| Ds 6 E3 <| Dp 7 E2 (QP.pick_t rfl rfl rfl) <| Dp 8 E2 (Zm E2) <| Ds 9 E3 <| Ds 10 E3 <| Ds 11 E3 <| Ds 12 E3 <| Ds 14 E3 <| Ds 15 E3 <| De 13 <| One.skipD (o := _) rfl Kr (Want.no rfl rfl rfl rfl) rfl (ltN rfl) ?_
  exact Ds 16 E3 <| Dp 17 E2 (QP.pick_t rfl rfl rfl) <| Dn <| hk3 _ _ <| Zt <| Zs fun _ hk4 => Sg 0 E3 <| Zl hk4 <| Run.ret <| Je E2 ⟨by rw [show checkB p = false by simp_all [checkB]]; rfl, rfl⟩
 ·refine Dp 3 E2 (Zm E2) <| Dy 4 E3 (Za E2 f44_1) <| Dz 5 E3 (Z1 E2 g3 (Prefix.sub_len _)) ?_
  refine Dy 6 E3 (QP.gtr rfl rfl rfl) <| J.caseD (fun c9 => ?_) (fun c9 => ?_)
  ·refine Dp 7 E2 (QP.pick_f rfl rfl rfl) <| Dp 8 E2 (Zm E2) <| Ds 9 E3 <| Ds 10 E3 <| Ds 11 E3 <| Ds 12 E3 <| Ds 14 E3 <| Ds 15 E3 <| De 13 <| One.skipD (o := _) rfl Kr (Want.no rfl rfl rfl rfl) rfl (ltN rfl) ?_
   exact Ds 16 E3 <| Dp 17 E2 (QP.pick_t rfl rfl rfl) <| Dn <| hk3 _ _ <| Zt <| Zs fun _ hk5 => Sg 0 E3 <| Zl hk5 <| Run.ret <| Je E2 ⟨by rw [show checkB p = false by simp_all [checkB]]; rfl, rfl⟩
  ·refine Dp 7 E2 (QP.pick_f rfl rfl rfl) <| Dp 8 E2 (Zm E2) <| Dy 9 E3 (Za E2 f44_0) <| Dz 10 E3 (Z0 E2 g32 (Prefix.sub_a _)) ?_
   refine Dy 11 E3 (Za E2 f44_1) <| Dz 12 E3 (Z1 E2 g3 (Prefix.sub_len _)) ?_
   refine Dy 14 E3 (Za E2 f44_0) <| Dz 15 E3 (Z0 E2 g32 (Prefix.sub_a _)) ?_
   refine De 13 <| One.mk (o := _) (l := [15]) rfl Kr (Want.yes rfl rfl rfl rfl) rfl (ltN rfl) (Zc E2 ce162 TN (fun F' hle hr => masked_spec F' ((p).a) (((p).len).val) (by omega) (by omega))) Kr ?_
   rintro _ _ ⟨_, ⟨rfl, rfl⟩, rfl⟩
   refine ⟨?_, ?_⟩
   ·rw [FM]
    refine ⟨?_, NO⟩
    ·refine Look.app ?_
     exact Lk E3 (Z0 E2 g32 (Prefix.sub_a _))
   refine ?_
   refine J.app <| Dy 16 E3 (QP.neq_agg eq32 rfl rfl rfl) <| J.caseD (fun c19 => ?_) (fun c19 => ?_)
   ·exact Dp 17 E2 (QP.pick_f rfl rfl rfl) <| Dn <| hk3 _ _ <| Zt <| Zs fun _ hk6 => Sg 0 E3 <| Zl hk6 <| Run.ret <| Je E2 ⟨by rw [show checkB p = false by simp_all [checkB]]; rfl, rfl⟩
   ·exact Dp 17 E2 (QP.pick_f rfl rfl rfl) <| Dn <| hk3 _ _ <| Zf <| Run.skip <| hk2 _ _ <| Zs fun _ hk7 => Sg 0 E3 <| Zl hk7 <| Run.ret <| Je E2 ⟨by rw [show checkB p = true by simp_all [checkB]]; rfl, rfl⟩

theorem family_spec (F : Fr) (a : Bs 16) : Spec Tryz.prog 49 #[.agg (Bs.enc a).toArray] [] F (fun v S => v = .int .i64 (familyB a) ∧ S = []) := by
 refine Spec.intro (N := 6) (args := [.agg (Bs.enc a).toArray]) Tryz.func49 rfl rfl (by simp) ?_
 refine Zs fun _ hk1 => Ef 0 E2 (EF.boxA rfl rfl) ?_
 rintro _ _ ⟨b1, rfl, rfl⟩
 refine Sg 1 E3 <| Zl hk1 <| Run.seq fun _ hk2 => Zs fun _ hk3 => Qp 0 E2 (QP.sliceArrHi rfl rfl rfl Tryz.underlying32 z5 Og Og (by decide)) <| Qq 1 E2 (QR.bytesStr (xs := (a).l.take 12) rfl rfl Tryz.underlying75 Tryz.underlying5 Tryz.underlying9 (by first | exact Rd.own Rc | exact Rd.fr (by assumption)) (Bs.subTake (Bs.sub _) (by decide)) (Bs.takeLen _ (by decide))) ?_
 refine Qp 2 E2 (QP.eqlStr (b := [0, 0, 0, 0, 0, 0, 0, 0, 0, 0, 255, 255]) rfl rfl rfl) <| J.caseD (fun c5 => ?_) (fun c5 => ?_)
 ·exact Zl hk3 <| Zt <| Zs fun _ hk4 => Sg 0 E3 <| Zl hk4 <| Run.ret <| Je E2 ⟨by unfold familyB; rw [if_pos c5], rfl⟩
 ·exact Zl hk3 <| Zf <| Run.skip <| hk2 _ _ <| Zs fun _ hk5 => Sg 0 E3 <| Zl hk5 <| Run.ret <| Je E2 ⟨by unfold familyB; rw [if_neg c5], rfl⟩

theorem pfamily_spec (F : Fr) (p : Prefix) : Spec Tryz.prog 91 #[.agg (Prefix.enc p).toArray] [] F (fun v S => v = .int .i64 (pfamilyB p) ∧ S = []) := by
 refine Spec.intro (N := 9) (args := [.agg (Prefix.enc p).toArray]) Tryz.func91 rfl rfl (by simp) ?_
 refine Zs fun _ hk1 => Ef 0 E2 (EF.boxA rfl rfl) ?_
 rintro _ _ ⟨b1, rfl, rfl⟩
 refine Sg 1 E3 <| Zl hk1 <| Run.seq fun _ hk2 => Zs fun _ hk3 => Fa 0 E3 f44_1 <| Qq 1 E2 (Z1 E2 g3 (Prefix.sub_len _)) ?_
 refine Qp 2 E2 (Zb E3) <| J.caseD (fun c5 => ?_) (fun c5 => ?_)
 ·exact Zl hk3 <| Zt <| Zs fun _ hk4 => Sg 0 E3 <| Zl hk4 <| Run.ret <| Je E2 ⟨by unfold pfamilyB; rw [if_pos c5], rfl⟩
 ·refine Zl hk3 <| Zf <| Run.skip <| hk2 _ _ <| Zs fun _ hk5 => Fa 0 E3 f44_0 <| Qq 1 E2 (Z0 E2 g32 (Prefix.sub_a _)) ?_
  refine Ef 2 E2 (Zc E2 ce49 TN (fun F' hle hr => family_spec F' ((p).a))) ?_
  rintro _ _ ⟨_, ⟨rfl, rfl⟩, rfl⟩
  exact J.app <| Sg 3 E3 <| Zl hk5 <| Run.ret <| Je E2 ⟨by unfold pfamilyB; rw [if_neg c5], rfl⟩

theorem checkPair_spec (F : Fr) (p : Pair) : Spec Tryz.prog 123 #[.agg (Pair.enc p).toArray] [] F (fun v S => v = .int .i64 (ernoB (checkPairB p)) ∧ S = []) := by
 refine Spec.intro (N := 22) (args := [.agg (Pair.enc p).toArray]) Tryz.func123 rfl rfl (by simp) ?_
 refine Zs fun _ hk1 => Ef 0 E2 (EF.boxA rfl rfl) ?_
 rintro _ _ ⟨b1, rfl, rfl⟩
 refine Sg 1 E3 <| Zl hk1 <| Run.seq fun _ hk2 => Run.seq fun _ hk3 => Run.regionD (M := [0, 1, 3, 7, 15, 31, 63, 127, 255, 511, 1023, 2047, 4095, 8191, 2047, 18431, 65535, 131071, 262143]) (q := 450427) (r := 36930) Kr ?_
 refine Dp 0 E2 (Za E2 f46_0) <| Dr 1 E2 (Z0 E2 g44 (Pair.sub_dst _)) ?_
 refine De 2 <| Om [] rfl rfl (Zc E2 ce148 TN (fun F' hle hr => check_spec F' ((p).dst))) ?_
 rintro _ _ ⟨_, ⟨rfl, rfl⟩, rfl⟩
 refine N0 <| J.app <| Dp 3 E2 (Zq E3) <| J.caseD (fun c6 => ?_) (fun c6 => ?_)
 ·refine Dp 4 E2 (Zm E2) <| Ds 5 E3 <| Ds 6 E3 <| De 7 <| One.skipD (o := _) rfl Kr (Want.no rfl rfl rfl rfl) rfl (ltN rfl) ?_
  refine Ds 8 E3 <| Dp 9 E2 (QP.pick_t rfl rfl rfl) <| Dp 10 E2 (Zm E2) <| Ds 11 E3 <| Ds 12 E3 <| Ds 14 E3 <| Ds 15 E3 <| De 13 <| One.skipD (o := _) rfl Kr (Want.no rfl rfl rfl rfl) rfl (ltN rfl) ?_
  refine De 16 <| One.skipD (o := _) rfl Kr (Want.no rfl rfl rfl rfl) rfl (ltN rfl) ?_
  exact Ds 17 E3 <| Dp 18 E2 (QP.pick_t rfl rfl rfl) <| Dn <| hk3 _ _ <| Zt <| Zs fun _ hk4 => Sg 0 E3 <| Zl hk4 <| Run.ret <| Je E2 ⟨by rw [show checkPairB p = false by simp_all [checkPairB, ernoB]]; rfl, rfl⟩
 ·refine Dp 4 E2 (Zm E2) <| Dy 5 E3 (Za E2 f46_1) <| Dz 6 E3 (Z0 E2 g44 (Pair.sub_src _)) ?_
  refine De 7 <| One.mk (o := _) (l := []) rfl Kr (Want.yes rfl rfl rfl rfl) rfl (ltN rfl) (Zc E2 ce148 TN (fun F' hle hr => check_spec F' ((p).src))) Kr ?_
  rintro _ _ ⟨_, ⟨rfl, rfl⟩, rfl⟩
  refine N0 <| J.app <| Dy 8 E3 (Zq E3) <| J.caseD (fun c11 => ?_) (fun c11 => ?_)
  ·refine Dp 9 E2 (QP.pick_f rfl rfl rfl) <| Dp 10 E2 (Zm E2) <| Ds 11 E3 <| Ds 12 E3 <| Ds 14 E3 <| Ds 15 E3 <| De 13 <| One.skipD (o := _) rfl Kr (Want.no rfl rfl rfl rfl) rfl (ltN rfl) ?_
   refine De 16 <| One.skipD (o := _) rfl Kr (Want.no rfl rfl rfl rfl) rfl (ltN rfl) ?_
   exact Ds 17 E3 <| Dp 18 E2 (QP.pick_t rfl rfl rfl) <| Dn <| hk3 _ _ <| Zt <| Zs fun _ hk5 => Sg 0 E3 <| Zl hk5 <| Run.ret <| Je E2 ⟨by rw [show checkPairB p = false by simp_all [checkPairB, ernoB]]; rfl, rfl⟩
  ·refine Dp 9 E2 (QP.pick_f rfl rfl rfl) <| Dp 10 E2 (Zm E2) <| Dy 11 E3 (Za E2 f46_0) <| Dz 12 E3 (Z0 E2 g44 (Pair.sub_dst _)) ?_
   refine Dy 14 E3 (Za E2 f46_1) <| Dz 15 E3 (Z0 E2 g44 (Pair.sub_src _)) ?_
   refine De 13 <| One.mk (o := _) (l := [15]) rfl Kr (Want.yes rfl rfl rfl rfl) rfl (ltN rfl) (Zc E2 ce91 TN (fun F' hle hr => pfamily_spec F' ((p).dst))) Kr ?_
   rintro _ _ ⟨_, ⟨rfl, rfl⟩, rfl⟩
   refine ⟨?_, ?_⟩
   ·rw [FM]
    refine ⟨?_, NO⟩
    ·refine Look.app ?_
     exact Lk E3 (Z0 E2 g44 (Pair.sub_src _))
   refine ?_
   refine J.app <| De 16 <| One.mk (o := _) (l := []) rfl Kr (Want.yes rfl rfl rfl rfl) rfl (ltN rfl) (Zc E2 ce91 TN (fun F' hle hr => pfamily_spec F' ((p).src))) Kr ?_
   rintro _ _ ⟨_, ⟨rfl, rfl⟩, rfl⟩
   refine N0 <| J.app <| Dy 17 E3 (Zq E3) <| J.caseD (fun c20 => ?_) (fun c20 => ?_)
   ·exact Dp 18 E2 (QP.pick_f rfl rfl rfl) <| Dn <| hk3 _ _ <| Zt <| Zs fun _ hk6 => Sg 0 E3 <| Zl hk6 <| Run.ret <| Je E2 ⟨by rw [show checkPairB p = false by simp_all [checkPairB, ernoB]]; rfl, rfl⟩
   ·exact Dp 18 E2 (QP.pick_f rfl rfl rfl) <| Dn <| hk3 _ _ <| Zf <| Run.skip <| hk2 _ _ <| Zs fun _ hk7 => Sg 0 E3 <| Zl hk7 <| Run.ret <| Je E2 ⟨by rw [show checkPairB p = true by simp_all [checkPairB, ernoB]]; rfl, rfl⟩

@[reducible] def fp (b : Nat) : Value := .pointer (some ⟨b, 0, none⟩)
theorem mixedT : Tryz.prog.follows .mixedOrders = true := by kernel_rfl
section
variable {P : Program} {N : Nat} {G : Env} {S : List HProp} {F : Fr} {o : Oper} {t t' e : TypeId} {x y y2 : Operand} {z : Nat}
/-- A part of a slice, its bounds said as they are wanted. -/
theorem QP.sliceCutN {a : Option Addr} {n c i j m : Nat} {yi yj : Int} (ho : o.op = .slice t x (some y) (some y2) none) (hx : opv G x = some (.slice a n c)) (hy : opv G y = some (.int .i64 yi)) (hy2 : opv G y2 = some (.int .i64 yj))
   (hu : P.underlying t = some (.slice e)) (hz : Sz P e z) (e1 : yi = i) (e2 : yj = j) (hij : i ≤ j) (hj : j ≤ c) (hm : m = j - i) : QP P N G S F o (.slice (slOff a c i z) m (c - i)) := by
 subst e1 e2 hm
 have := QP.sliceLoHi (N := N) (S := S) (F := F) ho hx hy hy2 hu hz (by omega) (by omega) (by omega)
 simpa using this
theorem ArgSl.cut {α : Type} {enc : α → List Value} {a : Option Addr} {c i j : Nat} {xs : List α} (hl : ∀ x, (enc x).length = z) (h : ArgSl F a z enc xs) (hij : i ≤ j) (hj : j ≤ xs.length) (hc : xs.length ≤ c) : ArgSl F (slOff a c i z) z enc ((xs.take j).drop i) := fun h0 => by
 rw [List.length_drop, List.length_take] at h0
 obtain ⟨b, off, rfl, l, ty, fz, h1, h2⟩ := h (by omega)
 refine ⟨b, off + i * z, by unfold slOff; rw [if_neg (by omega)]; simp [add_lit], l, ty, fz, h1, h2.trans ?_⟩
 have e : xs = xs.take i ++ ((xs.take j).drop i ++ xs.drop j) := by
   have e1 : xs.take j = xs.take i ++ (xs.take j).drop i := by
     conv => lhs; rw [← List.take_append_drop i (xs.take j)]
     rw [List.take_take, show min i j = i by omega]
   conv => lhs; rw [← List.take_append_drop j xs, e1]
   rw [List.append_assoc]
 refine ⟨(xs.take i).flatMap enc, (xs.drop j).flatMap enc, ?_, ?_, flatMap_len hl _⟩
 · conv => lhs; rw [e]
   simp only [List.flatMap_append, List.append_assoc]
 · rw [flatMap_len hl, List.length_take, Nat.min_eq_left (by omega)]
theorem res_tmp3 {fn : Func} {t u r : Nat} {v x w0 : Value} (h : fn.results = #[.tmp t, .tmp u, .tmp r]) (hv : lk G t = some v) (hx : lk G u = some x) (hw : lk G r = some w0) : J N G S F fun a w => (results fn a.tmps).run P w = .ok (.tuple #[v, x, w0]) w := fun a w s => by
 have h1 := s.slots t v hv
 have h2 := s.slots u x hx
 have h3 := s.slots r w0 hw
 simp [results, h, h1, h2, h3, Sem.run, pure]
def or32 (m n : Int) : Int := ((BitVec.ofInt 32 m ||| BitVec.ofInt 32 n).toNat : Int)
theorem wrap32_bv (b : BitVec 32) : IntKind.u32.wrap (b.toNat : Int) = (b.toNat : Int) := by
 have h3 := b.isLt
 generalize b.toNat = k at h3 ⊢
 unfold IntKind.wrap
 have h4 : (IntKind.u32.bits : Nat) = 32 := rfl
 simp only [h4, show IntKind.u32.signed = false from rfl]
 simp
 omega
theorem bits_or32 (a b : Int) : Op.intBits .or .u32 a b = pure (.int .u32 (or32 a b)) := by
 have h : IntKind.u32.wrap ((BitVec.ofInt 32 a ||| BitVec.ofInt 32 b).toNat : Int) = or32 a b := wrap32_bv _
 unfold Op.intBits
 exact congrArg (fun n => (pure (Value.int .u32 n) : Sem Value)) h
theorem QP.or32 {m n : Int} (ho : o.op = .binOp .or t x y t') (hx : opv G x = some (.int .u32 m)) (hy : opv G y = some (.int .u32 n)) : QP P N G S F o (.int .u32 (or32 m n)) := fun ac w s w' => by
 unfold execOp
 simp [ho, s.eval hx, s.eval hy, eqGuard_at_int, binOp, bits_or32]
theorem QP.shl32 {yk : IntKind} {m n : Int} (ho : o.op = .binOp .shl t x y t') (hx : opv G x = some (.int .u32 m)) (hy : opv G y = some (.int yk n)) (h0 : 0 ≤ n) (h1 : n ≤ 32) : QP P N G S F o (.int .u32 (IntKind.u32.wrap (m * 2 ^ n.toNat))) := fun ac w s w' => by
 unfold execOp; simp [ho, s.eval hx, s.eval hy, eqGuard_at_int, binOp, shift_shl_u32 (h₀ := h0) (h₁ := h1)]
end
theorem wrap_u32 {n : Int} (h0 : 0 ≤ n) (h1 : n < 4294967296) : IntKind.u32.wrap n = n := by
 unfold IntKind.wrap
 simp only [show (IntKind.u32.bits : Nat) = 32 from rfl, show IntKind.u32.signed = false from rfl]
 simp; omega
theorem wrap_u8 {n : Int} (h0 : 0 ≤ n) (h1 : n < 256) : IntKind.u8.wrap n = n := by
 unfold IntKind.wrap
 simp only [show (IntKind.u8.bits : Nat) = 8 from rfl, show IntKind.u8.signed = false from rfl]
 simp; omega
theorem or_byte {k : Nat} {c : UInt8} (h : k < 16777216) : or32 (IntKind.u32.wrap ((k : Int) * 2 ^ (8 : Int).toNat)) (IntKind.u32.wrap (c.toNat : Int)) = ((k * 256 + c.toNat : Nat) : Int) := by
 have hc := c.toNat_lt
 rw [show ((k : Int) * 2 ^ (8 : Int).toNat) = ((k * 256 : Nat) : Int) by rw [show (2 : Int) ^ (8 : Int).toNat = 256 from rfl]; omega, wrap_u32 (by omega) (by omega), wrap_u32 (by omega) (by omega)]
 unfold or32
 congr 1
 rw [BitVec.toNat_or, BitVec.ofInt_natCast, BitVec.ofInt_natCast, BitVec.toNat_ofNat, BitVec.toNat_ofNat, Nat.mod_eq_of_lt (by omega), Nat.mod_eq_of_lt (by omega)]
 have := Nat.shiftLeft_add_eq_or_of_lt (i := 8) (b := c.toNat) (by omega) k
 rw [Nat.shiftLeft_eq] at this
 exact this.symm
/-! ### A reader of bytes -/
/-- What is left, and whether it failed. -/
structure Rs where
 l : List UInt8
 e : Int
def rdTake (r : Rs) (n : Int) : List UInt8 × Rs :=
 if r.e ≠ 0 then ([], r) else if n < 0 then ([], ⟨r.l, 2⟩) else if n > r.l.length then ([], ⟨r.l, 3⟩) else (r.l.take n.toNat, ⟨r.l.drop n.toNat, 0⟩)
def numN (bs : List UInt8) : Nat := bs.foldl (fun n c => n * 256 + c.toNat) 0
theorem numN_succ {bs : List UInt8} {i : Nat} {c : UInt8} (h : bs[i]? = some c) : numN (bs.take (i + 1)) = numN (bs.take i) * 256 + c.toNat := by
 unfold numN
 rw [take_succ_get h, List.foldl_append]
 rfl
theorem numN_lt : ∀ (i : Nat) (bs : List UInt8), i ≤ bs.length → numN (bs.take i) < 256 ^ i
 | 0, bs, _ => by simp [numN]
 | i + 1, bs, h => by
   have hc : bs[i]? = some bs[i] := List.getElem?_eq_getElem (by omega)
   rw [numN_succ hc, Nat.pow_succ]
   have := numN_lt i bs (by omega)
   have := (bs[i]).toNat_lt
   omega
theorem rdTake_len (r : Rs) (n : Int) : ((rdTake r n).1.length : Int) ≤ max n 0 ∧ (rdTake r n).2.l.length ≤ r.l.length := by
 unfold rdTake
 split
 · simp; omega
 · split
   · simp; omega
   · split
     · simp; omega
     · simp only [List.length_take, List.length_drop]; omega
structure RZ where
 a : Option Addr
 c : Nat
 p : List UInt8
 at_ : Nat
 spot : Int
structure RdI (z : RZ) (r : Rs) : Prop where
 rest : z.p.drop z.at_ = r.l
 le : z.at_ ≤ z.p.length
 few : z.p.length ≤ 1000000
@[reducible] def RdO (b : Nat) (r : Rs) (z : RZ) : List HProp := [blk b (OctetReader.enc ⟨⟨z.a, z.p.length, z.c⟩, z.at_, r.e, z.spot⟩) 216, slA 5 1 bytE (.slice z.a z.p.length z.c) z.p]
def RdA (b : Nat) (r : Rs) : HProp := ex fun z => stars (fact (RdI z r) :: RdO b r z)
theorem rd_mk {b : Nat} {r : Rs} {z : RZ} (h : RdI z r) (p : PH) (hp : stars (RdO b r z) p) : RdA b r p :=
 ⟨z, PH.none, p, PH.none_disj p, (PH.none_union p).symm, ⟨h, rfl⟩, hp⟩
theorem rd_open {b : Nat} {r : Rs} (p : PH) (h : RdA b r p) : ∃ z, stars (fact (RdI z r) :: RdO b r z) p := h
theorem Spec.factT {f : FuncId} {args : Array Value} {F : Fr} {p : Prop} {S : List HProp} {R : Value → List HProp → Prop} (h : p → Spec Tryz.prog f args S F R) : Spec Tryz.prog f args (Slb.fact p :: S) F R := fun w s => by
 obtain ⟨hp, s'⟩ := s.fact
 exact h hp w s'
theorem Spec.rd {f : FuncId} {args : Array Value} {F : Fr} {b : Nat} {r : Rs} {R1 : Value → Rs → List HProp → Prop} {R : Value → List HProp → Prop}
   (h : ∀ z, RdI z r → Spec Tryz.prog f args (RdO b r z) F fun v S => ∃ r2 z2 T, R1 v r2 T ∧ RdI z2 r2 ∧ S = RdO b r2 z2 ++ T) (hR : ∀ v r2 T, R1 v r2 T → R v (RdA b r2 :: T)) : Spec Tryz.prog f args [RdA b r] F R := by
 refine Spec.open rd_open fun z => ?_
 refine Spec.factT fun hq => ?_
 refine Spec.post (h z hq) ?_
 rintro v S w ⟨r2, z2, T, h1, h2, rfl⟩ s
 exact ⟨_, hR v r2 T h1, Sat.pack (m := RdO b r2 z2) (r := T) s (rd_mk h2)⟩

theorem clone_spec (F : Fr) {a : Option Addr} {c : Nat} {xs : List UInt8} (hx : xs.length ≤ 1000000) (ha : ArgSl F a 1 bytE xs) : Spec Tryz.prog 107 #[.slice a xs.length c] [] F (fun v S => S = [slA 5 1 bytE v xs]) := by
 refine Spec.intro (N := 8) (args := [.slice a xs.length c]) Tryz.func107 rfl rfl (by simp) ?_
 refine Zs fun _ hk1 => Sg 0 E3 <| Zl hk1 <| Run.seq fun _ hk2 => Zs fun _ hk3 => Mv 0 E3 <| Qp 1 E2 (QP.sl_eq_nil rfl rfl rfl Tryz.underlying75) <| J.caseB (fun c4 => ?_) (fun c4 => ?_)
 ·refine Zl hk3 <| Zt <| Run.seq fun _ hk4 => Run.region ?_
  have hxn := ha.nilLen c4
  subst hxn
  refine J.addSl 5 1 bytE ?_
  exact Sg 0 E3 <| Zl hk4 <| Run.ret <| J.ends (res_tmp rfl rfl) Tk1 rfl
 ·refine Zl hk3 <| Zf <| Run.skip <| hk2 _ _ <| Zs fun _ hk5 => Ef 0 E2 (EF.buildSlice0 (enc := bytE) rfl Tryz.underlying75 z5 zero5 (by simp [Value.cells]) (by decide)) ?_
  rintro _ _ ⟨b5, rfl, rfl⟩
  refine Mv 1 E3 <| Ef 2 E2 (EF.appendArg (xs := ([] : List UInt8)) (ys := xs) el5 (fun _ => rfl) (fun _ => cell_one rfl) rfl rfl rfl Tryz.underlying75 Tryz.underlying75 rfl rfl Rc ha (by simp; omega)) ?_
  rintro sl7 _ rfl
  exact Sg 3 E3 <| Zl hk5 <| Run.ret <| J.ends (res_tmp rfl rfl) Tk1 rfl

theorem new0 (F : Fr) {a : Option Addr} {c : Nat} {xs : List UInt8} (hx : xs.length ≤ 1000000) (ha : ArgSl F a 1 bytE xs) : Spec Tryz.prog 70 #[.slice a xs.length c] [] F (fun v S => ∃ b a2 c2, v = fp b ∧ S = [blk b (OctetReader.enc ⟨⟨a2, xs.length, c2⟩, 0, 0, 0⟩) 216, slA 5 1 bytE (.slice a2 xs.length c2) xs]) := by
 refine Spec.intro (N := 7) (args := [.slice a xs.length c]) Tryz.func70 rfl rfl (by simp) ?_
 refine Zs fun _ hk1 => Sg 0 E3 <| Zl hk1 <| Zs fun _ hk2 => Mv 0 E3 <| Ef 1 E2 (Zc E2 ce107 TN (fun F' hle hr => clone_spec F' hx (ha.mono hle))) ?_
 rintro v4 _ ⟨_, rfl, rfl⟩
 refine J.app <| Sq.slCase (v := v4) (xs := xs) Rc (fun a4 c4 hv4 hh4 => ?_)
 subst hv4
 refine Qp 2 E2 (QP.build (l := OctetReader.enc ⟨⟨a4, xs.length, c4⟩, 0, 0, 0⟩) rfl st216 rfl (by exact ⟨rfl, trivial⟩) rfl) <| Ef 3 E2 (EF.boxA rfl rfl) ?_
 rintro _ _ ⟨b6, rfl, rfl⟩
 exact Sg 4 E3 <| Zl hk2 <| Run.ret <| J.ends (res_tmp rfl rfl) Tk2 ⟨b6, a4, c4, rfl, rfl⟩

theorem newR (F : Fr) {a : Option Addr} {c : Nat} {xs : List UInt8} (hx : xs.length ≤ 1000000) (ha : ArgSl F a 1 bytE xs) : Spec Tryz.prog 70 #[.slice a xs.length c] [] F fun v S => ∃ b, v = fp b ∧ S = [RdA b ⟨xs, 0⟩] :=
 (new0 F hx ha).post fun v S w ⟨b, a2, c2, h1, h2⟩ s => ⟨_, ⟨b, h1, rfl⟩, by
   subst h2
   exact Sat.pack (m := RdO b ⟨xs, 0⟩ ⟨a2, c2, xs, 0, 0⟩) (r := []) s (rd_mk ⟨rfl, Nat.zero_le _, hx⟩)⟩

theorem left0 (F : Fr) {b : Nat} {a : Option Addr} {c : Nat} {p : List UInt8} {at_ : Nat} {e spot : Int} (hat : at_ ≤ p.length) (hp : p.length ≤ 1000000)  : Spec Tryz.prog 74 #[fp b] [blk b (OctetReader.enc ⟨⟨a, p.length, c⟩, at_, e, spot⟩) 216, slA 5 1 bytE (.slice a p.length c) p] F (fun v S => v = .int .i64 ((p.length : Int) - at_) ∧ S = [blk b (OctetReader.enc ⟨⟨a, p.length, c⟩, at_, e, spot⟩) 216, slA 5 1 bytE (.slice a p.length c) p]) := by
 refine Spec.intro (N := 15) (args := [fp b]) Tryz.func74 rfl rfl (by simp) ?_
 refine Zs fun _ hk1 => Sg 0 E3 <| Zl hk1 <| Run.seq fun _ hk2 => Zs fun _ hk3 => Mv 0 E3 <| Qp 1 E2 (QP.ptr_eq_nil rfl rfl rfl Tryz.underlying175) <| Zl hk3 <| Zf <| Run.skip <| hk2 _ _ <| Run.seq fun _ hk4 => Run.regionD (M := [0, 1, 3, 7, 15, 0, 32, 96, 224, 511, 1023]) (q := 1023) (r := 264) Kr ?_
 refine Dp 0 E2 (Zm E2) <| Dp 1 E2 (Zn E2) <| Dp 2 E2 (Za E2 f216_0) <| Dr 3 E2 (QR.load1 (v := .slice _ p.length _) rfl rfl g75 (OctetReader.sub_p _)) ?_
 refine Dp 4 E2 (QP.len rfl rfl rfl Tryz.underlying75) <| Dp 5 E2 (Zm E2) <| Dp 6 E2 (Zn E2) <| Dp 7 E2 (Za E2 f216_1) <| Dr 8 E2 (Z1 E2 g3 (OctetReader.sub_at_ _)) ?_
 refine Dp 9 E2 (QP.sub64 rfl rfl rfl Og Og) <| De 10 <| Om [] rfl rfl ((Zg E2).eff) ?_
 rintro _ _ ⟨rfl, rfl⟩
 exact N0 <| Dn <| hk4 _ _ <| Run.ret <| J.ends (res_tmp rfl rfl) Tk2 ⟨rfl, rfl⟩

theorem why0 (F : Fr) {b : Nat} {a : Option Addr} {c : Nat} {p : List UInt8} {at_ : Nat} {e spot : Int} (hat : at_ ≤ p.length) (hp : p.length ≤ 1000000)  : Spec Tryz.prog 73 #[fp b] [blk b (OctetReader.enc ⟨⟨a, p.length, c⟩, at_, e, spot⟩) 216, slA 5 1 bytE (.slice a p.length c) p] F (fun v S => v = .tuple #[.int .i64 e, .int .i64 spot] ∧ S = [blk b (OctetReader.enc ⟨⟨a, p.length, c⟩, at_, e, spot⟩) 216, slA 5 1 bytE (.slice a p.length c) p]) := by
 refine Spec.intro (N := 14) (args := [fp b]) Tryz.func73 rfl rfl (by simp) ?_
 refine Zs fun _ hk1 => Sg 0 E3 <| Sg 1 E3 <| Zl hk1 <| Run.seq fun _ hk2 => Zs fun _ hk3 => Mv 0 E3 <| Qp 1 E2 (QP.ptr_eq_nil rfl rfl rfl Tryz.underlying175) <| Zl hk3 <| Zf <| Run.skip <| hk2 _ _ <| Run.seq fun _ hk4 => Run.regionM (M := [0, 1, 3, 7, 0, 16, 48, 112, 15, 511]) (q := 255) (r := 136) mixedT Kr ?_
 refine Dp 0 E2 (Zm E2) <| Dp 1 E2 (Zn E2) <| Dp 2 E2 (Za E2 f216_2) <| Dr 3 E2 (Z1 E2 g37 (OctetReader.sub_err _)) ?_
 refine Dp 4 E2 (Zm E2) <| Dp 5 E2 (Zn E2) <| Dp 6 E2 (Za E2 f216_3) <| Dr 7 E2 (Z1 E2 g3 (OctetReader.sub_spot _)) ?_
 refine De 8 <| Om [7] rfl rfl ((Zg E2).eff) ?_
 rintro _ _ ⟨rfl, rfl⟩
 refine ⟨?_, ?_⟩
 ·rw [FM]
  refine ⟨?_, NO⟩
  ·exact Lk E3 (Z1 E2 g3 (OctetReader.sub_spot _))
 refine ?_
 refine De 9 <| Om [] rfl rfl ((Zg E2).eff) ?_
 rintro _ _ ⟨rfl, rfl⟩
 exact N0 <| Dn <| hk4 _ _ <| Run.ret <| J.ends (res_tmp2 rfl rfl rfl) Tk2 ⟨rfl, rfl⟩

theorem left_spec (F : Fr) {b : Nat} {r : Rs} : Spec Tryz.prog 74 #[fp b] [RdA b r] F fun v S => v = .int .i64 r.l.length ∧ S = [RdA b r] := by
 refine Spec.rd (R1 := fun v r2 T => v = .int .i64 r.l.length ∧ r2 = r ∧ T = []) (fun z hq => ?_) fun v r2 T ⟨h1, h2, h3⟩ => ⟨h1, by rw [h2, h3]⟩
 refine (left0 F hq.le hq.few).mono fun v S ⟨h1, h2⟩ => ⟨r, z, [], ⟨?_, rfl, rfl⟩, hq, h2⟩
 rw [h1, ← hq.rest, List.length_drop]
 have := hq.le
 congr 1
 omega
theorem why_spec (F : Fr) {b : Nat} {r : Rs} : Spec Tryz.prog 73 #[fp b] [RdA b r] F fun v S => ∃ spot, v = .tuple #[.int .i64 r.e, .int .i64 spot] ∧ S = [RdA b r] := by
 refine Spec.rd (R1 := fun v r2 T => ∃ spot, v = .tuple #[.int .i64 r.e, .int .i64 spot] ∧ r2 = r ∧ T = []) (fun z hq => ?_) fun v r2 T ⟨s, h1, h2, h3⟩ => ⟨s, h1, by rw [h2, h3]⟩
 exact (why0 F hq.le hq.few).mono fun v S ⟨h1, h2⟩ => ⟨r, z, [], ⟨_, h1, rfl, rfl⟩, hq, h2⟩
end Slb
