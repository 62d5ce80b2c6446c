/- J2: a part of the proof that a law of this package holds for every input; no condition. -/
import Derived.Test.YtfokodhfjdhdaaaGreatM2
import Derived.Test.YtfokodhfjdhdaaaGreatJ1
namespace Slb
open Go Go.Proofs
set_option maxRecDepth 20000
theorem fail0 (F : Fr) {b : Nat} {a : Option Addr} {c : Nat} {p : List UInt8} {at_ : Nat} {spot : Int} (e2 : Int) (he : e2 ≠ 0) : Spec Tryz.prog 109 #[fp b, .int .i64 e2] [blk b (OctetReader.enc ⟨⟨a, p.length, c⟩, at_, 0, spot⟩) 216, slA 5 1 bytE (.slice a p.length c) p] F (fun v S => v = .tuple #[] ∧ S = [blk b (OctetReader.enc ⟨⟨a, p.length, c⟩, at_, e2, (at_ : Int)⟩) 216, slA 5 1 bytE (.slice a p.length c) p]) := by
 refine Spec.intro (N := 28) (args := [fp b, .int .i64 e2]) Tryz.func109 rfl rfl (by simp) ?_
 refine Zs fun _ hk1 => Mv 0 E3 <| Qp 1 E2 (QP.ptr_ne_nil rfl rfl rfl Tryz.underlying175) <| Mv 2 E3 <| Ym 3 E4 <| Yp 4 E3 (Zn E2) <| Yf 5 E4 f216_2 <| Yq 6 E3 (Z1 E2 g37 (OctetReader.sub_err _)) ?_
 refine Yp 7 E3 (Ze E3) <| J.decT (rfl) ?_
 refine Pt 8 E4 <| Mv 9 E3 <| Ym 10 E4 <| Yp 11 E3 (Zq E3) <| J.decT (he) ?_
 refine Pt 12 E4 <| Zl hk1 <| Zt <| Run.region <| Mv 0 E3 <| Mv 1 E3 <| Mv 2 E3 <| Mv 3 E3 <| Qp 4 E2 (Zn E2) <| Fa 5 E3 f216_1 <| Qq 6 E2 (Z1 E2 g3 (OctetReader.sub_at_ _)) ?_
 refine Qp 7 E2 (Zn E2) <| Fa 8 E3 f216_2 <| Ac 9 rfl (EF.store rfl rfl rfl z37 (OctetReader.set_err _ _) (cell_one rfl)) ?_
 rintro _ _ rfl
 refine Qp 10 E2 (Zn E2) <| Fa 11 E3 f216_3 <| Ac 12 rfl (EF.store rfl rfl rfl z3 (OctetReader.set_spot _ _) (cell_one rfl)) ?_
 rintro _ _ rfl
 exact Sq.nil <| J.ends (res_none rfl) Tk2 ⟨rfl, rfl⟩

theorem bytes0 (F : Fr) {b : Nat} {a : Option Addr} {c : Nat} {p : List UInt8} {at_ : Nat} {e spot : Int} (hat : at_ ≤ p.length) (hp : p.length ≤ 1000000) (n : Int)  : Spec Tryz.prog 75 #[fp b, .int .i64 n] [blk b (OctetReader.enc ⟨⟨a, p.length, c⟩, at_, e, spot⟩) 216, slA 5 1 bytE (.slice a p.length c) p] F (fun v S => ∃ (at2 : Nat) (e2 spot2 : Int), S = [blk b (OctetReader.enc ⟨⟨a, p.length, c⟩, at2, e2, spot2⟩) 216, slA 5 1 bytE (.slice a p.length c) p, slA 5 1 bytE v (rdTake ⟨p.drop at_, e⟩ n).1] ∧ p.drop at2 = (rdTake ⟨p.drop at_, e⟩ n).2.l ∧ at2 ≤ p.length ∧ e2 = (rdTake ⟨p.drop at_, e⟩ n).2.e) := by
 refine Spec.intro (N := 51) (args := [fp b, .int .i64 n]) Tryz.func75 rfl rfl (by simp) ?_
 refine Zs fun _ hk1 => J.slCase (v := .slice a p.length c) (xs := p) Rc (fun a1 c1 hv1 hh => ?_)
 cases hv1
 have hcl := hh.le
 refine Sg 0 E3 <| Zl hk1 <| Run.seq fun _ hk2 => Run.block <| Zs fun _ hk3 => Mv 0 E3 <| Qp 1 E2 (QP.ptr_eq_nil rfl rfl rfl Tryz.underlying175) <| Mv 2 E3 <| Ym 3 E4 <| Yp 4 E3 (Zn E2) <| Yf 5 E4 f216_2 <| Yq 6 E3 (Z1 E2 g37 (OctetReader.sub_err _)) ?_
 refine Yp 7 E3 (Zq E3) <| J.caseD (fun c13 => ?_) (fun c13 => ?_)
 ·refine Pf 8 E4 <| Sg 9 E3 <| Zl hk3 <| Zt <| Zs fun _ hk4 => J.addSl 5 1 bytE ?_
  refine Sg 0 E3 <| Zl hk4 <| Run.ret ?_
  have hT : (rdTake ⟨p.drop at_, e⟩ n) = ([], ⟨p.drop at_, e⟩) := if_pos c13
  rw [hT]
  exact J.ends (res_tmp rfl rfl) Tk3 ⟨at_, e, spot, rfl, rfl, hat, rfl⟩
 ·refine Pf 8 E4 <| Sg 9 E3 <| Zl hk3 <| Zf <| Zs fun _ hk5 => Mv 0 E3 <| Qp 1 E2 (Zb E3) <| J.caseD (fun c17 => ?_) (fun c17 => ?_)
  ·refine Sg 2 E3 <| Zl hk5 <| Zt <| Run.seq fun _ hk6 => Run.region ?_
   obtain rfl : e = 0 := Classical.not_not.1 c13
   refine Mv 0 E3 <| Ef 1 E2 (Zc E2 ce109 Tk2 (fun F' hle hr => fail0 F' 2 (by decide))) ?_
   rintro _ _ ⟨_, ⟨rfl, rfl⟩, rfl⟩
   refine J.app <| Zl hk6 <| Zs fun _ hk7 => J.addSl 5 1 bytE ?_
   refine Sg 0 E3 <| Zl hk7 <| Run.ret ?_
   have hT : rdTake ⟨p.drop at_, 0⟩ n = ([], ⟨p.drop at_, 2⟩) := by unfold rdTake; rw [if_neg (by simp), if_pos c17]
   rw [hT]
   exact J.ends (res_tmp rfl rfl) Tk3 ⟨at_, 2, at_, rfl, rfl, hat, rfl⟩
  ·refine Sg 2 E3 <| Zl hk5 <| Zf <| Zs fun _ hk8 => Mv 0 E3 <| Mv 1 E3 <| Ef 2 E2 (Zc E2 ce74 Tk2 (fun F' hle hr => left0 F' hat hp)) ?_
   rintro _ _ ⟨_, ⟨rfl, rfl⟩, rfl⟩
   refine J.app <| Qp 3 E2 (QP.gtr rfl rfl rfl) <| J.caseD (fun c24 => ?_) (fun c24 => ?_)
   ·refine Sg 4 E3 <| Zl hk8 <| Zt <| Run.seq fun _ hk9 => Run.region ?_
    obtain rfl : e = 0 := Classical.not_not.1 c13
    refine Mv 0 E3 <| Ef 1 E2 (Zc E2 ce109 Tk2 (fun F' hle hr => fail0 F' 3 (by decide))) ?_
    rintro _ _ ⟨_, ⟨rfl, rfl⟩, rfl⟩
    refine J.app <| Zl hk9 <| Zs fun _ hk10 => J.addSl 5 1 bytE ?_
    refine Sg 0 E3 <| Zl hk10 <| Run.ret ?_
    have hT : rdTake ⟨p.drop at_, 0⟩ n = ([], ⟨p.drop at_, 3⟩) := by unfold rdTake; rw [if_neg (by simp), if_neg c17, if_pos (by simp only [List.length_drop]; omega)]
    rw [hT]
    exact J.ends (res_tmp rfl rfl) Tk3 ⟨at_, 3, at_, rfl, rfl, hat, rfl⟩
   ·refine Sg 4 E3 <| Zl hk8 <| Zf <| Run.skip <| hk2 _ _ <| Run.seq fun _ hk11 => Run.region ?_
    obtain rfl : e = 0 := Classical.not_not.1 c13
    obtain ⟨k, rfl⟩ : ∃ k : Nat, n = (k : Int) := ⟨n.toNat, by omega⟩
    have hcut : (p.take (at_ + k)).drop at_ = (p.drop at_).take k := by rw [List.drop_take]; congr 1; omega
    refine Mv 0 E3 <| Qp 1 E2 (Zn E2) <| Fa 2 E3 f216_1 <| Qq 3 E2 (Z1 E2 g3 (OctetReader.sub_at_ _)) ?_
    refine Mv 4 E3 <| Qp 5 E2 (QP.add64 rfl rfl rfl Og Og) <| Qp 6 E2 (Zn E2) <| Fa 7 E3 f216_1 <| Ac 8 rfl (EF.store rfl rfl rfl z3 (OctetReader.set_at_ _ _) (cell_one rfl)) ?_
    rintro _ _ rfl
    refine Zl hk11 <| Run.seq fun _ hk12 => Run.regionD (M := [0, 1, 3, 7, 0, 16, 48, 112, 0, 496, 0, 1024, 3072, 7168, 16383, 32767, 65535]) (q := 32767) (r := 8328) Kr ?_
    refine Dp 0 E2 (Zm E2) <| Dp 1 E2 (Zn E2) <| Dp 2 E2 (Za E2 f216_0) <| Dr 3 E2 (QR.load1 (v := .slice _ p.length _) rfl rfl g75 (OctetReader.sub_p _)) ?_
    refine Dp 4 E2 (Zm E2) <| Dp 5 E2 (Zn E2) <| Dp 6 E2 (Za E2 f216_1) <| Dr 7 E2 (Z1 E2 g3 (OctetReader.sub_at_ _)) ?_
    refine Dp 8 E2 (Zm E2) <| Dp 9 E2 (QP.sub64 rfl rfl rfl Og Og) <| Dp 10 E2 (Zm E2) <| Dp 11 E2 (Zn E2) <| Dp 12 E2 (Za E2 f216_1) <| Dr 13 E2 (Z1 E2 g3 (OctetReader.sub_at_ _)) ?_
    refine Dp 14 E2 (QP.sliceCutN (i := at_) (j := at_ + k) (m := ((p.take (at_ + k)).drop at_).length) rfl rfl rfl rfl Tryz.underlying75 z5 (by show ((at_ : Int) + (k : Int)) - (k : Int) = (at_ : Int); omega) (by show ((at_ : Int) + (k : Int)) = ((at_ + k : Nat) : Int); omega) (by omega) (by show at_ + k ≤ c; omega) (by simp only [List.length_drop, List.length_take]; omega)) <| De 15 <| Om [] rfl rfl (Zc E2 ce107 Tk1 (fun F' hle hr => Spec.lendSl (enc := bytE) (e := 5) (z := 1) (xs := p) (fun _ => rfl) (fun F2 _ h2 => clone_spec F2 (xs := (p.take (at_ + k)).drop at_) (by simp only [List.length_drop, List.length_take]; omega) (h2.cut (fun _ => rfl) (by omega) (by omega) hcl)))) ?_
    rintro v50 _ ⟨_, ⟨_, rfl, rfl⟩, rfl⟩
    refine N0 <| J.app <| De 16 <| Om [] rfl rfl ((Zg E2).eff) ?_
    rintro v50 _ ⟨rfl, rfl⟩
    refine N0 <| Dn <| hk12 _ _ <| Run.ret ?_
    have hT : rdTake ⟨p.drop at_, 0⟩ (k : Int) = ((p.drop at_).take k, ⟨(p.drop at_).drop k, 0⟩) := by unfold rdTake; rw [if_neg (by simp), if_neg (by omega), if_neg (by simp only [List.length_drop]; omega)]; rfl
    rw [hT, hcut]
    exact J.ends (res_tmp rfl rfl) Tk3 ⟨at_ + k, 0, spot, rfl, (List.drop_drop ..).symm, by omega, rfl⟩

theorem bytes_spec (F : Fr) {b : Nat} {r : Rs} (n : Int) : Spec Tryz.prog 75 #[fp b, .int .i64 n] [RdA b r] F fun v S => S = [RdA b (rdTake r n).2, slA 5 1 bytE v (rdTake r n).1] := by
 refine Spec.rd (R1 := fun v r2 T => r2 = (rdTake r n).2 ∧ T = [slA 5 1 bytE v (rdTake r n).1]) (fun z hq => ?_) fun v r2 T ⟨h1, h2⟩ => by rw [h1, h2]
 have er : (⟨z.p.drop z.at_, r.e⟩ : Rs) = r := by rw [hq.rest]
 refine (bytes0 F hq.le hq.few n).mono ?_
 rw [er]
 rintro v S ⟨at2, e2, spot2, h1, h2, h3, h4⟩
 exact ⟨_, ⟨z.a, z.c, z.p, at2, spot2⟩, _, ⟨rfl, rfl⟩, ⟨h2, h3, hq.few⟩, by rw [h1, h4]; rfl⟩

theorem num_spec (F : Fr) {b : Nat} {r : Rs} (k : Nat) (hk : k ≤ 4) : Spec Tryz.prog 108 #[fp b, .int .i64 k] [RdA b r] F (fun v S => v = .int .u32 (numN (rdTake r k).1 : Nat) ∧ S = [RdA b (rdTake r k).2]) := by
 have hlen := (rdTake_len r k).1
 refine Spec.intro (N := 22) (args := [fp b, .int .i64 k]) Tryz.func108 rfl rfl (by simp) ?_
 refine Zs fun _ hk1 => Sg 0 E3 <| Zl hk1 <| Run.seq fun _ hk2 => Zs fun _ hk3 => Mv 0 E3 <| Mv 1 E3 <| Ef 2 E2 (Zc E2 ce75 Tk1 (fun F' hle hr => bytes_spec F' (r := r) k)) ?_
 rintro v9 _ ⟨_, rfl, rfl⟩
 refine J.app ?_
 generalize hB : (rdTake r k).1 = B at hlen ⊢
 refine Sq.slCase (v := v9) (xs := B) Rc (fun a9 c9 hv9 hh9 => ?_)
 subst hv9
 refine Qp 3 E2 (QP.len rfl rfl rfl Tryz.underlying75) <| Mv 4 E3 <| Zl hk3 <| Run.block <| Run.loop1 (fun (i : Nat) => i ≤ B.length) (fun i => .cons 4 (.int .u32 (numN (B.take i) : Nat)) (.cons 9 (.slice a9 B.length c9) (.cons 10 (.int .i64 B.length) (.cons 11 (.int .i64 i) (.nil))))) (fun i => [RdA b (rdTake r k).2, slA 5 1 bytE (.slice a9 B.length c9) B]) (fun i => B.length - i) (0) (Nat.zero_le _) ?_ ?_
 ·exact fun _ j => J.envJ (J.keep Tk2 j) ⟨rfl, rfl, rfl, rfl, trivial⟩
 rintro i hile kl4 hl4
 refine Zs fun _ hk5 => Qp 0 E2 (Zb E3) <| J.caseD (fun c12 => ?_) (fun c12 => ?_)
 ·refine Zl hk5 <| Run.seq fun _ hk6 => Zt <| Run.skip <| hk6 _ _ <| Run.seq fun _ hk7 => Run.block <| Run.seq fun _ hk8 => Run.region ?_
  obtain ⟨x, hi⟩ : ∃ x, B[i]? = some x := ⟨_, GE (by omega)⟩
  obtain ⟨b0, o0, rfl⟩ := hh9.get (by omega)
  have hlt := numN_lt i B (by omega)
  have hlt2 : numN (B.take i) < 16777216 := Nat.lt_of_lt_of_le hlt (Nat.le_trans (Nat.pow_le_pow_right (by decide) (show i ≤ 3 by omega)) (by decide))
  have hsu := numN_succ hi
  refine Qp 0 E2 (QP.indexAddr rfl rfl rfl Tryz.underlying75 z5 Og Og) <| Qq 1 E2 (QR.loadSl1 (ev := byteV) rfl rfl g5 (SlAt.own (fun _ => rfl) Rc) hi) ?_
  refine Sg 2 E3 <| Zl hk8 <| Run.region <| Mv 0 E3 <| Qp 1 E2 (QP.shl32 rfl rfl rfl (by decide) (by decide)) <| Mv 2 E3 <| Qp 3 E2 (QP.conv rfl rfl Tryz.underlying5 Tryz.underlying101) <| Qp 4 E2 (QP.or32 rfl rfl rfl) ?_
  rw [or_byte hlt2, ← hsu]
  exact Sg 5 E3 <| Zl hk7 <| Run.region <| Qp 0 E2 (QP.add64 rfl rfl rfl Og Og) <| Mv 1 E3 <| Sq.nil <| J.envJ (J.keep Tk2 (hl4 (i + 1) (by omega) (by omega))) ⟨rfl, rfl, rfl, rfl, trivial⟩
 ·exact Zl hk5 <| Run.seq fun _ hk9 => Zf <| Run.exit rfl <| hk2 _ _ <| Zs fun _ hk10 => Mv 0 E3 <| Sg 1 E3 <| Zl hk10 <| Run.ret <| J.ends (res_tmp rfl rfl) Tk1 ⟨by rw [List.take_of_length_le (by omega), hB], rfl⟩

def u8F (r : Rs) : Int := (numN (rdTake r 1).1 : Nat)
def u16F (r : Rs) : Int := (numN (rdTake r 2).1 : Nat)
def u32F (r : Rs) : Int := (numN (rdTake r 4).1 : Nat)
theorem numN_le (bs : List UInt8) : numN bs < 256 ^ bs.length := by
 have := numN_lt bs.length bs (Nat.le_refl _)
 rwa [List.take_length] at this
theorem numR (r : Rs) (k : Nat) : numN (rdTake r k).1 < 256 ^ k := by
 refine Nat.lt_of_lt_of_le (numN_le _) (Nat.pow_le_pow_right (by decide) ?_)
 have := (rdTake_len r k).1
 omega
theorem u8_range (r : Rs) : 0 ≤ u8F r ∧ u8F r < 256 := by
 have := numR r 1
 unfold u8F
 simp only [Nat.pow_one] at this
 exact ⟨by omega, by show ((numN (rdTake r ((1 : Nat) : Int)).1 : Nat) : Int) < 256; omega⟩
theorem u16_range (r : Rs) : 0 ≤ u16F r ∧ u16F r < 65536 := by
 have := numR r 2
 unfold u16F
 rw [show (256 : Nat) ^ 2 = 65536 by decide] at this
 exact ⟨by omega, by show ((numN (rdTake r ((2 : Nat) : Int)).1 : Nat) : Int) < 65536; omega⟩
theorem wrap_u16r {n : Int} (h0 : 0 ≤ n) (h1 : n < 65536) : IntKind.u16.wrap n = n := by
 unfold IntKind.wrap
 simp only [show (IntKind.u16.bits : Nat) = 16 from rfl, show IntKind.u16.signed = false from rfl]
 simp; omega

theorem u8_spec (F : Fr) {b : Nat} {r : Rs} : Spec Tryz.prog 71 #[fp b] [RdA b r] F (fun v S => v = .int .u8 (u8F r) ∧ S = [RdA b (rdTake r 1).2]) := by
 refine Spec.intro (N := 6) (args := [fp b]) Tryz.func71 rfl rfl (by simp) ?_
 refine Zs fun _ hk1 => Sg 0 E3 <| Zl hk1 <| Zs fun _ hk2 => Mv 0 E3 <| Ef 1 E2 (Zc E2 ce108 Tk1 (fun F' hle hr => num_spec F' (r := r) 1 (by decide))) ?_
 rintro _ _ ⟨_, ⟨rfl, rfl⟩, rfl⟩
 refine J.app <| Qp 2 E2 (QP.conv rfl rfl Tryz.underlying101 Tryz.underlying5) ?_
 rw [show IntKind.u8.wrap ((numN (rdTake r ((1 : Nat) : Int)).1 : Nat) : Int) = u8F r from wrap_u8 (u8_range r).1 (u8_range r).2]
 exact Sg 3 E3 <| Zl hk2 <| Run.ret <| J.ends (res_tmp rfl rfl) Tk1 ⟨rfl, rfl⟩

theorem u16_spec (F : Fr) {b : Nat} {r : Rs} : Spec Tryz.prog 72 #[fp b] [RdA b r] F (fun v S => v = .int .u16 (u16F r) ∧ S = [RdA b (rdTake r 2).2]) := by
 refine Spec.intro (N := 6) (args := [fp b]) Tryz.func72 rfl rfl (by simp) ?_
 refine Zs fun _ hk1 => Sg 0 E3 <| Zl hk1 <| Zs fun _ hk2 => Mv 0 E3 <| Ef 1 E2 (Zc E2 ce108 Tk1 (fun F' hle hr => num_spec F' (r := r) 2 (by decide))) ?_
 rintro _ _ ⟨_, ⟨rfl, rfl⟩, rfl⟩
 refine J.app <| Qp 2 E2 (QP.conv rfl rfl Tryz.underlying101 Tryz.underlying40) ?_
 rw [show IntKind.u16.wrap ((numN (rdTake r ((2 : Nat) : Int)).1 : Nat) : Int) = u16F r from wrap_u16r (u16_range r).1 (u16_range r).2]
 exact Sg 3 E3 <| Zl hk2 <| Run.ret <| J.ends (res_tmp rfl rfl) Tk1 ⟨rfl, rfl⟩

theorem u32_spec (F : Fr) {b : Nat} {r : Rs} : Spec Tryz.prog 112 #[fp b] [RdA b r] F (fun v S => v = .int .u32 (u32F r) ∧ S = [RdA b (rdTake r 4).2]) := by
 refine Spec.intro (N := 5) (args := [fp b]) Tryz.func112 rfl rfl (by simp) ?_
 refine Zs fun _ hk1 => Sg 0 E3 <| Zl hk1 <| Zs fun _ hk2 => Mv 0 E3 <| Ef 1 E2 (Zc E2 ce108 Tk1 (fun F' hle hr => num_spec F' (r := r) 4 (by decide))) ?_
 rintro _ _ ⟨_, ⟨rfl, rfl⟩, rfl⟩
 exact J.app <| Sg 2 E3 <| Zl hk2 <| Run.ret <| J.ends (res_tmp rfl rfl) Tk1 ⟨rfl, rfl⟩

theorem rest_spec (F : Fr) {b : Nat} {r : Rs} : Spec Tryz.prog 76 #[fp b] [RdA b r] F (fun v S => S = [RdA b (rdTake r r.l.length).2, slA 5 1 bytE v (rdTake r r.l.length).1]) := by
 refine Spec.intro (N := 7) (args := [fp b]) Tryz.func76 rfl rfl (by simp) ?_
 refine Zs fun _ hk1 => Sg 0 E3 <| Zl hk1 <| Zs fun _ hk2 => Mv 0 E3 <| Mv 1 E3 <| Ef 2 E2 (Zc E2 ce74 Tk1 (fun F' hle hr => left_spec F' (r := r))) ?_
 rintro _ _ ⟨_, ⟨rfl, rfl⟩, rfl⟩
 refine J.app <| Ef 3 E2 (Zc E2 ce75 Tk1 (fun F' hle hr => bytes_spec F' (r := r) r.l.length)) ?_
 rintro v6 _ ⟨_, rfl, rfl⟩
 exact J.app <| Sg 4 E3 <| Zl hk2 <| Run.ret <| J.ends (res_tmp rfl rfl) Tk2 rfl
end Slb
