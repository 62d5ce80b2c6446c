/- Q2: a part of the proof that a law of this package holds for every input; no condition. -/
import Derived.Test.YtmolpkkkndopcaaM2
import Derived.Test.YtmolpkkkndopcaaQ1
namespace Slb
open Go Go.Proofs
set_option maxRecDepth 20000
theorem fail0 (F : Fr) {b : Nat} {a : Option Addr} {c : Nat} {p : List UInt8} {at_ : Nat} {spot : Int} (e2 : Int) (he : e2 ≠ 0) : Spec Try.prog 60 #[fp b, .int .i64 e2] [blk b (OctetReader.enc ⟨⟨a, p.length, c⟩, at_, 0, spot⟩) 120, slA 5 1 bytE (.slice a p.length c) p] F (fun v S => v = .tuple #[] ∧ S = [blk b (OctetReader.enc ⟨⟨a, p.length, c⟩, at_, e2, (at_ : Int)⟩) 120, slA 5 1 bytE (.slice a p.length c) p]) := by
 refine Spec.intro (N := 28) (args := [fp b, .int .i64 e2]) Try.func60 rfl rfl (by simp) ?_
 refine Run.seq fun k1 hk1 => Run.region ?_
 show Sq _ _ _ [0, 1, 2, 3, 4, 5, 6, 7, 8, 9, 10, 11, 12] _ _ _ _
 refine Mv 0 rfl rfl rfl <| Qp 1 rfl rfl (QP.ptr_ne_nil rfl rfl rfl Try.underlying90) <| Mv 2 rfl rfl rfl <| Ym 3 rfl rfl rfl rfl <| Yp 4 rfl rfl rfl (QP.nilCheck rfl rfl) <| Yf 5 rfl rfl rfl rfl f120_2 <| Yq 6 rfl rfl rfl (QR.load1 rfl rfl g28 (OctetReader.sub_err _)) ?_
 refine Yp 7 rfl rfl rfl (QP.eql rfl rfl rfl) <| J.decT (rfl) ?_
 refine Pt 8 rfl rfl rfl rfl <| Mv 9 rfl rfl rfl <| Ym 10 rfl rfl rfl rfl <| Yp 11 rfl rfl rfl (QP.neq rfl rfl rfl) <| J.decT (he) ?_
 refine Pt 12 rfl rfl rfl rfl <| Sq.nil <| hk1 _ _ <| Run.cond_t rfl <| Run.region ?_
 show Sq _ _ _ [0, 1, 2, 3, 4, 5, 6, 7, 8, 9, 10, 11, 12] _ _ _ _
 refine Mv 0 rfl rfl rfl <| Mv 1 rfl rfl rfl <| Mv 2 rfl rfl rfl <| Mv 3 rfl rfl rfl <| Qp 4 rfl rfl (QP.nilCheck rfl rfl) <| Fa 5 rfl rfl rfl f120_1 <| Qq 6 rfl rfl (QR.load1 rfl rfl g3 (OctetReader.sub_at_ _)) ?_
 refine Qp 7 rfl rfl (QP.nilCheck rfl rfl) <| Fa 8 rfl rfl rfl f120_2 <| Ac 9 rfl (EF.store rfl rfl rfl z28 (OctetReader.set_err _ _) (cell_one rfl)) ?_
 rintro _ _ rfl
 refine Qp 10 rfl rfl (QP.nilCheck rfl rfl) <| Fa 11 rfl rfl rfl f120_3 <| Ac 12 rfl (EF.store rfl rfl rfl z3 (OctetReader.set_spot _ _) (cell_one rfl)) ?_
 rintro _ _ rfl
 refine Sq.nil ?_
 exact J.ends (res_none rfl) Tk2 ⟨rfl, rfl⟩

theorem bytes0 (F : Fr) {b : Nat} {a : Option Addr} {c : Nat} {p : List UInt8} {at_ : Nat} {e spot : Int} (hat : at_ ≤ p.length) (hp : p.length ≤ 1000000) (n : Int)  : Spec Try.prog 34 #[fp b, .int .i64 n] [blk b (OctetReader.enc ⟨⟨a, p.length, c⟩, at_, e, spot⟩) 120, slA 5 1 bytE (.slice a p.length c) p] F (fun v S => ∃ (at2 : Nat) (e2 spot2 : Int), S = [blk b (OctetReader.enc ⟨⟨a, p.length, c⟩, at2, e2, spot2⟩) 120, slA 5 1 bytE (.slice a p.length c) p, slA 5 1 bytE v (rdTake ⟨p.drop at_, e⟩ n).1] ∧ p.drop at2 = (rdTake ⟨p.drop at_, e⟩ n).2.l ∧ at2 ≤ p.length ∧ e2 = (rdTake ⟨p.drop at_, e⟩ n).2.e) := by
 refine Spec.intro (N := 51) (args := [fp b, .int .i64 n]) Try.func34 rfl rfl (by simp) ?_
 refine Run.seq fun k1 hk1 => Run.region ?_
 show Sq _ _ _ [0] _ _ _ _
 refine J.slCase (v := .slice a p.length c) (xs := p) Rc (fun a1 c1 hv1 hh => ?_)
 cases hv1
 have hcl := hh.le
 refine Sg 0 rfl rfl rfl <| Sq.nil <| hk1 _ _ <| Run.seq fun k2 hk2 => Run.block <| Run.seq fun k3 hk3 => Run.region ?_
 show Sq _ _ _ [0, 1, 2, 3, 4, 5, 6, 7, 8, 9] _ _ _ _
 refine Mv 0 rfl rfl rfl <| Qp 1 rfl rfl (QP.ptr_eq_nil rfl rfl rfl Try.underlying90) <| Mv 2 rfl rfl rfl <| Ym 3 rfl rfl rfl rfl <| Yp 4 rfl rfl rfl (QP.nilCheck rfl rfl) <| Yf 5 rfl rfl rfl rfl f120_2 <| Yq 6 rfl rfl rfl (QR.load1 rfl rfl g28 (OctetReader.sub_err _)) ?_
 refine Yp 7 rfl rfl rfl (QP.neq rfl rfl rfl) <| J.caseD (fun c13 => ?_) (fun c13 => ?_)
 ·refine Pf 8 rfl rfl rfl rfl <| Sg 9 rfl rfl rfl <| Sq.nil <| hk3 _ _ <| Run.cond_t rfl <| Run.seq fun k4 hk4 => Run.region ?_
  show Sq _ _ _ [0] _ _ _ _
  refine J.addSl 5 1 bytE ?_
  refine Sg 0 rfl rfl rfl <| Sq.nil <| hk4 _ _ <| Run.ret ?_
  have hT : (rdTake ⟨p.drop at_, e⟩ n) = ([], ⟨p.drop at_, e⟩) := if_pos c13
  rw [hT]
  exact J.ends (res_tmp rfl rfl) Tk3 ⟨at_, e, spot, rfl, rfl, hat, rfl⟩
 ·refine Pf 8 rfl rfl rfl rfl <| Sg 9 rfl rfl rfl <| Sq.nil <| hk3 _ _ <| Run.cond_f rfl <| Run.seq fun k5 hk5 => Run.region ?_
  show Sq _ _ _ [0, 1, 2] _ _ _ _
  refine Mv 0 rfl rfl rfl <| Qp 1 rfl rfl (QP.lss rfl rfl rfl) <| J.caseD (fun c17 => ?_) (fun c17 => ?_)
  ·refine Sg 2 rfl rfl rfl <| Sq.nil <| hk5 _ _ <| Run.cond_t rfl <| Run.seq fun k6 hk6 => Run.region ?_
   show Sq _ _ _ [0, 1] _ _ _ _
   obtain rfl : e = 0 := Classical.not_not.1 c13
   refine Mv 0 rfl rfl rfl <| Ef 1 rfl rfl (EF.call rfl ce60 rfl Tk2 (fun F' hle hr => fail0 F' 2 (by decide))) ?_
   rintro _ _ ⟨_, ⟨rfl, rfl⟩, rfl⟩
   refine J.app ?_
   refine Sq.nil <| hk6 _ _ <| Run.seq fun k7 hk7 => Run.region ?_
   show Sq _ _ _ [0] _ _ _ _
   refine J.addSl 5 1 bytE ?_
   refine Sg 0 rfl rfl rfl <| Sq.nil <| hk7 _ _ <| Run.ret ?_
   have hT : rdTake ⟨p.drop at_, 0⟩ n = ([], ⟨p.drop at_, 2⟩) := by unfold rdTake; rw [if_neg (by simp), if_pos c17]
   rw [hT]
   exact J.ends (res_tmp rfl rfl) Tk3 ⟨at_, 2, at_, rfl, rfl, hat, rfl⟩
  ·refine Sg 2 rfl rfl rfl <| Sq.nil <| hk5 _ _ <| Run.cond_f rfl <| Run.seq fun k8 hk8 => Run.region ?_
   show Sq _ _ _ [0, 1, 2, 3, 4] _ _ _ _
   refine Mv 0 rfl rfl rfl <| Mv 1 rfl rfl rfl <| Ef 2 rfl rfl (EF.call rfl ce33 rfl Tk2 (fun F' hle hr => left0 F' hat hp)) ?_
   rintro _ _ ⟨_, ⟨rfl, rfl⟩, rfl⟩
   refine J.app ?_
   refine Qp 3 rfl rfl (QP.gtr rfl rfl rfl) <| J.caseD (fun c24 => ?_) (fun c24 => ?_)
   ·refine Sg 4 rfl rfl rfl <| Sq.nil <| hk8 _ _ <| Run.cond_t rfl <| Run.seq fun k9 hk9 => Run.region ?_
    show Sq _ _ _ [0, 1] _ _ _ _
    obtain rfl : e = 0 := Classical.not_not.1 c13
    refine Mv 0 rfl rfl rfl <| Ef 1 rfl rfl (EF.call rfl ce60 rfl Tk2 (fun F' hle hr => fail0 F' 3 (by decide))) ?_
    rintro _ _ ⟨_, ⟨rfl, rfl⟩, rfl⟩
    refine J.app ?_
    refine Sq.nil <| hk9 _ _ <| Run.seq fun k10 hk10 => Run.region ?_
    show Sq _ _ _ [0] _ _ _ _
    refine J.addSl 5 1 bytE ?_
    refine Sg 0 rfl rfl rfl <| Sq.nil <| hk10 _ _ <| Run.ret ?_
    have hT : rdTake ⟨p.drop at_, 0⟩ n = ([], ⟨p.drop at_, 3⟩) := by unfold rdTake; rw [if_neg (by simp), if_neg c17, if_pos (by simp only [List.length_drop]; omega)]
    rw [hT]
    exact J.ends (res_tmp rfl rfl) Tk3 ⟨at_, 3, at_, rfl, rfl, hat, rfl⟩
   ·refine Sg 4 rfl rfl rfl <| Sq.nil <| hk8 _ _ <| Run.cond_f rfl <| Run.skip <| hk2 _ _ <| Run.seq fun k11 hk11 => Run.region ?_
    show Sq _ _ _ [0, 1, 2, 3, 4, 5, 6, 7, 8] _ _ _ _
    obtain rfl : e = 0 := Classical.not_not.1 c13
    obtain ⟨k, rfl⟩ : ∃ k : Nat, n = (k : Int) := ⟨n.toNat, by omega⟩
    have hcut : (p.take (at_ + k)).drop at_ = (p.drop at_).take k := by rw [List.drop_take]; congr 1; omega
    refine Mv 0 rfl rfl rfl <| Qp 1 rfl rfl (QP.nilCheck rfl rfl) <| Fa 2 rfl rfl rfl f120_1 <| Qq 3 rfl rfl (QR.load1 rfl rfl g3 (OctetReader.sub_at_ _)) ?_
    refine Mv 4 rfl rfl rfl <| Qp 5 rfl rfl (QP.add64 rfl rfl rfl Og Og) <| Qp 6 rfl rfl (QP.nilCheck rfl rfl) <| Fa 7 rfl rfl rfl f120_1 <| Ac 8 rfl (EF.store rfl rfl rfl z3 (OctetReader.set_at_ _ _) (cell_one rfl)) ?_
    rintro _ _ rfl
    refine Sq.nil <| hk11 _ _ <| Run.seq fun k12 hk12 => Run.regionD (M := [0, 1, 3, 7, 0, 16, 48, 112, 0, 496, 0, 1024, 3072, 7168, 16383, 32767, 65535]) (q := 32767) (r := 8328) Kr ?_
    refine Dp 0 rfl rfl (QP.move rfl rfl) <| Dp 1 rfl rfl (QP.nilCheck rfl rfl) <| Dp 2 rfl rfl (QP.fieldAddr rfl rfl f120_0) <| Dr 3 rfl rfl (QR.load1 (v := .slice _ p.length _) rfl rfl g34 (OctetReader.sub_p _)) ?_
    refine Dp 4 rfl rfl (QP.move rfl rfl) <| Dp 5 rfl rfl (QP.nilCheck rfl rfl) <| Dp 6 rfl rfl (QP.fieldAddr rfl rfl f120_1) <| Dr 7 rfl rfl (QR.load1 rfl rfl g3 (OctetReader.sub_at_ _)) ?_
    refine Dp 8 rfl rfl (QP.move rfl rfl) <| Dp 9 rfl rfl (QP.sub64 rfl rfl rfl Og Og) <| Dp 10 rfl rfl (QP.move rfl rfl) <| Dp 11 rfl rfl (QP.nilCheck rfl rfl) <| Dp 12 rfl rfl (QP.fieldAddr rfl rfl f120_1) <| Dr 13 rfl rfl (QR.load1 rfl rfl g3 (OctetReader.sub_at_ _)) ?_
    refine Dp 14 rfl rfl (QP.sliceCutN (i := at_) (j := at_ + k) (m := ((p.take (at_ + k)).drop at_).length) rfl rfl rfl rfl Try.underlying34 z5 (by show ((at_ : Int) + (k : Int)) - (k : Int) = (at_ : Int); omega) (by show ((at_ : Int) + (k : Int)) = ((at_ + k : Nat) : Int); omega) (by omega) (by show at_ + k ≤ c; omega) (by simp only [List.length_drop, List.length_take]; omega)) <| De 15 <| Om [] rfl rfl (EF.call rfl ce58 rfl Tk1 (fun F' hle hr => Spec.lendSl (enc := bytE) (e := 5) (z := 1) (xs := p) (fun _ => rfl) (fun F2 _ h2 => clone_spec F2 (xs := (p.take (at_ + k)).drop at_) (by simp only [List.length_drop, List.length_take]; omega) (h2.cut (fun _ => rfl) (by omega) (by omega) hcl)))) ?_
    rintro v50 _ ⟨_, ⟨_, rfl, rfl⟩, rfl⟩
    refine ⟨fun _ h => (by cases h), ?_⟩
    refine J.app ?_
    refine De 16 <| Om [] rfl rfl ((QP.assign rfl rfl).eff) ?_
    rintro v50 _ ⟨rfl, rfl⟩
    refine ⟨fun _ h => (by cases h), ?_⟩
    refine Dn <| hk12 _ _ <| Run.ret ?_
    have hT : rdTake ⟨p.drop at_, 0⟩ (k : Int) = ((p.drop at_).take k, ⟨(p.drop at_).drop k, 0⟩) := by unfold rdTake; rw [if_neg (by simp), if_neg (by omega), if_neg (by simp only [List.length_drop]; omega)]; rfl
    rw [hT, hcut]
    exact J.ends (res_tmp rfl rfl) Tk3 ⟨at_ + k, 0, spot, rfl, (List.drop_drop ..).symm, by omega, rfl⟩

theorem bytes_spec (F : Fr) {b : Nat} {r : Rs} (n : Int) : Spec Try.prog 34 #[fp b, .int .i64 n] [RdA b r] F fun v S => S = [RdA b (rdTake r n).2, slA 5 1 bytE v (rdTake r n).1] := by
  refine Spec.rd (R1 := fun v r2 T => r2 = (rdTake r n).2 ∧ T = [slA 5 1 bytE v (rdTake r n).1]) (fun z hq => ?_) fun v r2 T ⟨h1, h2⟩ => by rw [h1, h2]
  have er : (⟨z.p.drop z.at_, r.e⟩ : Rs) = r := by rw [hq.rest]
  refine (bytes0 F hq.le hq.few n).mono ?_
  rw [er]
  rintro v S ⟨at2, e2, spot2, h1, h2, h3, h4⟩
  exact ⟨_, ⟨z.a, z.c, z.p, at2, spot2⟩, _, ⟨rfl, rfl⟩, ⟨h2, h3, hq.few⟩, by rw [h1, h4]; rfl⟩

theorem num_spec (F : Fr) {b : Nat} {r : Rs} (k : Nat) (hk : k ≤ 4) : Spec Try.prog 59 #[fp b, .int .i64 k] [RdA b r] F (fun v S => v = .int .u32 (numN (rdTake r k).1 : Nat) ∧ S = [RdA b (rdTake r k).2]) := by
 have hlen := (rdTake_len r k).1
 refine Spec.intro (N := 22) (args := [fp b, .int .i64 k]) Try.func59 rfl rfl (by simp) ?_
 refine Run.seq fun k1 hk1 => Run.region ?_
 show Sq _ _ _ [0] _ _ _ _
 refine Sg 0 rfl rfl rfl <| Sq.nil <| hk1 _ _ <| Run.seq fun k2 hk2 => Run.seq fun k3 hk3 => Run.region ?_
 show Sq _ _ _ [0, 1, 2, 3, 4] _ _ _ _
 refine Mv 0 rfl rfl rfl <| Mv 1 rfl rfl rfl <| Ef 2 rfl rfl (EF.call rfl ce34 rfl Tk1 (fun F' hle hr => bytes_spec F' (r := r) k)) ?_
 rintro v9 _ ⟨_, rfl, rfl⟩
 refine J.app ?_
 generalize hB : (rdTake r k).1 = B at hlen ⊢
 refine Sq.slCase (v := v9) (xs := B) Rc (fun a9 c9 hv9 hh9 => ?_)
 subst hv9
 refine Qp 3 rfl rfl (QP.len rfl rfl rfl Try.underlying34) <| Mv 4 rfl rfl rfl <| Sq.nil <| hk3 _ _ <| Run.block <| Run.loop1 (fun (i : Nat) => i ≤ B.length) (fun i => .cons 4 (.int .u32 (numN (B.take i) : Nat)) (.cons 9 (.slice a9 B.length c9) (.cons 10 (.int .i64 B.length) (.cons 11 (.int .i64 i) (.nil))))) (fun i => [RdA b (rdTake r k).2, slA 5 1 bytE (.slice a9 B.length c9) B]) (fun i => B.length - i) (0) (Nat.zero_le _) ?_ ?_
 ·exact fun _ j => J.envJ (J.keep Tk2 j) ⟨rfl, rfl, rfl, rfl, trivial⟩
 rintro i hile kl4 hl4
 refine Run.seq fun k5 hk5 => Run.region ?_
 show Sq _ _ _ [0] _ _ _ _
 refine Qp 0 rfl rfl (QP.lss rfl rfl rfl) <| J.caseD (fun c12 => ?_) (fun c12 => ?_)
 ·refine Sq.nil <| hk5 _ _ <| Run.seq fun k6 hk6 => Run.cond_t rfl <| Run.skip <| hk6 _ _ <| Run.seq fun k7 hk7 => Run.block <| Run.seq fun k8 hk8 => Run.region ?_
  show Sq _ _ _ [0, 1, 2] _ _ _ _
  obtain ⟨x, hi⟩ : ∃ x, B[i]? = some x := ⟨_, List.getElem?_eq_getElem (by omega)⟩
  obtain ⟨b0, o0, rfl⟩ := hh9.get (by omega)
  have hlt := numN_lt i B (by omega)
  have hlt2 : numN (B.take i) < 16777216 := Nat.lt_of_lt_of_le hlt (Nat.le_trans (Nat.pow_le_pow_right (by decide) (show i ≤ 3 by omega)) (by decide))
  have hsu := numN_succ hi
  refine Qp 0 rfl rfl (QP.indexAddr rfl rfl rfl Try.underlying34 z5 Og Og) <| Qq 1 rfl rfl (QR.loadSl1 (ev := byteV) rfl rfl g5 (SlAt.own (fun _ => rfl) Rc) hi) ?_
  refine Sg 2 rfl rfl rfl <| Sq.nil <| hk8 _ _ <| Run.region ?_
  show Sq _ _ _ [0, 1, 2, 3, 4, 5] _ _ _ _
  refine Mv 0 rfl rfl rfl <| Qp 1 rfl rfl (QP.shl32 rfl rfl rfl (by decide) (by decide)) <| Mv 2 rfl rfl rfl <| Qp 3 rfl rfl (QP.conv rfl rfl Try.underlying5 Try.underlying105) <| Qp 4 rfl rfl (QP.or32 rfl rfl rfl) ?_
  rw [or_byte hlt2, ← hsu]
  refine Sg 5 rfl rfl rfl <| Sq.nil <| hk7 _ _ <| Run.region ?_
  show Sq _ _ _ [0, 1] _ _ _ _
  refine Qp 0 rfl rfl (QP.add64 rfl rfl rfl Og Og) <| Mv 1 rfl rfl rfl <| Sq.nil ?_
  exact J.envJ (J.keep Tk2 (hl4 (i + 1) (by omega) (by omega))) ⟨rfl, rfl, rfl, rfl, trivial⟩
 ·refine Sq.nil <| hk5 _ _ <| Run.seq fun k9 hk9 => Run.cond_f rfl <| Run.exit rfl ?_
  refine hk2 _ _ <| Run.seq fun k10 hk10 => Run.region ?_
  show Sq _ _ _ [0, 1] _ _ _ _
  refine Mv 0 rfl rfl rfl <| Sg 1 rfl rfl rfl <| Sq.nil <| hk10 _ _ <| Run.ret ?_
  exact J.ends (res_tmp rfl rfl) Tk1 ⟨by rw [List.take_of_length_le (by omega), hB], rfl⟩

def u8F (r : Rs) : Int := (numN (rdTake r 1).1 : Nat)
def u16F (r : Rs) : Int := (numN (rdTake r 2).1 : Nat)
def u32F (r : Rs) : Int := (numN (rdTake r 4).1 : Nat)
theorem numN_le (bs : List UInt8) : numN bs < 256 ^ bs.length := by
  have := numN_lt bs.length bs (Nat.le_refl _)
  rwa [List.take_length] at this
theorem numR (r : Rs) (k : Nat) : numN (rdTake r k).1 < 256 ^ k := by
  refine Nat.lt_of_lt_of_le (numN_le _) (Nat.pow_le_pow_right (by decide) ?_)
  have := (rdTake_len r k).1
  omega
theorem u8_range (r : Rs) : 0 ≤ u8F r ∧ u8F r < 256 := by
  have := numR r 1
  unfold u8F
  simp only [Nat.pow_one] at this
  exact ⟨by omega, by show ((numN (rdTake r ((1 : Nat) : Int)).1 : Nat) : Int) < 256; omega⟩
theorem u16_range (r : Rs) : 0 ≤ u16F r ∧ u16F r < 65536 := by
  have := numR r 2
  unfold u16F
  rw [show (256 : Nat) ^ 2 = 65536 by decide] at this
  exact ⟨by omega, by show ((numN (rdTake r ((2 : Nat) : Int)).1 : Nat) : Int) < 65536; omega⟩
theorem u32_range (r : Rs) : 0 ≤ u32F r ∧ u32F r < 4294967296 := by
  have := numR r 4
  unfold u32F
  rw [show (256 : Nat) ^ 4 = 4294967296 by decide] at this
  exact ⟨by omega, by show ((numN (rdTake r ((4 : Nat) : Int)).1 : Nat) : Int) < 4294967296; omega⟩
theorem wrap_u16r {n : Int} (h0 : 0 ≤ n) (h1 : n < 65536) : IntKind.u16.wrap n = n := by
  unfold IntKind.wrap
  simp only [show (IntKind.u16.bits : Nat) = 16 from rfl, show IntKind.u16.signed = false from rfl]
  simp; omega

theorem u8_spec (F : Fr) {b : Nat} {r : Rs} : Spec Try.prog 30 #[fp b] [RdA b r] F (fun v S => v = .int .u8 (u8F r) ∧ S = [RdA b (rdTake r 1).2]) := by
 refine Spec.intro (N := 6) (args := [fp b]) Try.func30 rfl rfl (by simp) ?_
 refine Run.seq fun k1 hk1 => Run.region ?_
 show Sq _ _ _ [0] _ _ _ _
 refine Sg 0 rfl rfl rfl <| Sq.nil <| hk1 _ _ <| Run.seq fun k2 hk2 => Run.region ?_
 show Sq _ _ _ [0, 1, 2, 3] _ _ _ _
 refine Mv 0 rfl rfl rfl <| Ef 1 rfl rfl (EF.call rfl ce59 rfl Tk1 (fun F' hle hr => num_spec F' (r := r) 1 (by decide))) ?_
 rintro _ _ ⟨_, ⟨rfl, rfl⟩, rfl⟩
 refine J.app ?_
 refine Qp 2 rfl rfl (QP.conv rfl rfl Try.underlying105 Try.underlying5) ?_
 rw [show IntKind.u8.wrap ((numN (rdTake r ((1 : Nat) : Int)).1 : Nat) : Int) = u8F r from wrap_u8 (u8_range r).1 (u8_range r).2]
 refine Sg 3 rfl rfl rfl <| Sq.nil <| hk2 _ _ <| Run.ret ?_
 exact J.ends (res_tmp rfl rfl) Tk1 ⟨rfl, rfl⟩

theorem u16_spec (F : Fr) {b : Nat} {r : Rs} : Spec Try.prog 31 #[fp b] [RdA b r] F (fun v S => v = .int .u16 (u16F r) ∧ S = [RdA b (rdTake r 2).2]) := by
 refine Spec.intro (N := 6) (args := [fp b]) Try.func31 rfl rfl (by simp) ?_
 refine Run.seq fun k1 hk1 => Run.region ?_
 show Sq _ _ _ [0] _ _ _ _
 refine Sg 0 rfl rfl rfl <| Sq.nil <| hk1 _ _ <| Run.seq fun k2 hk2 => Run.region ?_
 show Sq _ _ _ [0, 1, 2, 3] _ _ _ _
 refine Mv 0 rfl rfl rfl <| Ef 1 rfl rfl (EF.call rfl ce59 rfl Tk1 (fun F' hle hr => num_spec F' (r := r) 2 (by decide))) ?_
 rintro _ _ ⟨_, ⟨rfl, rfl⟩, rfl⟩
 refine J.app ?_
 refine Qp 2 rfl rfl (QP.conv rfl rfl Try.underlying105 Try.underlying37) ?_
 rw [show IntKind.u16.wrap ((numN (rdTake r ((2 : Nat) : Int)).1 : Nat) : Int) = u16F r from wrap_u16r (u16_range r).1 (u16_range r).2]
 refine Sg 3 rfl rfl rfl <| Sq.nil <| hk2 _ _ <| Run.ret ?_
 exact J.ends (res_tmp rfl rfl) Tk1 ⟨rfl, rfl⟩

theorem u32_spec (F : Fr) {b : Nat} {r : Rs} : Spec Try.prog 63 #[fp b] [RdA b r] F (fun v S => v = .int .u32 (u32F r) ∧ S = [RdA b (rdTake r 4).2]) := by
 refine Spec.intro (N := 5) (args := [fp b]) Try.func63 rfl rfl (by simp) ?_
 refine Run.seq fun k1 hk1 => Run.region ?_
 show Sq _ _ _ [0] _ _ _ _
 refine Sg 0 rfl rfl rfl <| Sq.nil <| hk1 _ _ <| Run.seq fun k2 hk2 => Run.region ?_
 show Sq _ _ _ [0, 1, 2] _ _ _ _
 refine Mv 0 rfl rfl rfl <| Ef 1 rfl rfl (EF.call rfl ce59 rfl Tk1 (fun F' hle hr => num_spec F' (r := r) 4 (by decide))) ?_
 rintro _ _ ⟨_, ⟨rfl, rfl⟩, rfl⟩
 refine J.app ?_
 refine Sg 2 rfl rfl rfl <| Sq.nil <| hk2 _ _ <| Run.ret ?_
 exact J.ends (res_tmp rfl rfl) Tk1 ⟨rfl, rfl⟩

theorem rest_spec (F : Fr) {b : Nat} {r : Rs} : Spec Try.prog 35 #[fp b] [RdA b r] F (fun v S => S = [RdA b (rdTake r r.l.length).2, slA 5 1 bytE v (rdTake r r.l.length).1]) := by
 refine Spec.intro (N := 7) (args := [fp b]) Try.func35 rfl rfl (by simp) ?_
 refine Run.seq fun k1 hk1 => Run.region ?_
 show Sq _ _ _ [0] _ _ _ _
 refine Sg 0 rfl rfl rfl <| Sq.nil <| hk1 _ _ <| Run.seq fun k2 hk2 => Run.region ?_
 show Sq _ _ _ [0, 1, 2, 3, 4] _ _ _ _
 refine Mv 0 rfl rfl rfl <| Mv 1 rfl rfl rfl <| Ef 2 rfl rfl (EF.call rfl ce33 rfl Tk1 (fun F' hle hr => left_spec F' (r := r))) ?_
 rintro _ _ ⟨_, ⟨rfl, rfl⟩, rfl⟩
 refine J.app ?_
 refine Ef 3 rfl rfl (EF.call rfl ce34 rfl Tk1 (fun F' hle hr => bytes_spec F' (r := r) r.l.length)) ?_
 rintro v6 _ ⟨_, rfl, rfl⟩
 refine J.app ?_
 refine Sg 4 rfl rfl rfl <| Sq.nil <| hk2 _ _ <| Run.ret ?_
 exact J.ends (res_tmp rfl rfl) Tk2 rfl
end Slb
