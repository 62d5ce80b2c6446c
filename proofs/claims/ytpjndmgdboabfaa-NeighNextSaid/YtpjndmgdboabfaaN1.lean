/- N1: a part of the proof that a law of this package holds for every input; no condition. -/
import Derived.Test.YtpjndmgdboabfaaC7
import Derived.Test.YtpjndmgdboabfaaM2
namespace Slb
open Go Go.Proofs
set_option maxRecDepth 20000
def popS : ByteArray := ⟨#[0, 1, 1, 2, 1, 2, 2, 3, 1, 2, 2, 3, 2, 3, 3, 4, 1, 2, 2, 3, 2, 3, 3, 4, 2, 3, 3, 4, 3, 4, 4, 5, 1, 2, 2, 3, 2, 3, 3, 4, 2, 3, 3, 4, 3, 4, 4, 5, 2, 3, 3, 4, 3, 4, 4, 5, 3, 4, 4, 5, 4, 5, 5, 6, 1, 2, 2, 3, 2, 3, 3, 4, 2, 3, 3, 4, 3, 4, 4, 5, 2, 3, 3, 4, 3, 4, 4, 5, 3, 4, 4, 5, 4, 5, 5, 6, 2, 3, 3, 4, 3, 4, 4, 5, 3, 4, 4, 5, 4, 5, 5, 6, 3, 4, 4, 5, 4, 5, 5, 6, 4, 5, 5, 6, 5, 6, 6, 7, 1, 2, 2, 3, 2, 3, 3, 4, 2, 3, 3, 4, 3, 4, 4, 5, 2, 3, 3, 4, 3, 4, 4, 5, 3, 4, 4, 5, 4, 5, 5, 6, 2, 3, 3, 4, 3, 4, 4, 5, 3, 4, 4, 5, 4, 5, 5, 6, 3, 4, 4, 5, 4, 5, 5, 6, 4, 5, 5, 6, 5, 6, 6, 7, 2, 3, 3, 4, 3, 4, 4, 5, 3, 4, 4, 5, 4, 5, 5, 6, 3, 4, 4, 5, 4, 5, 5, 6, 4, 5, 5, 6, 5, 6, 6, 7, 3, 4, 4, 5, 4, 5, 5, 6, 4, 5, 5, 6, 5, 6, 6, 7, 4, 5, 5, 6, 5, 6, 6, 7, 5, 6, 6, 7, 6, 7, 7, 8]⟩
theorem popS_size : popS.size = 256 := by kernel_rfl
def onesF (x : Int) : Int := IntKind.i64.wrap (IntKind.u8.wrap ((((popS[(x / 2 ^ (8 : Int).toNat).toNat]?).getD 0).toNat : Int) + (((popS[(and16 x 255).toNat]?).getD 0).toNat : Int)))

theorem ones_spec (F : Fr) (x : Int) (h0 : 0 ≤ x) (h1 : x ≤ 65535) : Spec Try.prog 71 #[.int .u16 x] [] F (fun v S => v = .int .i64 (onesF x) ∧ S = []) := by
 refine Spec.intro (N := 11) (args := [.int .u16 x]) Try.func71 rfl rfl (by simp) ?_
 refine Run.seq fun k1 hk1 => ?_
 refine Run.region ?_
 show Sq _ _ _ [0] _ _ _ _
 refine Sq.quiet (i := 0) rfl (Want.none rfl) rfl (ltN rfl) (QP.assign rfl rfl).read ?_
 refine Sq.nil ?_
 refine hk1 _ _ ?_
 refine Run.seq fun k2 hk2 => ?_
 refine Run.regionD (M := [0, 1, 3, 0, 8, 24, 63, 127, 255]) (q := 255) (r := 0) (by kernel_rfl) ?_
 have hA := and16_range x 255
 have hB := and16_255 x
 refine Dw.pure (i := 0) rfl (by kernel_rfl) (Want.none rfl) rfl (ltN rfl) (QP.move rfl rfl) ?_
 refine Dw.pure (i := 1) rfl (by kernel_rfl) (Want.none rfl) rfl (ltN rfl) (QP.shr16 rfl rfl rfl (by first | omega | (simp <;> omega)) (by first | omega | (simp <;> omega))) ?_
 refine Dw.pure (i := 2) rfl (by kernel_rfl) (Want.none rfl) rfl (ltN rfl) (QP.indexLit (s := popS) rfl rfl rfl Try.underlying9 (by simp <;> omega) (by rw [popS_size]; simp <;> omega)) ?_
 refine Dw.pure (i := 3) rfl (by kernel_rfl) (Want.none rfl) rfl (ltN rfl) (QP.move rfl rfl) ?_
 refine Dw.pure (i := 4) rfl (by kernel_rfl) (Want.none rfl) rfl (ltN rfl) (QP.and16 rfl rfl rfl) ?_
 refine Dw.pure (i := 5) rfl (by kernel_rfl) (Want.none rfl) rfl (ltN rfl) (QP.indexLit (s := popS) rfl rfl rfl Try.underlying9 (by omega) (by rw [popS_size]; omega)) ?_
 refine Dw.pure (i := 6) rfl (by kernel_rfl) (Want.none rfl) rfl (ltN rfl) (QP.add rfl rfl rfl) ?_
 refine Dw.pure (i := 7) rfl (by kernel_rfl) (Want.none rfl) rfl (ltN rfl) (QP.conv rfl rfl Try.underlying5 Try.underlying3) ?_
 refine Dw.eff (i := 8) (by kernel_rfl) (by kernel_rfl) ?_
 refine One.mk (o := _) (l := []) rfl (by kernel_rfl) (Want.none rfl) rfl (ltN rfl) ((QP.assign rfl rfl).eff) (by kernel_rfl) ?_
 rintro _ _ ⟨rfl, rfl⟩
 refine ⟨fun _ h => (by cases h), ?_⟩
 refine Dw.nil (by kernel_rfl) ?_
 refine hk2 _ _ ?_
 refine Run.ret ?_
 exact J.ends (res_tmp rfl rfl) Takes.nil ⟨rfl, rfl⟩

/-- What it costs to hear a neighbour on a wire. -/
def rx0 (cost b : Int) : Int := if 2 ≤ onesF (and16 b 57344) then cost else 65535

theorem rx_spec (F : Fr) (kind cost b : Int) (h0 : 0 ≤ b) (h1 : b ≤ 65535) : Spec Try.prog 52 #[.int .i64 kind, .int .u16 cost, .int .u16 b] [] F (fun v S => ∃ r, v = .int .u16 r ∧ (kind = 0 → r = rx0 cost b) ∧ S = []) := by
 refine Spec.intro (N := 34) (args := [.int .i64 kind, .int .u16 cost, .int .u16 b]) Try.func52 rfl rfl (by simp) ?_
 refine Run.seq fun k1 hk1 => ?_
 refine Run.region ?_
 show Sq _ _ _ [0] _ _ _ _
 refine Sq.quiet (i := 0) rfl (Want.none rfl) rfl (ltN rfl) (QP.assign rfl rfl).read ?_
 refine Sq.nil ?_
 refine hk1 _ _ ?_
 refine Run.seq fun k2 hk2 => ?_
 refine Run.region ?_
 show Sq _ _ _ [0, 1, 2] _ _ _ _
 refine Sq.quiet (i := 0) rfl (Want.none rfl) rfl (ltN rfl) (QP.move rfl rfl).read ?_
 refine Sq.eff (i := 1) rfl (Want.none rfl) rfl (ltN rfl) (EF.call rfl ce71 rfl Takes.nil (fun F' hle hr => ones_spec F' (b) (by first | omega | exact (and16_range _ _).1) (by first | omega | exact (and16_range _ _).2))) ?_
 rintro _ _ ⟨_, ⟨rfl, rfl⟩, rfl⟩
 refine J.app ?_
 refine Sq.quiet (i := 2) rfl (Want.none rfl) rfl (ltN rfl) (QP.assign rfl rfl).read ?_
 refine Sq.nil ?_
 refine hk2 _ _ ?_
 refine Run.seq fun k3 hk3 => ?_
 refine Run.block ?_
 refine Run.seq fun k4 hk4 => ?_
 refine Run.region ?_
 show Sq _ _ _ [0, 1, 2, 3, 4, 5, 6, 7, 8] _ _ _ _
 refine Sq.quiet (i := 0) rfl (Want.none rfl) rfl (ltN rfl) (QP.move rfl rfl).read ?_
 refine Sq.quiet (i := 1) rfl (Want.none rfl) rfl (ltN rfl) (QP.eql rfl rfl rfl).read ?_
 refine J.caseD (fun c12 => ?_) (fun c12 => ?_)
 ·skip
  refine Sq.quiet (i := 2) rfl (Want.none rfl) rfl (ltN rfl) (QP.move rfl rfl).read ?_
  refine Sq.quiet (i := 3) rfl (Want.yes rfl rfl rfl rfl) rfl (ltN rfl) (QP.move rfl rfl).read ?_
  refine Sq.quiet (i := 4) rfl (Want.yes rfl rfl rfl rfl) rfl (ltN rfl) (QP.and16 rfl rfl rfl).read ?_
  refine Sq.eff (i := 5) rfl (Want.yes rfl rfl rfl rfl) rfl (ltN rfl) (EF.call rfl ce71 rfl Takes.nil (fun F' hle hr => ones_spec F' ((and16 b 57344)) (by first | omega | exact (and16_range _ _).1) (by first | omega | exact (and16_range _ _).2))) ?_
  rintro _ _ ⟨_, ⟨rfl, rfl⟩, rfl⟩
  refine J.app ?_
  refine Sq.quiet (i := 6) rfl (Want.yes rfl rfl rfl rfl) rfl (ltN rfl) (QP.geq rfl rfl rfl).read ?_
  refine J.caseD (fun c17 => ?_) (fun c17 => ?_)
  ·skip
   refine Sq.quiet (i := 7) rfl (Want.none rfl) rfl (ltN rfl) (QP.pick_t rfl rfl rfl).read ?_
   refine Sq.quiet (i := 8) rfl (Want.none rfl) rfl (ltN rfl) (QP.assign rfl rfl).read ?_
   refine Sq.nil ?_
   refine hk4 _ _ ?_
   refine Run.cond_t rfl ?_
   refine Run.seq fun k5 hk5 => ?_
   refine Run.region ?_
   show Sq _ _ _ [0, 1] _ _ _ _
   refine Sq.quiet (i := 0) rfl (Want.none rfl) rfl (ltN rfl) (QP.move rfl rfl).read ?_
   refine Sq.quiet (i := 1) rfl (Want.none rfl) rfl (ltN rfl) (QP.assign rfl rfl).read ?_
   refine Sq.nil ?_
   refine hk5 _ _ ?_
   refine Run.ret ?_
   exact J.ends (res_tmp rfl rfl) Takes.nil ⟨_, rfl, fun _ => by unfold rx0; rw [if_pos c17], rfl⟩
  ·skip
   refine Sq.quiet (i := 7) rfl (Want.none rfl) rfl (ltN rfl) (QP.pick_t rfl rfl rfl).read ?_
   refine Sq.quiet (i := 8) rfl (Want.none rfl) rfl (ltN rfl) (QP.assign rfl rfl).read ?_
   refine Sq.nil ?_
   refine hk4 _ _ ?_
   refine Run.cond_f rfl ?_
   refine Run.seq fun k6 hk6 => ?_
   refine Run.region ?_
   show Sq _ _ _ [0, 1, 2, 3, 4, 5, 6] _ _ _ _
   refine Sq.quiet (i := 0) rfl (Want.none rfl) rfl (ltN rfl) (QP.move rfl rfl).read ?_
   refine Sq.quiet (i := 1) rfl (Want.none rfl) rfl (ltN rfl) (QP.eql rfl rfl rfl).read ?_
   refine J.caseD (fun c22 => ?_) (fun c22 => ?_)
   ·skip
    refine Sq.quiet (i := 2) rfl (Want.none rfl) rfl (ltN rfl) (QP.move rfl rfl).read ?_
    refine Sq.quiet (i := 3) rfl (Want.yes rfl rfl rfl rfl) rfl (ltN rfl) (QP.move rfl rfl).read ?_
    refine Sq.quiet (i := 4) rfl (Want.yes rfl rfl rfl rfl) rfl (ltN rfl) (QP.gtr rfl rfl rfl).read ?_
    refine J.caseD (fun c25 => ?_) (fun c25 => ?_)
    ·skip
     refine Sq.quiet (i := 5) rfl (Want.none rfl) rfl (ltN rfl) (QP.pick_t rfl rfl rfl).read ?_
     refine Sq.quiet (i := 6) rfl (Want.none rfl) rfl (ltN rfl) (QP.assign rfl rfl).read ?_
     refine Sq.nil ?_
     refine hk6 _ _ ?_
     refine Run.cond_t rfl ?_
     refine Run.seq fun k7 hk7 => ?_
     refine Run.region ?_
     show Sq _ _ _ [0, 1, 2, 3, 4, 5, 6, 7] _ _ _ _
     refine Sq.quiet (i := 0) rfl (Want.none rfl) rfl (ltN rfl) (QP.move rfl rfl).read ?_
     refine Sq.quiet (i := 1) rfl (Want.none rfl) rfl (ltN rfl) (QP.conv rfl rfl Try.underlying30 Try.underlying3).read ?_
     refine Sq.quiet (i := 2) rfl (Want.none rfl) rfl (ltN rfl) (QP.mul rfl rfl rfl).read ?_
     refine Sq.quiet (i := 3) rfl (Want.none rfl) rfl (ltN rfl) (QP.move rfl rfl).read ?_
     refine Sq.quiet (i := 4) rfl (Want.none rfl) rfl (ltN rfl) (QP.quo rfl rfl rfl (by first | omega | (simp <;> omega))).read ?_
     refine Sq.quiet (i := 5) rfl (Want.none rfl) rfl (ltN rfl) (QP.min2 rfl rfl rfl).read ?_
     refine Sq.quiet (i := 6) rfl (Want.none rfl) rfl (ltN rfl) (QP.conv rfl rfl Try.underlying3 Try.underlying30).read ?_
     refine Sq.quiet (i := 7) rfl (Want.none rfl) rfl (ltN rfl) (QP.assign rfl rfl).read ?_
     refine Sq.nil ?_
     refine hk7 _ _ ?_
     refine Run.ret ?_
     exact J.ends (res_tmp rfl rfl) Takes.nil ⟨_, rfl, fun _ => absurd c12 (by omega), rfl⟩
    ·skip
     refine Sq.quiet (i := 5) rfl (Want.none rfl) rfl (ltN rfl) (QP.pick_t rfl rfl rfl).read ?_
     refine Sq.quiet (i := 6) rfl (Want.none rfl) rfl (ltN rfl) (QP.assign rfl rfl).read ?_
     refine Sq.nil ?_
     refine hk6 _ _ ?_
     refine Run.cond_f rfl ?_
     refine Run.skip ?_
     refine hk3 _ _ ?_
     refine Run.seq fun k8 hk8 => ?_
     refine Run.region ?_
     show Sq _ _ _ [0] _ _ _ _
     refine Sq.quiet (i := 0) rfl (Want.none rfl) rfl (ltN rfl) (QP.assign rfl rfl).read ?_
     refine Sq.nil ?_
     refine hk8 _ _ ?_
     refine Run.ret ?_
     exact J.ends (res_tmp rfl rfl) Takes.nil ⟨_, rfl, fun _ => absurd c12 (by omega), rfl⟩
   ·skip
    refine Sq.quiet (i := 2) rfl (Want.none rfl) rfl (ltN rfl) (QP.move rfl rfl).read ?_
    refine Sq.skip (i := 3) rfl (Want.no rfl rfl rfl rfl) rfl (ltN rfl) ?_
    refine Sq.skip (i := 4) rfl (Want.no rfl rfl rfl rfl) rfl (ltN rfl) ?_
    refine Sq.quiet (i := 5) rfl (Want.none rfl) rfl (ltN rfl) (QP.pick_f rfl rfl rfl).read ?_
    refine Sq.quiet (i := 6) rfl (Want.none rfl) rfl (ltN rfl) (QP.assign rfl rfl).read ?_
    refine Sq.nil ?_
    refine hk6 _ _ ?_
    refine Run.cond_f rfl ?_
    refine Run.skip ?_
    refine hk3 _ _ ?_
    refine Run.seq fun k9 hk9 => ?_
    refine Run.region ?_
    show Sq _ _ _ [0] _ _ _ _
    refine Sq.quiet (i := 0) rfl (Want.none rfl) rfl (ltN rfl) (QP.assign rfl rfl).read ?_
    refine Sq.nil ?_
    refine hk9 _ _ ?_
    refine Run.ret ?_
    exact J.ends (res_tmp rfl rfl) Takes.nil ⟨_, rfl, fun _ => by unfold rx0; rw [if_neg c17], rfl⟩
 ·skip
  refine Sq.quiet (i := 2) rfl (Want.none rfl) rfl (ltN rfl) (QP.move rfl rfl).read ?_
  refine Sq.skip (i := 3) rfl (Want.no rfl rfl rfl rfl) rfl (ltN rfl) ?_
  refine Sq.skip (i := 4) rfl (Want.no rfl rfl rfl rfl) rfl (ltN rfl) ?_
  refine Sq.skip (i := 5) rfl (Want.no rfl rfl rfl rfl) rfl (ltN rfl) ?_
  refine Sq.skip (i := 6) rfl (Want.no rfl rfl rfl rfl) rfl (ltN rfl) ?_
  refine Sq.quiet (i := 7) rfl (Want.none rfl) rfl (ltN rfl) (QP.pick_f rfl rfl rfl).read ?_
  refine Sq.quiet (i := 8) rfl (Want.none rfl) rfl (ltN rfl) (QP.assign rfl rfl).read ?_
  refine Sq.nil ?_
  refine hk4 _ _ ?_
  refine Run.cond_f rfl ?_
  refine Run.seq fun k10 hk10 => ?_
  refine Run.region ?_
  show Sq _ _ _ [0, 1, 2, 3, 4, 5, 6] _ _ _ _
  refine Sq.quiet (i := 0) rfl (Want.none rfl) rfl (ltN rfl) (QP.move rfl rfl).read ?_
  refine Sq.quiet (i := 1) rfl (Want.none rfl) rfl (ltN rfl) (QP.eql rfl rfl rfl).read ?_
  refine J.caseD (fun c22 => ?_) (fun c22 => ?_)
  ·skip
   refine Sq.quiet (i := 2) rfl (Want.none rfl) rfl (ltN rfl) (QP.move rfl rfl).read ?_
   refine Sq.quiet (i := 3) rfl (Want.yes rfl rfl rfl rfl) rfl (ltN rfl) (QP.move rfl rfl).read ?_
   refine Sq.quiet (i := 4) rfl (Want.yes rfl rfl rfl rfl) rfl (ltN rfl) (QP.gtr rfl rfl rfl).read ?_
   refine J.caseD (fun c25 => ?_) (fun c25 => ?_)
   ·skip
    refine Sq.quiet (i := 5) rfl (Want.none rfl) rfl (ltN rfl) (QP.pick_t rfl rfl rfl).read ?_
    refine Sq.quiet (i := 6) rfl (Want.none rfl) rfl (ltN rfl) (QP.assign rfl rfl).read ?_
    refine Sq.nil ?_
    refine hk10 _ _ ?_
    refine Run.cond_t rfl ?_
    refine Run.seq fun k11 hk11 => ?_
    refine Run.region ?_
    show Sq _ _ _ [0, 1, 2, 3, 4, 5, 6, 7] _ _ _ _
    refine Sq.quiet (i := 0) rfl (Want.none rfl) rfl (ltN rfl) (QP.move rfl rfl).read ?_
    refine Sq.quiet (i := 1) rfl (Want.none rfl) rfl (ltN rfl) (QP.conv rfl rfl Try.underlying30 Try.underlying3).read ?_
    refine Sq.quiet (i := 2) rfl (Want.none rfl) rfl (ltN rfl) (QP.mul rfl rfl rfl).read ?_
    refine Sq.quiet (i := 3) rfl (Want.none rfl) rfl (ltN rfl) (QP.move rfl rfl).read ?_
    refine Sq.quiet (i := 4) rfl (Want.none rfl) rfl (ltN rfl) (QP.quo rfl rfl rfl (by first | omega | (simp <;> omega))).read ?_
    refine Sq.quiet (i := 5) rfl (Want.none rfl) rfl (ltN rfl) (QP.min2 rfl rfl rfl).read ?_
    refine Sq.quiet (i := 6) rfl (Want.none rfl) rfl (ltN rfl) (QP.conv rfl rfl Try.underlying3 Try.underlying30).read ?_
    refine Sq.quiet (i := 7) rfl (Want.none rfl) rfl (ltN rfl) (QP.assign rfl rfl).read ?_
    refine Sq.nil ?_
    refine hk11 _ _ ?_
    refine Run.ret ?_
    exact J.ends (res_tmp rfl rfl) Takes.nil ⟨_, rfl, fun h => absurd h c12, rfl⟩
   ·skip
    refine Sq.quiet (i := 5) rfl (Want.none rfl) rfl (ltN rfl) (QP.pick_t rfl rfl rfl).read ?_
    refine Sq.quiet (i := 6) rfl (Want.none rfl) rfl (ltN rfl) (QP.assign rfl rfl).read ?_
    refine Sq.nil ?_
    refine hk10 _ _ ?_
    refine Run.cond_f rfl ?_
    refine Run.skip ?_
    refine hk3 _ _ ?_
    refine Run.seq fun k12 hk12 => ?_
    refine Run.region ?_
    show Sq _ _ _ [0] _ _ _ _
    refine Sq.quiet (i := 0) rfl (Want.none rfl) rfl (ltN rfl) (QP.assign rfl rfl).read ?_
    refine Sq.nil ?_
    refine hk12 _ _ ?_
    refine Run.ret ?_
    exact J.ends (res_tmp rfl rfl) Takes.nil ⟨_, rfl, fun h => absurd h c12, rfl⟩
  ·skip
   refine Sq.quiet (i := 2) rfl (Want.none rfl) rfl (ltN rfl) (QP.move rfl rfl).read ?_
   refine Sq.skip (i := 3) rfl (Want.no rfl rfl rfl rfl) rfl (ltN rfl) ?_
   refine Sq.skip (i := 4) rfl (Want.no rfl rfl rfl rfl) rfl (ltN rfl) ?_
   refine Sq.quiet (i := 5) rfl (Want.none rfl) rfl (ltN rfl) (QP.pick_f rfl rfl rfl).read ?_
   refine Sq.quiet (i := 6) rfl (Want.none rfl) rfl (ltN rfl) (QP.assign rfl rfl).read ?_
   refine Sq.nil ?_
   refine hk10 _ _ ?_
   refine Run.cond_f rfl ?_
   refine Run.skip ?_
   refine hk3 _ _ ?_
   refine Run.seq fun k13 hk13 => ?_
   refine Run.region ?_
   show Sq _ _ _ [0] _ _ _ _
   refine Sq.quiet (i := 0) rfl (Want.none rfl) rfl (ltN rfl) (QP.assign rfl rfl).read ?_
   refine Sq.nil ?_
   refine hk13 _ _ ?_
   refine Run.ret ?_
   exact J.ends (res_tmp rfl rfl) Takes.nil ⟨_, rfl, fun h => absurd h c12, rfl⟩

def rxs (cost : Int) (l : List History) : Int := l.foldl (fun m h => if rx0 cost h.bits < m then rx0 cost h.bits else m) 65535
def hBits (h : History) : Prop := 0 ≤ h.bits ∧ h.bits ≤ 65535
theorem rxs_succ {cost : Int} {l : List History} {i : Nat} {h : History} (hi : l[i]? = some h) : rxs cost (l.take (i + 1)) = if rx0 cost h.bits < rxs cost (l.take i) then rx0 cost h.bits else rxs cost (l.take i) := by
  unfold rxs
  rw [List.take_add_one, hi]
  simp [List.foldl_append]

theorem rxAll_spec (F : Fr) (kind cost : Int) (xs : List History) {b off c : Nat} (hn : xs.length ≤ 1000) (hb : ∀ x ∈ xs, hBits x) (hs : ∀ S, SlAt S F b off 3 History.enc xs) : Spec Try.prog 36 #[.int .i64 kind, .int .u16 cost, .slice (some ⟨b, off, none⟩) xs.length c] [] F (fun v S => ∃ r, v = .int .u16 r ∧ (kind = 0 → r = rxs cost xs) ∧ S = []) := by
 refine Spec.intro (N := 25) (args := [.int .i64 kind, .int .u16 cost, .slice (some ⟨b, off, none⟩) xs.length c]) Try.func36 rfl rfl (by simp) ?_
 refine Run.seq fun k1 hk1 => ?_
 refine Run.region ?_
 show Sq _ _ _ [0] _ _ _ _
 refine Sq.quiet (i := 0) rfl (Want.none rfl) rfl (ltN rfl) (QP.assign rfl rfl).read ?_
 refine Sq.nil ?_
 refine hk1 _ _ ?_
 refine Run.seq fun k2 hk2 => ?_
 refine Run.region ?_
 show Sq _ _ _ [0] _ _ _ _
 refine Sq.quiet (i := 0) rfl (Want.none rfl) rfl (ltN rfl) (QP.assign rfl rfl).read ?_
 refine Sq.nil ?_
 refine hk2 _ _ ?_
 refine Run.seq fun k3 hk3 => ?_
 refine Run.seq fun k4 hk4 => ?_
 refine Run.region ?_
 show Sq _ _ _ [0, 1, 2] _ _ _ _
 refine Sq.quiet (i := 0) rfl (Want.none rfl) rfl (ltN rfl) (QP.move rfl rfl).read ?_
 refine Sq.quiet (i := 1) rfl (Want.none rfl) rfl (ltN rfl) (QP.len rfl rfl rfl Try.underlying116).read ?_
 refine Sq.quiet (i := 2) rfl (Want.none rfl) rfl (ltN rfl) (QP.move rfl rfl).read ?_
 refine Sq.nil ?_
 refine hk4 _ _ ?_
 refine Run.block ?_
 refine Run.loop2 (fun (i : Nat) (r : Int) => i ≤ xs.length ∧ (kind = 0 → r = rxs cost (xs.take i))) (fun i r => .cons 0 (.int .i64 kind) (.cons 1 (.int .u16 cost) (.cons 7 (.int .u16 r) (.cons 10 (.slice (some ⟨b, off, none⟩) xs.length c) (.cons 11 (.int .i64 xs.length) (.cons 12 (.int .i64 i) (.nil))))))) (fun i r => []) (fun i r => xs.length - i) (0) (65535) (⟨Nat.zero_le _, fun _ => rfl⟩) ?_ ?_
 ·exact fun _ j => J.envJ (J.keep Takes.nil j) ⟨rfl, rfl, rfl, rfl, rfl, rfl, trivial⟩
 rintro i r ⟨hile, hr⟩ kl5 hl5
 refine Run.seq fun k6 hk6 => ?_
 refine Run.region ?_
 show Sq _ _ _ [0] _ _ _ _
 refine Sq.quiet (i := 0) rfl (Want.none rfl) rfl (ltN rfl) (QP.lss rfl rfl rfl).read ?_
 refine J.caseD (fun c13 => ?_) (fun c13 => ?_)
 ·skip
  refine Sq.nil ?_
  refine hk6 _ _ ?_
  refine Run.seq fun k7 hk7 => ?_
  refine Run.cond_t rfl ?_
  refine Run.skip ?_
  refine hk7 _ _ ?_
  refine Run.seq fun k8 hk8 => ?_
  refine Run.block ?_
  refine Run.seq fun k9 hk9 => ?_
  refine Run.region ?_
  show Sq _ _ _ [0, 1, 2, 3] _ _ _ _
  have hlt : i < xs.length := by simpa using c13
  obtain ⟨y, hi⟩ : ∃ y, xs[i]? = some y := ⟨_, List.getElem?_eq_getElem hlt⟩
  obtain ⟨hy0, hy1⟩ := hb y (List.mem_of_getElem? hi)
  refine Sq.quiet (i := 0) rfl (Want.none rfl) rfl (ltN rfl) (QP.indexAddr rfl rfl rfl Try.underlying116 z51 (by first | omega | (simp <;> omega)) (by first | omega | (simp <;> omega))).read ?_
  refine Sq.quiet (i := 1) rfl (Want.none rfl) rfl (ltN rfl) (QR.loadSl rfl rfl g51 History.enc_len (hs _) hi) ?_
  refine Sq.eff (i := 2) rfl (Want.none rfl) rfl (ltN rfl) (EF.allocA (l := History.enc History.zero) rfl zero51) ?_
  rintro _ _ ⟨b9, rfl, rfl⟩
  refine Sq.act (i := 3) rfl (Want.none rfl) rfl (EF.storeA rfl rfl rfl z51 (SetL.all (History.enc_len _) (History.enc_len _)) (History.enc_cell _)) ?_
  rintro _ _ rfl
  refine Sq.nil ?_
  refine hk9 _ _ ?_
  refine Run.region ?_
  show Sq _ _ _ [0, 1, 2, 3, 4, 5, 6, 7] _ _ _ _
  refine Sq.quiet (i := 0) rfl (Want.none rfl) rfl (ltN rfl) (QP.move rfl rfl).read ?_
  refine Sq.quiet (i := 1) rfl (Want.none rfl) rfl (ltN rfl) (QP.move rfl rfl).read ?_
  refine Sq.quiet (i := 2) rfl (Want.none rfl) rfl (ltN rfl) (QP.move rfl rfl).read ?_
  refine Sq.quiet (i := 3) rfl (Want.none rfl) rfl (ltN rfl) (QP.fieldAddr rfl rfl f51_0).read ?_
  refine Sq.quiet (i := 4) rfl (Want.none rfl) rfl (ltN rfl) (QR.load1 rfl rfl g30 (History.sub_bits _)) ?_
  refine Sq.eff (i := 5) rfl (Want.none rfl) rfl (ltN rfl) (EF.call rfl ce52 rfl Takes.nil (fun F' hle hr => rx_spec F' (kind) (cost) ((y).bits) (by omega) (by omega))) ?_
  rintro _ _ ⟨_, ⟨r21, rfl, hr21, rfl⟩, rfl⟩
  refine J.app ?_
  refine Sq.quiet (i := 6) rfl (Want.none rfl) rfl (ltN rfl) (QP.min2 rfl rfl rfl).read ?_
  refine Sq.quiet (i := 7) rfl (Want.none rfl) rfl (ltN rfl) (QP.assign rfl rfl).read ?_
  refine Sq.nil ?_
  refine hk8 _ _ ?_
  refine Run.region ?_
  show Sq _ _ _ [0, 1] _ _ _ _
  refine Sq.quiet (i := 0) rfl (Want.none rfl) rfl (ltN rfl) (QP.add64 rfl rfl rfl (by first | omega | (simp <;> omega)) (by first | omega | (simp <;> omega))).read ?_
  refine Sq.quiet (i := 1) rfl (Want.none rfl) rfl (ltN rfl) (QP.move rfl rfl).read ?_
  refine Sq.nil ?_
  exact J.envJ (J.keep Takes.nil (hl5 (i + 1) ((if r21 < r then r21 else r)) (⟨by omega, fun h => by rw [rxs_succ hi, hr21 h, hr h]⟩) (by omega))) ⟨rfl, rfl, rfl, rfl, rfl, rfl, trivial⟩
 ·skip
  refine Sq.nil ?_
  refine hk6 _ _ ?_
  refine Run.seq fun k10 hk10 => ?_
  refine Run.cond_f rfl ?_
  refine Run.exit rfl ?_
  refine hk3 _ _ ?_
  refine Run.seq fun k11 hk11 => ?_
  refine Run.region ?_
  show Sq _ _ _ [0, 1] _ _ _ _
  refine Sq.quiet (i := 0) rfl (Want.none rfl) rfl (ltN rfl) (QP.move rfl rfl).read ?_
  refine Sq.quiet (i := 1) rfl (Want.none rfl) rfl (ltN rfl) (QP.assign rfl rfl).read ?_
  refine Sq.nil ?_
  refine hk11 _ _ ?_
  refine Run.ret ?_
  exact J.ends (res_tmp rfl rfl) Takes.nil ⟨_, rfl, fun h => by rw [hr h, List.take_of_length_le (by omega)], rfl⟩

theorem lcost_spec (F : Fr) (kind rx tx : Int) : Spec Try.prog 37 #[.int .i64 kind, .int .u16 rx, .int .u16 tx] [] F (fun v S => ∃ r, v = .int .u16 r ∧ ((rx = 65535 ∨ tx = 65535) → r = 65535) ∧ (rx ≠ 65535 → tx ≠ 65535 → kind = 0 → r = tx) ∧ S = []) := by
 refine Spec.intro (N := 28) (args := [.int .i64 kind, .int .u16 rx, .int .u16 tx]) Try.func37 rfl rfl (by simp) ?_
 refine Run.seq fun k1 hk1 => ?_
 refine Run.region ?_
 show Sq _ _ _ [0] _ _ _ _
 refine Sq.quiet (i := 0) rfl (Want.none rfl) rfl (ltN rfl) (QP.assign rfl rfl).read ?_
 refine Sq.nil ?_
 refine hk1 _ _ ?_
 refine Run.seq fun k2 hk2 => ?_
 refine Run.seq fun k3 hk3 => ?_
 refine Run.region ?_
 show Sq _ _ _ [0, 1, 2, 3, 4, 5] _ _ _ _
 refine Sq.quiet (i := 0) rfl (Want.none rfl) rfl (ltN rfl) (QP.move rfl rfl).read ?_
 refine Sq.quiet (i := 1) rfl (Want.none rfl) rfl (ltN rfl) (QP.eql rfl rfl rfl).read ?_
 refine J.caseD (fun c8 => ?_) (fun c8 => ?_)
 ·skip
  refine Sq.quiet (i := 2) rfl (Want.none rfl) rfl (ltN rfl) (QP.move rfl rfl).read ?_
  refine Sq.skip (i := 3) rfl (Want.no rfl rfl rfl rfl) rfl (ltN rfl) ?_
  refine Sq.skip (i := 4) rfl (Want.no rfl rfl rfl rfl) rfl (ltN rfl) ?_
  refine Sq.quiet (i := 5) rfl (Want.none rfl) rfl (ltN rfl) (QP.pick_t rfl rfl rfl).read ?_
  refine Sq.nil ?_
  refine hk3 _ _ ?_
  refine Run.cond_t rfl ?_
  refine Run.seq fun k4 hk4 => ?_
  refine Run.region ?_
  show Sq _ _ _ [0] _ _ _ _
  refine Sq.quiet (i := 0) rfl (Want.none rfl) rfl (ltN rfl) (QP.assign rfl rfl).read ?_
  refine Sq.nil ?_
  refine hk4 _ _ ?_
  refine Run.ret ?_
  exact J.ends (res_tmp rfl rfl) Takes.nil ⟨65535, rfl, fun _ => rfl, fun h1 h2 _ => absurd c8 h1, rfl⟩
 ·skip
  refine Sq.quiet (i := 2) rfl (Want.none rfl) rfl (ltN rfl) (QP.move rfl rfl).read ?_
  refine Sq.quiet (i := 3) rfl (Want.yes rfl rfl rfl rfl) rfl (ltN rfl) (QP.move rfl rfl).read ?_
  refine Sq.quiet (i := 4) rfl (Want.yes rfl rfl rfl rfl) rfl (ltN rfl) (QP.eql rfl rfl rfl).read ?_
  refine J.caseD (fun c11 => ?_) (fun c11 => ?_)
  ·skip
   refine Sq.quiet (i := 5) rfl (Want.none rfl) rfl (ltN rfl) (QP.pick_f rfl rfl rfl).read ?_
   refine Sq.nil ?_
   refine hk3 _ _ ?_
   refine Run.cond_t rfl ?_
   refine Run.seq fun k5 hk5 => ?_
   refine Run.region ?_
   show Sq _ _ _ [0] _ _ _ _
   refine Sq.quiet (i := 0) rfl (Want.none rfl) rfl (ltN rfl) (QP.assign rfl rfl).read ?_
   refine Sq.nil ?_
   refine hk5 _ _ ?_
   refine Run.ret ?_
   exact J.ends (res_tmp rfl rfl) Takes.nil ⟨65535, rfl, fun _ => rfl, fun h1 h2 _ => absurd c11 h2, rfl⟩
  ·skip
   refine Sq.quiet (i := 5) rfl (Want.none rfl) rfl (ltN rfl) (QP.pick_f rfl rfl rfl).read ?_
   refine Sq.nil ?_
   refine hk3 _ _ ?_
   refine Run.cond_f rfl ?_
   refine Run.skip ?_
   refine hk2 _ _ ?_
   refine Run.seq fun k6 hk6 => ?_
   refine Run.seq fun k7 hk7 => ?_
   refine Run.region ?_
   show Sq _ _ _ [0] _ _ _ _
   refine Sq.quiet (i := 0) rfl (Want.none rfl) rfl (ltN rfl) (QP.move rfl rfl).read ?_
   refine Sq.nil ?_
   refine hk7 _ _ ?_
   refine Run.block ?_
   refine Run.seq fun k8 hk8 => ?_
   refine Run.region ?_
   show Sq _ _ _ [0, 1] _ _ _ _
   refine Sq.quiet (i := 0) rfl (Want.none rfl) rfl (ltN rfl) (QP.eql rfl rfl rfl).read ?_
   refine J.caseD (fun c15 => ?_) (fun c15 => ?_)
   ·skip
    refine Sq.quiet (i := 1) rfl (Want.none rfl) rfl (ltN rfl) (QP.assign rfl rfl).read ?_
    refine Sq.nil ?_
    refine hk8 _ _ ?_
    refine Run.cond_t rfl ?_
    refine Run.seq fun k9 hk9 => ?_
    refine Run.region ?_
    show Sq _ _ _ [0, 1] _ _ _ _
    refine Sq.quiet (i := 0) rfl (Want.none rfl) rfl (ltN rfl) (QP.move rfl rfl).read ?_
    refine Sq.quiet (i := 1) rfl (Want.none rfl) rfl (ltN rfl) (QP.assign rfl rfl).read ?_
    refine Sq.nil ?_
    refine hk9 _ _ ?_
    refine Run.ret ?_
    exact J.ends (res_tmp rfl rfl) Takes.nil ⟨_, rfl, fun h => (by rcases h with h | h; exact absurd h c8; exact absurd h c11), fun _ _ _ => rfl, rfl⟩
   ·skip
    refine Sq.quiet (i := 1) rfl (Want.none rfl) rfl (ltN rfl) (QP.assign rfl rfl).read ?_
    refine Sq.nil ?_
    refine hk8 _ _ ?_
    refine Run.cond_f rfl ?_
    refine Run.seq fun k10 hk10 => ?_
    refine Run.region ?_
    show Sq _ _ _ [0, 1] _ _ _ _
    refine Sq.quiet (i := 0) rfl (Want.none rfl) rfl (ltN rfl) (QP.eql rfl rfl rfl).read ?_
    refine J.caseD (fun c18 => ?_) (fun c18 => ?_)
    ·skip
     refine Sq.quiet (i := 1) rfl (Want.none rfl) rfl (ltN rfl) (QP.assign rfl rfl).read ?_
     refine Sq.nil ?_
     refine hk10 _ _ ?_
     refine Run.cond_t rfl ?_
     refine Run.seq fun k11 hk11 => ?_
     refine Run.region ?_
     show Sq _ _ _ [0, 1, 2, 3, 4, 5, 6, 7, 8, 9] _ _ _ _
     refine Sq.quiet (i := 0) rfl (Want.none rfl) rfl (ltN rfl) (QP.move rfl rfl).read ?_
     refine Sq.quiet (i := 1) rfl (Want.none rfl) rfl (ltN rfl) (QP.conv rfl rfl Try.underlying30 Try.underlying3).read ?_
     refine Sq.quiet (i := 2) rfl (Want.none rfl) rfl (ltN rfl) (QP.max2 rfl rfl rfl).read ?_
     refine Sq.quiet (i := 3) rfl (Want.none rfl) rfl (ltN rfl) (QP.move rfl rfl).read ?_
     refine Sq.quiet (i := 4) rfl (Want.none rfl) rfl (ltN rfl) (QP.conv rfl rfl Try.underlying30 Try.underlying3).read ?_
     refine Sq.quiet (i := 5) rfl (Want.none rfl) rfl (ltN rfl) (QP.mul rfl rfl rfl).read ?_
     refine Sq.quiet (i := 6) rfl (Want.none rfl) rfl (ltN rfl) (QP.quo rfl rfl rfl (by first | omega | (simp <;> omega))).read ?_
     refine Sq.quiet (i := 7) rfl (Want.none rfl) rfl (ltN rfl) (QP.min2 rfl rfl rfl).read ?_
     refine Sq.quiet (i := 8) rfl (Want.none rfl) rfl (ltN rfl) (QP.conv rfl rfl Try.underlying3 Try.underlying30).read ?_
     refine Sq.quiet (i := 9) rfl (Want.none rfl) rfl (ltN rfl) (QP.assign rfl rfl).read ?_
     refine Sq.nil ?_
     refine hk11 _ _ ?_
     refine Run.ret ?_
     exact J.ends (res_tmp rfl rfl) Takes.nil ⟨_, rfl, fun h => (by rcases h with h | h; exact absurd h c8; exact absurd h c11), fun _ _ h => absurd h c15, rfl⟩
    ·skip
     refine Sq.quiet (i := 1) rfl (Want.none rfl) rfl (ltN rfl) (QP.assign rfl rfl).read ?_
     refine Sq.nil ?_
     refine hk10 _ _ ?_
     refine Run.cond_f rfl ?_
     refine Run.skip ?_
     refine hk6 _ _ ?_
     refine Run.seq fun k12 hk12 => ?_
     refine Run.region ?_
     show Sq _ _ _ [0] _ _ _ _
     refine Sq.quiet (i := 0) rfl (Want.none rfl) rfl (ltN rfl) (QP.assign rfl rfl).read ?_
     refine Sq.nil ?_
     refine hk12 _ _ ?_
     refine Run.ret ?_
     exact J.ends (res_tmp rfl rfl) Takes.nil ⟨_, rfl, fun h => (by rcases h with h | h; exact absurd h c8; exact absurd h c11), fun _ _ h => absurd h c15, rfl⟩

def aheadF (h : History) (q : Int) : Int := IntKind.i64.wrap (IntKind.i16.wrap (IntKind.u16.wrap (q - h.next)))
def hearB (h : History) (q : Int) : Int :=
  if h.known = false ∨ 16 < aheadF h q ∨ aheadF h q < -16 then 0 else if 0 ≤ aheadF h q then h.bits / 2 ^ (aheadF h q).toNat else IntKind.u16.wrap (h.bits * 2 ^ (IntKind.i64.wrap (-(aheadF h q))).toNat)
def hearF (h : History) (q : Int) : History := ⟨or16 (hearB h q / 2 ^ (1 : Int).toNat) 32768, IntKind.u16.wrap (q + 1), true⟩
def missF (h : History) : History := if h.known = true then { h with bits := h.bits / 2 ^ (1 : Int).toNat, next := IntKind.u16.wrap (h.next + 1) } else h

theorem hear_spec (F : Fr) (h : History) (q : Int) (h0 : 0 ≤ h.bits) (h1 : h.bits ≤ 65535) : Spec Try.prog 26 #[.agg (History.enc h).toArray, .int .u16 q] [] F (fun v S => v = .agg (History.enc (hearF h q)).toArray ∧ S = []) := by
 refine Spec.intro (N := 46) (args := [.agg (History.enc h).toArray, .int .u16 q]) Try.func26 rfl rfl (by simp) ?_
 refine Run.seq fun k1 hk1 => ?_
 refine Run.region ?_
 show Sq _ _ _ [0, 1] _ _ _ _
 refine Sq.eff (i := 0) rfl (Want.none rfl) rfl (ltN rfl) (EF.boxA rfl rfl) ?_
 rintro _ _ ⟨b2, rfl, rfl⟩
 refine Sq.eff (i := 1) rfl (Want.none rfl) rfl (ltN rfl) (EF.allocA (l := History.enc History.zero) rfl zero51) ?_
 rintro _ _ ⟨b4, rfl, rfl⟩
 refine Sq.nil ?_
 refine hk1 _ _ ?_
 refine Run.seq fun k2 hk2 => ?_
 refine Run.region ?_
 show Sq _ _ _ [0, 1, 2, 3, 4, 5, 6] _ _ _ _
 refine Sq.quiet (i := 0) rfl (Want.none rfl) rfl (ltN rfl) (QP.move rfl rfl).read ?_
 refine Sq.quiet (i := 1) rfl (Want.none rfl) rfl (ltN rfl) (QP.fieldAddr rfl rfl f51_1).read ?_
 refine Sq.quiet (i := 2) rfl (Want.none rfl) rfl (ltN rfl) (QR.load1 rfl rfl g30 (History.sub_next _)) ?_
 refine Sq.quiet (i := 3) rfl (Want.none rfl) rfl (ltN rfl) (QP.sub rfl rfl rfl).read ?_
 refine Sq.quiet (i := 4) rfl (Want.none rfl) rfl (ltN rfl) (QP.conv rfl rfl Try.underlying30 Try.underlying109).read ?_
 refine Sq.quiet (i := 5) rfl (Want.none rfl) rfl (ltN rfl) (QP.conv rfl rfl Try.underlying109 Try.underlying3).read ?_
 refine Sq.quiet (i := 6) rfl (Want.none rfl) rfl (ltN rfl) (QP.assign rfl rfl).read ?_
 rw [show IntKind.i64.wrap (IntKind.i16.wrap (IntKind.u16.wrap (q - h.next))) = aheadF h q from rfl]
 refine Sq.nil ?_
 refine hk2 _ _ ?_
 refine Run.seq fun k3 hk3 => ?_
 refine Run.block ?_
 refine Run.seq fun k4 hk4 => ?_
 refine Run.region ?_
 show Sq _ _ _ [0, 1, 2, 3, 4, 5, 6, 7, 8, 9, 10, 11] _ _ _ _
 refine Sq.quiet (i := 0) rfl (Want.none rfl) rfl (ltN rfl) (QP.fieldAddr rfl rfl f51_2).read ?_
 refine Sq.quiet (i := 1) rfl (Want.none rfl) rfl (ltN rfl) (QR.load1 rfl rfl g4 (History.sub_known _)) ?_
 refine J.caseB (fun c20 => ?_) (fun c20 => ?_)
 ·skip
  refine Sq.quiet (i := 2) rfl (Want.none rfl) rfl (ltN rfl) (QP.not rfl rfl).read ?_
  refine Sq.quiet (i := 3) rfl (Want.none rfl) rfl (ltN rfl) (QP.move rfl rfl).read ?_
  refine Sq.quiet (i := 4) rfl (Want.yes rfl rfl rfl rfl) rfl (ltN rfl) (QP.move rfl rfl).read ?_
  refine Sq.quiet (i := 5) rfl (Want.yes rfl rfl rfl rfl) rfl (ltN rfl) (QP.gtr rfl rfl rfl).read ?_
  refine J.caseD (fun c24 => ?_) (fun c24 => ?_)
  ·skip
   refine Sq.quiet (i := 6) rfl (Want.none rfl) rfl (ltN rfl) (QP.pick_f rfl rfl rfl).read ?_
   refine Sq.quiet (i := 7) rfl (Want.none rfl) rfl (ltN rfl) (QP.move rfl rfl).read ?_
   refine Sq.skip (i := 8) rfl (Want.no rfl rfl rfl rfl) rfl (ltN rfl) ?_
   refine Sq.skip (i := 9) rfl (Want.no rfl rfl rfl rfl) rfl (ltN rfl) ?_
   refine Sq.quiet (i := 10) rfl (Want.none rfl) rfl (ltN rfl) (QP.pick_t rfl rfl rfl).read ?_
   refine Sq.quiet (i := 11) rfl (Want.none rfl) rfl (ltN rfl) (QP.assign rfl rfl).read ?_
   refine Sq.nil ?_
   refine hk4 _ _ ?_
   refine Run.cond_t rfl ?_
   refine Run.region ?_
   show Sq _ _ _ [0, 1] _ _ _ _
   refine Sq.quiet (i := 0) rfl (Want.none rfl) rfl (ltN rfl) (QP.fieldAddr rfl rfl f51_0).read ?_
   refine Sq.act (i := 1) rfl (Want.none rfl) rfl (EF.store rfl rfl rfl z30 (History.set_bits _ _) (cell_one rfl)) ?_
   rintro _ _ rfl
   refine Sq.nil ?_
   refine hk3 _ _ ?_
   refine Run.seq fun k5 hk5 => ?_
   refine Run.region ?_
   show Sq _ _ _ [0, 1, 2, 3, 4, 5, 6, 7] _ _ _ _
   generalize hh2 : ({ h with bits := 0 } : History) = h2
   have hB : hearB h q = h2.bits := by
     rw [← hh2]
     unfold hearB
     rw [if_pos (.inr (.inl c24))]
   refine Sq.quiet (i := 0) rfl (Want.none rfl) rfl (ltN rfl) (QP.fieldAddr rfl rfl f51_0).read ?_
   refine Sq.quiet (i := 1) rfl (Want.none rfl) rfl (ltN rfl) (QR.load1 rfl rfl g30 (History.sub_bits _)) ?_
   refine Sq.quiet (i := 2) rfl (Want.none rfl) rfl (ltN rfl) (QP.shr16 rfl rfl rfl (by first | omega | (simp <;> omega)) (by first | omega | (simp <;> omega))).read ?_
   refine Sq.quiet (i := 3) rfl (Want.none rfl) rfl (ltN rfl) (QP.or16 rfl rfl rfl).read ?_
   refine Sq.quiet (i := 4) rfl (Want.none rfl) rfl (ltN rfl) (QP.move rfl rfl).read ?_
   refine Sq.quiet (i := 5) rfl (Want.none rfl) rfl (ltN rfl) (QP.add rfl rfl rfl).read ?_
   refine Sq.quiet (i := 6) rfl (Want.none rfl) rfl (ltN rfl) (QP.build (l := History.enc ⟨((or16 ((h2).bits / 2 ^ (1 : Int).toNat) 32768)), _, _⟩) rfl st51 rfl (by exact ⟨rfl, ⟨rfl, ⟨rfl, trivial⟩⟩⟩) rfl).read ?_
   refine Sq.act (i := 7) rfl (Want.none rfl) rfl (EF.storeA rfl rfl rfl z51 (SetL.all (History.enc_len _) (History.enc_len _)) (History.enc_cell _)) ?_
   rintro _ _ rfl
   refine Sq.nil ?_
   refine hk5 _ _ ?_
   refine Run.ret ?_
   exact J.ends (res_cell rfl rfl g51 (History.enc_sub _)) Takes.nil ⟨by unfold hearF; rw [hB]; rfl, rfl⟩
  ·skip
   refine Sq.quiet (i := 6) rfl (Want.none rfl) rfl (ltN rfl) (QP.pick_f rfl rfl rfl).read ?_
   refine Sq.quiet (i := 7) rfl (Want.none rfl) rfl (ltN rfl) (QP.move rfl rfl).read ?_
   refine Sq.quiet (i := 8) rfl (Want.yes rfl rfl rfl rfl) rfl (ltN rfl) (QP.move rfl rfl).read ?_
   refine Sq.quiet (i := 9) rfl (Want.yes rfl rfl rfl rfl) rfl (ltN rfl) (QP.lss rfl rfl rfl).read ?_
   refine J.caseD (fun c28 => ?_) (fun c28 => ?_)
   ·skip
    refine Sq.quiet (i := 10) rfl (Want.none rfl) rfl (ltN rfl) (QP.pick_f rfl rfl rfl).read ?_
    refine Sq.quiet (i := 11) rfl (Want.none rfl) rfl (ltN rfl) (QP.assign rfl rfl).read ?_
    refine Sq.nil ?_
    refine hk4 _ _ ?_
    refine Run.cond_t rfl ?_
    refine Run.region ?_
    show Sq _ _ _ [0, 1] _ _ _ _
    refine Sq.quiet (i := 0) rfl (Want.none rfl) rfl (ltN rfl) (QP.fieldAddr rfl rfl f51_0).read ?_
    refine Sq.act (i := 1) rfl (Want.none rfl) rfl (EF.store rfl rfl rfl z30 (History.set_bits _ _) (cell_one rfl)) ?_
    rintro _ _ rfl
    refine Sq.nil ?_
    refine hk3 _ _ ?_
    refine Run.seq fun k6 hk6 => ?_
    refine Run.region ?_
    show Sq _ _ _ [0, 1, 2, 3, 4, 5, 6, 7] _ _ _ _
    generalize hh2 : ({ h with bits := 0 } : History) = h2
    have hB : hearB h q = h2.bits := by
      rw [← hh2]
      unfold hearB
      rw [if_pos (.inr (.inr c28))]
    refine Sq.quiet (i := 0) rfl (Want.none rfl) rfl (ltN rfl) (QP.fieldAddr rfl rfl f51_0).read ?_
    refine Sq.quiet (i := 1) rfl (Want.none rfl) rfl (ltN rfl) (QR.load1 rfl rfl g30 (History.sub_bits _)) ?_
    refine Sq.quiet (i := 2) rfl (Want.none rfl) rfl (ltN rfl) (QP.shr16 rfl rfl rfl (by first | omega | (simp <;> omega)) (by first | omega | (simp <;> omega))).read ?_
    refine Sq.quiet (i := 3) rfl (Want.none rfl) rfl (ltN rfl) (QP.or16 rfl rfl rfl).read ?_
    refine Sq.quiet (i := 4) rfl (Want.none rfl) rfl (ltN rfl) (QP.move rfl rfl).read ?_
    refine Sq.quiet (i := 5) rfl (Want.none rfl) rfl (ltN rfl) (QP.add rfl rfl rfl).read ?_
    refine Sq.quiet (i := 6) rfl (Want.none rfl) rfl (ltN rfl) (QP.build (l := History.enc ⟨((or16 ((h2).bits / 2 ^ (1 : Int).toNat) 32768)), _, _⟩) rfl st51 rfl (by exact ⟨rfl, ⟨rfl, ⟨rfl, trivial⟩⟩⟩) rfl).read ?_
    refine Sq.act (i := 7) rfl (Want.none rfl) rfl (EF.storeA rfl rfl rfl z51 (SetL.all (History.enc_len _) (History.enc_len _)) (History.enc_cell _)) ?_
    rintro _ _ rfl
    refine Sq.nil ?_
    refine hk6 _ _ ?_
    refine Run.ret ?_
    exact J.ends (res_cell rfl rfl g51 (History.enc_sub _)) Takes.nil ⟨by unfold hearF; rw [hB]; rfl, rfl⟩
   ·skip
    refine Sq.quiet (i := 10) rfl (Want.none rfl) rfl (ltN rfl) (QP.pick_f rfl rfl rfl).read ?_
    refine Sq.quiet (i := 11) rfl (Want.none rfl) rfl (ltN rfl) (QP.assign rfl rfl).read ?_
    refine Sq.nil ?_
    refine hk4 _ _ ?_
    refine Run.cond_f rfl ?_
    refine Run.seq fun k7 hk7 => ?_
    refine Run.region ?_
    show Sq _ _ _ [0, 1, 2] _ _ _ _
    refine Sq.quiet (i := 0) rfl (Want.none rfl) rfl (ltN rfl) (QP.move rfl rfl).read ?_
    refine Sq.quiet (i := 1) rfl (Want.none rfl) rfl (ltN rfl) (QP.geq rfl rfl rfl).read ?_
    refine J.caseD (fun c33 => ?_) (fun c33 => ?_)
    ·skip
     refine Sq.quiet (i := 2) rfl (Want.none rfl) rfl (ltN rfl) (QP.assign rfl rfl).read ?_
     refine Sq.nil ?_
     refine hk7 _ _ ?_
     refine Run.cond_t rfl ?_
     refine Run.region ?_
     show Sq _ _ _ [0, 1, 2, 3, 4, 5] _ _ _ _
     refine Sq.quiet (i := 0) rfl (Want.none rfl) rfl (ltN rfl) (QP.fieldAddr rfl rfl f51_0).read ?_
     refine Sq.quiet (i := 1) rfl (Want.none rfl) rfl (ltN rfl) (QR.load1 rfl rfl g30 (History.sub_bits _)) ?_
     refine Sq.quiet (i := 2) rfl (Want.none rfl) rfl (ltN rfl) (QP.move rfl rfl).read ?_
     refine Sq.quiet (i := 3) rfl (Want.none rfl) rfl (ltN rfl) (QP.shr16 rfl rfl rfl (by first | omega | (simp <;> omega)) (by first | omega | (simp <;> omega))).read ?_
     refine Sq.quiet (i := 4) rfl (Want.none rfl) rfl (ltN rfl) (QP.fieldAddr rfl rfl f51_0).read ?_
     refine Sq.act (i := 5) rfl (Want.none rfl) rfl (EF.store rfl rfl rfl z30 (History.set_bits _ _) (cell_one rfl)) ?_
     rintro _ _ rfl
     refine Sq.nil ?_
     refine hk3 _ _ ?_
     refine Run.seq fun k8 hk8 => ?_
     refine Run.region ?_
     show Sq _ _ _ [0, 1, 2, 3, 4, 5, 6, 7] _ _ _ _
     generalize hh2 : ({ h with bits := h.bits / 2 ^ (aheadF h q).toNat } : History) = h2
     have hB : hearB h q = h2.bits := by
       rw [← hh2]
       unfold hearB
       rw [if_neg (by rw [not_or, not_or]; exact ⟨by rw [c20]; simp, by omega, by omega⟩), if_pos (by omega)]
     refine Sq.quiet (i := 0) rfl (Want.none rfl) rfl (ltN rfl) (QP.fieldAddr rfl rfl f51_0).read ?_
     refine Sq.quiet (i := 1) rfl (Want.none rfl) rfl (ltN rfl) (QR.load1 rfl rfl g30 (History.sub_bits _)) ?_
     refine Sq.quiet (i := 2) rfl (Want.none rfl) rfl (ltN rfl) (QP.shr16 rfl rfl rfl (by first | omega | (simp <;> omega)) (by first | omega | (simp <;> omega))).read ?_
     refine Sq.quiet (i := 3) rfl (Want.none rfl) rfl (ltN rfl) (QP.or16 rfl rfl rfl).read ?_
     refine Sq.quiet (i := 4) rfl (Want.none rfl) rfl (ltN rfl) (QP.move rfl rfl).read ?_
     refine Sq.quiet (i := 5) rfl (Want.none rfl) rfl (ltN rfl) (QP.add rfl rfl rfl).read ?_
     refine Sq.quiet (i := 6) rfl (Want.none rfl) rfl (ltN rfl) (QP.build (l := History.enc ⟨((or16 ((h2).bits / 2 ^ (1 : Int).toNat) 32768)), _, _⟩) rfl st51 rfl (by exact ⟨rfl, ⟨rfl, ⟨rfl, trivial⟩⟩⟩) rfl).read ?_
     refine Sq.act (i := 7) rfl (Want.none rfl) rfl (EF.storeA rfl rfl rfl z51 (SetL.all (History.enc_len _) (History.enc_len _)) (History.enc_cell _)) ?_
     rintro _ _ rfl
     refine Sq.nil ?_
     refine hk8 _ _ ?_
     refine Run.ret ?_
     exact J.ends (res_cell rfl rfl g51 (History.enc_sub _)) Takes.nil ⟨by unfold hearF; rw [hB]; rfl, rfl⟩
    ·skip
     refine Sq.quiet (i := 2) rfl (Want.none rfl) rfl (ltN rfl) (QP.assign rfl rfl).read ?_
     refine Sq.nil ?_
     refine hk7 _ _ ?_
     refine Run.cond_f rfl ?_
     refine Run.region ?_
     show Sq _ _ _ [0, 1, 2, 3, 4, 5, 6] _ _ _ _
     have hneg : IntKind.i64.wrap (-(aheadF h q)) = -(aheadF h q) := wrap_i64 (by omega) (by omega)
     refine Sq.quiet (i := 0) rfl (Want.none rfl) rfl (ltN rfl) (QP.fieldAddr rfl rfl f51_0).read ?_
     refine Sq.quiet (i := 1) rfl (Want.none rfl) rfl (ltN rfl) (QR.load1 rfl rfl g30 (History.sub_bits _)) ?_
     refine Sq.quiet (i := 2) rfl (Want.none rfl) rfl (ltN rfl) (QP.move rfl rfl).read ?_
     refine Sq.quiet (i := 3) rfl (Want.none rfl) rfl (ltN rfl) (QP.neg rfl rfl).read ?_
     refine Sq.quiet (i := 4) rfl (Want.none rfl) rfl (ltN rfl) (QP.shl16 rfl rfl rfl (by first | omega | (simp <;> omega)) (by first | omega | (simp <;> omega))).read ?_
     refine Sq.quiet (i := 5) rfl (Want.none rfl) rfl (ltN rfl) (QP.fieldAddr rfl rfl f51_0).read ?_
     refine Sq.act (i := 6) rfl (Want.none rfl) rfl (EF.store rfl rfl rfl z30 (History.set_bits _ _) (cell_one rfl)) ?_
     rintro _ _ rfl
     refine Sq.nil ?_
     refine hk3 _ _ ?_
     refine Run.seq fun k9 hk9 => ?_
     refine Run.region ?_
     show Sq _ _ _ [0, 1, 2, 3, 4, 5, 6, 7] _ _ _ _
     generalize hh2 : ({ h with bits := IntKind.u16.wrap (h.bits * 2 ^ (IntKind.i64.wrap (-(aheadF h q))).toNat) } : History) = h2
     have hB : hearB h q = h2.bits := by
       rw [← hh2]
       unfold hearB
       rw [if_neg (by rw [not_or, not_or]; exact ⟨by rw [c20]; simp, by omega, by omega⟩), if_neg (by omega)]
     refine Sq.quiet (i := 0) rfl (Want.none rfl) rfl (ltN rfl) (QP.fieldAddr rfl rfl f51_0).read ?_
     refine Sq.quiet (i := 1) rfl (Want.none rfl) rfl (ltN rfl) (QR.load1 rfl rfl g30 (History.sub_bits _)) ?_
     refine Sq.quiet (i := 2) rfl (Want.none rfl) rfl (ltN rfl) (QP.shr16 rfl rfl rfl (by first | omega | (simp <;> omega)) (by first | omega | (simp <;> omega))).read ?_
     refine Sq.quiet (i := 3) rfl (Want.none rfl) rfl (ltN rfl) (QP.or16 rfl rfl rfl).read ?_
     refine Sq.quiet (i := 4) rfl (Want.none rfl) rfl (ltN rfl) (QP.move rfl rfl).read ?_
     refine Sq.quiet (i := 5) rfl (Want.none rfl) rfl (ltN rfl) (QP.add rfl rfl rfl).read ?_
     refine Sq.quiet (i := 6) rfl (Want.none rfl) rfl (ltN rfl) (QP.build (l := History.enc ⟨((or16 ((h2).bits / 2 ^ (1 : Int).toNat) 32768)), _, _⟩) rfl st51 rfl (by exact ⟨rfl, ⟨rfl, ⟨rfl, trivial⟩⟩⟩) rfl).read ?_
     refine Sq.act (i := 7) rfl (Want.none rfl) rfl (EF.storeA rfl rfl rfl z51 (SetL.all (History.enc_len _) (History.enc_len _)) (History.enc_cell _)) ?_
     rintro _ _ rfl
     refine Sq.nil ?_
     refine hk9 _ _ ?_
     refine Run.ret ?_
     exact J.ends (res_cell rfl rfl g51 (History.enc_sub _)) Takes.nil ⟨by unfold hearF; rw [hB]; rfl, rfl⟩
 ·skip
  refine Sq.quiet (i := 2) rfl (Want.none rfl) rfl (ltN rfl) (QP.not rfl rfl).read ?_
  refine Sq.quiet (i := 3) rfl (Want.none rfl) rfl (ltN rfl) (QP.move rfl rfl).read ?_
  refine Sq.skip (i := 4) rfl (Want.no rfl rfl rfl rfl) rfl (ltN rfl) ?_
  refine Sq.skip (i := 5) rfl (Want.no rfl rfl rfl rfl) rfl (ltN rfl) ?_
  refine Sq.quiet (i := 6) rfl (Want.none rfl) rfl (ltN rfl) (QP.pick_t rfl rfl rfl).read ?_
  refine Sq.quiet (i := 7) rfl (Want.none rfl) rfl (ltN rfl) (QP.move rfl rfl).read ?_
  refine Sq.skip (i := 8) rfl (Want.no rfl rfl rfl rfl) rfl (ltN rfl) ?_
  refine Sq.skip (i := 9) rfl (Want.no rfl rfl rfl rfl) rfl (ltN rfl) ?_
  refine Sq.quiet (i := 10) rfl (Want.none rfl) rfl (ltN rfl) (QP.pick_t rfl rfl rfl).read ?_
  refine Sq.quiet (i := 11) rfl (Want.none rfl) rfl (ltN rfl) (QP.assign rfl rfl).read ?_
  refine Sq.nil ?_
  refine hk4 _ _ ?_
  refine Run.cond_t rfl ?_
  refine Run.region ?_
  show Sq _ _ _ [0, 1] _ _ _ _
  refine Sq.quiet (i := 0) rfl (Want.none rfl) rfl (ltN rfl) (QP.fieldAddr rfl rfl f51_0).read ?_
  refine Sq.act (i := 1) rfl (Want.none rfl) rfl (EF.store rfl rfl rfl z30 (History.set_bits _ _) (cell_one rfl)) ?_
  rintro _ _ rfl
  refine Sq.nil ?_
  refine hk3 _ _ ?_
  refine Run.seq fun k10 hk10 => ?_
  refine Run.region ?_
  show Sq _ _ _ [0, 1, 2, 3, 4, 5, 6, 7] _ _ _ _
  generalize hh2 : ({ h with bits := 0 } : History) = h2
  have hB : hearB h q = h2.bits := by
    rw [← hh2]
    unfold hearB
    rw [if_pos (.inl c20)]
  refine Sq.quiet (i := 0) rfl (Want.none rfl) rfl (ltN rfl) (QP.fieldAddr rfl rfl f51_0).read ?_
  refine Sq.quiet (i := 1) rfl (Want.none rfl) rfl (ltN rfl) (QR.load1 rfl rfl g30 (History.sub_bits _)) ?_
  refine Sq.quiet (i := 2) rfl (Want.none rfl) rfl (ltN rfl) (QP.shr16 rfl rfl rfl (by first | omega | (simp <;> omega)) (by first | omega | (simp <;> omega))).read ?_
  refine Sq.quiet (i := 3) rfl (Want.none rfl) rfl (ltN rfl) (QP.or16 rfl rfl rfl).read ?_
  refine Sq.quiet (i := 4) rfl (Want.none rfl) rfl (ltN rfl) (QP.move rfl rfl).read ?_
  refine Sq.quiet (i := 5) rfl (Want.none rfl) rfl (ltN rfl) (QP.add rfl rfl rfl).read ?_
  refine Sq.quiet (i := 6) rfl (Want.none rfl) rfl (ltN rfl) (QP.build (l := History.enc ⟨((or16 ((h2).bits / 2 ^ (1 : Int).toNat) 32768)), _, _⟩) rfl st51 rfl (by exact ⟨rfl, ⟨rfl, ⟨rfl, trivial⟩⟩⟩) rfl).read ?_
  refine Sq.act (i := 7) rfl (Want.none rfl) rfl (EF.storeA rfl rfl rfl z51 (SetL.all (History.enc_len _) (History.enc_len _)) (History.enc_cell _)) ?_
  rintro _ _ rfl
  refine Sq.nil ?_
  refine hk10 _ _ ?_
  refine Run.ret ?_
  exact J.ends (res_cell rfl rfl g51 (History.enc_sub _)) Takes.nil ⟨by unfold hearF; rw [hB]; rfl, rfl⟩

theorem miss_spec (F : Fr) (h : History) : Spec Try.prog 47 #[.agg (History.enc h).toArray, .int .i64 1] [] F (fun v S => v = .agg (History.enc (missF h)).toArray ∧ S = []) := by
 refine Spec.intro (N := 26) (args := [.agg (History.enc h).toArray, .int .i64 1]) Try.func47 rfl rfl (by simp) ?_
 refine Run.seq fun k1 hk1 => ?_
 refine Run.region ?_
 show Sq _ _ _ [0, 1] _ _ _ _
 refine Sq.eff (i := 0) rfl (Want.none rfl) rfl (ltN rfl) (EF.boxA rfl rfl) ?_
 rintro _ _ ⟨b2, rfl, rfl⟩
 refine Sq.eff (i := 1) rfl (Want.none rfl) rfl (ltN rfl) (EF.allocA (l := History.enc History.zero) rfl zero51) ?_
 rintro _ _ ⟨b4, rfl, rfl⟩
 refine Sq.nil ?_
 refine hk1 _ _ ?_
 refine Run.seq fun k2 hk2 => ?_
 refine Run.seq fun k3 hk3 => ?_
 refine Run.region ?_
 show Sq _ _ _ [0, 1, 2, 3, 4, 5, 6] _ _ _ _
 refine Sq.quiet (i := 0) rfl (Want.none rfl) rfl (ltN rfl) (QP.fieldAddr rfl rfl f51_2).read ?_
 refine Sq.quiet (i := 1) rfl (Want.none rfl) rfl (ltN rfl) (QR.load1 rfl rfl g4 (History.sub_known _)) ?_
 refine J.caseB (fun c6 => ?_) (fun c6 => ?_)
 ·skip
  refine Sq.quiet (i := 2) rfl (Want.none rfl) rfl (ltN rfl) (QP.not rfl rfl).read ?_
  refine Sq.quiet (i := 3) rfl (Want.none rfl) rfl (ltN rfl) (QP.move rfl rfl).read ?_
  refine Sq.quiet (i := 4) rfl (Want.yes rfl rfl rfl rfl) rfl (ltN rfl) (QP.move rfl rfl).read ?_
  refine Sq.quiet (i := 5) rfl (Want.yes rfl rfl rfl rfl) rfl (ltN rfl) (QP.lss rfl rfl rfl).read ?_
  refine Sq.quiet (i := 6) rfl (Want.none rfl) rfl (ltN rfl) (QP.pick_f rfl rfl rfl).read ?_
  refine Sq.nil ?_
  refine hk3 _ _ ?_
  refine Run.cond_f rfl ?_
  refine Run.skip ?_
  refine hk2 _ _ ?_
  refine Run.seq fun k4 hk4 => ?_
  refine Run.region ?_
  show Sq _ _ _ [0, 1, 2, 3, 4, 5, 6] _ _ _ _
  refine Sq.quiet (i := 0) rfl (Want.none rfl) rfl (ltN rfl) (QP.fieldAddr rfl rfl f51_0).read ?_
  refine Sq.quiet (i := 1) rfl (Want.none rfl) rfl (ltN rfl) (QR.load1 rfl rfl g30 (History.sub_bits _)) ?_
  refine Sq.quiet (i := 2) rfl (Want.none rfl) rfl (ltN rfl) (QP.move rfl rfl).read ?_
  refine Sq.quiet (i := 3) rfl (Want.none rfl) rfl (ltN rfl) (QP.min2 rfl rfl rfl).read ?_
  rw [show (if (16 : Int) < 1 then (16 : Int) else 1) = 1 from rfl]
  refine Sq.quiet (i := 4) rfl (Want.none rfl) rfl (ltN rfl) (QP.shr16 rfl rfl rfl (by first | omega | (simp <;> omega)) (by first | omega | (simp <;> omega))).read ?_
  refine Sq.quiet (i := 5) rfl (Want.none rfl) rfl (ltN rfl) (QP.fieldAddr rfl rfl f51_0).read ?_
  refine Sq.act (i := 6) rfl (Want.none rfl) rfl (EF.store rfl rfl rfl z30 (History.set_bits _ _) (cell_one rfl)) ?_
  rintro _ _ rfl
  refine Sq.nil ?_
  refine hk4 _ _ ?_
  refine Run.seq fun k5 hk5 => ?_
  refine Run.region ?_
  show Sq _ _ _ [0, 1, 2, 3, 4, 5, 6] _ _ _ _
  refine Sq.quiet (i := 0) rfl (Want.none rfl) rfl (ltN rfl) (QP.fieldAddr rfl rfl f51_1).read ?_
  refine Sq.quiet (i := 1) rfl (Want.none rfl) rfl (ltN rfl) (QR.load1 rfl rfl g30 (History.sub_next _)) ?_
  refine Sq.quiet (i := 2) rfl (Want.none rfl) rfl (ltN rfl) (QP.move rfl rfl).read ?_
  refine Sq.quiet (i := 3) rfl (Want.none rfl) rfl (ltN rfl) (QP.conv rfl rfl Try.underlying3 Try.underlying30).read ?_
  rw [show IntKind.u16.wrap 1 = 1 by decide]
  refine Sq.quiet (i := 4) rfl (Want.none rfl) rfl (ltN rfl) (QP.add rfl rfl rfl).read ?_
  refine Sq.quiet (i := 5) rfl (Want.none rfl) rfl (ltN rfl) (QP.fieldAddr rfl rfl f51_1).read ?_
  refine Sq.act (i := 6) rfl (Want.none rfl) rfl (EF.store rfl rfl rfl z30 (History.set_next _ _) (cell_one rfl)) ?_
  rintro _ _ rfl
  refine Sq.nil ?_
  refine hk5 _ _ ?_
  refine Run.seq fun k6 hk6 => ?_
  refine Run.region ?_
  show Sq _ _ _ [0, 1] _ _ _ _
  refine Sq.quiet (i := 0) rfl (Want.none rfl) rfl (ltN rfl) (QR.load rfl rfl g51 (History.enc_sub _)) ?_
  refine Sq.act (i := 1) rfl (Want.none rfl) rfl (EF.storeA rfl rfl rfl z51 (SetL.all (History.enc_len _) (History.enc_len _)) (History.enc_cell _)) ?_
  rintro _ _ rfl
  refine Sq.nil ?_
  refine hk6 _ _ ?_
  refine Run.ret ?_
  exact J.ends (res_cell rfl rfl g51 (History.enc_sub _)) Takes.nil ⟨by unfold missF; rw [if_pos c6], rfl⟩
 ·skip
  refine Sq.quiet (i := 2) rfl (Want.none rfl) rfl (ltN rfl) (QP.not rfl rfl).read ?_
  refine Sq.quiet (i := 3) rfl (Want.none rfl) rfl (ltN rfl) (QP.move rfl rfl).read ?_
  refine Sq.skip (i := 4) rfl (Want.no rfl rfl rfl rfl) rfl (ltN rfl) ?_
  refine Sq.skip (i := 5) rfl (Want.no rfl rfl rfl rfl) rfl (ltN rfl) ?_
  refine Sq.quiet (i := 6) rfl (Want.none rfl) rfl (ltN rfl) (QP.pick_t rfl rfl rfl).read ?_
  refine Sq.nil ?_
  refine hk3 _ _ ?_
  refine Run.cond_t rfl ?_
  refine Run.seq fun k7 hk7 => ?_
  refine Run.region ?_
  show Sq _ _ _ [0, 1] _ _ _ _
  refine Sq.quiet (i := 0) rfl (Want.none rfl) rfl (ltN rfl) (QR.load rfl rfl g51 (History.enc_sub _)) ?_
  refine Sq.act (i := 1) rfl (Want.none rfl) rfl (EF.storeA rfl rfl rfl z51 (SetL.all (History.enc_len _) (History.enc_len _)) (History.enc_cell _)) ?_
  rintro _ _ rfl
  refine Sq.nil ?_
  refine hk7 _ _ ?_
  refine Run.ret ?_
  exact J.ends (res_cell rfl rfl g51 (History.enc_sub _)) Takes.nil ⟨by unfold missF; rw [if_neg (by rw [c6]; simp)], rfl⟩
end Slb
