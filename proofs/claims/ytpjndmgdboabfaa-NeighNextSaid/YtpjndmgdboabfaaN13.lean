/- N13: a part of the proof that a law of this package holds for every input; no condition. -/
import Derived.Test.YtpjndmgdboabfaaN12
import Derived.Test.YtpjndmgdboabfaaM2
namespace Slb
open Go Go.Proofs
set_option maxRecDepth 20000
def x0 : IfConf := ⟨⟨#[101, 48]⟩, 0, 96, 4000, 16000, 1280, ⟨[254, 128, 0, 0, 0, 0, 0, 0, 0, 0, 0, 0, 0, 0, 0, 1], rfl⟩, Bs.zero 16, Rtt.zero⟩
def fr0 : Bs 16 := ⟨[254, 128, 0, 0, 0, 0, 0, 0, 0, 0, 0, 0, 0, 0, 0, 2], rfl⟩
def j0 : I64 := ⟨0, by omega⟩
def k0 : NeighKey := ⟨j0, fr0⟩
def liveH (i : Nat) : Tlv := ⟨4, 0, 400, IntKind.u16.wrap i, 0, 0, 0, false, false, Bs.zero 8, Bs.zero 16, Pair.zero, Slc.zero⟩
def liveU : Tlv := ⟨5, 0, 1200, 0, 96, 0, 0, false, false, Bs.zero 8, Bs.zero 16, Pair.zero, Slc.zero⟩
def liveM : Nat → TabN
  | 0 => []
  | n + 1 => (helloF 1 4 (liveM n) (n * 4000) j0 fr0 (liveH n) []).2
theorem liveH_wf {i : Nat} (h : i < 3) : (liveH i).WF := by
  have : ∀ k : Fin 3, 0 ≤ IntKind.u16.wrap (k.val : Int) ∧ IntKind.u16.wrap (k.val : Int) ≤ 65535 := by decide
  have hs := this ⟨i, h⟩
  exact ⟨(by decide : (0 : Int) ≤ 4 ∧ (4 : Int) ≤ 255), (by decide : (0 : Int) ≤ 0 ∧ (0 : Int) ≤ 65535), (by decide : (0 : Int) ≤ 400 ∧ (400 : Int) ≤ 65535), hs, (by decide : (0 : Int) ≤ 0 ∧ (0 : Int) ≤ 65535), (by decide : (0 : Int) ≤ 0 ∧ (0 : Int) ≤ 65535), (by decide : (0 : Int) ≤ 0 ∧ (0 : Int) ≤ 255), trivial, trivial, trivial, trivial, ⟨⟨trivial, trivial⟩, ⟨trivial, trivial⟩⟩, trivial⟩
theorem liveU_wf : liveU.WF := by
  exact ⟨(by decide : (0 : Int) ≤ 5 ∧ (5 : Int) ≤ 255), (by decide : (0 : Int) ≤ 0 ∧ (0 : Int) ≤ 65535), (by decide : (0 : Int) ≤ 1200 ∧ (1200 : Int) ≤ 65535), (by decide : (0 : Int) ≤ 0 ∧ (0 : Int) ≤ 65535), (by decide : (0 : Int) ≤ 96 ∧ (96 : Int) ≤ 65535), (by decide : (0 : Int) ≤ 0 ∧ (0 : Int) ≤ 65535), (by decide : (0 : Int) ≤ 0 ∧ (0 : Int) ≤ 255), trivial, trivial, trivial, trivial, ⟨⟨trivial, trivial⟩, ⟨trivial, trivial⟩⟩, trivial⟩
theorem live_good : ∀ n, n ≤ 3 → GoodN [x0].length (liveM n)
  | 0, _ => GoodN.nil _
  | n + 1, h => good_hello (live_good n (by omega)) (by omega) j0 fr0 (liveH_wf (by omega)) []
theorem live_err {i : Nat} (h : i < 3) : (helloF [x0].length 4 (liveM i) (i * 4000) j0 fr0 (liveH i) []).1 = 0 := by
  have : ∀ k : Fin 3, (helloF 1 4 (liveM k.val) (k.val * 4000) j0 fr0 (liveH k.val) []).1 = 0 := by decide +kernel
  exact this ⟨i, h⟩
def S3 : Neighbour := (alook (liveM 3) k0).getD Neighbour.zero
def M4 : TabN := (ihuF 1 (liveM 3) 8000 j0 fr0 liveU S3.rtt S3.hasRtt).2
def M5 : TabN := tickM 14000 M4
def M6 : TabN := tickM 18000 M5
theorem look3 : alook (liveM 3) ⟨j0, fr0⟩ = some S3 := by decide +kernel
theorem cost3 {n : Int} (h : CostP [x0] (liveM 3) j0 fr0 n) : n = 65535 := by
  unfold CostP at h
  rw [look3] at h
  obtain ⟨R, _, h2, _⟩ := h x0 rfl
  exact h2 (.inr (by decide +kernel))
theorem rx3 {n : Int} (h : RxP [x0] (liveM 3) j0 fr0 n) : n = 96 := by
  unfold RxP at h
  rw [look3] at h
  rw [h x0 rfl rfl]
  decide +kernel
theorem ihu3 (rt : Int) (hr : Bool) : (ihuF [x0].length (liveM 3) 8000 j0 fr0 liveU rt hr).1 = 0 := by
  unfold ihuF
  rw [if_neg (by decide +kernel), look3]
theorem ihu4 {rt : Int} {hr : Bool} (h : ([] : List Int).length < 2 → ∀ s, alook (liveM 3) ⟨j0, fr0⟩ = some s → rt = s.rtt ∧ hr = s.hasRtt) : (ihuF [x0].length (liveM 3) 8000 j0 fr0 liveU rt hr).2 = M4 := by
  obtain ⟨h1, h2⟩ := h (by decide) S3 look3
  rw [h1, h2]
  rfl
theorem good4 : GoodN [x0].length M4 := good_ihu (live_good 3 (by omega)) _ _ _ _ _ _
theorem good5 : GoodN [x0].length M5 := good_tick good4 _
theorem good6 : GoodN [x0].length M6 := good_tick good5 _
theorem len4 : M4.length ≤ 1000000 := by decide +kernel
theorem len5 : M5.length ≤ 1000000 := by decide +kernel
theorem len6 : M6.length = 1 := by decide +kernel
theorem costW {M : TabN} {s : Neighbour} {n : Int} (hl : alook M ⟨j0, fr0⟩ = some s) (h : CostP [x0] M j0 fr0 n) : (rxN x0 s = 65535 → n = 65535) ∧ (rxN x0 s ≠ 65535 → s.tx ≠ 65535 → s.hasRtt = false → n = s.tx) := by
  unfold CostP at h
  rw [hl] at h
  obtain ⟨R, h1, h2, h3⟩ := h x0 rfl
  have e := h1 rfl
  subst e
  exact ⟨fun h => h2 (.inl h), fun a b c => h3 a b rfl c⟩
def S4 : Neighbour := (alook M4 k0).getD Neighbour.zero
def S5 : Neighbour := (alook M5 k0).getD Neighbour.zero
def S6 : Neighbour := (alook M6 k0).getD Neighbour.zero
theorem cost4 {n : Int} (h : CostP [x0] M4 j0 fr0 n) : n = 96 := by
  rw [(costW (s := S4) (by decide +kernel) h).2 (by decide +kernel) (by decide +kernel) (by decide +kernel)]; decide +kernel
theorem cost5 {n : Int} (h : CostP [x0] M5 j0 fr0 n) : n = 96 := by
  rw [(costW (s := S5) (by decide +kernel) h).2 (by decide +kernel) (by decide +kernel) (by decide +kernel)]; decide +kernel
theorem cost6 {n : Int} (h : CostP [x0] M6 j0 fr0 n) : n = 65535 := (costW (s := S6) (by decide +kernel) h).1 (by decide +kernel)
theorem rtt0 : ∀ cf ∈ [x0], RttOk cf.rtt := by
  intro cf h
  simp only [List.mem_singleton] at h
  subst h
  exact .inl rfl

theorem wired_spec (F : Fr)  : Spec Try.prog 23 #[] [] F (fun v S => v = .agg (IfConf.enc x0).toArray ∧ S = []) := by
 refine Spec.intro (N := 3) (args := []) Try.func23 rfl rfl (by simp) ?_
 refine Run.seq fun k1 hk1 => ?_
 refine Run.region ?_
 show Sq _ _ _ [0] _ _ _ _
 refine Sq.eff (i := 0) rfl (Want.none rfl) rfl (ltN rfl) (EF.allocA (l := IfConf.enc IfConf.zero) rfl zero60) ?_
 rintro _ _ ⟨b0, rfl, rfl⟩
 refine Sq.nil ?_
 refine hk1 _ _ ?_
 refine Run.seq fun k2 hk2 => ?_
 refine Run.region ?_
 show Sq _ _ _ [0, 1, 2] _ _ _ _
 refine Sq.quiet (i := 0) rfl (Want.none rfl) rfl (ltN rfl) (QP.const (.agg (Bs.enc (⟨[254, 128, 0, 0, 0, 0, 0, 0, 0, 0, 0, 0, 0, 0, 0, 1], rfl⟩ : Bs 16)).toArray) (fun _ _ => by kernel_rfl)).read ?_
 refine Sq.quiet (i := 1) rfl (Want.none rfl) rfl (ltN rfl) (QP.build (l := IfConf.enc x0) rfl st60 rfl (by exact ⟨rfl, ⟨rfl, ⟨rfl, ⟨rfl, ⟨rfl, ⟨congrArg some (Bs.len _).symm, trivial⟩⟩⟩⟩⟩⟩) rfl).read ?_
 refine Sq.act (i := 2) rfl (Want.none rfl) rfl (EF.storeA rfl rfl rfl z60 (SetL.all (IfConf.enc_len _) (IfConf.enc_len _)) (IfConf.enc_cell _)) ?_
 rintro _ _ rfl
 refine Sq.nil ?_
 refine hk2 _ _ ?_
 refine Run.ret ?_
 exact J.ends (res_cell rfl rfl g60 (IfConf.enc_sub _)) Takes.nil ⟨rfl, rfl⟩

set_option maxHeartbeats 1600000 in
theorem live_spec (F : Fr)  : Spec Try.prog 9 #[] [] F (fun v S => v = .bool true ∧ S = []) := by
 refine Spec.intro (N := 70) (args := []) Try.func9 rfl rfl (by simp) ?_
 refine Run.seq fun k1 hk1 => ?_
 refine Run.region ?_
 show Sq _ _ _ [0] _ _ _ _
 refine Sq.quiet (i := 0) rfl (Want.none rfl) rfl (ltN rfl) (QP.assign rfl rfl).read ?_
 refine Sq.nil ?_
 refine hk1 _ _ ?_
 refine Run.seq fun k2 hk2 => ?_
 refine Run.region ?_
 show Sq _ _ _ [0, 1, 2, 3] _ _ _ _
 refine Sq.eff (i := 0) rfl (Want.none rfl) rfl (ltN rfl) (EF.call rfl ce23 rfl Takes.nil (fun F' hle hr => wired_spec F')) ?_
 rintro _ _ ⟨_, ⟨rfl, rfl⟩, rfl⟩
 refine J.app ?_
 refine Sq.eff (i := 1) rfl (Want.none rfl) rfl (ltN rfl) (EF.buildSlice1 rfl Try.underlying22 z60 zero60 (by simp [Value.cells, IfConf.enc_len]) (by decide) rfl rfl (IfConf.enc_len _) (by decide)) ?_
 rintro _ _ ⟨b6, rfl, rfl⟩
 refine Sq.eff (i := 2) rfl (Want.none rfl) rfl (ltN rfl) (EF.call rfl ce10 rfl Takes.nil (fun F' hle hr => newA F' 4 (xs := [x0]) (by decide) (argSl_one IfConf.enc_len (x := x0) (hr b6 _ (by repeat constructor))))) ?_
 rintro _ _ ⟨_, ⟨tb, rfl, rfl⟩, rfl⟩
 refine J.app ?_
 refine Sq.quiet (i := 3) rfl (Want.none rfl) rfl (ltN rfl) (QP.assign rfl rfl).read ?_
 refine Sq.nil ?_
 refine hk2 _ _ ?_
 refine Run.seq fun k3 hk3 => ?_
 refine Run.region ?_
 show Sq _ _ _ [0, 1, 2] _ _ _ _
 refine Sq.quiet (i := 0) rfl (Want.none rfl) rfl (ltN rfl) (QP.const (.agg (Bs.enc (⟨[254, 128, 0, 0, 0, 0, 0, 0, 0, 0, 0, 0, 0, 0, 0, 2], rfl⟩ : Bs 16)).toArray) (fun _ _ => by kernel_rfl)).read ?_
 refine Sq.eff (i := 1) rfl (Want.none rfl) rfl (ltN rfl) (EF.allocA (l := (Bs.zero 16).enc) rfl zero29) ?_
 rintro _ _ ⟨b2, rfl, rfl⟩
 refine Sq.act (i := 2) rfl (Want.none rfl) rfl (EF.storeA rfl rfl rfl z29 (SetL.all (Bs.len _) (Bs.len _)) (Bs.cell _)) ?_
 rintro _ _ rfl
 refine Sq.nil ?_
 refine hk3 _ _ ?_
 refine Run.seq fun k4 hk4 => ?_
 refine Run.seq fun k5 hk5 => ?_
 refine Run.region ?_
 show Sq _ _ _ [0, 1] _ _ _ _
 refine Sq.quiet (i := 0) rfl (Want.none rfl) rfl (ltN rfl) (QP.move rfl rfl).read ?_
 refine Sq.quiet (i := 1) rfl (Want.none rfl) rfl (ltN rfl) (QP.ptr_eq_nil rfl rfl rfl Try.underlying26).read ?_
 refine Sq.nil ?_
 refine hk5 _ _ ?_
 refine Run.cond_f rfl ?_
 refine Run.skip ?_
 refine hk4 _ _ ?_
 refine Run.seq fun k6 hk6 => ?_
 refine Run.seq fun k7 hk7 => ?_
 refine Run.region ?_
 show Sq _ _ _ [0] _ _ _ _
 refine Sq.quiet (i := 0) rfl (Want.none rfl) rfl (ltN rfl) (QP.assign rfl rfl).read ?_
 refine Sq.nil ?_
 refine hk7 _ _ ?_
 refine Run.block ?_
 refine Run.loop1 (fun (i : Nat) => i ≤ 3) (fun i => .cons 1 (fp tb) (.cons 2 (.pointer (some ⟨b2, 0, none⟩)) (.cons 3 (.int .i64 i) (.nil)))) (fun i => [NA tb 4 [x0] (liveM i), blk b2 (Bs.enc fr0) 29]) (fun i => 3 - i) (0) (Nat.zero_le _) ?_ ?_
 ·exact fun _ j => J.envJ (J.keep (.cons (by repeat constructor) (.cons (by repeat constructor) Takes.nil)) j) ⟨rfl, rfl, rfl, trivial⟩
 rintro i hile kl8 hl8
 refine Run.seq fun k9 hk9 => ?_
 refine Run.seq fun k10 hk10 => ?_
 refine Run.region ?_
 show Sq _ _ _ [0, 1] _ _ _ _
 refine Sq.quiet (i := 0) rfl (Want.none rfl) rfl (ltN rfl) (QP.move rfl rfl).read ?_
 refine Sq.quiet (i := 1) rfl (Want.none rfl) rfl (ltN rfl) (QP.lss rfl rfl rfl).read ?_
 refine J.caseD (fun c12 => ?_) (fun c12 => ?_)
 ·skip
  refine Sq.nil ?_
  refine hk10 _ _ ?_
  refine Run.cond_t rfl ?_
  refine Run.skip ?_
  refine hk9 _ _ ?_
  refine Run.seq fun k11 hk11 => ?_
  refine Run.block ?_
  refine Run.seq fun k12 hk12 => ?_
  refine Run.region ?_
  show Sq _ _ _ [0, 1, 2, 3, 4, 5, 6, 7, 8, 9] _ _ _ _
  refine Sq.quiet (i := 0) rfl (Want.none rfl) rfl (ltN rfl) (QP.move rfl rfl).read ?_
  refine Sq.quiet (i := 1) rfl (Want.none rfl) rfl (ltN rfl) (QP.move rfl rfl).read ?_
  refine Sq.quiet (i := 2) rfl (Want.none rfl) rfl (ltN rfl) (QP.mul rfl rfl rfl).read ?_
  rw [show IntKind.i64.wrap ((i : Int) * 4000) = (i : Int) * 4000 from wrap_i64 (by omega) (by omega)]
  refine Sq.quiet (i := 3) rfl (Want.none rfl) rfl (ltN rfl) (QR.load rfl rfl g29 (Bs.sub _)) ?_
  refine Sq.quiet (i := 4) rfl (Want.none rfl) rfl (ltN rfl) (QP.move rfl rfl).read ?_
  refine Sq.quiet (i := 5) rfl (Want.none rfl) rfl (ltN rfl) (QP.conv rfl rfl Try.underlying3 Try.underlying30).read ?_
  refine Sq.quiet (i := 6) rfl (Want.none rfl) rfl (ltN rfl) (QP.build (l := Tlv.enc (liveH i)) rfl st39 rfl (by exact ⟨rfl, ⟨rfl, ⟨rfl, trivial⟩⟩⟩) rfl).read ?_
  refine Sq.eff (i := 7) rfl (Want.none rfl) rfl (ltN rfl) (EF.call rfl ce11 rfl (.cons (by repeat constructor) Takes.nil) (fun F' hle hr => helloA F' (most := 4) (live_good i (by omega)) (i * 4000) (by omega) (by omega) j0 fr0 (liveH i) (liveH_wf (by omega)) [] rfl (by decide) (fun h => absurd h (by decide)))) ?_
  rintro _ _ ⟨_, ⟨rfl, rfl⟩, rfl⟩
  refine J.app ?_
  rw [live_err (by omega)]
  refine Sq.eff (i := 8) rfl (Want.none rfl) rfl (ltN rfl) (EF.call rfl ce14 rfl Takes.nil (fun F' hle hr => num_spec F' _)) ?_
  rintro _ _ ⟨_, ⟨rfl, rfl⟩, rfl⟩
  refine J.app ?_
  refine Sq.quiet (i := 9) rfl (Want.none rfl) rfl (ltN rfl) (QP.neq rfl rfl rfl).read ?_
  refine J.decF (fun h => h rfl) ?_
  refine Sq.nil ?_
  refine hk12 _ _ ?_
  refine Run.cond_f rfl ?_
  refine Run.skip ?_
  refine hk11 _ _ ?_
  refine Run.region ?_
  show Sq _ _ _ [0, 1, 2] _ _ _ _
  refine Sq.quiet (i := 0) rfl (Want.none rfl) rfl (ltN rfl) (QP.move rfl rfl).read ?_
  refine Sq.quiet (i := 1) rfl (Want.none rfl) rfl (ltN rfl) (QP.add64 rfl rfl rfl (by first | omega | (simp <;> omega)) (by first | omega | (simp <;> omega))).read ?_
  refine Sq.quiet (i := 2) rfl (Want.none rfl) rfl (ltN rfl) (QP.assign rfl rfl).read ?_
  refine Sq.nil ?_
  exact J.envJ (J.keep (.cons (by repeat constructor) (.cons (by repeat constructor) Takes.nil)) (hl8 (i + 1) (by omega) (by omega))) ⟨rfl, rfl, rfl, trivial⟩
 ·skip
  refine Sq.nil ?_
  refine hk10 _ _ ?_
  refine Run.cond_f rfl ?_
  refine Run.exit rfl ?_
  refine hk6 _ _ ?_
  refine Run.seq fun k13 hk13 => ?_
  refine Run.seq fun k14 hk14 => ?_
  refine Run.region ?_
  show Sq _ _ _ [0, 1, 2, 3, 4, 5, 6, 7, 8, 9, 10, 11, 12, 13, 14, 15, 16, 17, 18, 19, 20, 21, 22, 23] _ _ _ _
  obtain rfl : i = 3 := by omega
  refine Sq.quiet (i := 0) rfl (Want.none rfl) rfl (ltN rfl) (QP.move rfl rfl).read ?_
  refine Sq.quiet (i := 1) rfl (Want.none rfl) rfl (ltN rfl) (QR.load rfl rfl g29 (Bs.sub _)) ?_
  refine Sq.eff (i := 2) rfl (Want.none rfl) rfl (ltN rfl) (EF.call rfl ce18 rfl (.cons (by repeat constructor) Takes.nil) (fun F' hle hr => costA F' (M := liveM 3) (live_good 3 (by omega)) rtt0 j0 fr0)) ?_
  rintro _ _ ⟨_, ⟨n27, rfl, hn27, rfl⟩, rfl⟩
  refine J.app ?_
  refine Sq.quiet (i := 3) rfl (Want.none rfl) rfl (ltN rfl) (QP.neq rfl rfl rfl).read ?_
  refine J.decF (fun h => h (cost3 hn27)) ?_
  refine Sq.quiet (i := 4) rfl (Want.none rfl) rfl (ltN rfl) (QP.move rfl rfl).read ?_
  refine Sq.quiet (i := 5) rfl (Want.yes rfl rfl rfl rfl) rfl (ltN rfl) (QP.move rfl rfl).read ?_
  refine Sq.quiet (i := 6) rfl (Want.yes rfl rfl rfl rfl) rfl (ltN rfl) (QR.load rfl rfl g29 (Bs.sub _)) ?_
  refine Sq.eff (i := 7) rfl (Want.yes rfl rfl rfl rfl) rfl (ltN rfl) (EF.call rfl ce16 rfl (.cons (by repeat constructor) Takes.nil) (fun F' hle hr => rxA F' (M := liveM 3) (live_good 3 (by omega)) j0 fr0)) ?_
  rintro _ _ ⟨_, ⟨n32, rfl, hn32, rfl⟩, rfl⟩
  refine J.app ?_
  refine Sq.quiet (i := 8) rfl (Want.yes rfl rfl rfl rfl) rfl (ltN rfl) (QP.neq rfl rfl rfl).read ?_
  refine J.decF (fun h => h (rx3 hn32)) ?_
  refine Sq.quiet (i := 9) rfl (Want.none rfl) rfl (ltN rfl) (QP.pick_f rfl rfl rfl).read ?_
  refine Sq.quiet (i := 10) rfl (Want.none rfl) rfl (ltN rfl) (QP.move rfl rfl).read ?_
  refine Sq.quiet (i := 11) rfl (Want.yes rfl rfl rfl rfl) rfl (ltN rfl) (QP.move rfl rfl).read ?_
  refine Sq.quiet (i := 12) rfl (Want.yes rfl rfl rfl rfl) rfl (ltN rfl) (QR.load rfl rfl g29 (Bs.sub _)) ?_
  refine Sq.quiet (i := 13) rfl (Want.yes rfl rfl rfl rfl) rfl (ltN rfl) (QP.build (l := Tlv.enc liveU) rfl st39 rfl (by exact ⟨rfl, ⟨rfl, ⟨rfl, trivial⟩⟩⟩) rfl).read ?_
  refine Sq.eff (i := 14) rfl (Want.yes rfl rfl rfl rfl) rfl (ltN rfl) (EF.call rfl ce15 rfl (.cons (by repeat constructor) Takes.nil) (fun F' hle hr => ihuA F' (M := liveM 3) 8000 (by decide) (by decide) j0 fr0 liveU liveU_wf [] rfl (by decide) (fun h => absurd h (by decide)))) ?_
  rintro _ _ ⟨_, ⟨rt39, hr39, hx39, rfl, rfl⟩, rfl⟩
  refine J.app ?_
  rw [ihu3, ihu4 hx39]
  refine Sq.eff (i := 15) rfl (Want.yes rfl rfl rfl rfl) rfl (ltN rfl) (EF.call rfl ce14 rfl Takes.nil (fun F' hle hr => num_spec F' _)) ?_
  rintro _ _ ⟨_, ⟨rfl, rfl⟩, rfl⟩
  refine J.app ?_
  refine Sq.quiet (i := 16) rfl (Want.yes rfl rfl rfl rfl) rfl (ltN rfl) (QP.neq rfl rfl rfl).read ?_
  refine J.decF (fun h => h rfl) ?_
  refine Sq.quiet (i := 17) rfl (Want.none rfl) rfl (ltN rfl) (QP.pick_f rfl rfl rfl).read ?_
  refine Sq.quiet (i := 18) rfl (Want.none rfl) rfl (ltN rfl) (QP.move rfl rfl).read ?_
  refine Sq.quiet (i := 19) rfl (Want.yes rfl rfl rfl rfl) rfl (ltN rfl) (QP.move rfl rfl).read ?_
  refine Sq.quiet (i := 20) rfl (Want.yes rfl rfl rfl rfl) rfl (ltN rfl) (QR.load rfl rfl g29 (Bs.sub _)) ?_
  refine Sq.eff (i := 21) rfl (Want.yes rfl rfl rfl rfl) rfl (ltN rfl) (EF.call rfl ce18 rfl (.cons (by repeat constructor) Takes.nil) (fun F' hle hr => costA F' (M := M4) good4 rtt0 j0 fr0)) ?_
  rintro _ _ ⟨_, ⟨n46, rfl, hn46, rfl⟩, rfl⟩
  refine J.app ?_
  refine Sq.quiet (i := 22) rfl (Want.yes rfl rfl rfl rfl) rfl (ltN rfl) (QP.neq rfl rfl rfl).read ?_
  refine J.decF (fun h => h (cost4 hn46)) ?_
  refine Sq.quiet (i := 23) rfl (Want.none rfl) rfl (ltN rfl) (QP.pick_f rfl rfl rfl).read ?_
  refine Sq.nil ?_
  refine hk14 _ _ ?_
  refine Run.cond_f rfl ?_
  refine Run.skip ?_
  refine hk13 _ _ ?_
  refine Run.seq fun k15 hk15 => ?_
  refine Run.region ?_
  show Sq _ _ _ [0, 1] _ _ _ _
  refine Sq.quiet (i := 0) rfl (Want.none rfl) rfl (ltN rfl) (QP.move rfl rfl).read ?_
  refine Sq.eff (i := 1) rfl (Want.none rfl) rfl (ltN rfl) (EF.call rfl ce12 rfl (.cons (by repeat constructor) Takes.nil) (fun F' hle hr => tickA F' (M := M4) good4 len4 14000 (by decide) (by decide))) ?_
  rintro _ _ ⟨_, ⟨L50, hL50, rfl⟩, rfl⟩
  refine J.app ?_
  refine Sq.nil ?_
  refine hk15 _ _ ?_
  refine Run.seq fun k16 hk16 => ?_
  refine Run.region ?_
  show Sq _ _ _ [0, 1, 2, 3] _ _ _ _
  refine Sq.quiet (i := 0) rfl (Want.none rfl) rfl (ltN rfl) (QP.move rfl rfl).read ?_
  refine Sq.quiet (i := 1) rfl (Want.none rfl) rfl (ltN rfl) (QR.load rfl rfl g29 (Bs.sub _)) ?_
  refine Sq.eff (i := 2) rfl (Want.none rfl) rfl (ltN rfl) (EF.call rfl ce18 rfl (.cons (by repeat constructor) Takes.nil) (fun F' hle hr => costA F' (M := M5) good5 rtt0 j0 fr0)) ?_
  rintro _ _ ⟨_, ⟨n53, rfl, hn53, rfl⟩, rfl⟩
  refine J.app ?_
  refine Sq.quiet (i := 3) rfl (Want.none rfl) rfl (ltN rfl) (QP.assign rfl rfl).read ?_
  refine Sq.nil ?_
  refine hk16 _ _ ?_
  refine Run.seq fun k17 hk17 => ?_
  refine Run.region ?_
  show Sq _ _ _ [0, 1] _ _ _ _
  refine Sq.quiet (i := 0) rfl (Want.none rfl) rfl (ltN rfl) (QP.move rfl rfl).read ?_
  refine Sq.eff (i := 1) rfl (Want.none rfl) rfl (ltN rfl) (EF.call rfl ce12 rfl (.cons (by repeat constructor) Takes.nil) (fun F' hle hr => tickA F' (M := M5) good5 len5 18000 (by decide) (by decide))) ?_
  rintro _ _ ⟨_, ⟨L55, hL55, rfl⟩, rfl⟩
  refine J.app ?_
  refine Sq.nil ?_
  refine hk17 _ _ ?_
  refine Run.seq fun k18 hk18 => ?_
  refine Run.region ?_
  show Sq _ _ _ [0, 1, 2, 3, 4, 5, 6, 7, 8, 9, 10, 11, 12, 13, 14] _ _ _ _
  refine Sq.quiet (i := 0) rfl (Want.none rfl) rfl (ltN rfl) (QP.move rfl rfl).read ?_
  refine Sq.quiet (i := 1) rfl (Want.none rfl) rfl (ltN rfl) (QP.eql rfl rfl rfl).read ?_
  refine J.decT (cost5 hn53) ?_
  refine Sq.quiet (i := 2) rfl (Want.none rfl) rfl (ltN rfl) (QP.move rfl rfl).read ?_
  refine Sq.quiet (i := 3) rfl (Want.yes rfl rfl rfl rfl) rfl (ltN rfl) (QP.move rfl rfl).read ?_
  refine Sq.quiet (i := 4) rfl (Want.yes rfl rfl rfl rfl) rfl (ltN rfl) (QR.load rfl rfl g29 (Bs.sub _)) ?_
  refine Sq.eff (i := 5) rfl (Want.yes rfl rfl rfl rfl) rfl (ltN rfl) (EF.call rfl ce18 rfl (.cons (by repeat constructor) Takes.nil) (fun F' hle hr => costA F' (M := M6) good6 rtt0 j0 fr0)) ?_
  rintro _ _ ⟨_, ⟨n61, rfl, hn61, rfl⟩, rfl⟩
  refine J.app ?_
  refine Sq.quiet (i := 6) rfl (Want.yes rfl rfl rfl rfl) rfl (ltN rfl) (QP.eql rfl rfl rfl).read ?_
  refine J.decT (cost6 hn61) ?_
  refine Sq.quiet (i := 7) rfl (Want.none rfl) rfl (ltN rfl) (QP.pick_t rfl rfl rfl).read ?_
  refine Sq.quiet (i := 8) rfl (Want.none rfl) rfl (ltN rfl) (QP.move rfl rfl).read ?_
  refine Sq.quiet (i := 9) rfl (Want.yes rfl rfl rfl rfl) rfl (ltN rfl) (QP.move rfl rfl).read ?_
  refine Sq.eff (i := 10) rfl (Want.yes rfl rfl rfl rfl) rfl (ltN rfl) (EF.call rfl ce13 rfl (.cons (by repeat constructor) Takes.nil) (fun F' hle hr => listA F' (M := M6) good6 (by rw [len6]; decide))) ?_
  rintro v66 _ ⟨_, ⟨L66, hL66, rfl⟩, rfl⟩
  refine J.app ?_
  refine Sq.slCase (v := v66) (xs := L66) (by repeat constructor) (fun a66 c66 hv66 hh66 => ?_)
  subst hv66
  have hl66 : L66.length = 1 := by rw [hL66.length]; exact len6
  refine Sq.quiet (i := 11) rfl (Want.yes rfl rfl rfl rfl) rfl (ltN rfl) (QP.len rfl rfl rfl Try.underlying44).read ?_
  refine Sq.quiet (i := 12) rfl (Want.yes rfl rfl rfl rfl) rfl (ltN rfl) (QP.eql rfl rfl rfl).read ?_
  refine J.decT (by rw [hl66]; rfl) ?_
  refine Sq.quiet (i := 13) rfl (Want.none rfl) rfl (ltN rfl) (QP.pick_t rfl rfl rfl).read ?_
  refine Sq.quiet (i := 14) rfl (Want.none rfl) rfl (ltN rfl) (QP.assign rfl rfl).read ?_
  refine Sq.nil ?_
  refine hk18 _ _ ?_
  refine Run.ret ?_
  exact J.ends (res_tmp rfl rfl) Takes.nil ⟨rfl, rfl⟩

theorem law_nil (F : Fr) (i : Int) (fr : Bs 16) (h : Tlv) : Spec Try.prog 7 #[.int .i64 i, .agg (Bs.enc (fr : Bs 16)).toArray, .agg (Tlv.enc h).toArray] [] F (fun v S => v = .bool true ∧ S = []) := by
 refine Spec.intro (N := 84) (args := [.int .i64 i, .agg (Bs.enc (fr : Bs 16)).toArray, .agg (Tlv.enc h).toArray]) Try.func7 rfl rfl (by simp) ?_
 refine Run.seq fun k1 hk1 => ?_
 refine Run.region ?_
 show Sq _ _ _ [0, 1, 2] _ _ _ _
 refine Sq.eff (i := 0) rfl (Want.none rfl) rfl (ltN rfl) (EF.boxA rfl rfl) ?_
 rintro _ _ ⟨b4, rfl, rfl⟩
 refine Sq.eff (i := 1) rfl (Want.none rfl) rfl (ltN rfl) (EF.boxA rfl rfl) ?_
 rintro _ _ ⟨b5, rfl, rfl⟩
 refine Sq.quiet (i := 2) rfl (Want.none rfl) rfl (ltN rfl) (QP.assign rfl rfl).read ?_
 refine Sq.nil ?_
 refine hk1 _ _ ?_
 refine Run.seq fun k2 hk2 => ?_
 refine Run.region ?_
 show Sq _ _ _ [0] _ _ _ _
 refine Sq.quiet (i := 0) rfl (Want.none rfl) rfl (ltN rfl) (QP.assign rfl rfl).read ?_
 refine Sq.nil ?_
 refine hk2 _ _ ?_
 refine Run.seq fun k3 hk3 => ?_
 refine Run.region ?_
 show Sq _ _ _ [0, 1, 2, 3, 4, 5, 6, 7, 8, 9] _ _ _ _
 refine Sq.quiet (i := 0) rfl (Want.none rfl) rfl (ltN rfl) (QP.move rfl rfl).read ?_
 refine Sq.quiet (i := 1) rfl (Want.none rfl) rfl (ltN rfl) (QP.move rfl rfl).read ?_
 refine Sq.quiet (i := 2) rfl (Want.none rfl) rfl (ltN rfl) (QR.load rfl rfl g29 (Bs.sub _)) ?_
 refine Sq.eff (i := 3) rfl (Want.none rfl) rfl (ltN rfl) (EF.call rfl ce17 rfl Takes.nil (fun F' hle hr => getQ_nil F' i fr)) ?_
 rintro _ _ ⟨_, ⟨rfl, rfl⟩, rfl⟩
 refine J.app ?_
 refine Sq.quiet (i := 4) rfl (Want.none rfl) rfl (ltN rfl) (QP.move rfl rfl).read ?_
 refine Sq.quiet (i := 5) rfl (Want.none rfl) rfl (ltN rfl) (QP.extract rfl rfl rfl).read ?_
 refine Sq.quiet (i := 6) rfl (Want.none rfl) rfl (ltN rfl) (QP.extract rfl rfl rfl).read ?_
 refine Sq.eff (i := 7) rfl (Want.none rfl) rfl (ltN rfl) (EF.allocA (l := Neighbour.enc Neighbour.zero) rfl zero54) ?_
 rintro _ _ ⟨b8, rfl, rfl⟩
 refine Sq.act (i := 8) rfl (Want.none rfl) rfl (EF.storeA rfl rfl rfl z54 (SetL.all (Neighbour.enc_len _) (Neighbour.enc_len _)) (Neighbour.enc_cell _)) ?_
 rintro _ _ rfl
 refine Sq.quiet (i := 9) rfl (Want.none rfl) rfl (ltN rfl) (QP.assign rfl rfl).read ?_
 refine Sq.nil ?_
 refine hk3 _ _ ?_
 refine Run.seq fun k4 hk4 => ?_
 refine Run.region ?_
 show Sq _ _ _ [0, 1, 2, 3, 4, 5, 6] _ _ _ _
 refine Sq.quiet (i := 0) rfl (Want.none rfl) rfl (ltN rfl) (QP.move rfl rfl).read ?_
 refine Sq.eff (i := 1) rfl (Want.none rfl) rfl (ltN rfl) (EF.call rfl ce19 rfl Takes.nil (fun F' hle hr => nextQ_nil F')) ?_
 rintro _ _ ⟨_, ⟨rfl, rfl⟩, rfl⟩
 refine J.app ?_
 refine Sq.quiet (i := 2) rfl (Want.none rfl) rfl (ltN rfl) (QP.move rfl rfl).read ?_
 refine Sq.quiet (i := 3) rfl (Want.none rfl) rfl (ltN rfl) (QP.extract rfl rfl rfl).read ?_
 refine Sq.quiet (i := 4) rfl (Want.none rfl) rfl (ltN rfl) (QP.extract rfl rfl rfl).read ?_
 refine Sq.quiet (i := 5) rfl (Want.none rfl) rfl (ltN rfl) (QP.assign rfl rfl).read ?_
 refine Sq.quiet (i := 6) rfl (Want.none rfl) rfl (ltN rfl) (QP.assign rfl rfl).read ?_
 refine Sq.nil ?_
 refine hk4 _ _ ?_
 refine Run.seq fun k5 hk5 => ?_
 refine Run.region ?_
 show Sq _ _ _ [0, 1, 2, 3, 4, 5, 6, 7, 8, 9, 10, 11, 12, 13, 14, 15, 16, 17, 18, 19, 20, 21, 22, 23, 24, 25, 26, 27, 28, 29, 30, 31, 32, 33, 34, 35, 36, 37, 38, 39, 40, 41, 42, 43, 44, 45, 46, 47, 48, 49, 50, 51, 52, 53, 54, 55, 56, 57, 58, 59, 60] _ _ _ _
 refine Sq.quiet (i := 0) rfl (Want.none rfl) rfl (ltN rfl) (QP.move rfl rfl).read ?_
 refine Sq.quiet (i := 1) rfl (Want.none rfl) rfl (ltN rfl) (QP.move rfl rfl).read ?_
 refine Sq.quiet (i := 2) rfl (Want.none rfl) rfl (ltN rfl) (QR.load rfl rfl g29 (Bs.sub _)) ?_
 refine Sq.quiet (i := 3) rfl (Want.none rfl) rfl (ltN rfl) (QR.load rfl rfl g39 (Tlv.enc_sub _)) ?_
 refine Sq.eff (i := 4) rfl (Want.none rfl) rfl (ltN rfl) (EF.call rfl ce11 rfl Takes.nil (fun F' hle hr => helloQ_nil F' 0 i fr h)) ?_
 rintro _ _ ⟨_, ⟨rfl, rfl⟩, rfl⟩
 refine J.app ?_
 refine Sq.eff (i := 5) rfl (Want.none rfl) rfl (ltN rfl) (EF.call rfl ce14 rfl Takes.nil (fun F' hle hr => num_spec F' _)) ?_
 rintro _ _ ⟨_, ⟨rfl, rfl⟩, rfl⟩
 refine J.app ?_
 refine Sq.quiet (i := 6) rfl (Want.none rfl) rfl (ltN rfl) (QP.eql rfl rfl rfl).read ?_
 refine Sq.quiet (i := 7) rfl (Want.none rfl) rfl (ltN rfl) (QP.move rfl rfl).read ?_
 refine Sq.quiet (i := 8) rfl (Want.yes rfl rfl rfl rfl) rfl (ltN rfl) (QP.move rfl rfl).read ?_
 refine Sq.quiet (i := 9) rfl (Want.yes rfl rfl rfl rfl) rfl (ltN rfl) (QP.move rfl rfl).read ?_
 refine Sq.quiet (i := 10) rfl (Want.yes rfl rfl rfl rfl) rfl (ltN rfl) (QR.load rfl rfl g29 (Bs.sub _)) ?_
 refine Sq.quiet (i := 11) rfl (Want.yes rfl rfl rfl rfl) rfl (ltN rfl) (QR.load rfl rfl g39 (Tlv.enc_sub _)) ?_
 refine Sq.eff (i := 12) rfl (Want.yes rfl rfl rfl rfl) rfl (ltN rfl) (EF.call rfl ce15 rfl Takes.nil (fun F' hle hr => ihuQ_nil F' 0 i fr h)) ?_
 rintro _ _ ⟨_, ⟨rfl, rfl⟩, rfl⟩
 refine J.app ?_
 refine Sq.eff (i := 13) rfl (Want.yes rfl rfl rfl rfl) rfl (ltN rfl) (EF.call rfl ce14 rfl Takes.nil (fun F' hle hr => num_spec F' _)) ?_
 rintro _ _ ⟨_, ⟨rfl, rfl⟩, rfl⟩
 refine J.app ?_
 refine Sq.quiet (i := 14) rfl (Want.yes rfl rfl rfl rfl) rfl (ltN rfl) (QP.eql rfl rfl rfl).read ?_
 refine Sq.quiet (i := 15) rfl (Want.none rfl) rfl (ltN rfl) (QP.pick_t rfl rfl rfl).read ?_
 refine Sq.quiet (i := 16) rfl (Want.none rfl) rfl (ltN rfl) (QP.move rfl rfl).read ?_
 refine Sq.quiet (i := 17) rfl (Want.yes rfl rfl rfl rfl) rfl (ltN rfl) (QP.move rfl rfl).read ?_
 refine Sq.eff (i := 18) rfl (Want.yes rfl rfl rfl rfl) rfl (ltN rfl) (EF.call rfl ce12 rfl Takes.nil (fun F' hle hr => tickQ_nil F' 5)) ?_
 rintro _ _ ⟨_, ⟨rfl, rfl⟩, rfl⟩
 refine J.app ?_
 refine Sq.quiet (i := 19) rfl (Want.yes rfl rfl rfl rfl) rfl (ltN rfl) (QP.len rfl rfl rfl Try.underlying44).read ?_
 refine Sq.quiet (i := 20) rfl (Want.yes rfl rfl rfl rfl) rfl (ltN rfl) (QP.eql rfl rfl rfl).read ?_
 refine J.decT (rfl) ?_
 refine Sq.quiet (i := 21) rfl (Want.none rfl) rfl (ltN rfl) (QP.pick_t rfl rfl rfl).read ?_
 refine Sq.quiet (i := 22) rfl (Want.none rfl) rfl (ltN rfl) (QP.move rfl rfl).read ?_
 refine Sq.quiet (i := 23) rfl (Want.yes rfl rfl rfl rfl) rfl (ltN rfl) (QP.move rfl rfl).read ?_
 refine Sq.quiet (i := 24) rfl (Want.yes rfl rfl rfl rfl) rfl (ltN rfl) (QP.not rfl rfl).read ?_
 refine Sq.quiet (i := 25) rfl (Want.none rfl) rfl (ltN rfl) (QP.pick_t rfl rfl rfl).read ?_
 refine Sq.quiet (i := 26) rfl (Want.none rfl) rfl (ltN rfl) (QP.move rfl rfl).read ?_
 refine Sq.quiet (i := 27) rfl (Want.yes rfl rfl rfl rfl) rfl (ltN rfl) (QP.move rfl rfl).read ?_
 refine Sq.quiet (i := 28) rfl (Want.yes rfl rfl rfl rfl) rfl (ltN rfl) (QP.move rfl rfl).read ?_
 refine Sq.quiet (i := 29) rfl (Want.yes rfl rfl rfl rfl) rfl (ltN rfl) (QR.load rfl rfl g29 (Bs.sub _)) ?_
 refine Sq.eff (i := 30) rfl (Want.yes rfl rfl rfl rfl) rfl (ltN rfl) (EF.call rfl ce16 rfl Takes.nil (fun F' hle hr => rxQ_nil F' i fr)) ?_
 rintro _ _ ⟨_, ⟨rfl, rfl⟩, rfl⟩
 refine J.app ?_
 refine Sq.quiet (i := 31) rfl (Want.yes rfl rfl rfl rfl) rfl (ltN rfl) (QP.eql rfl rfl rfl).read ?_
 refine Sq.quiet (i := 32) rfl (Want.none rfl) rfl (ltN rfl) (QP.pick_t rfl rfl rfl).read ?_
 refine Sq.quiet (i := 33) rfl (Want.none rfl) rfl (ltN rfl) (QP.move rfl rfl).read ?_
 refine Sq.quiet (i := 34) rfl (Want.yes rfl rfl rfl rfl) rfl (ltN rfl) (QP.move rfl rfl).read ?_
 refine Sq.quiet (i := 35) rfl (Want.yes rfl rfl rfl rfl) rfl (ltN rfl) (QP.move rfl rfl).read ?_
 refine Sq.quiet (i := 36) rfl (Want.yes rfl rfl rfl rfl) rfl (ltN rfl) (QR.load rfl rfl g29 (Bs.sub _)) ?_
 refine Sq.eff (i := 37) rfl (Want.yes rfl rfl rfl rfl) rfl (ltN rfl) (EF.call rfl ce18 rfl Takes.nil (fun F' hle hr => costQ_nil F' i fr)) ?_
 rintro _ _ ⟨_, ⟨rfl, rfl⟩, rfl⟩
 refine J.app ?_
 refine Sq.quiet (i := 38) rfl (Want.yes rfl rfl rfl rfl) rfl (ltN rfl) (QP.eql rfl rfl rfl).read ?_
 refine Sq.quiet (i := 39) rfl (Want.none rfl) rfl (ltN rfl) (QP.pick_t rfl rfl rfl).read ?_
 refine Sq.quiet (i := 40) rfl (Want.none rfl) rfl (ltN rfl) (QP.move rfl rfl).read ?_
 refine Sq.quiet (i := 41) rfl (Want.yes rfl rfl rfl rfl) rfl (ltN rfl) (QP.move rfl rfl).read ?_
 refine Sq.quiet (i := 42) rfl (Want.yes rfl rfl rfl rfl) rfl (ltN rfl) (QP.not rfl rfl).read ?_
 refine Sq.quiet (i := 43) rfl (Want.none rfl) rfl (ltN rfl) (QP.pick_t rfl rfl rfl).read ?_
 refine Sq.quiet (i := 44) rfl (Want.none rfl) rfl (ltN rfl) (QP.move rfl rfl).read ?_
 refine Sq.quiet (i := 45) rfl (Want.yes rfl rfl rfl rfl) rfl (ltN rfl) (QP.move rfl rfl).read ?_
 refine Sq.eff (i := 46) rfl (Want.yes rfl rfl rfl rfl) rfl (ltN rfl) (EF.call rfl ce13 rfl Takes.nil (fun F' hle hr => listQ_nil F')) ?_
 rintro _ _ ⟨_, ⟨rfl, rfl⟩, rfl⟩
 refine J.app ?_
 refine Sq.quiet (i := 47) rfl (Want.yes rfl rfl rfl rfl) rfl (ltN rfl) (QP.len rfl rfl rfl Try.underlying44).read ?_
 refine Sq.quiet (i := 48) rfl (Want.yes rfl rfl rfl rfl) rfl (ltN rfl) (QP.eql rfl rfl rfl).read ?_
 refine J.decT (rfl) ?_
 refine Sq.quiet (i := 49) rfl (Want.none rfl) rfl (ltN rfl) (QP.pick_t rfl rfl rfl).read ?_
 refine Sq.quiet (i := 50) rfl (Want.none rfl) rfl (ltN rfl) (QP.move rfl rfl).read ?_
 refine Sq.quiet (i := 51) rfl (Want.yes rfl rfl rfl rfl) rfl (ltN rfl) (QP.move rfl rfl).read ?_
 refine Sq.quiet (i := 52) rfl (Want.yes rfl rfl rfl rfl) rfl (ltN rfl) (QP.move rfl rfl).read ?_
 refine Sq.eff (i := 53) rfl (Want.yes rfl rfl rfl rfl) rfl (ltN rfl) (EF.buildSliceS rfl Try.underlying98 z3 zero3 rfl (by decide) rfl rfl rfl rfl) ?_
 rintro _ _ ⟨b77, rfl, rfl⟩
 refine Sq.eff (i := 54) rfl (Want.yes rfl rfl rfl rfl) rfl (ltN rfl) (EF.call rfl ce21 rfl Takes.nil (fun F' hle hr => dropQ_nil F')) ?_
 rintro _ _ ⟨_, ⟨rfl, rfl⟩, rfl⟩
 refine J.app ?_
 refine Sq.quiet (i := 55) rfl (Want.yes rfl rfl rfl rfl) rfl (ltN rfl) (QP.eql rfl rfl rfl).read ?_
 refine Sq.quiet (i := 56) rfl (Want.none rfl) rfl (ltN rfl) (QP.pick_t rfl rfl rfl).read ?_
 refine Sq.quiet (i := 57) rfl (Want.none rfl) rfl (ltN rfl) (QP.move rfl rfl).read ?_
 refine Sq.eff (i := 58) rfl (Want.yes rfl rfl rfl rfl) rfl (ltN rfl) (EF.call rfl ce9 rfl Takes.nil (fun F' hle hr => live_spec F')) ?_
 rintro _ _ ⟨_, ⟨rfl, rfl⟩, rfl⟩
 refine J.app ?_
 refine Sq.quiet (i := 59) rfl (Want.none rfl) rfl (ltN rfl) (QP.pick_t rfl rfl rfl).read ?_
 refine Sq.quiet (i := 60) rfl (Want.none rfl) rfl (ltN rfl) (QP.assign rfl rfl).read ?_
 refine Sq.nil ?_
 refine hk5 _ _ ?_
 refine Run.ret ?_
 exact J.ends (res_tmp rfl rfl) Takes.nil ⟨rfl, rfl⟩
end Slb
