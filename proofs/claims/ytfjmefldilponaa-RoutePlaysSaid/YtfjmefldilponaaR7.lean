/- R7: a part of the proof that a law of this package holds for every input; no condition. -/
import Derived.Test.YtfjmefldilponaaR6
namespace Slb
open Go Go.Proofs
set_option maxRecDepth 20000
def liveR : Route := ⟨⟨⟨⟨[32, 0, 0, 0, 0, 0, 0, 0, 0, 0, 0, 0, 0, 0, 0, 0], rfl⟩, ⟨8, by omega⟩⟩, Prefix.zero⟩, ⟨0, by omega⟩, ⟨[254, 128, 0, 0, 0, 0, 0, 0, 0, 0, 0, 0, 0, 0, 0, 2], rfl⟩, ⟨[0, 0, 0, 0, 0, 0, 0, 1], rfl⟩, 1, 100, 0, Bs.zero 16, 0, 1000, false⟩
def liveX1 : Route := { liveR with metric := 65535, until_ := 1000 }
def liveX2 : Route := { liveR with metric := 196, until_ := 1000 }
def liveX3 : Route := { liveR with metric := 196, ref := 65535, until_ := 2000 }
def liveM (x : Route) : TabR := [(keyR liveR, x)]
theorem ord_one (x : Route) (h : keyR x = keyR liveR) : OrdR (liveM x) [x] := ⟨fun e he => by simp only [liveM, List.mem_singleton] at he; subst he; exact h.symm, by simp [liveM], List.Perm.refl _, by simp⟩
theorem hold_one (x : Route) (h : 1 ≤ x.hold ∧ x.hold ≤ 2147483648) : HoldR (liveM x) := fun e he => by simp only [liveM, List.mem_singleton] at he; subst he; exact h
theorem until_one (x : Route) (h : 0 ≤ x.until_ ∧ x.until_ ≤ 2305843009213693952) : UntilR (liveM x) := fun e he => by simp only [liveM, List.mem_singleton] at he; subst he; exact h
theorem tellL (F : Fr) (b : Nat) : Spec Try.prog 12 #[.pointer (some ⟨b, 0, none⟩), .int .i64 0, .agg (Route.enc liveR).toArray, .bool true] [RTab b 2 []] F fun v S => v = .tuple #[.int .i64 1, .int .i64 0] ∧ S = [RTab b 2 (liveM liveX1)] :=
  (tellT F 0 (by omega) (by omega) liveR true (fun _ h => by cases h)).mono fun v S ⟨h1, h2⟩ => by
    rw [show tellF 2 [] 0 liveR true = (1, 0, liveM liveX1) by decide] at h1 h2
    exact ⟨h1, h2⟩
theorem reckonL (F : Fr) (b : Nat) : Spec Try.prog 13 #[.pointer (some ⟨b, 0, none⟩), .func (.func 14) #[] #[]] [RTab b 2 (liveM liveX1)] F fun v S => ∃ a c, v = .slice a 1 c ∧ S = [RTab b 2 (liveM liveX2)] :=
  (reckonFewT F (by decide) (hold_one _ (by decide)) (by decide)).mono fun v S ⟨a, c, h1, h2⟩ => by
    rw [show ((liveM liveX1).filter fun e => newM e.2).length = 1 by decide] at h1
    rw [show mapM recR (liveM liveX1) = liveM liveX2 by decide] at h2
    exact ⟨a, c, h1, h2⟩
theorem tickL1 (F : Fr) (b : Nat) : Spec Try.prog 18 #[.pointer (some ⟨b, 0, none⟩), .int .i64 1000] [RTab b 2 (liveM liveX2)] F
    fun v S => ∃ va vg, ∃ la lg : List Route, v = .tuple #[va, vg] ∧ la.length = 1 ∧ lg.length = 0 ∧ S = [RTab b 2 (liveM liveX3), slA 37 81 Route.enc va la, slA 37 81 Route.enc vg lg] :=
  (tickT F (ord_one liveX2 rfl) (by decide) (hold_one _ (by decide)) (until_one _ (by decide)) 1000 (by omega) (by omega)).mono fun v S ⟨va, vg, h1, h2⟩ => by
    rw [show tickM 1000 (liveM liveX2) = liveM liveX3 by decide] at h2
    exact ⟨va, vg, _, _, h1, by decide, by decide, h2⟩
theorem tickL2 (F : Fr) (b : Nat) : Spec Try.prog 18 #[.pointer (some ⟨b, 0, none⟩), .int .i64 2000] [RTab b 2 (liveM liveX3)] F
    fun v S => ∃ va vg, ∃ la lg : List Route, v = .tuple #[va, vg] ∧ la.length = 0 ∧ lg.length = 1 ∧ S = [RTab b 2 [], slA 37 81 Route.enc va la, slA 37 81 Route.enc vg lg] :=
  (tickT F (ord_one liveX3 rfl) (by decide) (hold_one _ (by decide)) (until_one _ (by decide)) 2000 (by omega) (by omega)).mono fun v S ⟨va, vg, h1, h2⟩ => by
    rw [show tickM 2000 (liveM liveX3) = [] by decide] at h2
    exact ⟨va, vg, _, _, h1, by decide, by decide, h2⟩
theorem getL (F : Fr) (b : Nat) : Spec Try.prog 20 #[.pointer (some ⟨b, 0, none⟩), .agg (Pair.enc liveR.pair).toArray, .int .i64 (⟨0, by omega⟩ : I64).val, .agg (Bs.enc liveR.from_).toArray] [RTab b 2 (liveM liveX2)] F
    fun v S => v = .tuple #[.agg (Route.enc liveX2).toArray, .bool true] ∧ S = [RTab b 2 (liveM liveX2)] :=
  (getT F liveR.pair ⟨0, by omega⟩ liveR.from_).mono fun v S h => by
    have hl : alook (liveM liveX2) ⟨liveR.pair, ⟨0, by omega⟩, liveR.from_⟩ = some liveX2 := by decide
    rcases h with ⟨h1, _⟩ | ⟨s, h1, h2, h3⟩
    · rw [hl] at h1; cases h1
    · rw [hl] at h1; cases h1; exact ⟨h2, h3⟩

theorem live_spec (F : Fr)  : Spec Try.prog 10 #[] [] F (fun v S => v = .bool true ∧ S = []) := by
 refine Spec.intro (N := 94) (args := []) Try.func10 rfl rfl (by simp) ?_
 refine Run.seq fun k1 hk1 => ?_
 refine Run.region ?_
 show Sq _ _ _ [0] _ _ _ _
 refine Sq.quiet (i := 0) rfl (Want.none rfl) rfl (ltN rfl) (QP.assign rfl rfl).read ?_
 refine Sq.nil ?_
 refine hk1 _ _ ?_
 refine Run.seq fun k2 hk2 => ?_
 refine Run.region ?_
 show Sq _ _ _ [0, 1] _ _ _ _
 refine Sq.eff (i := 0) rfl (Want.none rfl) rfl (ltN rfl) (EF.call rfl ce11 rfl Takes.nil (fun F' hle hr => newT F' _)) ?_
 rintro _ _ ⟨_, ⟨bt, rfl, rfl⟩, rfl⟩
 refine J.app ?_
 refine Sq.quiet (i := 1) rfl (Want.none rfl) rfl (ltN rfl) (QP.assign rfl rfl).read ?_
 refine Sq.nil ?_
 refine hk2 _ _ ?_
 refine Run.seq fun k3 hk3 => ?_
 refine Run.region ?_
 show Sq _ _ _ [0, 1, 2, 3, 4, 5, 6, 7] _ _ _ _
 refine Sq.quiet (i := 0) rfl (Want.none rfl) rfl (ltN rfl) (QP.const (.agg (Bs.enc (⟨[32, 0, 0, 0, 0, 0, 0, 0, 0, 0, 0, 0, 0, 0, 0, 0], rfl⟩ : Bs 16)).toArray) (fun _ _ => by kernel_rfl)).read ?_
 refine Sq.quiet (i := 1) rfl (Want.none rfl) rfl (ltN rfl) (QP.build (l := Prefix.enc ⟨((⟨[32, 0, 0, 0, 0, 0, 0, 0, 0, 0, 0, 0, 0, 0, 0, 0], rfl⟩ : Bs 16)), (⟨8, by omega⟩ : I64)⟩) rfl st30 rfl (by exact ⟨(congrArg some (Bs.len _).symm), ⟨rfl, trivial⟩⟩) rfl).read ?_
 refine Sq.quiet (i := 2) rfl (Want.none rfl) rfl (ltN rfl) (QP.build (l := Pair.enc ⟨((⟨((⟨[32, 0, 0, 0, 0, 0, 0, 0, 0, 0, 0, 0, 0, 0, 0, 0], rfl⟩ : Bs 16)), (⟨8, by omega⟩ : I64)⟩ : Prefix)), Prefix.zero⟩) rfl st32 rfl (by exact ⟨(congrArg some (Prefix.enc_len _).symm), trivial⟩) rfl).read ?_
 refine Sq.quiet (i := 3) rfl (Want.none rfl) rfl (ltN rfl) (QP.const (.agg (Bs.enc (⟨[254, 128, 0, 0, 0, 0, 0, 0, 0, 0, 0, 0, 0, 0, 0, 2], rfl⟩ : Bs 16)).toArray) (fun _ _ => by kernel_rfl)).read ?_
 refine Sq.quiet (i := 4) rfl (Want.none rfl) rfl (ltN rfl) (QP.const (.agg (Bs.enc (⟨[0, 0, 0, 0, 0, 0, 0, 1], rfl⟩ : Bs 8)).toArray) (fun _ _ => by kernel_rfl)).read ?_
 refine Sq.quiet (i := 5) rfl (Want.none rfl) rfl (ltN rfl) (QP.build (l := Route.enc ⟨((⟨((⟨((⟨[32, 0, 0, 0, 0, 0, 0, 0, 0, 0, 0, 0, 0, 0, 0, 0], rfl⟩ : Bs 16)), (⟨8, by omega⟩ : I64)⟩ : Prefix)), Prefix.zero⟩ : Pair)), (⟨0, by omega⟩ : I64), ((⟨[254, 128, 0, 0, 0, 0, 0, 0, 0, 0, 0, 0, 0, 0, 0, 2], rfl⟩ : Bs 16)), ((⟨[0, 0, 0, 0, 0, 0, 0, 1], rfl⟩ : Bs 8)), (1), (100), 0, (Bs.zero 16), 0, (1000), false⟩) rfl st37 rfl (by exact ⟨(congrArg some (Pair.enc_len _).symm), ⟨(congrArg some (Bs.len _).symm), ⟨(congrArg some (Bs.len _).symm), ⟨rfl, ⟨rfl, ⟨rfl, trivial⟩⟩⟩⟩⟩⟩) rfl).read ?_
 refine Sq.eff (i := 6) rfl (Want.none rfl) rfl (ltN rfl) (EF.allocA (l := Route.enc Route.zero) rfl zero37) ?_
 rintro _ _ ⟨b2, rfl, rfl⟩
 refine Sq.act (i := 7) rfl (Want.none rfl) rfl (EF.storeA rfl rfl rfl z37 (SetL.all (Route.enc_len _) (Route.enc_len _)) (Route.enc_cell _)) ?_
 rintro _ _ rfl
 refine Sq.nil ?_
 refine hk3 _ _ ?_
 refine Run.seq fun k4 hk4 => ?_
 refine Run.seq fun k5 hk5 => ?_
 refine Run.region ?_
 show Sq _ _ _ [0, 1] _ _ _ _
 refine Sq.quiet (i := 0) rfl (Want.none rfl) rfl (ltN rfl) (QP.move rfl rfl).read ?_
 refine Sq.quiet (i := 1) rfl (Want.none rfl) rfl (ltN rfl) (QP.ptr_eq_nil rfl rfl rfl Try.underlying25).read ?_
 refine Sq.nil ?_
 refine hk5 _ _ ?_
 refine Run.cond_f rfl ?_
 refine Run.skip ?_
 refine hk4 _ _ ?_
 refine Run.seq fun k6 hk6 => ?_
 refine Run.region ?_
 show Sq _ _ _ [0, 1, 2, 3, 4, 5, 6, 7] _ _ _ _
 refine Sq.quiet (i := 0) rfl (Want.none rfl) rfl (ltN rfl) (QP.move rfl rfl).read ?_
 refine Sq.quiet (i := 1) rfl (Want.none rfl) rfl (ltN rfl) (QR.load rfl rfl g37 (Route.enc_sub _)) ?_
 refine Sq.eff (i := 2) rfl (Want.none rfl) rfl (ltN rfl) (EF.call rfl ce12 rfl (.cons (by repeat constructor) Takes.nil) (fun F' hle hr => tellL F' bt)) ?_
 rintro _ _ ⟨_, ⟨rfl, rfl⟩, rfl⟩
 refine J.app ?_
 refine Sq.quiet (i := 3) rfl (Want.none rfl) rfl (ltN rfl) (QP.move rfl rfl).read ?_
 refine Sq.quiet (i := 4) rfl (Want.none rfl) rfl (ltN rfl) (QP.extract rfl rfl rfl).read ?_
 refine Sq.quiet (i := 5) rfl (Want.none rfl) rfl (ltN rfl) (QP.extract rfl rfl rfl).read ?_
 refine Sq.quiet (i := 6) rfl (Want.none rfl) rfl (ltN rfl) (QP.assign rfl rfl).read ?_
 refine Sq.quiet (i := 7) rfl (Want.none rfl) rfl (ltN rfl) (QP.assign rfl rfl).read ?_
 refine Sq.nil ?_
 refine hk6 _ _ ?_
 refine Run.seq fun k7 hk7 => ?_
 refine Run.region ?_
 show Sq _ _ _ [0, 1, 2] _ _ _ _
 refine Sq.quiet (i := 0) rfl (Want.none rfl) rfl (ltN rfl) (QP.move rfl rfl).read ?_
 refine Sq.eff (i := 1) rfl (Want.none rfl) rfl (ltN rfl) (EF.call rfl ce13 rfl (.cons (by repeat constructor) Takes.nil) (fun F' hle hr => reckonL F' bt)) ?_
 rintro _ _ ⟨_, ⟨a28, c28, rfl, rfl⟩, rfl⟩
 refine J.app ?_
 refine Sq.quiet (i := 2) rfl (Want.none rfl) rfl (ltN rfl) (QP.assign rfl rfl).read ?_
 refine Sq.nil ?_
 refine hk7 _ _ ?_
 refine Run.seq fun k8 hk8 => ?_
 refine Run.region ?_
 show Sq _ _ _ [0, 1, 2, 3, 4, 5, 6, 7, 8, 9, 10, 11] _ _ _ _
 refine Sq.quiet (i := 0) rfl (Want.none rfl) rfl (ltN rfl) (QP.move rfl rfl).read ?_
 refine Sq.quiet (i := 1) rfl (Want.none rfl) rfl (ltN rfl) (QP.fieldAddr rfl rfl f37_0).read ?_
 refine Sq.quiet (i := 2) rfl (Want.none rfl) rfl (ltN rfl) (QR.load rfl rfl g32 (Route.sub_pair _)) ?_
 refine Sq.quiet (i := 3) rfl (Want.none rfl) rfl (ltN rfl) (QP.fieldAddr rfl rfl f37_2).read ?_
 refine Sq.quiet (i := 4) rfl (Want.none rfl) rfl (ltN rfl) (QR.load rfl rfl g28 (Route.sub_from_ _)) ?_
 refine Sq.eff (i := 5) rfl (Want.none rfl) rfl (ltN rfl) (EF.call rfl ce20 rfl (.cons (by repeat constructor) Takes.nil) (fun F' hle hr => getL F' bt)) ?_
 rintro _ _ ⟨_, ⟨rfl, rfl⟩, rfl⟩
 refine J.app ?_
 refine Sq.quiet (i := 6) rfl (Want.none rfl) rfl (ltN rfl) (QP.move rfl rfl).read ?_
 refine Sq.quiet (i := 7) rfl (Want.none rfl) rfl (ltN rfl) (QP.extract rfl rfl rfl).read ?_
 refine Sq.quiet (i := 8) rfl (Want.none rfl) rfl (ltN rfl) (QP.extract rfl rfl rfl).read ?_
 refine Sq.eff (i := 9) rfl (Want.none rfl) rfl (ltN rfl) (EF.allocA (l := Route.enc Route.zero) rfl zero37) ?_
 rintro _ _ ⟨b6, rfl, rfl⟩
 refine Sq.act (i := 10) rfl (Want.none rfl) rfl (EF.storeA rfl rfl rfl z37 (SetL.all (Route.enc_len _) (Route.enc_len _)) (Route.enc_cell _)) ?_
 rintro _ _ rfl
 refine Sq.quiet (i := 11) rfl (Want.none rfl) rfl (ltN rfl) (QP.assign rfl rfl).read ?_
 refine Sq.nil ?_
 refine hk8 _ _ ?_
 refine Run.seq fun k9 hk9 => ?_
 refine Run.region ?_
 show Sq _ _ _ [0, 1, 2, 3, 4, 5, 6] _ _ _ _
 refine Sq.quiet (i := 0) rfl (Want.none rfl) rfl (ltN rfl) (QP.move rfl rfl).read ?_
 refine Sq.eff (i := 1) rfl (Want.none rfl) rfl (ltN rfl) (EF.call rfl ce18 rfl (.cons (by repeat constructor) Takes.nil) (fun F' hle hr => tickL1 F' bt)) ?_
 rintro _ _ ⟨_, ⟨va40, vg40, la40, lg40, rfl, ha40, hg40, rfl⟩, rfl⟩
 refine J.app ?_
 refine Sq.quiet (i := 2) rfl (Want.none rfl) rfl (ltN rfl) (QP.move rfl rfl).read ?_
 refine Sq.slCase (v := va40) (xs := la40) (by repeat constructor) (fun a40 c40 hv40 hh40 => ?_)
 subst hv40
 refine Sq.slCase (v := vg40) (xs := lg40) (by repeat constructor) (fun a41 c41 hv41 hh41 => ?_)
 subst hv41
 refine Sq.quiet (i := 3) rfl (Want.none rfl) rfl (ltN rfl) (QP.extract rfl rfl rfl).read ?_
 refine Sq.quiet (i := 4) rfl (Want.none rfl) rfl (ltN rfl) (QP.extract rfl rfl rfl).read ?_
 refine Sq.quiet (i := 5) rfl (Want.none rfl) rfl (ltN rfl) (QP.assign rfl rfl).read ?_
 refine Sq.quiet (i := 6) rfl (Want.none rfl) rfl (ltN rfl) (QP.assign rfl rfl).read ?_
 refine Sq.nil ?_
 refine hk9 _ _ ?_
 refine Run.seq fun k10 hk10 => ?_
 refine Run.region ?_
 show Sq _ _ _ [0, 1, 2, 3, 4, 5, 6] _ _ _ _
 refine Sq.quiet (i := 0) rfl (Want.none rfl) rfl (ltN rfl) (QP.move rfl rfl).read ?_
 refine Sq.eff (i := 1) rfl (Want.none rfl) rfl (ltN rfl) (EF.call rfl ce18 rfl (.cons (by repeat constructor) Takes.nil) (fun F' hle hr => tickL2 F' bt)) ?_
 rintro _ _ ⟨_, ⟨va45, vg45, la45, lg45, rfl, ha45, hg45, rfl⟩, rfl⟩
 refine J.app ?_
 refine Sq.quiet (i := 2) rfl (Want.none rfl) rfl (ltN rfl) (QP.move rfl rfl).read ?_
 refine Sq.slCase (v := va45) (xs := la45) (by repeat constructor) (fun a45 c45 hv45 hh45 => ?_)
 subst hv45
 refine Sq.slCase (v := vg45) (xs := lg45) (by repeat constructor) (fun a46 c46 hv46 hh46 => ?_)
 subst hv46
 refine Sq.quiet (i := 3) rfl (Want.none rfl) rfl (ltN rfl) (QP.extract rfl rfl rfl).read ?_
 refine Sq.quiet (i := 4) rfl (Want.none rfl) rfl (ltN rfl) (QP.extract rfl rfl rfl).read ?_
 refine Sq.quiet (i := 5) rfl (Want.none rfl) rfl (ltN rfl) (QP.assign rfl rfl).read ?_
 refine Sq.quiet (i := 6) rfl (Want.none rfl) rfl (ltN rfl) (QP.assign rfl rfl).read ?_
 refine Sq.nil ?_
 refine hk10 _ _ ?_
 refine Run.seq fun k11 hk11 => ?_
 refine Run.region ?_
 show Sq _ _ _ [0, 1, 2, 3, 4, 5, 6, 7, 8, 9, 10, 11, 12, 13, 14, 15, 16, 17, 18, 19, 20, 21, 22, 23, 24, 25, 26, 27, 28, 29, 30, 31, 32, 33, 34, 35, 36, 37, 38, 39, 40, 41, 42, 43, 44, 45, 46] _ _ _ _
 refine Sq.quiet (i := 0) rfl (Want.none rfl) rfl (ltN rfl) (QP.move rfl rfl).read ?_
 refine Sq.quiet (i := 1) rfl (Want.none rfl) rfl (ltN rfl) (QP.eql rfl rfl rfl).read ?_
 refine Sq.quiet (i := 2) rfl (Want.none rfl) rfl (ltN rfl) (QP.move rfl rfl).read ?_
 refine Sq.quiet (i := 3) rfl (Want.yes rfl rfl rfl rfl) rfl (ltN rfl) (QP.move rfl rfl).read ?_
 refine Sq.eff (i := 4) rfl (Want.yes rfl rfl rfl rfl) rfl (ltN rfl) (EF.call rfl ce31 rfl Takes.nil (fun F' hle hr => num_spec F' _)) ?_
 rintro _ _ ⟨_, ⟨rfl, rfl⟩, rfl⟩
 refine J.app ?_
 refine Sq.quiet (i := 5) rfl (Want.yes rfl rfl rfl rfl) rfl (ltN rfl) (QP.eql rfl rfl rfl).read ?_
 refine Sq.quiet (i := 6) rfl (Want.none rfl) rfl (ltN rfl) (QP.pick_t rfl rfl rfl).read ?_
 refine Sq.quiet (i := 7) rfl (Want.none rfl) rfl (ltN rfl) (QP.move rfl rfl).read ?_
 refine Sq.quiet (i := 8) rfl (Want.yes rfl rfl rfl rfl) rfl (ltN rfl) (QP.move rfl rfl).read ?_
 refine Sq.quiet (i := 9) rfl (Want.yes rfl rfl rfl rfl) rfl (ltN rfl) (QP.len rfl rfl rfl Try.underlying43).read ?_
 refine Sq.quiet (i := 10) rfl (Want.yes rfl rfl rfl rfl) rfl (ltN rfl) (QP.eql rfl rfl rfl).read ?_
 refine J.decT (rfl) ?_
 refine Sq.quiet (i := 11) rfl (Want.none rfl) rfl (ltN rfl) (QP.pick_t rfl rfl rfl).read ?_
 refine Sq.quiet (i := 12) rfl (Want.none rfl) rfl (ltN rfl) (QP.move rfl rfl).read ?_
 refine Sq.quiet (i := 13) rfl (Want.yes rfl rfl rfl rfl) rfl (ltN rfl) (QP.move rfl rfl).read ?_
 refine Sq.quiet (i := 14) rfl (Want.none rfl) rfl (ltN rfl) (QP.pick_t rfl rfl rfl).read ?_
 refine Sq.quiet (i := 15) rfl (Want.none rfl) rfl (ltN rfl) (QP.move rfl rfl).read ?_
 refine Sq.quiet (i := 16) rfl (Want.yes rfl rfl rfl rfl) rfl (ltN rfl) (QP.fieldAddr rfl rfl f37_6).read ?_
 refine Sq.quiet (i := 17) rfl (Want.yes rfl rfl rfl rfl) rfl (ltN rfl) (QR.load1 rfl rfl g35 (Route.sub_metric _)) ?_
 refine Sq.quiet (i := 18) rfl (Want.yes rfl rfl rfl rfl) rfl (ltN rfl) (QP.eql rfl rfl rfl).read ?_
 refine J.decT (by decide) ?_
 refine Sq.quiet (i := 19) rfl (Want.none rfl) rfl (ltN rfl) (QP.pick_t rfl rfl rfl).read ?_
 refine Sq.quiet (i := 20) rfl (Want.none rfl) rfl (ltN rfl) (QP.move rfl rfl).read ?_
 refine Sq.quiet (i := 21) rfl (Want.yes rfl rfl rfl rfl) rfl (ltN rfl) (QP.move rfl rfl).read ?_
 refine Sq.quiet (i := 22) rfl (Want.yes rfl rfl rfl rfl) rfl (ltN rfl) (QP.len rfl rfl rfl Try.underlying46).read ?_
 refine Sq.quiet (i := 23) rfl (Want.yes rfl rfl rfl rfl) rfl (ltN rfl) (QP.eql rfl rfl rfl).read ?_
 refine J.decT (by omega) ?_
 refine Sq.quiet (i := 24) rfl (Want.none rfl) rfl (ltN rfl) (QP.pick_t rfl rfl rfl).read ?_
 refine Sq.quiet (i := 25) rfl (Want.none rfl) rfl (ltN rfl) (QP.move rfl rfl).read ?_
 refine Sq.quiet (i := 26) rfl (Want.yes rfl rfl rfl rfl) rfl (ltN rfl) (QP.move rfl rfl).read ?_
 refine Sq.quiet (i := 27) rfl (Want.yes rfl rfl rfl rfl) rfl (ltN rfl) (QP.len rfl rfl rfl Try.underlying46).read ?_
 refine Sq.quiet (i := 28) rfl (Want.yes rfl rfl rfl rfl) rfl (ltN rfl) (QP.eql rfl rfl rfl).read ?_
 refine J.decT (by omega) ?_
 refine Sq.quiet (i := 29) rfl (Want.none rfl) rfl (ltN rfl) (QP.pick_t rfl rfl rfl).read ?_
 refine Sq.quiet (i := 30) rfl (Want.none rfl) rfl (ltN rfl) (QP.move rfl rfl).read ?_
 refine Sq.quiet (i := 31) rfl (Want.yes rfl rfl rfl rfl) rfl (ltN rfl) (QP.move rfl rfl).read ?_
 refine Sq.quiet (i := 32) rfl (Want.yes rfl rfl rfl rfl) rfl (ltN rfl) (QP.len rfl rfl rfl Try.underlying46).read ?_
 refine Sq.quiet (i := 33) rfl (Want.yes rfl rfl rfl rfl) rfl (ltN rfl) (QP.eql rfl rfl rfl).read ?_
 refine J.decT (by omega) ?_
 refine Sq.quiet (i := 34) rfl (Want.none rfl) rfl (ltN rfl) (QP.pick_t rfl rfl rfl).read ?_
 refine Sq.quiet (i := 35) rfl (Want.none rfl) rfl (ltN rfl) (QP.move rfl rfl).read ?_
 refine Sq.quiet (i := 36) rfl (Want.yes rfl rfl rfl rfl) rfl (ltN rfl) (QP.move rfl rfl).read ?_
 refine Sq.quiet (i := 37) rfl (Want.yes rfl rfl rfl rfl) rfl (ltN rfl) (QP.len rfl rfl rfl Try.underlying46).read ?_
 refine Sq.quiet (i := 38) rfl (Want.yes rfl rfl rfl rfl) rfl (ltN rfl) (QP.eql rfl rfl rfl).read ?_
 refine J.decT (by omega) ?_
 refine Sq.quiet (i := 39) rfl (Want.none rfl) rfl (ltN rfl) (QP.pick_t rfl rfl rfl).read ?_
 refine Sq.quiet (i := 40) rfl (Want.none rfl) rfl (ltN rfl) (QP.move rfl rfl).read ?_
 refine Sq.quiet (i := 41) rfl (Want.yes rfl rfl rfl rfl) rfl (ltN rfl) (QP.move rfl rfl).read ?_
 refine Sq.eff (i := 42) rfl (Want.yes rfl rfl rfl rfl) rfl (ltN rfl) (EF.call rfl ce15 rfl (.cons (by repeat constructor) Takes.nil) (fun F' hle hr => listT F' (fun _ h => by cases h) (by decide))) ?_
 rintro v90 _ ⟨_, ⟨L90, hL90, rfl⟩, rfl⟩
 refine J.app ?_
 refine Sq.slCase (v := v90) (xs := L90) (by repeat constructor) (fun a90 c90 hv90 hh90 => ?_)
 subst hv90
 refine Sq.quiet (i := 43) rfl (Want.yes rfl rfl rfl rfl) rfl (ltN rfl) (QP.len rfl rfl rfl Try.underlying46).read ?_
 refine Sq.quiet (i := 44) rfl (Want.yes rfl rfl rfl rfl) rfl (ltN rfl) (QP.eql rfl rfl rfl).read ?_
 refine J.decT (by have := hL90.length; simp at this; simp [this]) ?_
 refine Sq.quiet (i := 45) rfl (Want.none rfl) rfl (ltN rfl) (QP.pick_t rfl rfl rfl).read ?_
 refine Sq.quiet (i := 46) rfl (Want.none rfl) rfl (ltN rfl) (QP.assign rfl rfl).read ?_
 refine Sq.nil ?_
 refine hk11 _ _ ?_
 refine Run.ret ?_
 exact J.ends (res_tmp rfl rfl) Takes.nil ⟨rfl, rfl⟩
end Slb
