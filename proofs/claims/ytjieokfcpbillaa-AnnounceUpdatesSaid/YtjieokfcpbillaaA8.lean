/- A8: a part of the proof that a law of this package holds for every input; no condition. -/
import Derived.Test.YtjieokfcpbillaaA7
import Derived.Test.YtjieokfcpbillaaB38
namespace Slb
open Go Go.Proofs
set_option maxRecDepth 20000
def id1 : Bs 8 := ⟨[0, 0, 0, 0, 0, 0, 0, 1], rfl⟩
def conf1 (b : Nat) : Config := ⟨id1, ⟨some ⟨b, 0, none⟩, 1, 1⟩, Slc.zero, Slc.zero, 1, 1, 1, 1⟩
theorem one_at {F : Fr} {b : Nat} {x : IfConf} {fz : Nat × Nat} (h : F.h b = some (.cells (IfConf.enc x).toArray 27 fz)) : ∀ S, SlAt S F b 0 43 IfConf.enc [x] := fun S => SlAt.frZ IfConf.enc_len h [] [] (by simp) rfl

theorem rcheckC_spec (F : Fr) {b : Nat} {x : IfConf} {fz : Nat × Nat} (hb : F.h b = some (.cells (IfConf.enc x).toArray 27 fz)) : Spec Try.prog 20 #[.agg (Config.enc (conf1 b)).toArray] [] F (fun v S => ∃ n, v = .int .i64 n ∧ (n = 0 → IfOk x) ∧ S = []) := by
 refine Spec.intro (N := 151) (args := [.agg (Config.enc (conf1 b)).toArray]) Try.func20 rfl rfl (by simp) ?_
 refine Run.seq fun k1 hk1 => ?_
 refine Run.region ?_
 show Sq _ _ _ [0, 1] _ _ _ _
 refine Sq.eff (i := 0) rfl (Want.none rfl) rfl (ltN rfl) (EF.boxA rfl rfl) ?_
 rintro _ _ ⟨b1, rfl, rfl⟩
 refine Sq.quiet (i := 1) rfl (Want.none rfl) rfl (ltN rfl) (QP.assign rfl rfl).read ?_
 refine Sq.nil ?_
 refine hk1 _ _ ?_
 refine Run.seq fun k2 hk2 => ?_
 refine Run.seq fun k3 hk3 => ?_
 refine Run.region ?_
 show Sq _ _ _ [0, 1, 2, 3, 4, 5, 6, 7, 8] _ _ _ _
 refine Sq.quiet (i := 0) rfl (Want.none rfl) rfl (ltN rfl) (QP.fieldAddr rfl rfl f69_0).read ?_
 refine Sq.quiet (i := 1) rfl (Want.none rfl) rfl (ltN rfl) (QR.load rfl rfl g48 (Config.sub_id_ _)) ?_
 refine Sq.quiet (i := 2) rfl (Want.none rfl) rfl (ltN rfl) (QP.const (.agg (Bs.enc (⟨[0, 0, 0, 0, 0, 0, 0, 0], rfl⟩ : Bs 8)).toArray) (fun _ _ => by kernel_rfl)).read ?_
 refine Sq.quiet (i := 3) rfl (Want.none rfl) rfl (ltN rfl) (QP.eql_agg eq48 rfl rfl rfl).read ?_
 refine J.decF (by show ¬ id1 = _; decide) ?_
 refine Sq.quiet (i := 4) rfl (Want.none rfl) rfl (ltN rfl) (QP.move rfl rfl).read ?_
 refine Sq.quiet (i := 5) rfl (Want.yes rfl rfl rfl rfl) rfl (ltN rfl) (QP.fieldAddr rfl rfl f69_0).read ?_
 refine Sq.quiet (i := 6) rfl (Want.yes rfl rfl rfl rfl) rfl (ltN rfl) (QR.load rfl rfl g48 (Config.sub_id_ _)) ?_
 refine Sq.eff (i := 7) rfl (Want.yes rfl rfl rfl rfl) rfl (ltN rfl) (EF.call rfl ce34 rfl Takes.nil (fun F' hle hr => rfull_spec F' (((conf1 b)).id_))) ?_
 rintro _ _ ⟨_, ⟨r16, rfl, hfu16, rfl⟩, rfl⟩
 refine J.app ?_
 refine J.caseB (fun c16 => ?_) (fun c16 => ?_)
 ·skip
  refine Sq.quiet (i := 8) rfl (Want.none rfl) rfl (ltN rfl) (QP.pick_f rfl rfl rfl).read ?_
  refine Sq.nil ?_
  refine hk3 _ _ ?_
  refine Run.cond_t rfl ?_
  refine Run.seq fun k4 hk4 => ?_
  refine Run.region ?_
  show Sq _ _ _ [0] _ _ _ _
  refine Sq.quiet (i := 0) rfl (Want.none rfl) rfl (ltN rfl) (QP.assign rfl rfl).read ?_
  refine Sq.nil ?_
  refine hk4 _ _ ?_
  refine Run.ret ?_
  exact J.ends (res_tmp rfl rfl) Takes.nil ⟨91, rfl, fun h => absurd h (by decide), rfl⟩
 ·skip
  refine Sq.quiet (i := 8) rfl (Want.none rfl) rfl (ltN rfl) (QP.pick_f rfl rfl rfl).read ?_
  refine Sq.nil ?_
  refine hk3 _ _ ?_
  refine Run.cond_f rfl ?_
  refine Run.skip ?_
  refine hk2 _ _ ?_
  refine Run.seq fun k5 hk5 => ?_
  refine Run.seq fun k6 hk6 => ?_
  refine Run.region ?_
  show Sq _ _ _ [0, 1, 2, 3] _ _ _ _
  refine Sq.quiet (i := 0) rfl (Want.none rfl) rfl (ltN rfl) (QP.fieldAddr rfl rfl f69_1).read ?_
  refine Sq.quiet (i := 1) rfl (Want.none rfl) rfl (ltN rfl) (QR.load1 rfl rfl g30 (Config.sub_ifs _)) ?_
  refine Sq.quiet (i := 2) rfl (Want.none rfl) rfl (ltN rfl) (QP.len rfl rfl rfl Try.underlying30).read ?_
  refine Sq.quiet (i := 3) rfl (Want.none rfl) rfl (ltN rfl) (QP.eql rfl rfl rfl).read ?_
  refine J.decF (by show ¬ ((1 : Nat) : Int) = 0; decide) ?_
  refine Sq.nil ?_
  refine hk6 _ _ ?_
  refine Run.cond_f rfl ?_
  refine Run.skip ?_
  refine hk5 _ _ ?_
  refine Run.seq fun k7 hk7 => ?_
  refine Run.seq fun k8 hk8 => ?_
  refine Run.region ?_
  show Sq _ _ _ [0, 1, 2, 3, 4, 5, 6, 7, 8, 9, 10, 11, 12, 13, 14, 15] _ _ _ _
  refine Sq.quiet (i := 0) rfl (Want.none rfl) rfl (ltN rfl) (QP.fieldAddr rfl rfl f69_1).read ?_
  refine Sq.quiet (i := 1) rfl (Want.none rfl) rfl (ltN rfl) (QR.load1 rfl rfl g30 (Config.sub_ifs _)) ?_
  refine Sq.quiet (i := 2) rfl (Want.none rfl) rfl (ltN rfl) (QP.len rfl rfl rfl Try.underlying30).read ?_
  refine Sq.quiet (i := 3) rfl (Want.none rfl) rfl (ltN rfl) (QP.gtr rfl rfl rfl).read ?_
  refine J.decF (by show ¬ (16 : Int) < ((1 : Nat) : Int); decide) ?_
  refine Sq.quiet (i := 4) rfl (Want.none rfl) rfl (ltN rfl) (QP.move rfl rfl).read ?_
  refine Sq.quiet (i := 5) rfl (Want.yes rfl rfl rfl rfl) rfl (ltN rfl) (QP.fieldAddr rfl rfl f69_2).read ?_
  refine Sq.quiet (i := 6) rfl (Want.yes rfl rfl rfl rfl) rfl (ltN rfl) (QR.load1 rfl rfl g66 (Config.sub_rules _)) ?_
  refine Sq.quiet (i := 7) rfl (Want.yes rfl rfl rfl rfl) rfl (ltN rfl) (QP.len rfl rfl rfl Try.underlying66).read ?_
  refine Sq.quiet (i := 8) rfl (Want.yes rfl rfl rfl rfl) rfl (ltN rfl) (QP.gtr rfl rfl rfl).read ?_
  refine J.decF (by show ¬ (256 : Int) < ((0 : Nat) : Int); decide) ?_
  refine Sq.quiet (i := 9) rfl (Want.none rfl) rfl (ltN rfl) (QP.pick_f rfl rfl rfl).read ?_
  refine Sq.quiet (i := 10) rfl (Want.none rfl) rfl (ltN rfl) (QP.move rfl rfl).read ?_
  refine Sq.quiet (i := 11) rfl (Want.yes rfl rfl rfl rfl) rfl (ltN rfl) (QP.fieldAddr rfl rfl f69_3).read ?_
  refine Sq.quiet (i := 12) rfl (Want.yes rfl rfl rfl rfl) rfl (ltN rfl) (QR.load1 rfl rfl g67 (Config.sub_locals _)) ?_
  refine Sq.quiet (i := 13) rfl (Want.yes rfl rfl rfl rfl) rfl (ltN rfl) (QP.len rfl rfl rfl Try.underlying67).read ?_
  refine Sq.quiet (i := 14) rfl (Want.yes rfl rfl rfl rfl) rfl (ltN rfl) (QP.gtr rfl rfl rfl).read ?_
  refine J.decF (by show ¬ (256 : Int) < ((0 : Nat) : Int); decide) ?_
  refine Sq.quiet (i := 15) rfl (Want.none rfl) rfl (ltN rfl) (QP.pick_f rfl rfl rfl).read ?_
  refine Sq.nil ?_
  refine hk8 _ _ ?_
  refine Run.cond_f rfl ?_
  refine Run.skip ?_
  refine hk7 _ _ ?_
  refine Run.seq fun k9 hk9 => ?_
  refine Run.seq fun k10 hk10 => ?_
  refine Run.region ?_
  show Sq _ _ _ [0] _ _ _ _
  refine Sq.quiet (i := 0) rfl (Want.none rfl) rfl (ltN rfl) (QP.assign rfl rfl).read ?_
  refine Sq.nil ?_
  refine hk10 _ _ ?_
  refine Run.block ?_
  refine Run.loop1 (fun (i : Nat) => i ≤ 1 ∧ (0 < i → IfOk x)) (fun i => .cons 1 (.pointer (some ⟨b1, 0, none⟩)) (.cons 3 (.int .i64 i) (.nil))) (fun i => [blk b1 (Config.enc (conf1 b)) 69]) (fun i => 1 - i) (0) (⟨Nat.zero_le _, fun h => absurd h (by omega)⟩) ?_ ?_
  ·exact fun _ j => J.envJ (J.keep (.cons (by repeat constructor) Takes.nil) j) ⟨rfl, rfl, trivial⟩
  rintro i ⟨hile, hok⟩ kl11 hl11
  refine Run.seq fun k12 hk12 => ?_
  refine Run.seq fun k13 hk13 => ?_
  refine Run.region ?_
  show Sq _ _ _ [0, 1, 2, 3, 4] _ _ _ _
  refine Sq.quiet (i := 0) rfl (Want.none rfl) rfl (ltN rfl) (QP.move rfl rfl).read ?_
  refine Sq.quiet (i := 1) rfl (Want.none rfl) rfl (ltN rfl) (QP.fieldAddr rfl rfl f69_1).read ?_
  refine Sq.quiet (i := 2) rfl (Want.none rfl) rfl (ltN rfl) (QR.load1 rfl rfl g30 (Config.sub_ifs _)) ?_
  refine Sq.quiet (i := 3) rfl (Want.none rfl) rfl (ltN rfl) (QP.len rfl rfl rfl Try.underlying30).read ?_
  refine Sq.quiet (i := 4) rfl (Want.none rfl) rfl (ltN rfl) (QP.lss rfl rfl rfl).read ?_
  refine J.caseD (fun c42 => ?_) (fun c42 => ?_)
  ·skip
   refine Sq.nil ?_
   refine hk13 _ _ ?_
   refine Run.cond_t rfl ?_
   refine Run.skip ?_
   refine hk12 _ _ ?_
   refine Run.seq fun k14 hk14 => ?_
   refine Run.block ?_
   refine Run.seq fun k15 hk15 => ?_
   refine Run.seq fun k16 hk16 => ?_
   refine Run.region ?_
   show Sq _ _ _ [0, 1, 2, 3, 4, 5, 6] _ _ _ _
   obtain rfl : i = 0 := by have : (i : Int) < ((1 : Nat) : Int) := c42; omega
   have hi : [x][Int.toNat ((0 : Nat) : Int)]? = some x := rfl
   refine Sq.quiet (i := 0) rfl (Want.none rfl) rfl (ltN rfl) (QP.fieldAddr rfl rfl f69_1).read ?_
   refine Sq.quiet (i := 1) rfl (Want.none rfl) rfl (ltN rfl) (QR.load1 rfl rfl g30 (Config.sub_ifs _)) ?_
   refine Sq.quiet (i := 2) rfl (Want.none rfl) rfl (ltN rfl) (QP.move rfl rfl).read ?_
   refine Sq.quiet (i := 3) rfl (Want.none rfl) rfl (ltN rfl) (QP.indexAddr rfl rfl rfl Try.underlying30 z27 (by first | omega | (simp <;> omega)) (by first | omega | (simp <;> omega))).read ?_
   refine Sq.quiet (i := 4) rfl (Want.none rfl) rfl (ltN rfl) (QR.loadSl rfl rfl g27 IfConf.enc_len (one_at hb _) hi) ?_
   refine Sq.eff (i := 5) rfl (Want.none rfl) rfl (ltN rfl) (EF.call rfl ce35 rfl Takes.nil (fun F' hle hr => riface_spec F' (x))) ?_
   rintro _ _ ⟨_, ⟨r50, rfl, hif50, rfl⟩, rfl⟩
   refine J.app ?_
   refine J.caseB (fun c50 => ?_) (fun c50 => ?_)
   ·skip
    refine Sq.quiet (i := 6) rfl (Want.none rfl) rfl (ltN rfl) (QP.not rfl rfl).read ?_
    refine Sq.nil ?_
    refine hk16 _ _ ?_
    refine Run.cond_f rfl ?_
    refine Run.skip ?_
    refine hk15 _ _ ?_
    refine Run.seq fun k17 hk17 => ?_
    refine Run.region ?_
    show Sq _ _ _ [0] _ _ _ _
    refine Sq.quiet (i := 0) rfl (Want.none rfl) rfl (ltN rfl) (QP.assign rfl rfl).read ?_
    refine Sq.nil ?_
    refine hk17 _ _ ?_
    refine Run.block ?_
    refine Run.loop1 (fun (u : Unit) => True) (fun u => .cons 1 (.pointer (some ⟨b1, 0, none⟩)) (.cons 3 (.int .i64 ((0 : Nat) : Int)) (.cons 4 (.int .i64 0) (.nil)))) (fun u => [blk b1 (Config.enc (conf1 b)) 69]) (fun u => 0) (()) (trivial) ?_ ?_
    ·exact fun _ j => J.envJ (J.keep (.cons (by repeat constructor) Takes.nil) j) ⟨rfl, rfl, rfl, trivial⟩
    rintro u _ kl18 hl18
    refine Run.seq fun k19 hk19 => ?_
    refine Run.seq fun k20 hk20 => ?_
    refine Run.region ?_
    show Sq _ _ _ [0, 1, 2] _ _ _ _
    refine Sq.quiet (i := 0) rfl (Want.none rfl) rfl (ltN rfl) (QP.move rfl rfl).read ?_
    refine Sq.quiet (i := 1) rfl (Want.none rfl) rfl (ltN rfl) (QP.move rfl rfl).read ?_
    refine Sq.quiet (i := 2) rfl (Want.none rfl) rfl (ltN rfl) (QP.lss rfl rfl rfl).read ?_
    refine J.caseD (fun c54 => ?_) (fun c54 => ?_)
    ·skip
     refine Sq.nil ?_
     refine hk20 _ _ ?_
     refine Run.cond_t rfl ?_
     refine Run.skip ?_
     refine hk19 _ _ ?_
     refine Run.seq fun k21 hk21 => ?_
     refine Run.block ?_
     refine Run.seq fun k22 hk22 => ?_
     refine Run.regionD (M := [0, 1, 0, 7, 15, 31, 0, 64, 0, 448, 960, 1984, 4095]) (q := 8191) (r := 2210) (by kernel_rfl) ?_
     exact absurd c54 (by omega)
    ·skip
     refine Sq.nil ?_
     refine hk20 _ _ ?_
     refine Run.cond_f rfl ?_
     refine Run.exit rfl ?_
     refine hk14 _ _ ?_
     refine Run.region ?_
     show Sq _ _ _ [0, 1, 2] _ _ _ _
     refine Sq.quiet (i := 0) rfl (Want.none rfl) rfl (ltN rfl) (QP.move rfl rfl).read ?_
     refine Sq.quiet (i := 1) rfl (Want.none rfl) rfl (ltN rfl) (QP.add64 rfl rfl rfl (by first | omega | (simp <;> omega)) (by first | omega | (simp <;> omega))).read ?_
     refine Sq.quiet (i := 2) rfl (Want.none rfl) rfl (ltN rfl) (QP.assign rfl rfl).read ?_
     refine Sq.nil ?_
     exact J.envJ (J.keep (.cons (by repeat constructor) Takes.nil) (hl11 (1) (⟨Nat.le_refl _, fun _ => hif50 (by simpa using c50)⟩) (by omega))) ⟨rfl, rfl, trivial⟩
   ·skip
    refine Sq.quiet (i := 6) rfl (Want.none rfl) rfl (ltN rfl) (QP.not rfl rfl).read ?_
    refine Sq.nil ?_
    refine hk16 _ _ ?_
    refine Run.cond_t rfl ?_
    refine Run.seq fun k23 hk23 => ?_
    refine Run.region ?_
    show Sq _ _ _ [0] _ _ _ _
    refine Sq.quiet (i := 0) rfl (Want.none rfl) rfl (ltN rfl) (QP.assign rfl rfl).read ?_
    refine Sq.nil ?_
    refine hk23 _ _ ?_
    refine Run.ret ?_
    exact J.ends (res_tmp rfl rfl) Takes.nil ⟨91, rfl, fun h => absurd h (by decide), rfl⟩
  ·skip
   refine Sq.nil ?_
   refine hk13 _ _ ?_
   refine Run.cond_f rfl ?_
   refine Run.exit rfl ?_
   refine hk9 _ _ ?_
   refine Run.seq fun k24 hk24 => ?_
   refine Run.seq fun k25 hk25 => ?_
   refine Run.region ?_
   show Sq _ _ _ [0] _ _ _ _
   have hok1 : IfOk x := hok (by have : ¬ (i : Int) < ((1 : Nat) : Int) := c42; omega)
   refine Sq.quiet (i := 0) rfl (Want.none rfl) rfl (ltN rfl) (QP.assign rfl rfl).read ?_
   refine Sq.nil ?_
   refine hk25 _ _ ?_
   refine Run.block ?_
   refine Run.loop1 (fun (u : Unit) => True) (fun u => .cons 1 (.pointer (some ⟨b1, 0, none⟩)) (.cons 5 (.int .i64 0) (.nil))) (fun u => [blk b1 (Config.enc (conf1 b)) 69]) (fun u => 0) (()) (trivial) ?_ ?_
   ·exact fun _ j => J.envJ (J.keep (.cons (by repeat constructor) Takes.nil) j) ⟨rfl, rfl, trivial⟩
   rintro u _ kl26 hl26
   refine Run.seq fun k27 hk27 => ?_
   refine Run.seq fun k28 hk28 => ?_
   refine Run.region ?_
   show Sq _ _ _ [0, 1, 2, 3, 4] _ _ _ _
   refine Sq.quiet (i := 0) rfl (Want.none rfl) rfl (ltN rfl) (QP.move rfl rfl).read ?_
   refine Sq.quiet (i := 1) rfl (Want.none rfl) rfl (ltN rfl) (QP.fieldAddr rfl rfl f69_2).read ?_
   refine Sq.quiet (i := 2) rfl (Want.none rfl) rfl (ltN rfl) (QR.load1 rfl rfl g66 (Config.sub_rules _)) ?_
   refine Sq.quiet (i := 3) rfl (Want.none rfl) rfl (ltN rfl) (QP.len rfl rfl rfl Try.underlying66).read ?_
   refine Sq.quiet (i := 4) rfl (Want.none rfl) rfl (ltN rfl) (QP.lss rfl rfl rfl).read ?_
   refine J.caseD (fun c74 => ?_) (fun c74 => ?_)
   ·skip
    refine Sq.nil ?_
    refine hk28 _ _ ?_
    refine Run.cond_t rfl ?_
    refine Run.skip ?_
    refine hk27 _ _ ?_
    refine Run.seq fun k29 hk29 => ?_
    refine Run.block ?_
    refine Run.seq fun k30 hk30 => ?_
    refine Run.region ?_
    show Sq _ _ _ [0, 1, 2, 3, 4, 5, 6] _ _ _ _
    exact absurd c74 (by show ¬ ((0 : Int) < ((0 : Nat) : Int)); decide)
   ·skip
    refine Sq.nil ?_
    refine hk28 _ _ ?_
    refine Run.cond_f rfl ?_
    refine Run.exit rfl ?_
    refine hk24 _ _ ?_
    refine Run.seq fun k31 hk31 => ?_
    refine Run.seq fun k32 hk32 => ?_
    refine Run.region ?_
    show Sq _ _ _ [0] _ _ _ _
    refine Sq.quiet (i := 0) rfl (Want.none rfl) rfl (ltN rfl) (QP.assign rfl rfl).read ?_
    refine Sq.nil ?_
    refine hk32 _ _ ?_
    refine Run.block ?_
    refine Run.loop1 (fun (u : Unit) => True) (fun u => .cons 1 (.pointer (some ⟨b1, 0, none⟩)) (.cons 7 (.int .i64 0) (.nil))) (fun u => [blk b1 (Config.enc (conf1 b)) 69]) (fun u => 0) (()) (trivial) ?_ ?_
    ·exact fun _ j => J.envJ (J.keep (.cons (by repeat constructor) Takes.nil) j) ⟨rfl, rfl, trivial⟩
    rintro u _ kl33 hl33
    refine Run.seq fun k34 hk34 => ?_
    refine Run.seq fun k35 hk35 => ?_
    refine Run.region ?_
    show Sq _ _ _ [0, 1, 2, 3, 4] _ _ _ _
    refine Sq.quiet (i := 0) rfl (Want.none rfl) rfl (ltN rfl) (QP.move rfl rfl).read ?_
    refine Sq.quiet (i := 1) rfl (Want.none rfl) rfl (ltN rfl) (QP.fieldAddr rfl rfl f69_3).read ?_
    refine Sq.quiet (i := 2) rfl (Want.none rfl) rfl (ltN rfl) (QR.load1 rfl rfl g67 (Config.sub_locals _)) ?_
    refine Sq.quiet (i := 3) rfl (Want.none rfl) rfl (ltN rfl) (QP.len rfl rfl rfl Try.underlying67).read ?_
    refine Sq.quiet (i := 4) rfl (Want.none rfl) rfl (ltN rfl) (QP.lss rfl rfl rfl).read ?_
    refine J.caseD (fun c90 => ?_) (fun c90 => ?_)
    ·skip
     refine Sq.nil ?_
     refine hk35 _ _ ?_
     refine Run.cond_t rfl ?_
     refine Run.skip ?_
     refine hk34 _ _ ?_
     refine Run.seq fun k36 hk36 => ?_
     refine Run.block ?_
     refine Run.seq fun k37 hk37 => ?_
     refine Run.seq fun k38 hk38 => ?_
     refine Run.region ?_
     show Sq _ _ _ [0, 1, 2, 3, 4, 5, 6, 7, 8, 9, 10, 11, 12, 13, 14, 15, 16, 17] _ _ _ _
     exact absurd c90 (by show ¬ ((0 : Int) < ((0 : Nat) : Int)); decide)
    ·skip
     refine Sq.nil ?_
     refine hk35 _ _ ?_
     refine Run.cond_f rfl ?_
     refine Run.exit rfl ?_
     refine hk31 _ _ ?_
     refine Run.seq fun k39 hk39 => ?_
     refine Run.seq fun k40 hk40 => ?_
     refine Run.region ?_
     show Sq _ _ _ [0, 1, 2, 3, 4, 5, 6, 7, 8, 9, 10, 11, 12, 13, 14, 15, 16, 17, 18, 19, 20, 21] _ _ _ _
     refine Sq.quiet (i := 0) rfl (Want.none rfl) rfl (ltN rfl) (QP.fieldAddr rfl rfl f69_4).read ?_
     refine Sq.quiet (i := 1) rfl (Want.none rfl) rfl (ltN rfl) (QR.load1 rfl rfl g3 (Config.sub_neighbours _)) ?_
     refine Sq.eff (i := 2) rfl (Want.none rfl) rfl (ltN rfl) (EF.call rfl ce37 rfl Takes.nil (fun F' hle hr => rin_spec F' (((conf1 b)).neighbours) (1) (4096))) ?_
     rintro _ _ ⟨_, ⟨rfl, rfl⟩, rfl⟩
     refine J.app ?_
     refine J.caseB (fun c131 => ?_) (fun c131 => ?_)
     ·skip
      refine Sq.quiet (i := 3) rfl (Want.none rfl) rfl (ltN rfl) (QP.not rfl rfl).read ?_
      refine Sq.quiet (i := 4) rfl (Want.none rfl) rfl (ltN rfl) (QP.move rfl rfl).read ?_
      refine Sq.quiet (i := 5) rfl (Want.yes rfl rfl rfl rfl) rfl (ltN rfl) (QP.fieldAddr rfl rfl f69_5).read ?_
      refine Sq.quiet (i := 6) rfl (Want.yes rfl rfl rfl rfl) rfl (ltN rfl) (QR.load1 rfl rfl g3 (Config.sub_sources _)) ?_
      refine Sq.eff (i := 7) rfl (Want.yes rfl rfl rfl rfl) rfl (ltN rfl) (EF.call rfl ce37 rfl Takes.nil (fun F' hle hr => rin_spec F' (((conf1 b)).sources) (1) (4096))) ?_
      rintro _ _ ⟨_, ⟨rfl, rfl⟩, rfl⟩
      refine J.app ?_
      refine J.caseB (fun c136 => ?_) (fun c136 => ?_)
      ·skip
       refine Sq.quiet (i := 8) rfl (Want.yes rfl rfl rfl rfl) rfl (ltN rfl) (QP.not rfl rfl).read ?_
       refine Sq.quiet (i := 9) rfl (Want.none rfl) rfl (ltN rfl) (QP.pick_f rfl rfl rfl).read ?_
       refine Sq.quiet (i := 10) rfl (Want.none rfl) rfl (ltN rfl) (QP.move rfl rfl).read ?_
       refine Sq.quiet (i := 11) rfl (Want.yes rfl rfl rfl rfl) rfl (ltN rfl) (QP.fieldAddr rfl rfl f69_6).read ?_
       refine Sq.quiet (i := 12) rfl (Want.yes rfl rfl rfl rfl) rfl (ltN rfl) (QR.load1 rfl rfl g3 (Config.sub_routes _)) ?_
       refine Sq.eff (i := 13) rfl (Want.yes rfl rfl rfl rfl) rfl (ltN rfl) (EF.call rfl ce37 rfl Takes.nil (fun F' hle hr => rin_spec F' (((conf1 b)).routes) (1) (4096))) ?_
       rintro _ _ ⟨_, ⟨rfl, rfl⟩, rfl⟩
       refine J.app ?_
       refine J.caseB (fun c142 => ?_) (fun c142 => ?_)
       ·skip
        refine Sq.quiet (i := 14) rfl (Want.yes rfl rfl rfl rfl) rfl (ltN rfl) (QP.not rfl rfl).read ?_
        refine Sq.quiet (i := 15) rfl (Want.none rfl) rfl (ltN rfl) (QP.pick_f rfl rfl rfl).read ?_
        refine Sq.quiet (i := 16) rfl (Want.none rfl) rfl (ltN rfl) (QP.move rfl rfl).read ?_
        refine Sq.quiet (i := 17) rfl (Want.yes rfl rfl rfl rfl) rfl (ltN rfl) (QP.fieldAddr rfl rfl f69_7).read ?_
        refine Sq.quiet (i := 18) rfl (Want.yes rfl rfl rfl rfl) rfl (ltN rfl) (QR.load1 rfl rfl g3 (Config.sub_requests _)) ?_
        refine Sq.eff (i := 19) rfl (Want.yes rfl rfl rfl rfl) rfl (ltN rfl) (EF.call rfl ce37 rfl Takes.nil (fun F' hle hr => rin_spec F' (((conf1 b)).requests) (1) (4096))) ?_
        rintro _ _ ⟨_, ⟨rfl, rfl⟩, rfl⟩
        refine J.app ?_
        refine J.caseB (fun c148 => ?_) (fun c148 => ?_)
        ·skip
         refine Sq.quiet (i := 20) rfl (Want.yes rfl rfl rfl rfl) rfl (ltN rfl) (QP.not rfl rfl).read ?_
         refine Sq.quiet (i := 21) rfl (Want.none rfl) rfl (ltN rfl) (QP.pick_f rfl rfl rfl).read ?_
         refine Sq.nil ?_
         refine hk40 _ _ ?_
         refine Run.cond_f rfl ?_
         refine Run.skip ?_
         refine hk39 _ _ ?_
         refine Run.seq fun k41 hk41 => ?_
         refine Run.region ?_
         show Sq _ _ _ [0] _ _ _ _
         refine Sq.quiet (i := 0) rfl (Want.none rfl) rfl (ltN rfl) (QP.assign rfl rfl).read ?_
         refine Sq.nil ?_
         refine hk41 _ _ ?_
         refine Run.ret ?_
         exact J.ends (res_tmp rfl rfl) Takes.nil ⟨0, rfl, fun _ => hok1, rfl⟩
        ·skip
         refine Sq.quiet (i := 20) rfl (Want.yes rfl rfl rfl rfl) rfl (ltN rfl) (QP.not rfl rfl).read ?_
         refine Sq.quiet (i := 21) rfl (Want.none rfl) rfl (ltN rfl) (QP.pick_f rfl rfl rfl).read ?_
         refine Sq.nil ?_
         refine hk40 _ _ ?_
         refine Run.cond_t rfl ?_
         refine Run.seq fun k42 hk42 => ?_
         refine Run.region ?_
         show Sq _ _ _ [0] _ _ _ _
         refine Sq.quiet (i := 0) rfl (Want.none rfl) rfl (ltN rfl) (QP.assign rfl rfl).read ?_
         refine Sq.nil ?_
         refine hk42 _ _ ?_
         refine Run.ret ?_
         exact J.ends (res_tmp rfl rfl) Takes.nil ⟨91, rfl, fun h => absurd h (by decide), rfl⟩
       ·skip
        refine Sq.quiet (i := 14) rfl (Want.yes rfl rfl rfl rfl) rfl (ltN rfl) (QP.not rfl rfl).read ?_
        refine Sq.quiet (i := 15) rfl (Want.none rfl) rfl (ltN rfl) (QP.pick_f rfl rfl rfl).read ?_
        refine Sq.quiet (i := 16) rfl (Want.none rfl) rfl (ltN rfl) (QP.move rfl rfl).read ?_
        refine Sq.skip (i := 17) rfl (Want.no rfl rfl rfl rfl) rfl (ltN rfl) ?_
        refine Sq.skip (i := 18) rfl (Want.no rfl rfl rfl rfl) rfl (ltN rfl) ?_
        refine Sq.skip (i := 19) rfl (Want.no rfl rfl rfl rfl) rfl (ltN rfl) ?_
        refine Sq.skip (i := 20) rfl (Want.no rfl rfl rfl rfl) rfl (ltN rfl) ?_
        refine Sq.quiet (i := 21) rfl (Want.none rfl) rfl (ltN rfl) (QP.pick_t rfl rfl rfl).read ?_
        refine Sq.nil ?_
        refine hk40 _ _ ?_
        refine Run.cond_t rfl ?_
        refine Run.seq fun k43 hk43 => ?_
        refine Run.region ?_
        show Sq _ _ _ [0] _ _ _ _
        refine Sq.quiet (i := 0) rfl (Want.none rfl) rfl (ltN rfl) (QP.assign rfl rfl).read ?_
        refine Sq.nil ?_
        refine hk43 _ _ ?_
        refine Run.ret ?_
        exact J.ends (res_tmp rfl rfl) Takes.nil ⟨91, rfl, fun h => absurd h (by decide), rfl⟩
      ·skip
       refine Sq.quiet (i := 8) rfl (Want.yes rfl rfl rfl rfl) rfl (ltN rfl) (QP.not rfl rfl).read ?_
       refine Sq.quiet (i := 9) rfl (Want.none rfl) rfl (ltN rfl) (QP.pick_f rfl rfl rfl).read ?_
       refine Sq.quiet (i := 10) rfl (Want.none rfl) rfl (ltN rfl) (QP.move rfl rfl).read ?_
       refine Sq.skip (i := 11) rfl (Want.no rfl rfl rfl rfl) rfl (ltN rfl) ?_
       refine Sq.skip (i := 12) rfl (Want.no rfl rfl rfl rfl) rfl (ltN rfl) ?_
       refine Sq.skip (i := 13) rfl (Want.no rfl rfl rfl rfl) rfl (ltN rfl) ?_
       refine Sq.skip (i := 14) rfl (Want.no rfl rfl rfl rfl) rfl (ltN rfl) ?_
       refine Sq.quiet (i := 15) rfl (Want.none rfl) rfl (ltN rfl) (QP.pick_t rfl rfl rfl).read ?_
       refine Sq.quiet (i := 16) rfl (Want.none rfl) rfl (ltN rfl) (QP.move rfl rfl).read ?_
       refine Sq.skip (i := 17) rfl (Want.no rfl rfl rfl rfl) rfl (ltN rfl) ?_
       refine Sq.skip (i := 18) rfl (Want.no rfl rfl rfl rfl) rfl (ltN rfl) ?_
       refine Sq.skip (i := 19) rfl (Want.no rfl rfl rfl rfl) rfl (ltN rfl) ?_
       refine Sq.skip (i := 20) rfl (Want.no rfl rfl rfl rfl) rfl (ltN rfl) ?_
       refine Sq.quiet (i := 21) rfl (Want.none rfl) rfl (ltN rfl) (QP.pick_t rfl rfl rfl).read ?_
       refine Sq.nil ?_
       refine hk40 _ _ ?_
       refine Run.cond_t rfl ?_
       refine Run.seq fun k44 hk44 => ?_
       refine Run.region ?_
       show Sq _ _ _ [0] _ _ _ _
       refine Sq.quiet (i := 0) rfl (Want.none rfl) rfl (ltN rfl) (QP.assign rfl rfl).read ?_
       refine Sq.nil ?_
       refine hk44 _ _ ?_
       refine Run.ret ?_
       exact J.ends (res_tmp rfl rfl) Takes.nil ⟨91, rfl, fun h => absurd h (by decide), rfl⟩
     ·skip
      refine Sq.quiet (i := 3) rfl (Want.none rfl) rfl (ltN rfl) (QP.not rfl rfl).read ?_
      refine Sq.quiet (i := 4) rfl (Want.none rfl) rfl (ltN rfl) (QP.move rfl rfl).read ?_
      refine Sq.skip (i := 5) rfl (Want.no rfl rfl rfl rfl) rfl (ltN rfl) ?_
      refine Sq.skip (i := 6) rfl (Want.no rfl rfl rfl rfl) rfl (ltN rfl) ?_
      refine Sq.skip (i := 7) rfl (Want.no rfl rfl rfl rfl) rfl (ltN rfl) ?_
      refine Sq.skip (i := 8) rfl (Want.no rfl rfl rfl rfl) rfl (ltN rfl) ?_
      refine Sq.quiet (i := 9) rfl (Want.none rfl) rfl (ltN rfl) (QP.pick_t rfl rfl rfl).read ?_
      refine Sq.quiet (i := 10) rfl (Want.none rfl) rfl (ltN rfl) (QP.move rfl rfl).read ?_
      refine Sq.skip (i := 11) rfl (Want.no rfl rfl rfl rfl) rfl (ltN rfl) ?_
      refine Sq.skip (i := 12) rfl (Want.no rfl rfl rfl rfl) rfl (ltN rfl) ?_
      refine Sq.skip (i := 13) rfl (Want.no rfl rfl rfl rfl) rfl (ltN rfl) ?_
      refine Sq.skip (i := 14) rfl (Want.no rfl rfl rfl rfl) rfl (ltN rfl) ?_
      refine Sq.quiet (i := 15) rfl (Want.none rfl) rfl (ltN rfl) (QP.pick_t rfl rfl rfl).read ?_
      refine Sq.quiet (i := 16) rfl (Want.none rfl) rfl (ltN rfl) (QP.move rfl rfl).read ?_
      refine Sq.skip (i := 17) rfl (Want.no rfl rfl rfl rfl) rfl (ltN rfl) ?_
      refine Sq.skip (i := 18) rfl (Want.no rfl rfl rfl rfl) rfl (ltN rfl) ?_
      refine Sq.skip (i := 19) rfl (Want.no rfl rfl rfl rfl) rfl (ltN rfl) ?_
      refine Sq.skip (i := 20) rfl (Want.no rfl rfl rfl rfl) rfl (ltN rfl) ?_
      refine Sq.quiet (i := 21) rfl (Want.none rfl) rfl (ltN rfl) (QP.pick_t rfl rfl rfl).read ?_
      refine Sq.nil ?_
      refine hk40 _ _ ?_
      refine Run.cond_t rfl ?_
      refine Run.seq fun k45 hk45 => ?_
      refine Run.region ?_
      show Sq _ _ _ [0] _ _ _ _
      refine Sq.quiet (i := 0) rfl (Want.none rfl) rfl (ltN rfl) (QP.assign rfl rfl).read ?_
      refine Sq.nil ?_
      refine hk45 _ _ ?_
      refine Run.ret ?_
      exact J.ends (res_tmp rfl rfl) Takes.nil ⟨91, rfl, fun h => absurd h (by decide), rfl⟩

theorem right_spec (F : Fr) {b : Nat} {x : IfConf} {fz : Nat × Nat} (hb : F.h b = some (.cells (IfConf.enc x).toArray 27 fz)) : Spec Try.prog 6 #[.slice (some ⟨b, 0, none⟩) 1 1] [] F (fun v S => ∃ r, v = .bool r ∧ (r = true → IfOk x) ∧ S = []) := by
 refine Spec.intro (N := 28) (args := [.slice (some ⟨b, 0, none⟩) 1 1]) Try.func6 rfl rfl (by simp) ?_
 refine Run.seq fun k1 hk1 => ?_
 refine Run.region ?_
 show Sq _ _ _ [0] _ _ _ _
 refine Sq.quiet (i := 0) rfl (Want.none rfl) rfl (ltN rfl) (QP.assign rfl rfl).read ?_
 refine Sq.nil ?_
 refine hk1 _ _ ?_
 refine Run.seq fun k2 hk2 => ?_
 refine Run.seq fun k3 hk3 => ?_
 refine Run.region ?_
 show Sq _ _ _ [0] _ _ _ _
 refine Sq.quiet (i := 0) rfl (Want.none rfl) rfl (ltN rfl) (QP.assign rfl rfl).read ?_
 refine Sq.nil ?_
 refine hk3 _ _ ?_
 refine Run.block ?_
 refine Run.loop1 (fun (i : Nat) => i ≤ 1 ∧ (0 < i → IfOk x)) (fun i => .cons 0 (.slice (some ⟨b, 0, none⟩) 1 1) (.cons 3 (.int .i64 i) (.nil))) (fun i => []) (fun i => 1 - i) (0) (⟨Nat.zero_le _, fun h => absurd h (by omega)⟩) ?_ ?_
 ·exact fun _ j => J.envJ (J.keep Takes.nil j) ⟨rfl, rfl, trivial⟩
 rintro i ⟨hile, hok⟩ kl4 hl4
 refine Run.seq fun k5 hk5 => ?_
 refine Run.seq fun k6 hk6 => ?_
 refine Run.region ?_
 show Sq _ _ _ [0, 1, 2, 3, 4, 5, 6, 7] _ _ _ _
 refine Sq.quiet (i := 0) rfl (Want.none rfl) rfl (ltN rfl) (QP.move rfl rfl).read ?_
 refine Sq.quiet (i := 1) rfl (Want.none rfl) rfl (ltN rfl) (QP.move rfl rfl).read ?_
 refine Sq.quiet (i := 2) rfl (Want.none rfl) rfl (ltN rfl) (QP.len rfl rfl rfl Try.underlying30).read ?_
 refine Sq.quiet (i := 3) rfl (Want.none rfl) rfl (ltN rfl) (QP.lss rfl rfl rfl).read ?_
 refine J.caseD (fun c8 => ?_) (fun c8 => ?_)
 ·skip
  refine Sq.quiet (i := 4) rfl (Want.none rfl) rfl (ltN rfl) (QP.move rfl rfl).read ?_
  refine Sq.quiet (i := 5) rfl (Want.yes rfl rfl rfl rfl) rfl (ltN rfl) (QP.move rfl rfl).read ?_
  refine Sq.quiet (i := 6) rfl (Want.yes rfl rfl rfl rfl) rfl (ltN rfl) (QP.leq rfl rfl rfl).read ?_
  refine J.caseD (fun c11 => ?_) (fun c11 => ?_)
  ·skip
   refine Sq.quiet (i := 7) rfl (Want.none rfl) rfl (ltN rfl) (QP.pick_t rfl rfl rfl).read ?_
   refine Sq.nil ?_
   refine hk6 _ _ ?_
   refine Run.cond_t rfl ?_
   refine Run.skip ?_
   refine hk5 _ _ ?_
   refine Run.seq fun k7 hk7 => ?_
   refine Run.block ?_
   refine Run.seq fun k8 hk8 => ?_
   refine Run.region ?_
   show Sq _ _ _ [0, 1, 2, 3, 4, 5, 6, 7, 8] _ _ _ _
   obtain rfl : i = 0 := by have : (i : Int) < ((1 : Nat) : Int) := c8; omega
   refine Sq.quiet (i := 0) rfl (Want.none rfl) rfl (ltN rfl) (QP.const (.agg (Bs.enc (⟨[0, 0, 0, 0, 0, 0, 0, 1], rfl⟩ : Bs 8)).toArray) (fun _ _ => by kernel_rfl)).read ?_
   refine Sq.quiet (i := 1) rfl (Want.none rfl) rfl (ltN rfl) (QP.move rfl rfl).read ?_
   refine Sq.quiet (i := 2) rfl (Want.none rfl) rfl (ltN rfl) (QP.move rfl rfl).read ?_
   refine Sq.quiet (i := 3) rfl (Want.none rfl) rfl (ltN rfl) (QP.move rfl rfl).read ?_
   refine Sq.quiet (i := 4) rfl (Want.none rfl) rfl (ltN rfl) (QP.add64 rfl rfl rfl (by first | omega | (simp <;> omega)) (by first | omega | (simp <;> omega))).read ?_
   refine Sq.quiet (i := 5) rfl (Want.none rfl) rfl (ltN rfl) (QP.sliceLoHi rfl rfl rfl rfl Try.underlying30 z27 (by omega) (by omega) (by decide)).read ?_
   rw [show (Value.slice (slOff (some ⟨b, 0, none⟩) 1 (Int.toNat ((0 : Nat) : Int)) 43) (Int.toNat (((0 : Nat) : Int) + 1) - Int.toNat ((0 : Nat) : Int)) (1 - Int.toNat ((0 : Nat) : Int))) = .slice (some ⟨b, 0, none⟩) 1 1 from rfl]
   refine Sq.quiet (i := 6) rfl (Want.none rfl) rfl (ltN rfl) (QP.build (l := Config.enc (conf1 b)) rfl st69 rfl (by exact ⟨congrArg some (Bs.len _).symm, ⟨rfl, ⟨rfl, ⟨rfl, ⟨rfl, ⟨rfl, trivial⟩⟩⟩⟩⟩⟩) rfl).read ?_
   refine Sq.eff (i := 7) rfl (Want.none rfl) rfl (ltN rfl) (EF.allocA (l := Config.enc Config.zero) rfl zero69) ?_
   rintro _ _ ⟨b4, rfl, rfl⟩
   refine Sq.act (i := 8) rfl (Want.none rfl) rfl (EF.storeA rfl rfl rfl z69 (SetL.all (Config.enc_len _) (Config.enc_len _)) (Config.enc_cell _)) ?_
   rintro _ _ rfl
   refine Sq.nil ?_
   refine hk8 _ _ ?_
   refine Run.seq fun k9 hk9 => ?_
   refine Run.region ?_
   show Sq _ _ _ [0, 1, 2] _ _ _ _
   refine Sq.quiet (i := 0) rfl (Want.none rfl) rfl (ltN rfl) (QR.load rfl rfl g69 (Config.enc_sub _)) ?_
   refine Sq.eff (i := 1) rfl (Want.none rfl) rfl (ltN rfl) (EF.call rfl ce20 rfl Takes.nil (fun F' hle hr => rcheckC_spec F' (hle _ _ hb))) ?_
   rintro _ _ ⟨_, ⟨n23, rfl, hn23, rfl⟩, rfl⟩
   refine J.app ?_
   refine Sq.quiet (i := 2) rfl (Want.none rfl) rfl (ltN rfl) (QP.neq rfl rfl rfl).read ?_
   refine J.caseD (fun c24 => ?_) (fun c24 => ?_)
   ·skip
    refine Sq.nil ?_
    refine hk9 _ _ ?_
    refine Run.cond_t rfl ?_
    refine Run.seq fun k10 hk10 => ?_
    refine Run.region ?_
    show Sq _ _ _ [0] _ _ _ _
    refine Sq.quiet (i := 0) rfl (Want.none rfl) rfl (ltN rfl) (QP.assign rfl rfl).read ?_
    refine Sq.nil ?_
    refine hk10 _ _ ?_
    refine Run.ret ?_
    exact J.ends (res_tmp rfl rfl) Takes.nil ⟨false, rfl, fun h => (by cases h), rfl⟩
   ·skip
    refine Sq.nil ?_
    refine hk9 _ _ ?_
    refine Run.cond_f rfl ?_
    refine Run.skip ?_
    refine hk7 _ _ ?_
    refine Run.region ?_
    show Sq _ _ _ [0, 1, 2] _ _ _ _
    refine Sq.quiet (i := 0) rfl (Want.none rfl) rfl (ltN rfl) (QP.move rfl rfl).read ?_
    refine Sq.quiet (i := 1) rfl (Want.none rfl) rfl (ltN rfl) (QP.add64 rfl rfl rfl (by first | omega | (simp <;> omega)) (by first | omega | (simp <;> omega))).read ?_
    refine Sq.quiet (i := 2) rfl (Want.none rfl) rfl (ltN rfl) (QP.assign rfl rfl).read ?_
    refine Sq.nil ?_
    exact J.envJ (J.keep Takes.nil (hl4 (1) (⟨Nat.le_refl _, fun _ => hn23 (by omega)⟩) (by omega))) ⟨rfl, rfl, trivial⟩
  ·skip
   refine Sq.quiet (i := 7) rfl (Want.none rfl) rfl (ltN rfl) (QP.pick_t rfl rfl rfl).read ?_
   refine Sq.nil ?_
   refine hk6 _ _ ?_
   refine Run.cond_f rfl ?_
   refine Run.exit rfl ?_
   refine hk2 _ _ ?_
   refine Run.seq fun k11 hk11 => ?_
   refine Run.region ?_
   show Sq _ _ _ [0, 1, 2, 3] _ _ _ _
   refine Sq.quiet (i := 0) rfl (Want.none rfl) rfl (ltN rfl) (QP.move rfl rfl).read ?_
   refine Sq.quiet (i := 1) rfl (Want.none rfl) rfl (ltN rfl) (QP.len rfl rfl rfl Try.underlying30).read ?_
   refine Sq.quiet (i := 2) rfl (Want.none rfl) rfl (ltN rfl) (QP.leq rfl rfl rfl).read ?_
   refine Sq.quiet (i := 3) rfl (Want.none rfl) rfl (ltN rfl) (QP.assign rfl rfl).read ?_
   refine Sq.nil ?_
   refine hk11 _ _ ?_
   refine Run.ret ?_
   exact J.ends (res_tmp rfl rfl) Takes.nil ⟨_, rfl, fun _ => absurd c11 (by omega), rfl⟩
 ·skip
  refine Sq.quiet (i := 4) rfl (Want.none rfl) rfl (ltN rfl) (QP.move rfl rfl).read ?_
  refine Sq.skip (i := 5) rfl (Want.no rfl rfl rfl rfl) rfl (ltN rfl) ?_
  refine Sq.skip (i := 6) rfl (Want.no rfl rfl rfl rfl) rfl (ltN rfl) ?_
  refine Sq.quiet (i := 7) rfl (Want.none rfl) rfl (ltN rfl) (QP.pick_f rfl rfl rfl).read ?_
  refine Sq.nil ?_
  refine hk6 _ _ ?_
  refine Run.cond_f rfl ?_
  refine Run.exit rfl ?_
  refine hk2 _ _ ?_
  refine Run.seq fun k12 hk12 => ?_
  refine Run.region ?_
  show Sq _ _ _ [0, 1, 2, 3] _ _ _ _
  refine Sq.quiet (i := 0) rfl (Want.none rfl) rfl (ltN rfl) (QP.move rfl rfl).read ?_
  refine Sq.quiet (i := 1) rfl (Want.none rfl) rfl (ltN rfl) (QP.len rfl rfl rfl Try.underlying30).read ?_
  refine Sq.quiet (i := 2) rfl (Want.none rfl) rfl (ltN rfl) (QP.leq rfl rfl rfl).read ?_
  refine Sq.quiet (i := 3) rfl (Want.none rfl) rfl (ltN rfl) (QP.assign rfl rfl).read ?_
  refine Sq.nil ?_
  refine hk12 _ _ ?_
  refine Run.ret ?_
  exact J.ends (res_tmp rfl rfl) Takes.nil ⟨_, rfl, fun _ => hok (by have : ¬ (i : Int) < ((1 : Nat) : Int) := c8; omega), rfl⟩
end Slb
