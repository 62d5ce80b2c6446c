/- N7: a part of the proof that a law of this package holds for every input; no condition. -/
import Derived.Test.YtpjndmgdboabfaaN6
import Derived.Test.YtpjndmgdboabfaaM2
namespace Slb
open Go Go.Proofs
set_option maxRecDepth 20000
def ok39 (F : Fr) (x : Tlv) : Prop := x.WF ∧ SlIn F 1 (fun n => [Value.int .u32 n]) (fun n => 0 ≤ n ∧ n ≤ 4294967295) x.stamps
def ok41 (F : Fr) (x : Law13Act) : Prop := x.WF ∧ ok39 F x.h

/-- Acts that may be: in time, with few times. -/
def okGap (x : Law13Act) : Prop := 0 ≤ x.gap ∧ x.gap ≤ 1073741824 ∧ x.h.stamps.n ≤ 120
def RightP (ifs : List IfConf) (xs : List Law13Act) : Prop := ifs.length ≤ 8 ∧ (∀ c ∈ ifs, IfOk c) ∧ xs.length ≤ 120 ∧ ∀ x ∈ xs, okGap x
theorem all_take {α : Type} {q : α → Prop} {l : List α} {i : Nat} (h : ∀ x ∈ l.take i, q x) (hi : l.length ≤ i) : ∀ x ∈ l, q x := by
  rwa [List.take_of_length_le hi] at h
theorem take_not {α : Type} {L : List α} {i : Nat} {x : α} {q : α → Prop} (h : ∀ y ∈ L.take i, q y) (hi : L[i]? = some x) (hx : q x) : ∀ y ∈ L.take (i + 1), q y := fun y hy => by
  rw [take_succ_get hi] at hy
  rcases List.mem_append.1 hy with hy | hy
  · exact h y hy
  · simp at hy; subst hy; exact hx

theorem right_spec (F : Fr) {a : Option Addr} {c : Nat} {ifs : List IfConf} (hi0 : ifs.length ≤ 9223372036854775807) (ha : ArgSl F a 43 IfConf.enc ifs) (hcap : ifs.length ≤ c) {a2 : Option Addr} {c2 : Nat} {xs : List Law13Act} (hx0 : xs.length ≤ 9223372036854775807) (ha2 : ArgSl F a2 87 Law13Act.enc xs)  : Spec Try.prog 8 #[.slice a ifs.length c, .slice a2 xs.length c2] [] F (fun v S => ∃ r, v = .bool r ∧ (r = true → RightP ifs xs) ∧ S = []) := by
 refine Spec.intro (N := 70) (args := [.slice a ifs.length c, .slice a2 xs.length c2]) Try.func8 rfl rfl (by simp) ?_
 refine Run.seq fun k1 hk1 => ?_
 refine Run.region ?_
 show Sq _ _ _ [0] _ _ _ _
 refine Sq.quiet (i := 0) rfl (Want.none rfl) rfl (ltN rfl) (QP.assign rfl rfl).read ?_
 refine Sq.nil ?_
 refine hk1 _ _ ?_
 refine Run.seq fun k2 hk2 => ?_
 refine Run.seq fun k3 hk3 => ?_
 refine Run.region ?_
 show Sq _ _ _ [0] _ _ _ _
 refine Sq.quiet (i := 0) rfl (Want.none rfl) rfl (ltN rfl) (QP.assign rfl rfl).read ?_
 refine Sq.nil ?_
 refine hk3 _ _ ?_
 refine Run.block ?_
 refine Run.loop1 (fun (i : Nat) => i ≤ ifs.length ∧ i ≤ 9 ∧ ∀ x ∈ ifs.take i, IfOk x) (fun i => .cons 0 (.slice a ifs.length c) (.cons 1 (.slice a2 xs.length c2) (.cons 5 (.int .i64 i) (.nil)))) (fun i => []) (fun i => ifs.length - i) (0) (⟨Nat.zero_le _, Nat.zero_le _, by simp⟩) ?_ ?_
 ·exact fun _ j => J.envJ (J.keep Takes.nil j) ⟨rfl, rfl, rfl, trivial⟩
 rintro i ⟨hile, hi9, hok⟩ kl4 hl4
 refine Run.seq fun k5 hk5 => ?_
 refine Run.seq fun k6 hk6 => ?_
 refine Run.region ?_
 show Sq _ _ _ [0, 1, 2, 3, 4, 5, 6, 7] _ _ _ _
 refine Sq.quiet (i := 0) rfl (Want.none rfl) rfl (ltN rfl) (QP.move rfl rfl).read ?_
 refine Sq.quiet (i := 1) rfl (Want.none rfl) rfl (ltN rfl) (QP.move rfl rfl).read ?_
 refine Sq.quiet (i := 2) rfl (Want.none rfl) rfl (ltN rfl) (QP.len rfl rfl rfl Try.underlying22).read ?_
 refine Sq.quiet (i := 3) rfl (Want.none rfl) rfl (ltN rfl) (QP.lss rfl rfl rfl).read ?_
 refine J.caseD (fun c11 => ?_) (fun c11 => ?_)
 ·skip
  refine Sq.quiet (i := 4) rfl (Want.none rfl) rfl (ltN rfl) (QP.move rfl rfl).read ?_
  refine Sq.quiet (i := 5) rfl (Want.yes rfl rfl rfl rfl) rfl (ltN rfl) (QP.move rfl rfl).read ?_
  refine Sq.quiet (i := 6) rfl (Want.yes rfl rfl rfl rfl) rfl (ltN rfl) (QP.leq rfl rfl rfl).read ?_
  refine J.caseD (fun c14 => ?_) (fun c14 => ?_)
  ·skip
   refine Sq.quiet (i := 7) rfl (Want.none rfl) rfl (ltN rfl) (QP.pick_t rfl rfl rfl).read ?_
   refine Sq.nil ?_
   refine hk6 _ _ ?_
   refine Run.cond_t rfl ?_
   refine Run.skip ?_
   refine hk5 _ _ ?_
   refine Run.seq fun k7 hk7 => ?_
   refine Run.block ?_
   refine Run.seq fun k8 hk8 => ?_
   refine Run.region ?_
   show Sq _ _ _ [0, 1, 2, 3, 4, 5, 6, 7, 8] _ _ _ _
   obtain ⟨x, hi⟩ : ∃ x, ifs[i]? = some x := ⟨_, List.getElem?_eq_getElem (by omega)⟩
   obtain ⟨b0, o0, rfl, hs0⟩ := ha.get (by omega)
   refine Sq.quiet (i := 0) rfl (Want.none rfl) rfl (ltN rfl) (QP.const (.agg (Bs.enc (⟨[0, 0, 0, 0, 0, 0, 0, 1], rfl⟩ : Bs 8)).toArray) (fun _ _ => by kernel_rfl)).read ?_
   refine Sq.quiet (i := 1) rfl (Want.none rfl) rfl (ltN rfl) (QP.move rfl rfl).read ?_
   refine Sq.quiet (i := 2) rfl (Want.none rfl) rfl (ltN rfl) (QP.move rfl rfl).read ?_
   refine Sq.quiet (i := 3) rfl (Want.none rfl) rfl (ltN rfl) (QP.move rfl rfl).read ?_
   refine Sq.quiet (i := 4) rfl (Want.none rfl) rfl (ltN rfl) (QP.add64 rfl rfl rfl (by first | omega | (simp <;> omega)) (by first | omega | (simp <;> omega))).read ?_
   refine Sq.quiet (i := 5) rfl (Want.none rfl) rfl (ltN rfl) (QP.sliceLoHi rfl rfl rfl rfl Try.underlying22 z60 (by omega) (by omega) (by omega)).read ?_
   rw [slOff_at (i := Int.toNat ((i : Nat) : Int)) (by show i < c; omega), show (Int.toNat (((i : Nat) : Int) + 1) - Int.toNat ((i : Nat) : Int)) = 1 by omega, show Int.toNat ((i : Nat) : Int) = i by omega]
   refine Sq.quiet (i := 6) rfl (Want.none rfl) rfl (ltN rfl) (QP.build (l := Config.enc (conf1 b0 (o0 + i * 43) (c - i))) rfl st71 rfl (by exact ⟨congrArg some (Bs.len _).symm, ⟨rfl, ⟨rfl, ⟨rfl, ⟨rfl, ⟨rfl, trivial⟩⟩⟩⟩⟩⟩) rfl).read ?_
   refine Sq.eff (i := 7) rfl (Want.none rfl) rfl (ltN rfl) (EF.allocA (l := Config.enc Config.zero) rfl zero71) ?_
   rintro _ _ ⟨b6, rfl, rfl⟩
   refine Sq.act (i := 8) rfl (Want.none rfl) rfl (EF.storeA rfl rfl rfl z71 (SetL.all (Config.enc_len _) (Config.enc_len _)) (Config.enc_cell _)) ?_
   rintro _ _ rfl
   refine Sq.nil ?_
   refine hk8 _ _ ?_
   refine Run.seq fun k9 hk9 => ?_
   refine Run.region ?_
   show Sq _ _ _ [0, 1, 2] _ _ _ _
   refine Sq.quiet (i := 0) rfl (Want.none rfl) rfl (ltN rfl) (QR.load rfl rfl g71 (Config.enc_sub _)) ?_
   refine Sq.eff (i := 1) rfl (Want.none rfl) rfl (ltN rfl) (EF.call rfl ce22 rfl Takes.nil (fun F' hle hr => rcheckC_spec F' ((ArgSl.one IfConf.enc_len ha hi).mono hle))) ?_
   rintro _ _ ⟨_, ⟨n26, rfl, hn26, rfl⟩, rfl⟩
   refine J.app ?_
   refine Sq.quiet (i := 2) rfl (Want.none rfl) rfl (ltN rfl) (QP.neq rfl rfl rfl).read ?_
   refine J.caseD (fun c27 => ?_) (fun c27 => ?_)
   ·skip
    refine Sq.nil ?_
    refine hk9 _ _ ?_
    refine Run.cond_t rfl ?_
    refine Run.seq fun k10 hk10 => ?_
    refine Run.region ?_
    show Sq _ _ _ [0] _ _ _ _
    refine Sq.quiet (i := 0) rfl (Want.none rfl) rfl (ltN rfl) (QP.assign rfl rfl).read ?_
    refine Sq.nil ?_
    refine hk10 _ _ ?_
    refine Run.ret ?_
    exact J.ends (res_tmp rfl rfl) Takes.nil ⟨false, rfl, fun h => (by cases h), rfl⟩
   ·skip
    refine Sq.nil ?_
    refine hk9 _ _ ?_
    refine Run.cond_f rfl ?_
    refine Run.skip ?_
    refine hk7 _ _ ?_
    refine Run.region ?_
    show Sq _ _ _ [0, 1, 2] _ _ _ _
    refine Sq.quiet (i := 0) rfl (Want.none rfl) rfl (ltN rfl) (QP.move rfl rfl).read ?_
    refine Sq.quiet (i := 1) rfl (Want.none rfl) rfl (ltN rfl) (QP.add64 rfl rfl rfl (by first | omega | (simp <;> omega)) (by first | omega | (simp <;> omega))).read ?_
    refine Sq.quiet (i := 2) rfl (Want.none rfl) rfl (ltN rfl) (QP.assign rfl rfl).read ?_
    refine Sq.nil ?_
    exact J.envJ (J.keep Takes.nil (hl4 (i + 1) (⟨by omega, by omega, take_not hok hi (hn26 (by omega))⟩) (by omega))) ⟨rfl, rfl, rfl, trivial⟩
  ·skip
   refine Sq.quiet (i := 7) rfl (Want.none rfl) rfl (ltN rfl) (QP.pick_t rfl rfl rfl).read ?_
   refine Sq.nil ?_
   refine hk6 _ _ ?_
   refine Run.cond_f rfl ?_
   refine Run.exit rfl ?_
   refine hk2 _ _ ?_
   refine Run.seq fun k11 hk11 => ?_
   refine Run.seq fun k12 hk12 => ?_
   refine Run.region ?_
   show Sq _ _ _ [0] _ _ _ _
   refine Sq.quiet (i := 0) rfl (Want.none rfl) rfl (ltN rfl) (QP.assign rfl rfl).read ?_
   refine Sq.nil ?_
   refine hk12 _ _ ?_
   refine Run.block ?_
   refine Run.loop1 (fun (j : Nat) => j ≤ xs.length ∧ j ≤ 121 ∧ ∀ x ∈ xs.take j, okGap x) (fun j => .cons 0 (.slice a ifs.length c) (.cons 1 (.slice a2 xs.length c2) (.cons 7 (.int .i64 j) (.nil)))) (fun j => []) (fun j => xs.length - j) (0) (⟨Nat.zero_le _, Nat.zero_le _, by simp⟩) ?_ ?_
   ·exact fun _ j => J.envJ (J.keep Takes.nil j) ⟨rfl, rfl, rfl, trivial⟩
   rintro j ⟨hjle, hj9, hgp⟩ kl13 hl13
   refine Run.seq fun k14 hk14 => ?_
   refine Run.seq fun k15 hk15 => ?_
   refine Run.region ?_
   show Sq _ _ _ [0, 1, 2, 3, 4, 5, 6, 7] _ _ _ _
   refine Sq.quiet (i := 0) rfl (Want.none rfl) rfl (ltN rfl) (QP.move rfl rfl).read ?_
   refine Sq.quiet (i := 1) rfl (Want.none rfl) rfl (ltN rfl) (QP.move rfl rfl).read ?_
   refine Sq.quiet (i := 2) rfl (Want.none rfl) rfl (ltN rfl) (QP.len rfl rfl rfl Try.underlying23).read ?_
   refine Sq.quiet (i := 3) rfl (Want.none rfl) rfl (ltN rfl) (QP.lss rfl rfl rfl).read ?_
   refine J.caseD (fun c31 => ?_) (fun c31 => ?_)
   ·skip
    refine Sq.quiet (i := 4) rfl (Want.none rfl) rfl (ltN rfl) (QP.move rfl rfl).read ?_
    refine Sq.quiet (i := 5) rfl (Want.yes rfl rfl rfl rfl) rfl (ltN rfl) (QP.move rfl rfl).read ?_
    refine Sq.quiet (i := 6) rfl (Want.yes rfl rfl rfl rfl) rfl (ltN rfl) (QP.leq rfl rfl rfl).read ?_
    refine J.caseD (fun c34 => ?_) (fun c34 => ?_)
    ·skip
     refine Sq.quiet (i := 7) rfl (Want.none rfl) rfl (ltN rfl) (QP.pick_t rfl rfl rfl).read ?_
     refine Sq.nil ?_
     refine hk15 _ _ ?_
     refine Run.cond_t rfl ?_
     refine Run.skip ?_
     refine hk14 _ _ ?_
     refine Run.seq fun k16 hk16 => ?_
     refine Run.block ?_
     refine Run.seq fun k17 hk17 => ?_
     refine Run.region ?_
     show Sq _ _ _ [0, 1, 2, 3, 4, 5, 6, 7, 8, 9, 10, 11, 12, 13, 14, 15, 16, 17, 18, 19, 20, 21, 22, 23] _ _ _ _
     obtain ⟨x, hj⟩ : ∃ x, xs[j]? = some x := ⟨_, List.getElem?_eq_getElem (by omega)⟩
     obtain ⟨b1, o1, rfl, hs2⟩ := ha2.get (by omega)
     have hlv : Slc.v x.h.stamps = .slice x.h.stamps.a x.h.stamps.n x.h.stamps.c := rfl
     refine Sq.quiet (i := 0) rfl (Want.none rfl) rfl (ltN rfl) (QP.move rfl rfl).read ?_
     refine Sq.quiet (i := 1) rfl (Want.none rfl) rfl (ltN rfl) (QP.move rfl rfl).read ?_
     refine Sq.quiet (i := 2) rfl (Want.none rfl) rfl (ltN rfl) (QP.indexAddr rfl rfl rfl Try.underlying23 z41 (by first | omega | (simp <;> omega)) (by first | omega | (simp <;> omega))).read ?_
     refine Sq.quiet (i := 3) rfl (Want.none rfl) rfl (ltN rfl) (QP.fieldAddr rfl rfl f41_1).read ?_
     refine Sq.quiet (i := 4) rfl (Want.none rfl) rfl (ltN rfl) (QR.loadSlF1 rfl rfl g3 Law13Act.enc_len (hs2 _) hj (Law13Act.sub_gap _)) ?_
     refine Sq.quiet (i := 5) rfl (Want.none rfl) rfl (ltN rfl) (QP.lss rfl rfl rfl).read ?_
     refine J.caseD (fun c43 => ?_) (fun c43 => ?_)
     ·skip
      refine Sq.quiet (i := 6) rfl (Want.none rfl) rfl (ltN rfl) (QP.move rfl rfl).read ?_
      refine Sq.skip (i := 7) rfl (Want.no rfl rfl rfl rfl) rfl (ltN rfl) ?_
      refine Sq.skip (i := 8) rfl (Want.no rfl rfl rfl rfl) rfl (ltN rfl) ?_
      refine Sq.skip (i := 9) rfl (Want.no rfl rfl rfl rfl) rfl (ltN rfl) ?_
      refine Sq.skip (i := 10) rfl (Want.no rfl rfl rfl rfl) rfl (ltN rfl) ?_
      refine Sq.skip (i := 11) rfl (Want.no rfl rfl rfl rfl) rfl (ltN rfl) ?_
      refine Sq.skip (i := 12) rfl (Want.no rfl rfl rfl rfl) rfl (ltN rfl) ?_
      refine Sq.quiet (i := 13) rfl (Want.none rfl) rfl (ltN rfl) (QP.pick_t rfl rfl rfl).read ?_
      refine Sq.quiet (i := 14) rfl (Want.none rfl) rfl (ltN rfl) (QP.move rfl rfl).read ?_
      refine Sq.skip (i := 15) rfl (Want.no rfl rfl rfl rfl) rfl (ltN rfl) ?_
      refine Sq.skip (i := 16) rfl (Want.no rfl rfl rfl rfl) rfl (ltN rfl) ?_
      refine Sq.skip (i := 17) rfl (Want.no rfl rfl rfl rfl) rfl (ltN rfl) ?_
      refine Sq.skip (i := 18) rfl (Want.no rfl rfl rfl rfl) rfl (ltN rfl) ?_
      refine Sq.skip (i := 19) rfl (Want.no rfl rfl rfl rfl) rfl (ltN rfl) ?_
      refine Sq.skip (i := 20) rfl (Want.no rfl rfl rfl rfl) rfl (ltN rfl) ?_
      refine Sq.skip (i := 21) rfl (Want.no rfl rfl rfl rfl) rfl (ltN rfl) ?_
      refine Sq.skip (i := 22) rfl (Want.no rfl rfl rfl rfl) rfl (ltN rfl) ?_
      refine Sq.quiet (i := 23) rfl (Want.none rfl) rfl (ltN rfl) (QP.pick_t rfl rfl rfl).read ?_
      refine Sq.nil ?_
      refine hk17 _ _ ?_
      refine Run.cond_t rfl ?_
      refine Run.seq fun k18 hk18 => ?_
      refine Run.region ?_
      show Sq _ _ _ [0] _ _ _ _
      refine Sq.quiet (i := 0) rfl (Want.none rfl) rfl (ltN rfl) (QP.assign rfl rfl).read ?_
      refine Sq.nil ?_
      refine hk18 _ _ ?_
      refine Run.ret ?_
      exact J.ends (res_tmp rfl rfl) Takes.nil ⟨false, rfl, fun h => (by cases h), rfl⟩
     ·skip
      refine Sq.quiet (i := 6) rfl (Want.none rfl) rfl (ltN rfl) (QP.move rfl rfl).read ?_
      refine Sq.quiet (i := 7) rfl (Want.yes rfl rfl rfl rfl) rfl (ltN rfl) (QP.move rfl rfl).read ?_
      refine Sq.quiet (i := 8) rfl (Want.yes rfl rfl rfl rfl) rfl (ltN rfl) (QP.move rfl rfl).read ?_
      refine Sq.quiet (i := 9) rfl (Want.yes rfl rfl rfl rfl) rfl (ltN rfl) (QP.indexAddr rfl rfl rfl Try.underlying23 z41 (by first | omega | (simp <;> omega)) (by first | omega | (simp <;> omega))).read ?_
      refine Sq.quiet (i := 10) rfl (Want.yes rfl rfl rfl rfl) rfl (ltN rfl) (QP.fieldAddr rfl rfl f41_1).read ?_
      refine Sq.quiet (i := 11) rfl (Want.yes rfl rfl rfl rfl) rfl (ltN rfl) (QR.loadSlF1 rfl rfl g3 Law13Act.enc_len (hs2 _) hj (Law13Act.sub_gap _)) ?_
      refine Sq.quiet (i := 12) rfl (Want.yes rfl rfl rfl rfl) rfl (ltN rfl) (QP.gtr rfl rfl rfl).read ?_
      refine J.caseD (fun c50 => ?_) (fun c50 => ?_)
      ·skip
       refine Sq.quiet (i := 13) rfl (Want.none rfl) rfl (ltN rfl) (QP.pick_f rfl rfl rfl).read ?_
       refine Sq.quiet (i := 14) rfl (Want.none rfl) rfl (ltN rfl) (QP.move rfl rfl).read ?_
       refine Sq.skip (i := 15) rfl (Want.no rfl rfl rfl rfl) rfl (ltN rfl) ?_
       refine Sq.skip (i := 16) rfl (Want.no rfl rfl rfl rfl) rfl (ltN rfl) ?_
       refine Sq.skip (i := 17) rfl (Want.no rfl rfl rfl rfl) rfl (ltN rfl) ?_
       refine Sq.skip (i := 18) rfl (Want.no rfl rfl rfl rfl) rfl (ltN rfl) ?_
       refine Sq.skip (i := 19) rfl (Want.no rfl rfl rfl rfl) rfl (ltN rfl) ?_
       refine Sq.skip (i := 20) rfl (Want.no rfl rfl rfl rfl) rfl (ltN rfl) ?_
       refine Sq.skip (i := 21) rfl (Want.no rfl rfl rfl rfl) rfl (ltN rfl) ?_
       refine Sq.skip (i := 22) rfl (Want.no rfl rfl rfl rfl) rfl (ltN rfl) ?_
       refine Sq.quiet (i := 23) rfl (Want.none rfl) rfl (ltN rfl) (QP.pick_t rfl rfl rfl).read ?_
       refine Sq.nil ?_
       refine hk17 _ _ ?_
       refine Run.cond_t rfl ?_
       refine Run.seq fun k19 hk19 => ?_
       refine Run.region ?_
       show Sq _ _ _ [0] _ _ _ _
       refine Sq.quiet (i := 0) rfl (Want.none rfl) rfl (ltN rfl) (QP.assign rfl rfl).read ?_
       refine Sq.nil ?_
       refine hk19 _ _ ?_
       refine Run.ret ?_
       exact J.ends (res_tmp rfl rfl) Takes.nil ⟨false, rfl, fun h => (by cases h), rfl⟩
      ·skip
       refine Sq.quiet (i := 13) rfl (Want.none rfl) rfl (ltN rfl) (QP.pick_f rfl rfl rfl).read ?_
       refine Sq.quiet (i := 14) rfl (Want.none rfl) rfl (ltN rfl) (QP.move rfl rfl).read ?_
       refine Sq.quiet (i := 15) rfl (Want.yes rfl rfl rfl rfl) rfl (ltN rfl) (QP.move rfl rfl).read ?_
       refine Sq.quiet (i := 16) rfl (Want.yes rfl rfl rfl rfl) rfl (ltN rfl) (QP.move rfl rfl).read ?_
       refine Sq.quiet (i := 17) rfl (Want.yes rfl rfl rfl rfl) rfl (ltN rfl) (QP.indexAddr rfl rfl rfl Try.underlying23 z41 (by first | omega | (simp <;> omega)) (by first | omega | (simp <;> omega))).read ?_
       refine Sq.quiet (i := 18) rfl (Want.yes rfl rfl rfl rfl) rfl (ltN rfl) (QP.fieldAddr rfl rfl f41_4).read ?_
       refine Sq.quiet (i := 19) rfl (Want.yes rfl rfl rfl rfl) rfl (ltN rfl) (QP.fieldAddr rfl rfl f39_12).read ?_
       refine Sq.quiet (i := 20) rfl (Want.yes rfl rfl rfl rfl) rfl (ltN rfl) (QR.loadSlF1 rfl rfl g37 Law13Act.enc_len (hs2 _) hj ((Law13Act.sub_h _).trans (Tlv.sub_stamps _))) ?_
       rw [hlv]
       refine Sq.quiet (i := 21) rfl (Want.yes rfl rfl rfl rfl) rfl (ltN rfl) (QP.len rfl rfl rfl Try.underlying37).read ?_
       refine Sq.quiet (i := 22) rfl (Want.yes rfl rfl rfl rfl) rfl (ltN rfl) (QP.gtr rfl rfl rfl).read ?_
       refine J.caseD (fun c60 => ?_) (fun c60 => ?_)
       ·skip
        refine Sq.quiet (i := 23) rfl (Want.none rfl) rfl (ltN rfl) (QP.pick_f rfl rfl rfl).read ?_
        refine Sq.nil ?_
        refine hk17 _ _ ?_
        refine Run.cond_t rfl ?_
        refine Run.seq fun k20 hk20 => ?_
        refine Run.region ?_
        show Sq _ _ _ [0] _ _ _ _
        refine Sq.quiet (i := 0) rfl (Want.none rfl) rfl (ltN rfl) (QP.assign rfl rfl).read ?_
        refine Sq.nil ?_
        refine hk20 _ _ ?_
        refine Run.ret ?_
        exact J.ends (res_tmp rfl rfl) Takes.nil ⟨false, rfl, fun h => (by cases h), rfl⟩
       ·skip
        refine Sq.quiet (i := 23) rfl (Want.none rfl) rfl (ltN rfl) (QP.pick_f rfl rfl rfl).read ?_
        refine Sq.nil ?_
        refine hk17 _ _ ?_
        refine Run.cond_f rfl ?_
        refine Run.skip ?_
        refine hk16 _ _ ?_
        refine Run.region ?_
        show Sq _ _ _ [0, 1, 2] _ _ _ _
        refine Sq.quiet (i := 0) rfl (Want.none rfl) rfl (ltN rfl) (QP.move rfl rfl).read ?_
        refine Sq.quiet (i := 1) rfl (Want.none rfl) rfl (ltN rfl) (QP.add64 rfl rfl rfl (by first | omega | (simp <;> omega)) (by first | omega | (simp <;> omega))).read ?_
        refine Sq.quiet (i := 2) rfl (Want.none rfl) rfl (ltN rfl) (QP.assign rfl rfl).read ?_
        refine Sq.nil ?_
        exact J.envJ (J.keep Takes.nil (hl13 (j + 1) (⟨by omega, by omega, take_not hgp hj ⟨by omega, by omega, by omega⟩⟩) (by omega))) ⟨rfl, rfl, rfl, trivial⟩
    ·skip
     refine Sq.quiet (i := 7) rfl (Want.none rfl) rfl (ltN rfl) (QP.pick_t rfl rfl rfl).read ?_
     refine Sq.nil ?_
     refine hk15 _ _ ?_
     refine Run.cond_f rfl ?_
     refine Run.exit rfl ?_
     refine hk11 _ _ ?_
     refine Run.seq fun k21 hk21 => ?_
     refine Run.region ?_
     show Sq _ _ _ [0, 1, 2, 3, 4, 5, 6, 7, 8] _ _ _ _
     refine Sq.quiet (i := 0) rfl (Want.none rfl) rfl (ltN rfl) (QP.move rfl rfl).read ?_
     refine Sq.quiet (i := 1) rfl (Want.none rfl) rfl (ltN rfl) (QP.len rfl rfl rfl Try.underlying22).read ?_
     refine Sq.quiet (i := 2) rfl (Want.none rfl) rfl (ltN rfl) (QP.leq rfl rfl rfl).read ?_
     refine J.caseD (fun c64 => ?_) (fun c64 => ?_)
     ·skip
      refine Sq.quiet (i := 3) rfl (Want.none rfl) rfl (ltN rfl) (QP.move rfl rfl).read ?_
      refine Sq.quiet (i := 4) rfl (Want.yes rfl rfl rfl rfl) rfl (ltN rfl) (QP.move rfl rfl).read ?_
      refine Sq.quiet (i := 5) rfl (Want.yes rfl rfl rfl rfl) rfl (ltN rfl) (QP.len rfl rfl rfl Try.underlying23).read ?_
      refine Sq.quiet (i := 6) rfl (Want.yes rfl rfl rfl rfl) rfl (ltN rfl) (QP.leq rfl rfl rfl).read ?_
      refine Sq.quiet (i := 7) rfl (Want.none rfl) rfl (ltN rfl) (QP.pick_t rfl rfl rfl).read ?_
      refine Sq.quiet (i := 8) rfl (Want.none rfl) rfl (ltN rfl) (QP.assign rfl rfl).read ?_
      refine Sq.nil ?_
      refine hk21 _ _ ?_
      refine Run.ret ?_
      exact J.ends (res_tmp rfl rfl) Takes.nil ⟨_, rfl, fun h => ⟨by omega, all_take hok (by omega), by have := of_decide_eq_true h; omega, all_take hgp (by have := of_decide_eq_true h; omega)⟩, rfl⟩
     ·skip
      refine Sq.quiet (i := 3) rfl (Want.none rfl) rfl (ltN rfl) (QP.move rfl rfl).read ?_
      refine Sq.skip (i := 4) rfl (Want.no rfl rfl rfl rfl) rfl (ltN rfl) ?_
      refine Sq.skip (i := 5) rfl (Want.no rfl rfl rfl rfl) rfl (ltN rfl) ?_
      refine Sq.skip (i := 6) rfl (Want.no rfl rfl rfl rfl) rfl (ltN rfl) ?_
      refine Sq.quiet (i := 7) rfl (Want.none rfl) rfl (ltN rfl) (QP.pick_f rfl rfl rfl).read ?_
      refine Sq.quiet (i := 8) rfl (Want.none rfl) rfl (ltN rfl) (QP.assign rfl rfl).read ?_
      refine Sq.nil ?_
      refine hk21 _ _ ?_
      refine Run.ret ?_
      exact J.ends (res_tmp rfl rfl) Takes.nil ⟨false, rfl, fun h => (by cases h), rfl⟩
   ·skip
    refine Sq.quiet (i := 4) rfl (Want.none rfl) rfl (ltN rfl) (QP.move rfl rfl).read ?_
    refine Sq.skip (i := 5) rfl (Want.no rfl rfl rfl rfl) rfl (ltN rfl) ?_
    refine Sq.skip (i := 6) rfl (Want.no rfl rfl rfl rfl) rfl (ltN rfl) ?_
    refine Sq.quiet (i := 7) rfl (Want.none rfl) rfl (ltN rfl) (QP.pick_f rfl rfl rfl).read ?_
    refine Sq.nil ?_
    refine hk15 _ _ ?_
    refine Run.cond_f rfl ?_
    refine Run.exit rfl ?_
    refine hk11 _ _ ?_
    refine Run.seq fun k22 hk22 => ?_
    refine Run.region ?_
    show Sq _ _ _ [0, 1, 2, 3, 4, 5, 6, 7, 8] _ _ _ _
    refine Sq.quiet (i := 0) rfl (Want.none rfl) rfl (ltN rfl) (QP.move rfl rfl).read ?_
    refine Sq.quiet (i := 1) rfl (Want.none rfl) rfl (ltN rfl) (QP.len rfl rfl rfl Try.underlying22).read ?_
    refine Sq.quiet (i := 2) rfl (Want.none rfl) rfl (ltN rfl) (QP.leq rfl rfl rfl).read ?_
    refine J.caseD (fun c64 => ?_) (fun c64 => ?_)
    ·skip
     refine Sq.quiet (i := 3) rfl (Want.none rfl) rfl (ltN rfl) (QP.move rfl rfl).read ?_
     refine Sq.quiet (i := 4) rfl (Want.yes rfl rfl rfl rfl) rfl (ltN rfl) (QP.move rfl rfl).read ?_
     refine Sq.quiet (i := 5) rfl (Want.yes rfl rfl rfl rfl) rfl (ltN rfl) (QP.len rfl rfl rfl Try.underlying23).read ?_
     refine Sq.quiet (i := 6) rfl (Want.yes rfl rfl rfl rfl) rfl (ltN rfl) (QP.leq rfl rfl rfl).read ?_
     refine Sq.quiet (i := 7) rfl (Want.none rfl) rfl (ltN rfl) (QP.pick_t rfl rfl rfl).read ?_
     refine Sq.quiet (i := 8) rfl (Want.none rfl) rfl (ltN rfl) (QP.assign rfl rfl).read ?_
     refine Sq.nil ?_
     refine hk22 _ _ ?_
     refine Run.ret ?_
     exact J.ends (res_tmp rfl rfl) Takes.nil ⟨_, rfl, fun h => ⟨by omega, all_take hok (by omega), by have := of_decide_eq_true h; omega, all_take hgp (by have := of_decide_eq_true h; omega)⟩, rfl⟩
    ·skip
     refine Sq.quiet (i := 3) rfl (Want.none rfl) rfl (ltN rfl) (QP.move rfl rfl).read ?_
     refine Sq.skip (i := 4) rfl (Want.no rfl rfl rfl rfl) rfl (ltN rfl) ?_
     refine Sq.skip (i := 5) rfl (Want.no rfl rfl rfl rfl) rfl (ltN rfl) ?_
     refine Sq.skip (i := 6) rfl (Want.no rfl rfl rfl rfl) rfl (ltN rfl) ?_
     refine Sq.quiet (i := 7) rfl (Want.none rfl) rfl (ltN rfl) (QP.pick_f rfl rfl rfl).read ?_
     refine Sq.quiet (i := 8) rfl (Want.none rfl) rfl (ltN rfl) (QP.assign rfl rfl).read ?_
     refine Sq.nil ?_
     refine hk22 _ _ ?_
     refine Run.ret ?_
     exact J.ends (res_tmp rfl rfl) Takes.nil ⟨false, rfl, fun h => (by cases h), rfl⟩
 ·skip
  refine Sq.quiet (i := 4) rfl (Want.none rfl) rfl (ltN rfl) (QP.move rfl rfl).read ?_
  refine Sq.skip (i := 5) rfl (Want.no rfl rfl rfl rfl) rfl (ltN rfl) ?_
  refine Sq.skip (i := 6) rfl (Want.no rfl rfl rfl rfl) rfl (ltN rfl) ?_
  refine Sq.quiet (i := 7) rfl (Want.none rfl) rfl (ltN rfl) (QP.pick_f rfl rfl rfl).read ?_
  refine Sq.nil ?_
  refine hk6 _ _ ?_
  refine Run.cond_f rfl ?_
  refine Run.exit rfl ?_
  refine hk2 _ _ ?_
  refine Run.seq fun k23 hk23 => ?_
  refine Run.seq fun k24 hk24 => ?_
  refine Run.region ?_
  show Sq _ _ _ [0] _ _ _ _
  refine Sq.quiet (i := 0) rfl (Want.none rfl) rfl (ltN rfl) (QP.assign rfl rfl).read ?_
  refine Sq.nil ?_
  refine hk24 _ _ ?_
  refine Run.block ?_
  refine Run.loop1 (fun (j : Nat) => j ≤ xs.length ∧ j ≤ 121 ∧ ∀ x ∈ xs.take j, okGap x) (fun j => .cons 0 (.slice a ifs.length c) (.cons 1 (.slice a2 xs.length c2) (.cons 7 (.int .i64 j) (.nil)))) (fun j => []) (fun j => xs.length - j) (0) (⟨Nat.zero_le _, Nat.zero_le _, by simp⟩) ?_ ?_
  ·exact fun _ j => J.envJ (J.keep Takes.nil j) ⟨rfl, rfl, rfl, trivial⟩
  rintro j ⟨hjle, hj9, hgp⟩ kl25 hl25
  refine Run.seq fun k26 hk26 => ?_
  refine Run.seq fun k27 hk27 => ?_
  refine Run.region ?_
  show Sq _ _ _ [0, 1, 2, 3, 4, 5, 6, 7] _ _ _ _
  refine Sq.quiet (i := 0) rfl (Want.none rfl) rfl (ltN rfl) (QP.move rfl rfl).read ?_
  refine Sq.quiet (i := 1) rfl (Want.none rfl) rfl (ltN rfl) (QP.move rfl rfl).read ?_
  refine Sq.quiet (i := 2) rfl (Want.none rfl) rfl (ltN rfl) (QP.len rfl rfl rfl Try.underlying23).read ?_
  refine Sq.quiet (i := 3) rfl (Want.none rfl) rfl (ltN rfl) (QP.lss rfl rfl rfl).read ?_
  refine J.caseD (fun c31 => ?_) (fun c31 => ?_)
  ·skip
   refine Sq.quiet (i := 4) rfl (Want.none rfl) rfl (ltN rfl) (QP.move rfl rfl).read ?_
   refine Sq.quiet (i := 5) rfl (Want.yes rfl rfl rfl rfl) rfl (ltN rfl) (QP.move rfl rfl).read ?_
   refine Sq.quiet (i := 6) rfl (Want.yes rfl rfl rfl rfl) rfl (ltN rfl) (QP.leq rfl rfl rfl).read ?_
   refine J.caseD (fun c34 => ?_) (fun c34 => ?_)
   ·skip
    refine Sq.quiet (i := 7) rfl (Want.none rfl) rfl (ltN rfl) (QP.pick_t rfl rfl rfl).read ?_
    refine Sq.nil ?_
    refine hk27 _ _ ?_
    refine Run.cond_t rfl ?_
    refine Run.skip ?_
    refine hk26 _ _ ?_
    refine Run.seq fun k28 hk28 => ?_
    refine Run.block ?_
    refine Run.seq fun k29 hk29 => ?_
    refine Run.region ?_
    show Sq _ _ _ [0, 1, 2, 3, 4, 5, 6, 7, 8, 9, 10, 11, 12, 13, 14, 15, 16, 17, 18, 19, 20, 21, 22, 23] _ _ _ _
    obtain ⟨x, hj⟩ : ∃ x, xs[j]? = some x := ⟨_, List.getElem?_eq_getElem (by omega)⟩
    obtain ⟨b1, o1, rfl, hs2⟩ := ha2.get (by omega)
    have hlv : Slc.v x.h.stamps = .slice x.h.stamps.a x.h.stamps.n x.h.stamps.c := rfl
    refine Sq.quiet (i := 0) rfl (Want.none rfl) rfl (ltN rfl) (QP.move rfl rfl).read ?_
    refine Sq.quiet (i := 1) rfl (Want.none rfl) rfl (ltN rfl) (QP.move rfl rfl).read ?_
    refine Sq.quiet (i := 2) rfl (Want.none rfl) rfl (ltN rfl) (QP.indexAddr rfl rfl rfl Try.underlying23 z41 (by first | omega | (simp <;> omega)) (by first | omega | (simp <;> omega))).read ?_
    refine Sq.quiet (i := 3) rfl (Want.none rfl) rfl (ltN rfl) (QP.fieldAddr rfl rfl f41_1).read ?_
    refine Sq.quiet (i := 4) rfl (Want.none rfl) rfl (ltN rfl) (QR.loadSlF1 rfl rfl g3 Law13Act.enc_len (hs2 _) hj (Law13Act.sub_gap _)) ?_
    refine Sq.quiet (i := 5) rfl (Want.none rfl) rfl (ltN rfl) (QP.lss rfl rfl rfl).read ?_
    refine J.caseD (fun c43 => ?_) (fun c43 => ?_)
    ·skip
     refine Sq.quiet (i := 6) rfl (Want.none rfl) rfl (ltN rfl) (QP.move rfl rfl).read ?_
     refine Sq.skip (i := 7) rfl (Want.no rfl rfl rfl rfl) rfl (ltN rfl) ?_
     refine Sq.skip (i := 8) rfl (Want.no rfl rfl rfl rfl) rfl (ltN rfl) ?_
     refine Sq.skip (i := 9) rfl (Want.no rfl rfl rfl rfl) rfl (ltN rfl) ?_
     refine Sq.skip (i := 10) rfl (Want.no rfl rfl rfl rfl) rfl (ltN rfl) ?_
     refine Sq.skip (i := 11) rfl (Want.no rfl rfl rfl rfl) rfl (ltN rfl) ?_
     refine Sq.skip (i := 12) rfl (Want.no rfl rfl rfl rfl) rfl (ltN rfl) ?_
     refine Sq.quiet (i := 13) rfl (Want.none rfl) rfl (ltN rfl) (QP.pick_t rfl rfl rfl).read ?_
     refine Sq.quiet (i := 14) rfl (Want.none rfl) rfl (ltN rfl) (QP.move rfl rfl).read ?_
     refine Sq.skip (i := 15) rfl (Want.no rfl rfl rfl rfl) rfl (ltN rfl) ?_
     refine Sq.skip (i := 16) rfl (Want.no rfl rfl rfl rfl) rfl (ltN rfl) ?_
     refine Sq.skip (i := 17) rfl (Want.no rfl rfl rfl rfl) rfl (ltN rfl) ?_
     refine Sq.skip (i := 18) rfl (Want.no rfl rfl rfl rfl) rfl (ltN rfl) ?_
     refine Sq.skip (i := 19) rfl (Want.no rfl rfl rfl rfl) rfl (ltN rfl) ?_
     refine Sq.skip (i := 20) rfl (Want.no rfl rfl rfl rfl) rfl (ltN rfl) ?_
     refine Sq.skip (i := 21) rfl (Want.no rfl rfl rfl rfl) rfl (ltN rfl) ?_
     refine Sq.skip (i := 22) rfl (Want.no rfl rfl rfl rfl) rfl (ltN rfl) ?_
     refine Sq.quiet (i := 23) rfl (Want.none rfl) rfl (ltN rfl) (QP.pick_t rfl rfl rfl).read ?_
     refine Sq.nil ?_
     refine hk29 _ _ ?_
     refine Run.cond_t rfl ?_
     refine Run.seq fun k30 hk30 => ?_
     refine Run.region ?_
     show Sq _ _ _ [0] _ _ _ _
     refine Sq.quiet (i := 0) rfl (Want.none rfl) rfl (ltN rfl) (QP.assign rfl rfl).read ?_
     refine Sq.nil ?_
     refine hk30 _ _ ?_
     refine Run.ret ?_
     exact J.ends (res_tmp rfl rfl) Takes.nil ⟨false, rfl, fun h => (by cases h), rfl⟩
    ·skip
     refine Sq.quiet (i := 6) rfl (Want.none rfl) rfl (ltN rfl) (QP.move rfl rfl).read ?_
     refine Sq.quiet (i := 7) rfl (Want.yes rfl rfl rfl rfl) rfl (ltN rfl) (QP.move rfl rfl).read ?_
     refine Sq.quiet (i := 8) rfl (Want.yes rfl rfl rfl rfl) rfl (ltN rfl) (QP.move rfl rfl).read ?_
     refine Sq.quiet (i := 9) rfl (Want.yes rfl rfl rfl rfl) rfl (ltN rfl) (QP.indexAddr rfl rfl rfl Try.underlying23 z41 (by first | omega | (simp <;> omega)) (by first | omega | (simp <;> omega))).read ?_
     refine Sq.quiet (i := 10) rfl (Want.yes rfl rfl rfl rfl) rfl (ltN rfl) (QP.fieldAddr rfl rfl f41_1).read ?_
     refine Sq.quiet (i := 11) rfl (Want.yes rfl rfl rfl rfl) rfl (ltN rfl) (QR.loadSlF1 rfl rfl g3 Law13Act.enc_len (hs2 _) hj (Law13Act.sub_gap _)) ?_
     refine Sq.quiet (i := 12) rfl (Want.yes rfl rfl rfl rfl) rfl (ltN rfl) (QP.gtr rfl rfl rfl).read ?_
     refine J.caseD (fun c50 => ?_) (fun c50 => ?_)
     ·skip
      refine Sq.quiet (i := 13) rfl (Want.none rfl) rfl (ltN rfl) (QP.pick_f rfl rfl rfl).read ?_
      refine Sq.quiet (i := 14) rfl (Want.none rfl) rfl (ltN rfl) (QP.move rfl rfl).read ?_
      refine Sq.skip (i := 15) rfl (Want.no rfl rfl rfl rfl) rfl (ltN rfl) ?_
      refine Sq.skip (i := 16) rfl (Want.no rfl rfl rfl rfl) rfl (ltN rfl) ?_
      refine Sq.skip (i := 17) rfl (Want.no rfl rfl rfl rfl) rfl (ltN rfl) ?_
      refine Sq.skip (i := 18) rfl (Want.no rfl rfl rfl rfl) rfl (ltN rfl) ?_
      refine Sq.skip (i := 19) rfl (Want.no rfl rfl rfl rfl) rfl (ltN rfl) ?_
      refine Sq.skip (i := 20) rfl (Want.no rfl rfl rfl rfl) rfl (ltN rfl) ?_
      refine Sq.skip (i := 21) rfl (Want.no rfl rfl rfl rfl) rfl (ltN rfl) ?_
      refine Sq.skip (i := 22) rfl (Want.no rfl rfl rfl rfl) rfl (ltN rfl) ?_
      refine Sq.quiet (i := 23) rfl (Want.none rfl) rfl (ltN rfl) (QP.pick_t rfl rfl rfl).read ?_
      refine Sq.nil ?_
      refine hk29 _ _ ?_
      refine Run.cond_t rfl ?_
      refine Run.seq fun k31 hk31 => ?_
      refine Run.region ?_
      show Sq _ _ _ [0] _ _ _ _
      refine Sq.quiet (i := 0) rfl (Want.none rfl) rfl (ltN rfl) (QP.assign rfl rfl).read ?_
      refine Sq.nil ?_
      refine hk31 _ _ ?_
      refine Run.ret ?_
      exact J.ends (res_tmp rfl rfl) Takes.nil ⟨false, rfl, fun h => (by cases h), rfl⟩
     ·skip
      refine Sq.quiet (i := 13) rfl (Want.none rfl) rfl (ltN rfl) (QP.pick_f rfl rfl rfl).read ?_
      refine Sq.quiet (i := 14) rfl (Want.none rfl) rfl (ltN rfl) (QP.move rfl rfl).read ?_
      refine Sq.quiet (i := 15) rfl (Want.yes rfl rfl rfl rfl) rfl (ltN rfl) (QP.move rfl rfl).read ?_
      refine Sq.quiet (i := 16) rfl (Want.yes rfl rfl rfl rfl) rfl (ltN rfl) (QP.move rfl rfl).read ?_
      refine Sq.quiet (i := 17) rfl (Want.yes rfl rfl rfl rfl) rfl (ltN rfl) (QP.indexAddr rfl rfl rfl Try.underlying23 z41 (by first | omega | (simp <;> omega)) (by first | omega | (simp <;> omega))).read ?_
      refine Sq.quiet (i := 18) rfl (Want.yes rfl rfl rfl rfl) rfl (ltN rfl) (QP.fieldAddr rfl rfl f41_4).read ?_
      refine Sq.quiet (i := 19) rfl (Want.yes rfl rfl rfl rfl) rfl (ltN rfl) (QP.fieldAddr rfl rfl f39_12).read ?_
      refine Sq.quiet (i := 20) rfl (Want.yes rfl rfl rfl rfl) rfl (ltN rfl) (QR.loadSlF1 rfl rfl g37 Law13Act.enc_len (hs2 _) hj ((Law13Act.sub_h _).trans (Tlv.sub_stamps _))) ?_
      rw [hlv]
      refine Sq.quiet (i := 21) rfl (Want.yes rfl rfl rfl rfl) rfl (ltN rfl) (QP.len rfl rfl rfl Try.underlying37).read ?_
      refine Sq.quiet (i := 22) rfl (Want.yes rfl rfl rfl rfl) rfl (ltN rfl) (QP.gtr rfl rfl rfl).read ?_
      refine J.caseD (fun c60 => ?_) (fun c60 => ?_)
      ·skip
       refine Sq.quiet (i := 23) rfl (Want.none rfl) rfl (ltN rfl) (QP.pick_f rfl rfl rfl).read ?_
       refine Sq.nil ?_
       refine hk29 _ _ ?_
       refine Run.cond_t rfl ?_
       refine Run.seq fun k32 hk32 => ?_
       refine Run.region ?_
       show Sq _ _ _ [0] _ _ _ _
       refine Sq.quiet (i := 0) rfl (Want.none rfl) rfl (ltN rfl) (QP.assign rfl rfl).read ?_
       refine Sq.nil ?_
       refine hk32 _ _ ?_
       refine Run.ret ?_
       exact J.ends (res_tmp rfl rfl) Takes.nil ⟨false, rfl, fun h => (by cases h), rfl⟩
      ·skip
       refine Sq.quiet (i := 23) rfl (Want.none rfl) rfl (ltN rfl) (QP.pick_f rfl rfl rfl).read ?_
       refine Sq.nil ?_
       refine hk29 _ _ ?_
       refine Run.cond_f rfl ?_
       refine Run.skip ?_
       refine hk28 _ _ ?_
       refine Run.region ?_
       show Sq _ _ _ [0, 1, 2] _ _ _ _
       refine Sq.quiet (i := 0) rfl (Want.none rfl) rfl (ltN rfl) (QP.move rfl rfl).read ?_
       refine Sq.quiet (i := 1) rfl (Want.none rfl) rfl (ltN rfl) (QP.add64 rfl rfl rfl (by first | omega | (simp <;> omega)) (by first | omega | (simp <;> omega))).read ?_
       refine Sq.quiet (i := 2) rfl (Want.none rfl) rfl (ltN rfl) (QP.assign rfl rfl).read ?_
       refine Sq.nil ?_
       exact J.envJ (J.keep Takes.nil (hl25 (j + 1) (⟨by omega, by omega, take_not hgp hj ⟨by omega, by omega, by omega⟩⟩) (by omega))) ⟨rfl, rfl, rfl, trivial⟩
   ·skip
    refine Sq.quiet (i := 7) rfl (Want.none rfl) rfl (ltN rfl) (QP.pick_t rfl rfl rfl).read ?_
    refine Sq.nil ?_
    refine hk27 _ _ ?_
    refine Run.cond_f rfl ?_
    refine Run.exit rfl ?_
    refine hk23 _ _ ?_
    refine Run.seq fun k33 hk33 => ?_
    refine Run.region ?_
    show Sq _ _ _ [0, 1, 2, 3, 4, 5, 6, 7, 8] _ _ _ _
    refine Sq.quiet (i := 0) rfl (Want.none rfl) rfl (ltN rfl) (QP.move rfl rfl).read ?_
    refine Sq.quiet (i := 1) rfl (Want.none rfl) rfl (ltN rfl) (QP.len rfl rfl rfl Try.underlying22).read ?_
    refine Sq.quiet (i := 2) rfl (Want.none rfl) rfl (ltN rfl) (QP.leq rfl rfl rfl).read ?_
    refine J.caseD (fun c64 => ?_) (fun c64 => ?_)
    ·skip
     refine Sq.quiet (i := 3) rfl (Want.none rfl) rfl (ltN rfl) (QP.move rfl rfl).read ?_
     refine Sq.quiet (i := 4) rfl (Want.yes rfl rfl rfl rfl) rfl (ltN rfl) (QP.move rfl rfl).read ?_
     refine Sq.quiet (i := 5) rfl (Want.yes rfl rfl rfl rfl) rfl (ltN rfl) (QP.len rfl rfl rfl Try.underlying23).read ?_
     refine Sq.quiet (i := 6) rfl (Want.yes rfl rfl rfl rfl) rfl (ltN rfl) (QP.leq rfl rfl rfl).read ?_
     refine Sq.quiet (i := 7) rfl (Want.none rfl) rfl (ltN rfl) (QP.pick_t rfl rfl rfl).read ?_
     refine Sq.quiet (i := 8) rfl (Want.none rfl) rfl (ltN rfl) (QP.assign rfl rfl).read ?_
     refine Sq.nil ?_
     refine hk33 _ _ ?_
     refine Run.ret ?_
     exact J.ends (res_tmp rfl rfl) Takes.nil ⟨_, rfl, fun h => ⟨by omega, all_take hok (by omega), by have := of_decide_eq_true h; omega, all_take hgp (by have := of_decide_eq_true h; omega)⟩, rfl⟩
    ·skip
     refine Sq.quiet (i := 3) rfl (Want.none rfl) rfl (ltN rfl) (QP.move rfl rfl).read ?_
     refine Sq.skip (i := 4) rfl (Want.no rfl rfl rfl rfl) rfl (ltN rfl) ?_
     refine Sq.skip (i := 5) rfl (Want.no rfl rfl rfl rfl) rfl (ltN rfl) ?_
     refine Sq.skip (i := 6) rfl (Want.no rfl rfl rfl rfl) rfl (ltN rfl) ?_
     refine Sq.quiet (i := 7) rfl (Want.none rfl) rfl (ltN rfl) (QP.pick_f rfl rfl rfl).read ?_
     refine Sq.quiet (i := 8) rfl (Want.none rfl) rfl (ltN rfl) (QP.assign rfl rfl).read ?_
     refine Sq.nil ?_
     refine hk33 _ _ ?_
     refine Run.ret ?_
     exact J.ends (res_tmp rfl rfl) Takes.nil ⟨false, rfl, fun h => (by cases h), rfl⟩
  ·skip
   refine Sq.quiet (i := 4) rfl (Want.none rfl) rfl (ltN rfl) (QP.move rfl rfl).read ?_
   refine Sq.skip (i := 5) rfl (Want.no rfl rfl rfl rfl) rfl (ltN rfl) ?_
   refine Sq.skip (i := 6) rfl (Want.no rfl rfl rfl rfl) rfl (ltN rfl) ?_
   refine Sq.quiet (i := 7) rfl (Want.none rfl) rfl (ltN rfl) (QP.pick_f rfl rfl rfl).read ?_
   refine Sq.nil ?_
   refine hk27 _ _ ?_
   refine Run.cond_f rfl ?_
   refine Run.exit rfl ?_
   refine hk23 _ _ ?_
   refine Run.seq fun k34 hk34 => ?_
   refine Run.region ?_
   show Sq _ _ _ [0, 1, 2, 3, 4, 5, 6, 7, 8] _ _ _ _
   refine Sq.quiet (i := 0) rfl (Want.none rfl) rfl (ltN rfl) (QP.move rfl rfl).read ?_
   refine Sq.quiet (i := 1) rfl (Want.none rfl) rfl (ltN rfl) (QP.len rfl rfl rfl Try.underlying22).read ?_
   refine Sq.quiet (i := 2) rfl (Want.none rfl) rfl (ltN rfl) (QP.leq rfl rfl rfl).read ?_
   refine J.caseD (fun c64 => ?_) (fun c64 => ?_)
   ·skip
    refine Sq.quiet (i := 3) rfl (Want.none rfl) rfl (ltN rfl) (QP.move rfl rfl).read ?_
    refine Sq.quiet (i := 4) rfl (Want.yes rfl rfl rfl rfl) rfl (ltN rfl) (QP.move rfl rfl).read ?_
    refine Sq.quiet (i := 5) rfl (Want.yes rfl rfl rfl rfl) rfl (ltN rfl) (QP.len rfl rfl rfl Try.underlying23).read ?_
    refine Sq.quiet (i := 6) rfl (Want.yes rfl rfl rfl rfl) rfl (ltN rfl) (QP.leq rfl rfl rfl).read ?_
    refine Sq.quiet (i := 7) rfl (Want.none rfl) rfl (ltN rfl) (QP.pick_t rfl rfl rfl).read ?_
    refine Sq.quiet (i := 8) rfl (Want.none rfl) rfl (ltN rfl) (QP.assign rfl rfl).read ?_
    refine Sq.nil ?_
    refine hk34 _ _ ?_
    refine Run.ret ?_
    exact J.ends (res_tmp rfl rfl) Takes.nil ⟨_, rfl, fun h => ⟨by omega, all_take hok (by omega), by have := of_decide_eq_true h; omega, all_take hgp (by have := of_decide_eq_true h; omega)⟩, rfl⟩
   ·skip
    refine Sq.quiet (i := 3) rfl (Want.none rfl) rfl (ltN rfl) (QP.move rfl rfl).read ?_
    refine Sq.skip (i := 4) rfl (Want.no rfl rfl rfl rfl) rfl (ltN rfl) ?_
    refine Sq.skip (i := 5) rfl (Want.no rfl rfl rfl rfl) rfl (ltN rfl) ?_
    refine Sq.skip (i := 6) rfl (Want.no rfl rfl rfl rfl) rfl (ltN rfl) ?_
    refine Sq.quiet (i := 7) rfl (Want.none rfl) rfl (ltN rfl) (QP.pick_f rfl rfl rfl).read ?_
    refine Sq.quiet (i := 8) rfl (Want.none rfl) rfl (ltN rfl) (QP.assign rfl rfl).read ?_
    refine Sq.nil ?_
    refine hk34 _ _ ?_
    refine Run.ret ?_
    exact J.ends (res_tmp rfl rfl) Takes.nil ⟨false, rfl, fun h => (by cases h), rfl⟩

theorem num_spec0 : True := trivial

theorem num_spec (F : Fr) (a : Int) : Spec Try.prog 14 #[.int .i64 a] [] F (fun v S => v = .int .i64 a ∧ S = []) := by
 refine Spec.intro (N := 4) (args := [.int .i64 a]) Try.func14 rfl rfl (by simp) ?_
 refine Run.seq fun k1 hk1 => ?_
 refine Run.region ?_
 show Sq _ _ _ [0] _ _ _ _
 refine Sq.quiet (i := 0) rfl (Want.none rfl) rfl (ltN rfl) (QP.assign rfl rfl).read ?_
 refine Sq.nil ?_
 refine hk1 _ _ ?_
 refine Run.seq fun k2 hk2 => ?_
 refine Run.region ?_
 show Sq _ _ _ [0, 1] _ _ _ _
 refine Sq.quiet (i := 0) rfl (Want.none rfl) rfl (ltN rfl) (QP.move rfl rfl).read ?_
 refine Sq.quiet (i := 1) rfl (Want.none rfl) rfl (ltN rfl) (QP.assign rfl rfl).read ?_
 refine Sq.nil ?_
 refine hk2 _ _ ?_
 refine Run.ret ?_
 exact J.ends (res_tmp rfl rfl) Takes.nil ⟨rfl, rfl⟩
end Slb
