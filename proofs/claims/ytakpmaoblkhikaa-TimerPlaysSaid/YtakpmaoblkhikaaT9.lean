/- T9: a part of the proof that a law of this package holds for every input; no condition. -/
import Derived.Test.YtakpmaoblkhikaaT8
namespace Slb
open Go Go.Proofs
set_option maxRecDepth 20000
structure GoodD (L : List Due) : Prop where
  sort : L.Pairwise fun a b => cmpDue a b < 0
  nodup : (L.map (·.name)).Nodup
  len : L.length ≤ 4096
  size : ∀ d ∈ L, d.name.size ≤ maxLen
theorem J.qa {N : Nat} {G : Env} {S : List HProp} {F : Fr} {Φ : Act → World → Prop} {b : Nat} {L : List Due} (hm : QA b L ∈ S) (j : GoodD L → J N G S F Φ) : J N G S F Φ := fun a w s => by
  obtain ⟨A, B, rfl⟩ := List.append_of_mem hm
  obtain ⟨h1, h2, h3, h4⟩ := qa_good F (s.sat.perm (List.perm_middle (l₁ := A) (l₂ := B) (a := QA b L)))
  exact j ⟨h1, h2, h3, h4⟩ a w s
/-- What is taken, if it has come. -/
def popD (L : List Due) (now : Int) : Due × Bool × List Due := match L with
  | [] => (Due.zero, false, [])
  | d :: L2 => if now < d.at_ then (Due.zero, false, d :: L2) else (d, true, L2)
theorem pop_gt {d : Due} {L2 : List Due} {now : Int} (h : now < d.at_) : popD (d :: L2) now = (Due.zero, false, d :: L2) := if_pos h
theorem pop_le {d : Due} {L2 : List Due} {now : Int} (h : ¬ now < d.at_) : popD (d :: L2) now = (d, true, L2) := if_neg h
theorem cancel_head {d : Due} {L : List Due} (hn : ((d :: L).map (·.name)).Nodup) : (cancelF (d :: L) [d.name]).1 = L := by
  show (cstep (d :: L, 0) d.name).1 = L
  unfold cstep
  rw [if_pos (has_of List.mem_cons_self)]
  exact del_head hn

theorem pop_nil (F : Fr) (now : Int) : Spec Try.prog 16 #[.pointer none, .int .i64 now] [] F (fun v S => v = .tuple #[.agg (Due.enc Due.zero).toArray, .bool false] ∧ S = []) := by
 refine Spec.intro (N := 28) (args := [.pointer none, .int .i64 now]) Try.func16 rfl rfl (by simp) ?_
 refine Run.seq fun k1 hk1 => ?_
 refine Run.region ?_
 show Sq _ _ _ [0, 1] _ _ _ _
 refine Sq.eff (i := 0) rfl (Want.none rfl) rfl (ltN rfl) (EF.allocA (l := Due.enc Due.zero) rfl zero40) ?_
 rintro _ _ ⟨b4, rfl, rfl⟩
 refine Sq.quiet (i := 1) rfl (Want.none rfl) rfl (ltN rfl) (QP.assign rfl rfl).read ?_
 refine Sq.nil ?_
 refine hk1 _ _ ?_
 refine Run.seq fun k2 hk2 => ?_
 refine Run.region ?_
 show Sq _ _ _ [0, 1, 2, 3, 4, 5, 6, 7] _ _ _ _
 refine Sq.quiet (i := 0) rfl (Want.none rfl) rfl (ltN rfl) (QP.move rfl rfl).read ?_
 refine Sq.eff (i := 1) rfl (Want.none rfl) rfl (ltN rfl) (EF.call rfl ce25 rfl Takes.nil (fun F' hle hr => next_nil F')) ?_
 rintro _ _ ⟨_, ⟨rfl, rfl⟩, rfl⟩
 refine J.app ?_
 refine Sq.quiet (i := 2) rfl (Want.none rfl) rfl (ltN rfl) (QP.move rfl rfl).read ?_
 refine Sq.quiet (i := 3) rfl (Want.none rfl) rfl (ltN rfl) (QP.extract rfl rfl rfl).read ?_
 refine Sq.quiet (i := 4) rfl (Want.none rfl) rfl (ltN rfl) (QP.extract rfl rfl rfl).read ?_
 refine Sq.eff (i := 5) rfl (Want.none rfl) rfl (ltN rfl) (EF.allocA (l := Due.enc Due.zero) rfl zero40) ?_
 rintro _ _ ⟨b6, rfl, rfl⟩
 refine Sq.act (i := 6) rfl (Want.none rfl) rfl (EF.storeA rfl rfl rfl z40 (SetL.all (Due.enc_len _) (Due.enc_len _)) (Due.enc_cell _)) ?_
 rintro _ _ rfl
 refine Sq.quiet (i := 7) rfl (Want.none rfl) rfl (ltN rfl) (QP.assign rfl rfl).read ?_
 refine Sq.nil ?_
 refine hk2 _ _ ?_
 refine Run.seq fun k3 hk3 => ?_
 refine Run.seq fun k4 hk4 => ?_
 refine Run.region ?_
 show Sq _ _ _ [0, 1, 2, 3, 4, 5, 6, 7] _ _ _ _
 refine Sq.quiet (i := 0) rfl (Want.none rfl) rfl (ltN rfl) (QP.move rfl rfl).read ?_
 refine Sq.quiet (i := 1) rfl (Want.none rfl) rfl (ltN rfl) (QP.not rfl rfl).read ?_
 refine Sq.quiet (i := 2) rfl (Want.none rfl) rfl (ltN rfl) (QP.move rfl rfl).read ?_
 refine Sq.skip (i := 3) rfl (Want.no rfl rfl rfl rfl) rfl (ltN rfl) ?_
 refine Sq.skip (i := 4) rfl (Want.no rfl rfl rfl rfl) rfl (ltN rfl) ?_
 refine Sq.skip (i := 5) rfl (Want.no rfl rfl rfl rfl) rfl (ltN rfl) ?_
 refine Sq.skip (i := 6) rfl (Want.no rfl rfl rfl rfl) rfl (ltN rfl) ?_
 refine Sq.quiet (i := 7) rfl (Want.none rfl) rfl (ltN rfl) (QP.pick_t rfl rfl rfl).read ?_
 refine Sq.nil ?_
 refine hk4 _ _ ?_
 refine Run.cond_t rfl ?_
 refine Run.seq fun k5 hk5 => ?_
 refine Run.region ?_
 show Sq _ _ _ [0, 1, 2] _ _ _ _
 refine Sq.quiet (i := 0) rfl (Want.none rfl) rfl (ltN rfl) (QP.build (l := Due.enc Due.zero) rfl st40 rfl (by exact trivial) rfl).read ?_
 refine Sq.act (i := 1) rfl (Want.none rfl) rfl (EF.storeA rfl rfl rfl z40 (SetL.all (Due.enc_len _) (Due.enc_len _)) (Due.enc_cell _)) ?_
 rintro _ _ rfl
 refine Sq.quiet (i := 2) rfl (Want.none rfl) rfl (ltN rfl) (QP.assign rfl rfl).read ?_
 refine Sq.nil ?_
 refine hk5 _ _ ?_
 refine Run.ret ?_
 exact J.ends (res_cell2 rfl rfl g40 (Due.enc_sub _) rfl) Takes.nil ⟨rfl, rfl⟩

theorem pop_none (F : Fr) {b : Nat} (now : Int) : Spec Try.prog 16 #[fp b, .int .i64 now] [QA b []] F (fun v S => v = .tuple #[.agg (Due.enc Due.zero).toArray, .bool false] ∧ S = [QA b []]) := by
 refine Spec.intro (N := 28) (args := [fp b, .int .i64 now]) Try.func16 rfl rfl (by simp) ?_
 refine Run.seq fun k1 hk1 => ?_
 refine Run.region ?_
 show Sq _ _ _ [0, 1] _ _ _ _
 refine Sq.eff (i := 0) rfl (Want.none rfl) rfl (ltN rfl) (EF.allocA (l := Due.enc Due.zero) rfl zero40) ?_
 rintro _ _ ⟨b4, rfl, rfl⟩
 refine Sq.quiet (i := 1) rfl (Want.none rfl) rfl (ltN rfl) (QP.assign rfl rfl).read ?_
 refine Sq.nil ?_
 refine hk1 _ _ ?_
 refine Run.seq fun k2 hk2 => ?_
 refine Run.region ?_
 show Sq _ _ _ [0, 1, 2, 3, 4, 5, 6, 7] _ _ _ _
 refine Sq.quiet (i := 0) rfl (Want.none rfl) rfl (ltN rfl) (QP.move rfl rfl).read ?_
 refine Sq.eff (i := 1) rfl (Want.none rfl) rfl (ltN rfl) (EF.call rfl ce25 rfl (.cons (by repeat constructor) Takes.nil) (fun F' hle hr => nextA F' (L := []))) ?_
 rintro _ _ ⟨_, ⟨rfl, rfl⟩, rfl⟩
 refine J.app ?_
 refine Sq.quiet (i := 2) rfl (Want.none rfl) rfl (ltN rfl) (QP.move rfl rfl).read ?_
 refine Sq.quiet (i := 3) rfl (Want.none rfl) rfl (ltN rfl) (QP.extract rfl rfl rfl).read ?_
 refine Sq.quiet (i := 4) rfl (Want.none rfl) rfl (ltN rfl) (QP.extract rfl rfl rfl).read ?_
 refine Sq.eff (i := 5) rfl (Want.none rfl) rfl (ltN rfl) (EF.allocA (l := Due.enc Due.zero) rfl zero40) ?_
 rintro _ _ ⟨b6, rfl, rfl⟩
 refine Sq.act (i := 6) rfl (Want.none rfl) rfl (EF.storeA rfl rfl rfl z40 (SetL.all (Due.enc_len _) (Due.enc_len _)) (Due.enc_cell _)) ?_
 rintro _ _ rfl
 refine Sq.quiet (i := 7) rfl (Want.none rfl) rfl (ltN rfl) (QP.assign rfl rfl).read ?_
 refine Sq.nil ?_
 refine hk2 _ _ ?_
 refine Run.seq fun k3 hk3 => ?_
 refine Run.seq fun k4 hk4 => ?_
 refine Run.region ?_
 show Sq _ _ _ [0, 1, 2, 3, 4, 5, 6, 7] _ _ _ _
 refine Sq.quiet (i := 0) rfl (Want.none rfl) rfl (ltN rfl) (QP.move rfl rfl).read ?_
 refine Sq.quiet (i := 1) rfl (Want.none rfl) rfl (ltN rfl) (QP.not rfl rfl).read ?_
 refine Sq.quiet (i := 2) rfl (Want.none rfl) rfl (ltN rfl) (QP.move rfl rfl).read ?_
 refine Sq.skip (i := 3) rfl (Want.no rfl rfl rfl rfl) rfl (ltN rfl) ?_
 refine Sq.skip (i := 4) rfl (Want.no rfl rfl rfl rfl) rfl (ltN rfl) ?_
 refine Sq.skip (i := 5) rfl (Want.no rfl rfl rfl rfl) rfl (ltN rfl) ?_
 refine Sq.skip (i := 6) rfl (Want.no rfl rfl rfl rfl) rfl (ltN rfl) ?_
 refine Sq.quiet (i := 7) rfl (Want.none rfl) rfl (ltN rfl) (QP.pick_t rfl rfl rfl).read ?_
 refine Sq.nil ?_
 refine hk4 _ _ ?_
 refine Run.cond_t rfl ?_
 refine Run.seq fun k5 hk5 => ?_
 refine Run.region ?_
 show Sq _ _ _ [0, 1, 2] _ _ _ _
 refine Sq.quiet (i := 0) rfl (Want.none rfl) rfl (ltN rfl) (QP.build (l := Due.enc Due.zero) rfl st40 rfl (by exact trivial) rfl).read ?_
 refine Sq.act (i := 1) rfl (Want.none rfl) rfl (EF.storeA rfl rfl rfl z40 (SetL.all (Due.enc_len _) (Due.enc_len _)) (Due.enc_cell _)) ?_
 rintro _ _ rfl
 refine Sq.quiet (i := 2) rfl (Want.none rfl) rfl (ltN rfl) (QP.assign rfl rfl).read ?_
 refine Sq.nil ?_
 refine hk5 _ _ ?_
 refine Run.ret ?_
 exact J.ends (res_cell2 rfl rfl g40 (Due.enc_sub _) rfl) (.cons (by repeat constructor) Takes.nil) ⟨rfl, rfl⟩

theorem pop_some (F : Fr) {b : Nat} (d : Due) (L2 : List Due) (now : Int) : Spec Try.prog 16 #[fp b, .int .i64 now] [QA b (d :: L2)] F (fun v S => v = .tuple #[.agg (Due.enc (popD (d :: L2) now).1).toArray, .bool (popD (d :: L2) now).2.1] ∧ S = [QA b (popD (d :: L2) now).2.2]) := by
 refine Spec.intro (N := 28) (args := [fp b, .int .i64 now]) Try.func16 rfl rfl (by simp) ?_
 refine Run.seq fun k1 hk1 => ?_
 refine Run.region ?_
 show Sq _ _ _ [0, 1] _ _ _ _
 refine J.qa (by repeat constructor) (fun hG => ?_)
 refine Sq.eff (i := 0) rfl (Want.none rfl) rfl (ltN rfl) (EF.allocA (l := Due.enc Due.zero) rfl zero40) ?_
 rintro _ _ ⟨b4, rfl, rfl⟩
 refine Sq.quiet (i := 1) rfl (Want.none rfl) rfl (ltN rfl) (QP.assign rfl rfl).read ?_
 refine Sq.nil ?_
 refine hk1 _ _ ?_
 refine Run.seq fun k2 hk2 => ?_
 refine Run.region ?_
 show Sq _ _ _ [0, 1, 2, 3, 4, 5, 6, 7] _ _ _ _
 refine Sq.quiet (i := 0) rfl (Want.none rfl) rfl (ltN rfl) (QP.move rfl rfl).read ?_
 refine Sq.eff (i := 1) rfl (Want.none rfl) rfl (ltN rfl) (EF.call rfl ce25 rfl (.cons (by repeat constructor) Takes.nil) (fun F' hle hr => nextA F' (L := d :: L2))) ?_
 rintro _ _ ⟨_, ⟨rfl, rfl⟩, rfl⟩
 refine J.app ?_
 refine Sq.quiet (i := 2) rfl (Want.none rfl) rfl (ltN rfl) (QP.move rfl rfl).read ?_
 refine Sq.quiet (i := 3) rfl (Want.none rfl) rfl (ltN rfl) (QP.extract rfl rfl rfl).read ?_
 refine Sq.quiet (i := 4) rfl (Want.none rfl) rfl (ltN rfl) (QP.extract rfl rfl rfl).read ?_
 refine Sq.eff (i := 5) rfl (Want.none rfl) rfl (ltN rfl) (EF.allocA (l := Due.enc Due.zero) rfl zero40) ?_
 rintro _ _ ⟨b6, rfl, rfl⟩
 refine Sq.act (i := 6) rfl (Want.none rfl) rfl (EF.storeA rfl rfl rfl z40 (SetL.all (Due.enc_len _) (Due.enc_len _)) (Due.enc_cell _)) ?_
 rintro _ _ rfl
 refine Sq.quiet (i := 7) rfl (Want.none rfl) rfl (ltN rfl) (QP.assign rfl rfl).read ?_
 refine Sq.nil ?_
 refine hk2 _ _ ?_
 refine Run.seq fun k3 hk3 => ?_
 refine Run.seq fun k4 hk4 => ?_
 refine Run.region ?_
 show Sq _ _ _ [0, 1, 2, 3, 4, 5, 6, 7] _ _ _ _
 refine Sq.quiet (i := 0) rfl (Want.none rfl) rfl (ltN rfl) (QP.move rfl rfl).read ?_
 refine Sq.quiet (i := 1) rfl (Want.none rfl) rfl (ltN rfl) (QP.not rfl rfl).read ?_
 refine Sq.quiet (i := 2) rfl (Want.none rfl) rfl (ltN rfl) (QP.move rfl rfl).read ?_
 refine Sq.quiet (i := 3) rfl (Want.yes rfl rfl rfl rfl) rfl (ltN rfl) (QP.fieldAddr rfl rfl f40_1).read ?_
 refine Sq.quiet (i := 4) rfl (Want.yes rfl rfl rfl rfl) rfl (ltN rfl) (QR.load1 rfl rfl g3 (Due.sub_at_ _)) ?_
 refine Sq.quiet (i := 5) rfl (Want.yes rfl rfl rfl rfl) rfl (ltN rfl) (QP.move rfl rfl).read ?_
 refine Sq.quiet (i := 6) rfl (Want.yes rfl rfl rfl rfl) rfl (ltN rfl) (QP.gtr rfl rfl rfl).read ?_
 refine J.caseD (fun c19 => ?_) (fun c19 => ?_)
 ·skip
  refine Sq.quiet (i := 7) rfl (Want.none rfl) rfl (ltN rfl) (QP.pick_f rfl rfl rfl).read ?_
  refine Sq.nil ?_
  refine hk4 _ _ ?_
  refine Run.cond_t rfl ?_
  refine Run.seq fun k5 hk5 => ?_
  refine Run.region ?_
  show Sq _ _ _ [0, 1, 2] _ _ _ _
  refine Sq.quiet (i := 0) rfl (Want.none rfl) rfl (ltN rfl) (QP.build (l := Due.enc Due.zero) rfl st40 rfl (by exact trivial) rfl).read ?_
  refine Sq.act (i := 1) rfl (Want.none rfl) rfl (EF.storeA rfl rfl rfl z40 (SetL.all (Due.enc_len _) (Due.enc_len _)) (Due.enc_cell _)) ?_
  rintro _ _ rfl
  refine Sq.quiet (i := 2) rfl (Want.none rfl) rfl (ltN rfl) (QP.assign rfl rfl).read ?_
  refine Sq.nil ?_
  refine hk5 _ _ ?_
  refine Run.ret ?_
  exact J.ends (m := [QA b (d :: L2)]) (res_cell2 rfl rfl g40 (Due.enc_sub _) rfl) (.cons (by repeat constructor) Takes.nil) ⟨by rw [pop_gt (d := d) (L2 := L2) c19] <;> rfl, by rw [pop_gt (d := d) (L2 := L2) c19]⟩
 ·skip
  refine Sq.quiet (i := 7) rfl (Want.none rfl) rfl (ltN rfl) (QP.pick_f rfl rfl rfl).read ?_
  refine Sq.nil ?_
  refine hk4 _ _ ?_
  refine Run.cond_f rfl ?_
  refine Run.skip ?_
  refine hk3 _ _ ?_
  refine Run.seq fun k6 hk6 => ?_
  refine Run.region ?_
  show Sq _ _ _ [0, 1, 2, 3, 4] _ _ _ _
  refine Sq.quiet (i := 0) rfl (Want.none rfl) rfl (ltN rfl) (QP.move rfl rfl).read ?_
  refine Sq.quiet (i := 1) rfl (Want.none rfl) rfl (ltN rfl) (QP.fieldAddr rfl rfl f40_0).read ?_
  refine Sq.quiet (i := 2) rfl (Want.none rfl) rfl (ltN rfl) (QR.load1 rfl rfl g9 (Due.sub_name _)) ?_
  refine Sq.eff (i := 3) rfl (Want.none rfl) rfl (ltN rfl) (EF.buildSliceS rfl Try.underlying33 z9 zero9 rfl (by decide) rfl rfl rfl rfl) ?_
  rintro _ _ ⟨b25, rfl, rfl⟩
  refine Sq.eff (i := 4) rfl (Want.none rfl) rfl (ltN rfl) (EF.call rfl ce14 rfl (.cons (by repeat constructor) Takes.nil) (fun F' hle hr => cancelA F' (L := d :: L2) (ss := [d.name]) (by simp) (argSl_all (enc := fun s => [Value.string s]) (fun _ => rfl) (hr b25 _ (by repeat constructor))) (fun s hs => by simp only [List.mem_singleton] at hs; subst hs; exact hG.size d List.mem_cons_self))) ?_
  rintro _ _ ⟨_, ⟨rfl, rfl⟩, rfl⟩
  refine J.app ?_
  rw [cancel_head hG.nodup]
  refine Sq.nil ?_
  refine hk6 _ _ ?_
  refine Run.seq fun k7 hk7 => ?_
  refine Run.region ?_
  show Sq _ _ _ [0, 1, 2] _ _ _ _
  refine Sq.quiet (i := 0) rfl (Want.none rfl) rfl (ltN rfl) (QR.load rfl rfl g40 (Due.enc_sub _)) ?_
  refine Sq.act (i := 1) rfl (Want.none rfl) rfl (EF.storeA rfl rfl rfl z40 (SetL.all (Due.enc_len _) (Due.enc_len _)) (Due.enc_cell _)) ?_
  rintro _ _ rfl
  refine Sq.quiet (i := 2) rfl (Want.none rfl) rfl (ltN rfl) (QP.assign rfl rfl).read ?_
  refine Sq.nil ?_
  refine hk7 _ _ ?_
  refine Run.ret ?_
  exact J.ends (res_cell2 rfl rfl g40 (Due.enc_sub _) rfl) (.cons (by repeat constructor) Takes.nil) ⟨by rw [pop_le (d := d) (L2 := L2) c19] <;> rfl, by rw [pop_le (d := d) (L2 := L2) c19]⟩

theorem popA (F : Fr) {b : Nat} {L : List Due} (now : Int) : Spec Try.prog 16 #[fp b, .int .i64 now] [QA b L] F fun v S => v = .tuple #[.agg (Due.enc (popD L now).1).toArray, .bool (popD L now).2.1] ∧ S = [QA b (popD L now).2.2] := by
  cases L with
  | nil => exact pop_none F now
  | cons d L2 => exact pop_some F d L2 now
theorem GoodD.take {L : List Due} (h : GoodD L) (i : Nat) : (L.take i).Pairwise (fun a b => cmpDue a b < 0) ∧ ((L.take i).map (·.name)).Nodup := ⟨h.sort.sublist (List.take_sublist i L), h.nodup.sublist ((List.take_sublist i L).map _)⟩
theorem set_next {L : List Due} (h : GoodD L) {i : Nat} {d : Due} (hd : L[i]? = some d) : setR (L.take i) d.name d.at_ = (0, L.take (i + 1)) := by
  have ht := h.take (i + 1)
  rw [take_succ_get hd] at ht ⊢
  unfold setR
  rw [if_neg (by
    rintro ⟨_, h2⟩
    rw [List.length_take] at h2
    have := (List.getElem?_eq_some_iff.1 hd).1
    have := h.len
    omega), set_last ht.1 ht.2]

theorem copy_nil (F : Fr)  : Spec Try.prog 20 #[.pointer none] [] F (fun v S => v = .pointer none ∧ S = []) := by
 refine Spec.intro (N := 24) (args := [.pointer none]) Try.func20 rfl rfl (by simp) ?_
 refine Run.seq fun k1 hk1 => ?_
 refine Run.region ?_
 show Sq _ _ _ [0] _ _ _ _
 refine Sq.quiet (i := 0) rfl (Want.none rfl) rfl (ltN rfl) (QP.assign rfl rfl).read ?_
 refine Sq.nil ?_
 refine hk1 _ _ ?_
 refine Run.seq fun k2 hk2 => ?_
 refine Run.seq fun k3 hk3 => ?_
 refine Run.region ?_
 show Sq _ _ _ [0, 1] _ _ _ _
 refine Sq.quiet (i := 0) rfl (Want.none rfl) rfl (ltN rfl) (QP.move rfl rfl).read ?_
 refine Sq.quiet (i := 1) rfl (Want.none rfl) rfl (ltN rfl) (QP.ptr_eq_nil rfl rfl rfl Try.underlying23).read ?_
 refine Sq.nil ?_
 refine hk3 _ _ ?_
 refine Run.cond_t rfl ?_
 refine Run.seq fun k4 hk4 => ?_
 refine Run.region ?_
 show Sq _ _ _ [0] _ _ _ _
 refine Sq.quiet (i := 0) rfl (Want.none rfl) rfl (ltN rfl) (QP.assign rfl rfl).read ?_
 refine Sq.nil ?_
 refine hk4 _ _ ?_
 refine Run.ret ?_
 exact J.ends (res_tmp rfl rfl) Takes.nil ⟨rfl, rfl⟩

theorem copyA (F : Fr) {b : Nat} {L : List Due} : Spec Try.prog 20 #[fp b] [QA b L] F (fun v S => ∃ b2, v = fp b2 ∧ S = [QA b L, QA b2 L]) := by
 refine Spec.intro (N := 24) (args := [fp b]) Try.func20 rfl rfl (by simp) ?_
 refine Run.seq fun k1 hk1 => ?_
 refine Run.region ?_
 show Sq _ _ _ [0] _ _ _ _
 refine Sq.quiet (i := 0) rfl (Want.none rfl) rfl (ltN rfl) (QP.assign rfl rfl).read ?_
 refine Sq.nil ?_
 refine hk1 _ _ ?_
 refine Run.seq fun k2 hk2 => ?_
 refine Run.seq fun k3 hk3 => ?_
 refine Run.region ?_
 show Sq _ _ _ [0, 1] _ _ _ _
 refine Sq.quiet (i := 0) rfl (Want.none rfl) rfl (ltN rfl) (QP.move rfl rfl).read ?_
 refine Sq.quiet (i := 1) rfl (Want.none rfl) rfl (ltN rfl) (QP.ptr_eq_nil rfl rfl rfl Try.underlying23).read ?_
 refine Sq.nil ?_
 refine hk3 _ _ ?_
 refine Run.cond_f rfl ?_
 refine Run.skip ?_
 refine hk2 _ _ ?_
 refine Run.seq fun k4 hk4 => ?_
 refine Run.region ?_
 show Sq _ _ _ [0, 1] _ _ _ _
 refine J.qa (by repeat constructor) (fun hG => ?_)
 have hGl := hG.len
 refine Sq.eff (i := 0) rfl (Want.none rfl) rfl (ltN rfl) (EF.call rfl ce10 rfl Takes.nil (fun F' hle hr => newA F')) ?_
 rintro _ _ ⟨_, ⟨b8, rfl, rfl⟩, rfl⟩
 refine J.app ?_
 refine Sq.quiet (i := 1) rfl (Want.none rfl) rfl (ltN rfl) (QP.assign rfl rfl).read ?_
 refine Sq.nil ?_
 refine hk4 _ _ ?_
 refine Run.seq fun k5 hk5 => ?_
 refine Run.seq fun k6 hk6 => ?_
 refine Run.region ?_
 show Sq _ _ _ [0, 1, 2, 3] _ _ _ _
 refine Sq.quiet (i := 0) rfl (Want.none rfl) rfl (ltN rfl) (QP.move rfl rfl).read ?_
 refine Sq.eff (i := 1) rfl (Want.none rfl) rfl (ltN rfl) (EF.call rfl ce17 rfl (.cons (by repeat constructor) Takes.nil) (fun F' hle hr => listA F' (L := L))) ?_
 rintro v10 _ ⟨_, rfl, rfl⟩
 refine J.app ?_
 refine Sq.slCase (v := v10) (xs := L) (by repeat constructor) (fun a10 c10 hv10 hh10 => ?_)
 subst hv10
 refine Sq.quiet (i := 2) rfl (Want.none rfl) rfl (ltN rfl) (QP.len rfl rfl rfl Try.underlying44).read ?_
 refine Sq.quiet (i := 3) rfl (Want.none rfl) rfl (ltN rfl) (QP.move rfl rfl).read ?_
 refine Sq.nil ?_
 refine hk6 _ _ ?_
 refine Run.block ?_
 refine Run.loop1 (fun (i : Nat) => i ≤ L.length) (fun i => .cons 3 (fp b8) (.cons 10 (.slice a10 L.length c10) (.cons 11 (.int .i64 L.length) (.cons 12 (.int .i64 i) (.nil))))) (fun i => [QA b L, QA b8 (L.take i), slA 40 2 Due.enc (.slice a10 L.length c10) L]) (fun i => L.length - i) (0) (Nat.zero_le _) ?_ ?_
 ·exact fun _ j => J.envJ (J.keep (.cons (by repeat constructor) (.cons (by repeat constructor) (.cons (by repeat constructor) Takes.nil))) j) ⟨rfl, rfl, rfl, rfl, trivial⟩
 rintro i hile kl7 hl7
 refine Run.seq fun k8 hk8 => ?_
 refine Run.region ?_
 show Sq _ _ _ [0] _ _ _ _
 refine Sq.quiet (i := 0) rfl (Want.none rfl) rfl (ltN rfl) (QP.lss rfl rfl rfl).read ?_
 refine J.caseD (fun c13 => ?_) (fun c13 => ?_)
 ·skip
  refine Sq.nil ?_
  refine hk8 _ _ ?_
  refine Run.seq fun k9 hk9 => ?_
  refine Run.cond_t rfl ?_
  refine Run.skip ?_
  refine hk9 _ _ ?_
  refine Run.seq fun k10 hk10 => ?_
  refine Run.block ?_
  refine Run.seq fun k11 hk11 => ?_
  refine Run.region ?_
  show Sq _ _ _ [0, 1, 2, 3] _ _ _ _
  obtain ⟨x, hx⟩ : ∃ x, L[i]? = some x := ⟨_, List.getElem?_eq_getElem (by omega)⟩
  obtain ⟨b0, o0, rfl⟩ := hh10.get (by omega)
  have hxs := hG.size x (List.mem_of_getElem? hx)
  refine Sq.quiet (i := 0) rfl (Want.none rfl) rfl (ltN rfl) (QP.indexAddr rfl rfl rfl Try.underlying44 z40 (by first | omega | (simp <;> omega)) (by first | omega | (simp <;> omega))).read ?_
  refine Sq.quiet (i := 1) rfl (Want.none rfl) rfl (ltN rfl) (QR.loadSl rfl rfl g40 Due.enc_len (SlAt.own Due.enc_len (by repeat constructor)) hx) ?_
  refine Sq.eff (i := 2) rfl (Want.none rfl) rfl (ltN rfl) (EF.allocA (l := Due.enc Due.zero) rfl zero40) ?_
  rintro _ _ ⟨b5, rfl, rfl⟩
  refine Sq.act (i := 3) rfl (Want.none rfl) rfl (EF.storeA rfl rfl rfl z40 (SetL.all (Due.enc_len _) (Due.enc_len _)) (Due.enc_cell _)) ?_
  rintro _ _ rfl
  refine Sq.nil ?_
  refine hk11 _ _ ?_
  refine Run.region ?_
  show Sq _ _ _ [0, 1, 2, 3, 4, 5] _ _ _ _
  refine Sq.quiet (i := 0) rfl (Want.none rfl) rfl (ltN rfl) (QP.move rfl rfl).read ?_
  refine Sq.quiet (i := 1) rfl (Want.none rfl) rfl (ltN rfl) (QP.fieldAddr rfl rfl f40_0).read ?_
  refine Sq.quiet (i := 2) rfl (Want.none rfl) rfl (ltN rfl) (QR.load1 rfl rfl g9 (Due.sub_name _)) ?_
  refine Sq.quiet (i := 3) rfl (Want.none rfl) rfl (ltN rfl) (QP.fieldAddr rfl rfl f40_1).read ?_
  refine Sq.quiet (i := 4) rfl (Want.none rfl) rfl (ltN rfl) (QR.load1 rfl rfl g3 (Due.sub_at_ _)) ?_
  refine Sq.eff (i := 5) rfl (Want.none rfl) rfl (ltN rfl) (EF.call rfl ce11 rfl (.cons (by repeat constructor) Takes.nil) (fun F' hle hr => setA F' (L := L.take i) (⟨x.name, hxs⟩ : Str) x.at_)) ?_
  rintro _ _ ⟨_, ⟨rfl, rfl⟩, rfl⟩
  refine J.app ?_
  rw [show setR (L.take i) (⟨x.name, hxs⟩ : Str).val x.at_ = (0, L.take (i + 1)) from set_next hG hx]
  refine Sq.nil ?_
  refine hk10 _ _ ?_
  refine Run.region ?_
  show Sq _ _ _ [0, 1] _ _ _ _
  refine Sq.quiet (i := 0) rfl (Want.none rfl) rfl (ltN rfl) (QP.add64 rfl rfl rfl (by first | omega | (simp <;> omega)) (by first | omega | (simp <;> omega))).read ?_
  refine Sq.quiet (i := 1) rfl (Want.none rfl) rfl (ltN rfl) (QP.move rfl rfl).read ?_
  refine Sq.nil ?_
  exact J.envJ (J.keep (.cons (by repeat constructor) (.cons (by repeat constructor) (.cons (by repeat constructor) Takes.nil))) (hl7 (i + 1) (by omega) (by omega))) ⟨rfl, rfl, rfl, rfl, trivial⟩
 ·skip
  refine Sq.nil ?_
  refine hk8 _ _ ?_
  refine Run.seq fun k12 hk12 => ?_
  refine Run.cond_f rfl ?_
  refine Run.exit rfl ?_
  refine hk5 _ _ ?_
  refine Run.seq fun k13 hk13 => ?_
  refine Run.region ?_
  show Sq _ _ _ [0, 1] _ _ _ _
  refine Sq.quiet (i := 0) rfl (Want.none rfl) rfl (ltN rfl) (QP.move rfl rfl).read ?_
  refine Sq.quiet (i := 1) rfl (Want.none rfl) rfl (ltN rfl) (QP.assign rfl rfl).read ?_
  refine Sq.nil ?_
  refine hk13 _ _ ?_
  refine Run.ret ?_
  rw [show L.take i = L from List.take_of_length_le (by omega)]
  exact J.ends (res_tmp rfl rfl) (.cons (by repeat constructor) (.cons (by repeat constructor) Takes.nil)) ⟨b8, rfl, rfl⟩

def drawJ (d : Int) : Int := if d < 0 then (if 0 > IntKind.i64.wrap (-d) then 0 else IntKind.i64.wrap (-d)) else d
def jitJ (n d : Int) : Int := if n < 1 then n else n - (drawJ d).tmod (n / 4 + 1)
def I64R (n : Int) : Prop := -9223372036854775808 ≤ n ∧ n ≤ 9223372036854775807
theorem wrap_range (n : Int) : I64R (IntKind.i64.wrap n) := by
  unfold IntKind.wrap I64R
  simp only [show (IntKind.i64.bits : Nat) = 64 from rfl, show IntKind.i64.signed = true from rfl]
  simp
  split <;> omega
theorem draw_range {d : Int} (h : I64R d) : 0 ≤ drawJ d ∧ drawJ d ≤ 9223372036854775807 := by
  have := wrap_range (-d)
  unfold I64R at *
  unfold drawJ
  split
  · split <;> omega
  · omega
theorem quo4 {n : Int} (h : 1 ≤ n) (h2 : I64R n) : IntKind.i64.wrap (n.tdiv 4) = n / 4 := by
  unfold I64R at h2
  rw [Int.tdiv_eq_ediv_of_nonneg (by omega), wrap_i64 (by omega) (by omega)]
theorem tmod_range {d m : Int} (h : 0 ≤ d) (hm : 0 < m) : 0 ≤ d.tmod m ∧ d.tmod m < m := by
  rw [Int.tmod_eq_emod_of_nonneg h]
  exact ⟨Int.emod_nonneg _ (by omega), Int.emod_lt_of_pos _ hm⟩
theorem jit_bound {n d : Int} (hn : 1 ≤ n) (hd : I64R d) : jitJ n d ≤ n ∧ n - n / 4 ≤ jitJ n d := by
  have h := tmod_range (draw_range hd).1 (show 0 < n / 4 + 1 by omega)
  unfold jitJ
  rw [if_neg (by omega)]
  omega

theorem jitter_spec (F : Fr) (n d : Int) (hn : I64R n) (hd : I64R d) : Spec Try.prog 18 #[.int .i64 n, .int .i64 d] [] F (fun v S => v = .int .i64 (jitJ n d) ∧ S = []) := by
 refine Spec.intro (N := 20) (args := [.int .i64 n, .int .i64 d]) Try.func18 rfl rfl (by simp) ?_
 refine Run.seq fun k1 hk1 => ?_
 refine Run.region ?_
 show Sq _ _ _ [0] _ _ _ _
 refine Sq.quiet (i := 0) rfl (Want.none rfl) rfl (ltN rfl) (QP.assign rfl rfl).read ?_
 refine Sq.nil ?_
 refine hk1 _ _ ?_
 refine Run.seq fun k2 hk2 => ?_
 refine Run.seq fun k3 hk3 => ?_
 refine Run.region ?_
 show Sq _ _ _ [0, 1] _ _ _ _
 refine Sq.quiet (i := 0) rfl (Want.none rfl) rfl (ltN rfl) (QP.move rfl rfl).read ?_
 refine Sq.quiet (i := 1) rfl (Want.none rfl) rfl (ltN rfl) (QP.lss rfl rfl rfl).read ?_
 refine J.caseD (fun c6 => ?_) (fun c6 => ?_)
 ·skip
  refine Sq.nil ?_
  refine hk3 _ _ ?_
  refine Run.cond_t rfl ?_
  refine Run.seq fun k4 hk4 => ?_
  refine Run.region ?_
  show Sq _ _ _ [0, 1] _ _ _ _
  refine Sq.quiet (i := 0) rfl (Want.none rfl) rfl (ltN rfl) (QP.move rfl rfl).read ?_
  refine Sq.quiet (i := 1) rfl (Want.none rfl) rfl (ltN rfl) (QP.assign rfl rfl).read ?_
  refine Sq.nil ?_
  refine hk4 _ _ ?_
  refine Run.ret ?_
  exact J.ends (res_tmp rfl rfl) Takes.nil ⟨by unfold jitJ; rw [if_pos c6], rfl⟩
 ·skip
  refine Sq.nil ?_
  refine hk3 _ _ ?_
  refine Run.cond_f rfl ?_
  refine Run.skip ?_
  refine hk2 _ _ ?_
  refine Run.seq fun k5 hk5 => ?_
  refine Run.seq fun k6 hk6 => ?_
  refine Run.region ?_
  show Sq _ _ _ [0, 1] _ _ _ _
  refine Sq.quiet (i := 0) rfl (Want.none rfl) rfl (ltN rfl) (QP.move rfl rfl).read ?_
  refine Sq.quiet (i := 1) rfl (Want.none rfl) rfl (ltN rfl) (QP.lss rfl rfl rfl).read ?_
  refine J.caseD (fun c9 => ?_) (fun c9 => ?_)
  ·skip
   refine Sq.nil ?_
   refine hk6 _ _ ?_
   refine Run.cond_t rfl ?_
   refine Run.region ?_
   show Sq _ _ _ [0, 1, 2, 3] _ _ _ _
   refine Sq.quiet (i := 0) rfl (Want.none rfl) rfl (ltN rfl) (QP.move rfl rfl).read ?_
   refine Sq.quiet (i := 1) rfl (Want.none rfl) rfl (ltN rfl) (QP.neg rfl rfl).read ?_
   refine Sq.quiet (i := 2) rfl (Want.none rfl) rfl (ltN rfl) (QP.max2 rfl rfl rfl).read ?_
   refine Sq.quiet (i := 3) rfl (Want.none rfl) rfl (ltN rfl) (QP.assign rfl rfl).read ?_
   refine Sq.nil ?_
   refine hk5 _ _ ?_
   refine Run.seq fun k7 hk7 => ?_
   refine Run.region ?_
   show Sq _ _ _ [0, 1, 2, 3, 4, 5, 6, 7] _ _ _ _
   have hdr := draw_range hd
   have hn1 : 1 ≤ n := by omega
   have hmr := tmod_range hdr.1 (show 0 < n / 4 + 1 by omega)
   have hn2 := hn
   unfold I64R at hn2
   refine Sq.quiet (i := 0) rfl (Want.none rfl) rfl (ltN rfl) (QP.move rfl rfl).read ?_
   refine Sq.quiet (i := 1) rfl (Want.none rfl) rfl (ltN rfl) (QP.move rfl rfl).read ?_
   rw [show (if 0 > IntKind.i64.wrap (-d) then 0 else IntKind.i64.wrap (-d)) = drawJ d by unfold drawJ; rw [if_pos c9]]
   refine Sq.quiet (i := 2) rfl (Want.none rfl) rfl (ltN rfl) (QP.move rfl rfl).read ?_
   refine Sq.quiet (i := 3) rfl (Want.none rfl) rfl (ltN rfl) (QP.quo rfl rfl rfl (by first | omega | (simp <;> omega))).read ?_
   rw [quo4 hn1 hn]
   refine Sq.quiet (i := 4) rfl (Want.none rfl) rfl (ltN rfl) (QP.add64 rfl rfl rfl (by first | omega | (simp <;> omega)) (by first | omega | (simp <;> omega))).read ?_
   refine Sq.quiet (i := 5) rfl (Want.none rfl) rfl (ltN rfl) (QP.rem rfl rfl rfl (by omega)).read ?_
   refine Sq.quiet (i := 6) rfl (Want.none rfl) rfl (ltN rfl) (QP.sub64 rfl rfl rfl (by first | omega | (simp <;> omega)) (by first | omega | (simp <;> omega))).read ?_
   refine Sq.quiet (i := 7) rfl (Want.none rfl) rfl (ltN rfl) (QP.assign rfl rfl).read ?_
   refine Sq.nil ?_
   refine hk7 _ _ ?_
   refine Run.ret ?_
   exact J.ends (res_tmp rfl rfl) Takes.nil ⟨by unfold jitJ; rw [if_neg c6], rfl⟩
  ·skip
   refine Sq.nil ?_
   refine hk6 _ _ ?_
   refine Run.cond_f rfl ?_
   refine Run.skip ?_
   refine hk5 _ _ ?_
   refine Run.seq fun k8 hk8 => ?_
   refine Run.region ?_
   show Sq _ _ _ [0, 1, 2, 3, 4, 5, 6, 7] _ _ _ _
   have hdr := draw_range hd
   have hn1 : 1 ≤ n := by omega
   have hmr := tmod_range hdr.1 (show 0 < n / 4 + 1 by omega)
   have hn2 := hn
   unfold I64R at hn2
   refine Sq.quiet (i := 0) rfl (Want.none rfl) rfl (ltN rfl) (QP.move rfl rfl).read ?_
   refine Sq.quiet (i := 1) rfl (Want.none rfl) rfl (ltN rfl) (QP.move rfl rfl).read ?_
   refine Sq.quiet (i := 2) rfl (Want.none rfl) rfl (ltN rfl) (QP.move rfl rfl).read ?_
   refine Sq.quiet (i := 3) rfl (Want.none rfl) rfl (ltN rfl) (QP.quo rfl rfl rfl (by first | omega | (simp <;> omega))).read ?_
   rw [quo4 hn1 hn]
   refine Sq.quiet (i := 4) rfl (Want.none rfl) rfl (ltN rfl) (QP.add64 rfl rfl rfl (by first | omega | (simp <;> omega)) (by first | omega | (simp <;> omega))).read ?_
   have hdd : d = drawJ d := by unfold drawJ; rw [if_neg c9]
   rw [← hdd] at hmr
   refine Sq.quiet (i := 5) rfl (Want.none rfl) rfl (ltN rfl) (QP.rem rfl rfl rfl (by omega)).read ?_
   refine Sq.quiet (i := 6) rfl (Want.none rfl) rfl (ltN rfl) (QP.sub64 rfl rfl rfl (by first | omega | (simp <;> omega)) (by first | omega | (simp <;> omega))).read ?_
   refine Sq.quiet (i := 7) rfl (Want.none rfl) rfl (ltN rfl) (QP.assign rfl rfl).read ?_
   refine Sq.nil ?_
   refine hk8 _ _ ?_
   refine Run.ret ?_
   exact J.ends (res_tmp rfl rfl) Takes.nil ⟨by unfold jitJ; rw [if_neg c6, ← hdd], rfl⟩
end Slb
