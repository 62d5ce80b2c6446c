/- X6: a part of the proof that a law of this package holds for every input; no condition. -/
import Derived.Test.YtanlgpdpjgpmfaaX5
import Derived.Test.YtanlgpdpjgpmfaaM2
namespace Slb
open Go Go.Proofs
set_option maxRecDepth 20000
def e0 : Entry := ⟨⟨⟨⟨[32, 0, 0, 0, 0, 0, 0, 0, 0, 0, 0, 0, 0, 0, 0, 0], rfl⟩, ⟨8, by omega⟩⟩, Prefix.zero⟩, ⟨1, by omega⟩, Bs.zero 16⟩
theorem ord_single {k : Pair} {e : Entry} {L : List Entry} (h : OrdE [(k, e)] L) : L = [e] := List.perm_singleton.1 h.perm
theorem ord_none {L : List Entry} (h : OrdE [] L) : L = [] := by have := h.perm.length_eq; exact List.eq_nil_of_length_eq_zero this
theorem exp_one {L' : List Entry} (h : Expands [e0] L') : L' = [e0] := by
  obtain ⟨L, h1, h2⟩ := h
  rw [show [e0].foldl (impK []) [] = [(e0.pair, e0)] by kernel_rfl] at h1
  obtain rfl := ord_single h1
  rw [show expM [e0] = [(e0.pair, e0)] by kernel_rfl] at h2
  exact ord_single h2
theorem exp_none {L' : List Entry} (h : Expands [] L') : L' = [] := by
  obtain ⟨L, h1, h2⟩ := h
  obtain rfl := ord_none h1
  exact ord_none h2
abbrev t0 : TabE := [(e0.pair, e0)]
theorem ord0 : OrdE t0 [e0] := ⟨by simp, by simp, by simp, by simp⟩

theorem next_some (F : Fr) {b r1 r2 r3 : Nat} {H Wt : TabE} (hH : H.length ≤ 100000) (hW : Wt.length ≤ 600000) {LH LW : List Entry} (hoH : OrdE H LH) (hoW : OrdE Wt LW) {Fl : TabI} (now : Int) {o : Op} (hf : (todoL H Wt LH LW).find? (dueB Fl now) = some o) : Spec Try.prog 18 #[.pointer (some ⟨b, 0, none⟩), .int .i64 now] [blk b (FibFib.enc ⟨some r1, some r2, some r3, none⟩) 81, mapE r1 H, mapE r2 Wt, mapI r3 Fl] F (fun v S => ∃ bw, v = .tuple #[.agg (Op.enc o).toArray, .bool true] ∧ S = [blk b (FibFib.enc ⟨some r1, some r2, some r3, some ⟨bw, 0, none⟩⟩) 81, mapE r1 H, mapE r2 Wt, mapI r3 Fl, blk bw (Op.enc o) 43]) :=
  (next_spec F hH hW hoH hoW now).mono fun v S h => by
    rcases h with ⟨h1, _⟩ | ⟨o', bw, h1, h2, h3⟩
    · rw [hf] at h1; cases h1
    · rw [hf] at h1; cases h1; exact ⟨bw, h2, h3⟩
theorem next_no (F : Fr) {b r1 r2 r3 : Nat} {H Wt : TabE} (hH : H.length ≤ 100000) (hW : Wt.length ≤ 600000) {LH LW : List Entry} (hoH : OrdE H LH) (hoW : OrdE Wt LW) {Fl : TabI} (now : Int) (hf : (todoL H Wt LH LW).find? (dueB Fl now) = none) : Spec Try.prog 18 #[.pointer (some ⟨b, 0, none⟩), .int .i64 now] [blk b (FibFib.enc ⟨some r1, some r2, some r3, none⟩) 81, mapE r1 H, mapE r2 Wt, mapI r3 Fl] F (fun v S => v = .tuple #[.agg (Op.enc Op.zero).toArray, .bool false] ∧ S = [blk b (FibFib.enc ⟨some r1, some r2, some r3, none⟩) 81, mapE r1 H, mapE r2 Wt, mapI r3 Fl]) :=
  (next_spec F hH hW hoH hoW now).mono fun v S h => by
    rcases h with ⟨_, h2⟩ | ⟨o', bw, h1, _⟩
    · exact h2
    · rw [hf] at h1; cases h1

theorem num_spec (F : Fr) (a : Int) : Spec Try.prog 20 #[.int .i64 a] [] F (fun v S => v = .int .i64 a ∧ S = []) := by
 refine Spec.intro (N := 4) (args := [.int .i64 a]) Try.func20 rfl rfl (by simp) ?_
 refine Run.seq fun k1 hk1 => ?_
 refine Run.region ?_
 show Sq _ _ _ [0] _ _ _ _
 refine Sq.quiet (i := 0) rfl (Want.none rfl) rfl (ltN rfl) (QP.assign rfl rfl).read ?_
 refine Sq.nil ?_
 refine hk1 _ _ ?_
 refine Run.seq fun k2 hk2 => ?_
 refine Run.region ?_
 show Sq _ _ _ [0, 1] _ _ _ _
 refine Sq.quiet (i := 0) rfl (Want.none rfl) rfl (ltN rfl) (QP.move rfl rfl).read ?_
 refine Sq.quiet (i := 1) rfl (Want.none rfl) rfl (ltN rfl) (QP.assign rfl rfl).read ?_
 refine Sq.nil ?_
 refine hk2 _ _ ?_
 refine Run.ret ?_
 exact J.ends (res_tmp rfl rfl) Takes.nil ⟨rfl, rfl⟩

set_option maxHeartbeats 1600000 in
theorem live_spec (F : Fr)  : Spec Try.prog 10 #[] [] F (fun v S => v = .bool true ∧ S = []) := by
 refine Spec.intro (N := 128) (args := []) Try.func10 rfl rfl (by simp) ?_
 refine Run.seq fun k1 hk1 => ?_
 refine Run.region ?_
 show Sq _ _ _ [0] _ _ _ _
 refine Sq.quiet (i := 0) rfl (Want.none rfl) rfl (ltN rfl) (QP.assign rfl rfl).read ?_
 refine Sq.nil ?_
 refine hk1 _ _ ?_
 refine Run.seq fun k2 hk2 => ?_
 refine Run.region ?_
 show Sq _ _ _ [0, 1] _ _ _ _
 refine Sq.eff (i := 0) rfl (Want.none rfl) rfl (ltN rfl) (EF.call rfl ce15 rfl Takes.nil (fun F' hle hr => newX F')) ?_
 rintro _ _ ⟨_, ⟨kb, kr1, kr2, kr3, rfl, rfl⟩, rfl⟩
 refine J.app ?_
 refine Sq.quiet (i := 1) rfl (Want.none rfl) rfl (ltN rfl) (QP.assign rfl rfl).read ?_
 refine Sq.nil ?_
 refine hk2 _ _ ?_
 refine Run.seq fun k3 hk3 => ?_
 refine Run.region ?_
 show Sq _ _ _ [0, 1, 2, 3, 4, 5] _ _ _ _
 refine Sq.quiet (i := 0) rfl (Want.none rfl) rfl (ltN rfl) (QP.const (.agg (Bs.enc (⟨[32, 0, 0, 0, 0, 0, 0, 0, 0, 0, 0, 0, 0, 0, 0, 0], rfl⟩ : Bs 16)).toArray) (fun _ _ => by kernel_rfl)).read ?_
 refine Sq.quiet (i := 1) rfl (Want.none rfl) rfl (ltN rfl) (QP.build (l := Prefix.enc ⟨((⟨[32, 0, 0, 0, 0, 0, 0, 0, 0, 0, 0, 0, 0, 0, 0, 0], rfl⟩ : Bs 16)), (⟨8, by omega⟩ : I64)⟩) rfl st37 rfl (by exact ⟨(congrArg some (Bs.len _).symm), ⟨rfl, trivial⟩⟩) rfl).read ?_
 refine Sq.quiet (i := 2) rfl (Want.none rfl) rfl (ltN rfl) (QP.build (l := Pair.enc ⟨((⟨((⟨[32, 0, 0, 0, 0, 0, 0, 0, 0, 0, 0, 0, 0, 0, 0, 0], rfl⟩ : Bs 16)), (⟨8, by omega⟩ : I64)⟩ : Prefix)), Prefix.zero⟩) rfl st39 rfl (by exact ⟨(congrArg some (Prefix.enc_len _).symm), trivial⟩) rfl).read ?_
 refine Sq.quiet (i := 3) rfl (Want.none rfl) rfl (ltN rfl) (QP.build (l := Entry.enc ⟨((⟨((⟨((⟨[32, 0, 0, 0, 0, 0, 0, 0, 0, 0, 0, 0, 0, 0, 0, 0], rfl⟩ : Bs 16)), (⟨8, by omega⟩ : I64)⟩ : Prefix)), Prefix.zero⟩ : Pair)), (⟨1, by omega⟩ : I64), (Bs.zero 16)⟩) rfl st41 rfl (by exact ⟨(congrArg some (Pair.enc_len _).symm), ⟨rfl, trivial⟩⟩) rfl).read ?_
 refine Sq.eff (i := 4) rfl (Want.none rfl) rfl (ltN rfl) (EF.allocA (l := Entry.enc Entry.zero) rfl zero41) ?_
 rintro _ _ ⟨b2, rfl, rfl⟩
 rw [show (⟨((⟨((⟨((⟨[32, 0, 0, 0, 0, 0, 0, 0, 0, 0, 0, 0, 0, 0, 0, 0], rfl⟩ : Bs 16)), (⟨8, by omega⟩ : I64)⟩ : Prefix)), Prefix.zero⟩ : Pair)), (⟨1, by omega⟩ : I64), (Bs.zero 16)⟩ : Entry) = e0 from rfl]
 refine Sq.act (i := 5) rfl (Want.none rfl) rfl (EF.storeA rfl rfl rfl z41 (SetL.all (Entry.enc_len _) (Entry.enc_len _)) (Entry.enc_cell _)) ?_
 rintro _ _ rfl
 refine Sq.nil ?_
 refine hk3 _ _ ?_
 refine Run.seq fun k4 hk4 => ?_
 refine Run.seq fun k5 hk5 => ?_
 refine Run.region ?_
 show Sq _ _ _ [0, 1, 2, 3, 4, 5, 6] _ _ _ _
 refine Sq.quiet (i := 0) rfl (Want.none rfl) rfl (ltN rfl) (QP.move rfl rfl).read ?_
 refine Sq.quiet (i := 1) rfl (Want.none rfl) rfl (ltN rfl) (QP.ptr_eq_nil rfl rfl rfl Try.underlying30).read ?_
 refine Sq.quiet (i := 2) rfl (Want.none rfl) rfl (ltN rfl) (QP.move rfl rfl).read ?_
 refine Sq.quiet (i := 3) rfl (Want.yes rfl rfl rfl rfl) rfl (ltN rfl) (QP.move rfl rfl).read ?_
 refine Sq.eff (i := 4) rfl (Want.yes rfl rfl rfl rfl) rfl (ltN rfl) (EF.call rfl ce25 rfl (.cons (by repeat constructor) (.cons (by repeat constructor) Takes.nil)) (fun F' hle hr => drained_spec F' ⟨hr _ _ (by repeat constructor)⟩ (by decide) (by decide) InOrder.nil InOrder.nil)) ?_
 rintro _ _ ⟨_, ⟨rfl, rfl⟩, rfl⟩
 refine J.app ?_
 refine J.boolT (rfl) ?_
 refine Sq.quiet (i := 5) rfl (Want.yes rfl rfl rfl rfl) rfl (ltN rfl) (QP.not rfl rfl).read ?_
 refine Sq.quiet (i := 6) rfl (Want.none rfl) rfl (ltN rfl) (QP.pick_f rfl rfl rfl).read ?_
 refine Sq.nil ?_
 refine hk5 _ _ ?_
 refine Run.cond_f rfl ?_
 refine Run.skip ?_
 refine hk4 _ _ ?_
 refine Run.seq fun k6 hk6 => ?_
 refine Run.region ?_
 show Sq _ _ _ [0, 1, 2, 3] _ _ _ _
 refine Sq.quiet (i := 0) rfl (Want.none rfl) rfl (ltN rfl) (QP.move rfl rfl).read ?_
 refine Sq.quiet (i := 1) rfl (Want.none rfl) rfl (ltN rfl) (QR.load rfl rfl g41 (Entry.enc_sub _)) ?_
 refine Sq.eff (i := 2) rfl (Want.none rfl) rfl (ltN rfl) (EF.buildSlice1 rfl Try.underlying22 z41 zero41 (by simp [Value.cells, Entry.enc_len]) (by decide) rfl rfl (Entry.enc_len _) (by decide)) ?_
 rintro _ _ ⟨b30, rfl, rfl⟩
 refine Sq.eff (i := 3) rfl (Want.none rfl) rfl (ltN rfl) (EF.call rfl ce16 rfl (.cons (by repeat constructor) Takes.nil) (fun F' hle hr => want_spec F' (xs := [e0]) (argSl_one Entry.enc_len (hr b30 _ (by repeat constructor))) (by decide))) ?_
 rintro _ _ ⟨_, ⟨r91, L1, rfl, hex1, rfl⟩, rfl⟩
 refine J.app ?_
 obtain rfl := exp_one hex1
 rw [show tabOf [e0] = t0 from rfl]
 refine Sq.nil ?_
 refine hk6 _ _ ?_
 refine Run.seq fun k7 hk7 => ?_
 refine Run.region ?_
 show Sq _ _ _ [0, 1, 2, 3, 4, 5, 6, 7] _ _ _ _
 refine Sq.quiet (i := 0) rfl (Want.none rfl) rfl (ltN rfl) (QP.move rfl rfl).read ?_
 refine Sq.eff (i := 1) rfl (Want.none rfl) rfl (ltN rfl) (EF.call rfl ce18 rfl (.cons (by repeat constructor) (.cons (by repeat constructor) (.cons (by repeat constructor) (.cons (by repeat constructor) Takes.nil)))) (fun F' hle hr => next_some F' (by decide) (by decide) InOrder.nil ord0 _ (o := (⟨1, e0⟩ : Op)) (by kernel_rfl))) ?_
 rintro _ _ ⟨_, ⟨bw34, rfl, rfl⟩, rfl⟩
 refine J.app ?_
 refine Sq.quiet (i := 2) rfl (Want.none rfl) rfl (ltN rfl) (QP.move rfl rfl).read ?_
 refine Sq.quiet (i := 3) rfl (Want.none rfl) rfl (ltN rfl) (QP.extract rfl rfl rfl).read ?_
 refine Sq.quiet (i := 4) rfl (Want.none rfl) rfl (ltN rfl) (QP.extract rfl rfl rfl).read ?_
 refine Sq.eff (i := 5) rfl (Want.none rfl) rfl (ltN rfl) (EF.allocA (l := Op.enc Op.zero) rfl zero43) ?_
 rintro _ _ ⟨b3, rfl, rfl⟩
 refine Sq.act (i := 6) rfl (Want.none rfl) rfl (EF.storeA rfl rfl rfl z43 (SetL.all (Op.enc_len _) (Op.enc_len _)) (Op.enc_cell _)) ?_
 rintro _ _ rfl
 refine Sq.quiet (i := 7) rfl (Want.none rfl) rfl (ltN rfl) (QP.assign rfl rfl).read ?_
 refine Sq.nil ?_
 refine hk7 _ _ ?_
 refine Run.seq fun k8 hk8 => ?_
 refine Run.region ?_
 show Sq _ _ _ [0, 1, 2] _ _ _ _
 refine Sq.quiet (i := 0) rfl (Want.none rfl) rfl (ltN rfl) (QP.move rfl rfl).read ?_
 refine Sq.eff (i := 1) rfl (Want.none rfl) rfl (ltN rfl) (EF.call rfl ce21 rfl (.cons (by repeat constructor) (.cons (by repeat constructor) (.cons (by repeat constructor) (.cons (by repeat constructor) Takes.nil)))) (fun F' hle hr => reply_spec F' _ (by omega) _)) ?_
 rintro _ _ ⟨_, ⟨rfl, rfl⟩, rfl⟩
 refine J.app ?_
 rw [show replyH [] (⟨1, e0⟩ : Op) false = [] from rfl, show replyF [] 5 (⟨1, e0⟩ : Op) false = [(e0.pair, 1005)] by kernel_rfl]
 refine Sq.quiet (i := 2) rfl (Want.none rfl) rfl (ltN rfl) (QP.assign rfl rfl).read ?_
 refine Sq.nil ?_
 refine hk8 _ _ ?_
 refine Run.seq fun k9 hk9 => ?_
 refine Run.region ?_
 show Sq _ _ _ [0, 1, 2, 3, 4, 5, 6, 7] _ _ _ _
 refine Sq.quiet (i := 0) rfl (Want.none rfl) rfl (ltN rfl) (QP.move rfl rfl).read ?_
 refine Sq.eff (i := 1) rfl (Want.none rfl) rfl (ltN rfl) (EF.call rfl ce18 rfl (.cons (by repeat constructor) (.cons (by repeat constructor) (.cons (by repeat constructor) (.cons (by repeat constructor) Takes.nil)))) (fun F' hle hr => next_no F' (by decide) (by decide) InOrder.nil ord0 _ (by kernel_rfl))) ?_
 rintro _ _ ⟨_, ⟨rfl, rfl⟩, rfl⟩
 refine J.app ?_
 refine Sq.quiet (i := 2) rfl (Want.none rfl) rfl (ltN rfl) (QP.move rfl rfl).read ?_
 refine Sq.quiet (i := 3) rfl (Want.none rfl) rfl (ltN rfl) (QP.extract rfl rfl rfl).read ?_
 refine Sq.quiet (i := 4) rfl (Want.none rfl) rfl (ltN rfl) (QP.extract rfl rfl rfl).read ?_
 refine Sq.eff (i := 5) rfl (Want.none rfl) rfl (ltN rfl) (EF.allocA (l := Op.enc Op.zero) rfl zero43) ?_
 rintro _ _ ⟨b6, rfl, rfl⟩
 refine Sq.act (i := 6) rfl (Want.none rfl) rfl (EF.storeA rfl rfl rfl z43 (SetL.all (Op.enc_len _) (Op.enc_len _)) (Op.enc_cell _)) ?_
 rintro _ _ rfl
 refine Sq.quiet (i := 7) rfl (Want.none rfl) rfl (ltN rfl) (QP.assign rfl rfl).read ?_
 refine Sq.nil ?_
 refine hk9 _ _ ?_
 refine Run.seq fun k10 hk10 => ?_
 refine Run.region ?_
 show Sq _ _ _ [0, 1, 2, 3, 4, 5, 6] _ _ _ _
 refine Sq.quiet (i := 0) rfl (Want.none rfl) rfl (ltN rfl) (QP.move rfl rfl).read ?_
 refine Sq.eff (i := 1) rfl (Want.none rfl) rfl (ltN rfl) (EF.call rfl ce23 rfl (.cons (by repeat constructor) (.cons (by repeat constructor) (.cons (by repeat constructor) Takes.nil))) (fun F' hle hr => at_spec F' ⟨hr _ _ (by repeat constructor)⟩ (by decide) (by decide) InOrder.nil ord0)) ?_
 rintro _ _ ⟨_, ⟨rfl, rfl⟩, rfl⟩
 refine J.app ?_
 refine Sq.quiet (i := 2) rfl (Want.none rfl) rfl (ltN rfl) (QP.move rfl rfl).read ?_
 refine Sq.quiet (i := 3) rfl (Want.none rfl) rfl (ltN rfl) (QP.extract rfl rfl rfl).read ?_
 refine Sq.quiet (i := 4) rfl (Want.none rfl) rfl (ltN rfl) (QP.extract rfl rfl rfl).read ?_
 refine Sq.quiet (i := 5) rfl (Want.none rfl) rfl (ltN rfl) (QP.assign rfl rfl).read ?_
 refine Sq.quiet (i := 6) rfl (Want.none rfl) rfl (ltN rfl) (QP.assign rfl rfl).read ?_
 refine Sq.nil ?_
 refine hk10 _ _ ?_
 refine Run.seq fun k11 hk11 => ?_
 refine Run.region ?_
 show Sq _ _ _ [0, 1, 2, 3, 4, 5, 6, 7] _ _ _ _
 refine Sq.quiet (i := 0) rfl (Want.none rfl) rfl (ltN rfl) (QP.move rfl rfl).read ?_
 refine Sq.eff (i := 1) rfl (Want.none rfl) rfl (ltN rfl) (EF.call rfl ce18 rfl (.cons (by repeat constructor) (.cons (by repeat constructor) (.cons (by repeat constructor) (.cons (by repeat constructor) Takes.nil)))) (fun F' hle hr => next_some F' (by decide) (by decide) InOrder.nil ord0 _ (o := (⟨1, e0⟩ : Op)) (by kernel_rfl))) ?_
 rintro _ _ ⟨_, ⟨bw51, rfl, rfl⟩, rfl⟩
 refine J.app ?_
 refine Sq.quiet (i := 2) rfl (Want.none rfl) rfl (ltN rfl) (QP.move rfl rfl).read ?_
 refine Sq.quiet (i := 3) rfl (Want.none rfl) rfl (ltN rfl) (QP.extract rfl rfl rfl).read ?_
 refine Sq.quiet (i := 4) rfl (Want.none rfl) rfl (ltN rfl) (QP.extract rfl rfl rfl).read ?_
 refine Sq.eff (i := 5) rfl (Want.none rfl) rfl (ltN rfl) (EF.allocA (l := Op.enc Op.zero) rfl zero43) ?_
 rintro _ _ ⟨b10, rfl, rfl⟩
 refine Sq.act (i := 6) rfl (Want.none rfl) rfl (EF.storeA rfl rfl rfl z43 (SetL.all (Op.enc_len _) (Op.enc_len _)) (Op.enc_cell _)) ?_
 rintro _ _ rfl
 refine Sq.quiet (i := 7) rfl (Want.none rfl) rfl (ltN rfl) (QP.assign rfl rfl).read ?_
 refine Sq.nil ?_
 refine hk11 _ _ ?_
 refine Run.seq fun k12 hk12 => ?_
 refine Run.region ?_
 show Sq _ _ _ [0, 1, 2] _ _ _ _
 refine Sq.quiet (i := 0) rfl (Want.none rfl) rfl (ltN rfl) (QP.move rfl rfl).read ?_
 refine Sq.eff (i := 1) rfl (Want.none rfl) rfl (ltN rfl) (EF.call rfl ce21 rfl (.cons (by repeat constructor) (.cons (by repeat constructor) (.cons (by repeat constructor) (.cons (by repeat constructor) Takes.nil)))) (fun F' hle hr => reply_spec F' _ (by omega) _)) ?_
 rintro _ _ ⟨_, ⟨rfl, rfl⟩, rfl⟩
 refine J.app ?_
 rw [show replyH [] (⟨1, e0⟩ : Op) true = t0 by kernel_rfl, show replyF [(e0.pair, 1005)] 1005 (⟨1, e0⟩ : Op) true = [] by kernel_rfl]
 refine Sq.quiet (i := 2) rfl (Want.none rfl) rfl (ltN rfl) (QP.assign rfl rfl).read ?_
 refine Sq.nil ?_
 refine hk12 _ _ ?_
 refine Run.seq fun k13 hk13 => ?_
 refine Run.region ?_
 show Sq _ _ _ [0, 1, 2, 3, 4, 5, 6, 7, 8] _ _ _ _
 refine Sq.quiet (i := 0) rfl (Want.none rfl) rfl (ltN rfl) (QP.move rfl rfl).read ?_
 refine Sq.eff (i := 1) rfl (Want.none rfl) rfl (ltN rfl) (EF.call rfl ce25 rfl (.cons (by repeat constructor) (.cons (by repeat constructor) Takes.nil)) (fun F' hle hr => drained_spec F' ⟨hr _ _ (by repeat constructor)⟩ (by decide) (by decide) ord0 ord0)) ?_
 rintro _ _ ⟨_, ⟨rfl, rfl⟩, rfl⟩
 refine J.app ?_
 refine J.boolT (by kernel_rfl) ?_
 refine Sq.quiet (i := 2) rfl (Want.none rfl) rfl (ltN rfl) (QP.move rfl rfl).read ?_
 refine Sq.quiet (i := 3) rfl (Want.yes rfl rfl rfl rfl) rfl (ltN rfl) (QP.move rfl rfl).read ?_
 refine Sq.eff (i := 4) rfl (Want.yes rfl rfl rfl rfl) rfl (ltN rfl) (EF.call rfl ce27 rfl (.cons (by repeat constructor) Takes.nil) (fun F' hle hr => has_spec F' ⟨hr _ _ (by repeat constructor)⟩ (by decide) ord0)) ?_
 rintro v60 _ ⟨_, rfl, rfl⟩
 refine J.app ?_
 refine Sq.slCase (v := v60) (xs := [e0]) (by repeat constructor) (fun a60 c60 hv60 hh60 => ?_)
 subst hv60
 refine Sq.quiet (i := 5) rfl (Want.yes rfl rfl rfl rfl) rfl (ltN rfl) (QP.len rfl rfl rfl Try.underlying22).read ?_
 refine Sq.quiet (i := 6) rfl (Want.yes rfl rfl rfl rfl) rfl (ltN rfl) (QP.eql rfl rfl rfl).read ?_
 refine J.decT (rfl) ?_
 refine Sq.quiet (i := 7) rfl (Want.none rfl) rfl (ltN rfl) (QP.pick_t rfl rfl rfl).read ?_
 refine Sq.quiet (i := 8) rfl (Want.none rfl) rfl (ltN rfl) (QP.assign rfl rfl).read ?_
 refine Sq.nil ?_
 refine hk13 _ _ ?_
 refine Run.seq fun k14 hk14 => ?_
 refine Run.region ?_
 show Sq _ _ _ [0, 1] _ _ _ _
 refine Sq.quiet (i := 0) rfl (Want.none rfl) rfl (ltN rfl) (QP.move rfl rfl).read ?_
 refine Sq.eff (i := 1) rfl (Want.none rfl) rfl (ltN rfl) (EF.call rfl ce16 rfl (.cons (by repeat constructor) Takes.nil) (fun F' hle hr => want_spec F' (xs := ([] : List Entry)) (argSl_nil) (by decide))) ?_
 rintro _ _ ⟨_, ⟨r92, L2, rfl, hex2, rfl⟩, rfl⟩
 refine J.app ?_
 obtain rfl := exp_none hex2
 rw [show tabOf [] = ([] : TabE) from rfl]
 refine Sq.nil ?_
 refine hk14 _ _ ?_
 refine Run.seq fun k15 hk15 => ?_
 refine Run.region ?_
 show Sq _ _ _ [0, 1, 2, 3, 4, 5, 6, 7] _ _ _ _
 refine Sq.quiet (i := 0) rfl (Want.none rfl) rfl (ltN rfl) (QP.move rfl rfl).read ?_
 refine Sq.eff (i := 1) rfl (Want.none rfl) rfl (ltN rfl) (EF.call rfl ce18 rfl (.cons (by repeat constructor) (.cons (by repeat constructor) (.cons (by repeat constructor) (.cons (by repeat constructor) Takes.nil)))) (fun F' hle hr => next_some F' (by decide) (by decide) ord0 InOrder.nil _ (o := (⟨3, e0⟩ : Op)) (by kernel_rfl))) ?_
 rintro _ _ ⟨_, ⟨bw68, rfl, rfl⟩, rfl⟩
 refine J.app ?_
 refine Sq.quiet (i := 2) rfl (Want.none rfl) rfl (ltN rfl) (QP.move rfl rfl).read ?_
 refine Sq.quiet (i := 3) rfl (Want.none rfl) rfl (ltN rfl) (QP.extract rfl rfl rfl).read ?_
 refine Sq.quiet (i := 4) rfl (Want.none rfl) rfl (ltN rfl) (QP.extract rfl rfl rfl).read ?_
 refine Sq.eff (i := 5) rfl (Want.none rfl) rfl (ltN rfl) (EF.allocA (l := Op.enc Op.zero) rfl zero43) ?_
 rintro _ _ ⟨b14, rfl, rfl⟩
 refine Sq.act (i := 6) rfl (Want.none rfl) rfl (EF.storeA rfl rfl rfl z43 (SetL.all (Op.enc_len _) (Op.enc_len _)) (Op.enc_cell _)) ?_
 rintro _ _ rfl
 refine Sq.quiet (i := 7) rfl (Want.none rfl) rfl (ltN rfl) (QP.assign rfl rfl).read ?_
 refine Sq.nil ?_
 refine hk15 _ _ ?_
 refine Run.seq fun k16 hk16 => ?_
 refine Run.region ?_
 show Sq _ _ _ [0, 1, 2, 3, 4, 5, 6, 7, 8, 9, 10, 11, 12, 13, 14, 15, 16, 17, 18, 19, 20, 21, 22, 23, 24, 25, 26, 27, 28, 29, 30, 31, 32, 33, 34, 35, 36, 37, 38, 39, 40, 41, 42, 43, 44, 45, 46, 47, 48, 49, 50, 51, 52, 53, 54, 55, 56, 57] _ _ _ _
 refine Sq.quiet (i := 0) rfl (Want.none rfl) rfl (ltN rfl) (QP.move rfl rfl).read ?_
 refine Sq.quiet (i := 1) rfl (Want.none rfl) rfl (ltN rfl) (QP.move rfl rfl).read ?_
 refine Sq.quiet (i := 2) rfl (Want.yes rfl rfl rfl rfl) rfl (ltN rfl) (QR.load rfl rfl g43 (Op.enc_sub _)) ?_
 refine Sq.quiet (i := 3) rfl (Want.yes rfl rfl rfl rfl) rfl (ltN rfl) (QR.load rfl rfl g41 (Entry.enc_sub _)) ?_
 refine Sq.quiet (i := 4) rfl (Want.yes rfl rfl rfl rfl) rfl (ltN rfl) (QP.build (l := Op.enc ⟨(1), (e0)⟩) rfl st43 rfl (by exact ⟨rfl, ⟨(congrArg some (Entry.enc_len _).symm), trivial⟩⟩) rfl).read ?_
 refine Sq.quiet (i := 5) rfl (Want.yes rfl rfl rfl rfl) rfl (ltN rfl) (QP.eql_agg eq43 rfl rfl rfl).read ?_
 refine J.decT (rfl) ?_
 refine Sq.quiet (i := 6) rfl (Want.none rfl) rfl (ltN rfl) (QP.pick_t rfl rfl rfl).read ?_
 refine Sq.quiet (i := 7) rfl (Want.none rfl) rfl (ltN rfl) (QP.move rfl rfl).read ?_
 refine Sq.quiet (i := 8) rfl (Want.yes rfl rfl rfl rfl) rfl (ltN rfl) (QP.move rfl rfl).read ?_
 refine Sq.quiet (i := 9) rfl (Want.yes rfl rfl rfl rfl) rfl (ltN rfl) (QP.not rfl rfl).read ?_
 refine Sq.quiet (i := 10) rfl (Want.none rfl) rfl (ltN rfl) (QP.pick_t rfl rfl rfl).read ?_
 refine Sq.quiet (i := 11) rfl (Want.none rfl) rfl (ltN rfl) (QP.move rfl rfl).read ?_
 refine Sq.quiet (i := 12) rfl (Want.yes rfl rfl rfl rfl) rfl (ltN rfl) (QP.move rfl rfl).read ?_
 refine Sq.quiet (i := 13) rfl (Want.yes rfl rfl rfl rfl) rfl (ltN rfl) (QP.eql rfl rfl rfl).read ?_
 refine Sq.quiet (i := 14) rfl (Want.none rfl) rfl (ltN rfl) (QP.pick_t rfl rfl rfl).read ?_
 refine Sq.quiet (i := 15) rfl (Want.none rfl) rfl (ltN rfl) (QP.move rfl rfl).read ?_
 refine Sq.quiet (i := 16) rfl (Want.yes rfl rfl rfl rfl) rfl (ltN rfl) (QP.move rfl rfl).read ?_
 refine Sq.quiet (i := 17) rfl (Want.none rfl) rfl (ltN rfl) (QP.pick_t rfl rfl rfl).read ?_
 refine Sq.quiet (i := 18) rfl (Want.none rfl) rfl (ltN rfl) (QP.move rfl rfl).read ?_
 refine Sq.quiet (i := 19) rfl (Want.yes rfl rfl rfl rfl) rfl (ltN rfl) (QP.move rfl rfl).read ?_
 refine Sq.quiet (i := 20) rfl (Want.none rfl) rfl (ltN rfl) (QP.pick_t rfl rfl rfl).read ?_
 refine Sq.quiet (i := 21) rfl (Want.none rfl) rfl (ltN rfl) (QP.move rfl rfl).read ?_
 refine Sq.quiet (i := 22) rfl (Want.yes rfl rfl rfl rfl) rfl (ltN rfl) (QR.load rfl rfl g43 (Op.enc_sub _)) ?_
 refine Sq.quiet (i := 23) rfl (Want.yes rfl rfl rfl rfl) rfl (ltN rfl) (QR.load rfl rfl g43 (Op.enc_sub _)) ?_
 refine Sq.quiet (i := 24) rfl (Want.yes rfl rfl rfl rfl) rfl (ltN rfl) (QP.eql_agg eq43 rfl rfl rfl).read ?_
 refine J.decT (rfl) ?_
 refine Sq.quiet (i := 25) rfl (Want.none rfl) rfl (ltN rfl) (QP.pick_t rfl rfl rfl).read ?_
 refine Sq.quiet (i := 26) rfl (Want.none rfl) rfl (ltN rfl) (QP.move rfl rfl).read ?_
 refine Sq.quiet (i := 27) rfl (Want.yes rfl rfl rfl rfl) rfl (ltN rfl) (QP.move rfl rfl).read ?_
 refine Sq.eff (i := 28) rfl (Want.yes rfl rfl rfl rfl) rfl (ltN rfl) (EF.call rfl ce20 rfl Takes.nil (fun F' hle hr => num_spec F' _)) ?_
 rintro _ _ ⟨_, ⟨rfl, rfl⟩, rfl⟩
 refine J.app ?_
 refine Sq.quiet (i := 29) rfl (Want.yes rfl rfl rfl rfl) rfl (ltN rfl) (QP.move rfl rfl).read ?_
 refine Sq.eff (i := 30) rfl (Want.yes rfl rfl rfl rfl) rfl (ltN rfl) (EF.call rfl ce20 rfl Takes.nil (fun F' hle hr => num_spec F' _)) ?_
 rintro _ _ ⟨_, ⟨rfl, rfl⟩, rfl⟩
 refine J.app ?_
 refine Sq.quiet (i := 31) rfl (Want.yes rfl rfl rfl rfl) rfl (ltN rfl) (QP.add64 rfl rfl rfl (by first | omega | (simp <;> omega)) (by first | omega | (simp <;> omega))).read ?_
 refine Sq.quiet (i := 32) rfl (Want.yes rfl rfl rfl rfl) rfl (ltN rfl) (QP.eql rfl rfl rfl).read ?_
 refine J.decT (rfl) ?_
 refine Sq.quiet (i := 33) rfl (Want.none rfl) rfl (ltN rfl) (QP.pick_t rfl rfl rfl).read ?_
 refine Sq.quiet (i := 34) rfl (Want.none rfl) rfl (ltN rfl) (QP.move rfl rfl).read ?_
 refine Sq.quiet (i := 35) rfl (Want.yes rfl rfl rfl rfl) rfl (ltN rfl) (QP.move rfl rfl).read ?_
 refine Sq.quiet (i := 36) rfl (Want.none rfl) rfl (ltN rfl) (QP.pick_t rfl rfl rfl).read ?_
 refine Sq.quiet (i := 37) rfl (Want.none rfl) rfl (ltN rfl) (QP.move rfl rfl).read ?_
 refine Sq.quiet (i := 38) rfl (Want.yes rfl rfl rfl rfl) rfl (ltN rfl) (QP.move rfl rfl).read ?_
 refine Sq.quiet (i := 39) rfl (Want.none rfl) rfl (ltN rfl) (QP.pick_t rfl rfl rfl).read ?_
 refine Sq.quiet (i := 40) rfl (Want.none rfl) rfl (ltN rfl) (QP.move rfl rfl).read ?_
 refine Sq.quiet (i := 41) rfl (Want.yes rfl rfl rfl rfl) rfl (ltN rfl) (QP.fieldAddr rfl rfl f43_0).read ?_
 refine Sq.quiet (i := 42) rfl (Want.yes rfl rfl rfl rfl) rfl (ltN rfl) (QR.load1 rfl rfl g3 (Op.sub_kind _)) ?_
 refine Sq.quiet (i := 43) rfl (Want.yes rfl rfl rfl rfl) rfl (ltN rfl) (QP.eql rfl rfl rfl).read ?_
 refine J.decT (rfl) ?_
 refine Sq.quiet (i := 44) rfl (Want.none rfl) rfl (ltN rfl) (QP.pick_t rfl rfl rfl).read ?_
 refine Sq.quiet (i := 45) rfl (Want.none rfl) rfl (ltN rfl) (QP.move rfl rfl).read ?_
 refine Sq.quiet (i := 46) rfl (Want.yes rfl rfl rfl rfl) rfl (ltN rfl) (QP.move rfl rfl).read ?_
 refine Sq.eff (i := 47) rfl (Want.yes rfl rfl rfl rfl) rfl (ltN rfl) (EF.call rfl ce21 rfl (.cons (by repeat constructor) (.cons (by repeat constructor) (.cons (by repeat constructor) (.cons (by repeat constructor) Takes.nil)))) (fun F' hle hr => reply_spec F' _ (by omega) _)) ?_
 rintro _ _ ⟨_, ⟨rfl, rfl⟩, rfl⟩
 refine J.app ?_
 rw [show replyH t0 (⟨3, e0⟩ : Op) true = [] by kernel_rfl, show replyF [] 2000 (⟨3, e0⟩ : Op) true = [] by kernel_rfl]
 refine Sq.eff (i := 48) rfl (Want.yes rfl rfl rfl rfl) rfl (ltN rfl) (EF.call rfl ce20 rfl Takes.nil (fun F' hle hr => num_spec F' _)) ?_
 rintro _ _ ⟨_, ⟨rfl, rfl⟩, rfl⟩
 refine J.app ?_
 refine Sq.quiet (i := 49) rfl (Want.yes rfl rfl rfl rfl) rfl (ltN rfl) (QP.eql rfl rfl rfl).read ?_
 refine Sq.quiet (i := 50) rfl (Want.none rfl) rfl (ltN rfl) (QP.pick_t rfl rfl rfl).read ?_
 refine Sq.quiet (i := 51) rfl (Want.none rfl) rfl (ltN rfl) (QP.move rfl rfl).read ?_
 refine Sq.quiet (i := 52) rfl (Want.yes rfl rfl rfl rfl) rfl (ltN rfl) (QP.move rfl rfl).read ?_
 refine Sq.eff (i := 53) rfl (Want.yes rfl rfl rfl rfl) rfl (ltN rfl) (EF.call rfl ce27 rfl (.cons (by repeat constructor) Takes.nil) (fun F' hle hr => has_spec F' ⟨hr _ _ (by repeat constructor)⟩ (by decide) (L := []) InOrder.nil)) ?_
 rintro v124 _ ⟨_, rfl, rfl⟩
 refine J.app ?_
 refine Sq.slCase (v := v124) (xs := ([] : List Entry)) (by repeat constructor) (fun a124 c124 hv124 hh124 => ?_)
 subst hv124
 refine Sq.quiet (i := 54) rfl (Want.yes rfl rfl rfl rfl) rfl (ltN rfl) (QP.len rfl rfl rfl Try.underlying22).read ?_
 refine Sq.quiet (i := 55) rfl (Want.yes rfl rfl rfl rfl) rfl (ltN rfl) (QP.eql rfl rfl rfl).read ?_
 refine J.decT (by rfl) ?_
 refine Sq.quiet (i := 56) rfl (Want.none rfl) rfl (ltN rfl) (QP.pick_t rfl rfl rfl).read ?_
 refine Sq.quiet (i := 57) rfl (Want.none rfl) rfl (ltN rfl) (QP.assign rfl rfl).read ?_
 refine Sq.nil ?_
 refine hk16 _ _ ?_
 refine Run.ret ?_
 exact J.ends (res_tmp rfl rfl) Takes.nil ⟨rfl, rfl⟩
end Slb
