/- X29: a part of the proof that a law of this package holds for every input; no condition. -/
import Derived.Test.YtanlgpdpjgpmfaaX28
import Derived.Test.YtanlgpdpjgpmfaaX5
namespace Slb
open Go Go.Proofs
set_option maxRecDepth 20000
theorem rnext_spec (F : Fr) {b : Nat} {ah aw af : Option Addr} {ch cw cf : Nat} {LH LW : List Entry} {Fs : List Ref19Wait} {way : Op} {busy : Bool} {H Wt : TabE} {Fl : TabI} (hoH : OrdE H LH) (hoW : OrdE Wt LW) (hhh : SlH ah ch LH) (hhw : SlH aw cw LW) (hhf : SlH af cf Fs) (hlH : LH.length ≤ 100000) (hlW : LW.length ≤ 600000) (hFl : Fs.length ≤ 1000000) (hfl : ∀ p, untilL Fs p = alook Fl p) (now : Int)  : Spec Try.prog 19 #[.pointer (some ⟨b, 0, none⟩), .int .i64 now] [blk b (Ref19Fib.enc ⟨⟨ah, LH.length, ch⟩, ⟨aw, LW.length, cw⟩, ⟨af, Fs.length, cf⟩, way, false⟩) 45, slA 41 51 Entry.enc (.slice ah LH.length ch) LH, slA 41 51 Entry.enc (.slice aw LW.length cw) LW, slA 86 35 Ref19Wait.enc (.slice af Fs.length cf) Fs] F (fun v S => ((todoL H Wt LH LW).find? (dueB Fl now) = none ∧ v = .tuple #[.agg (Op.enc Op.zero).toArray, .bool false] ∧ S = [blk b (Ref19Fib.enc ⟨⟨ah, LH.length, ch⟩, ⟨aw, LW.length, cw⟩, ⟨af, Fs.length, cf⟩, way, false⟩) 45, slA 41 51 Entry.enc (.slice ah LH.length ch) LH, slA 41 51 Entry.enc (.slice aw LW.length cw) LW, slA 86 35 Ref19Wait.enc (.slice af Fs.length cf) Fs]) ∨ (∃ o, (todoL H Wt LH LW).find? (dueB Fl now) = some o ∧ v = .tuple #[.agg (Op.enc o).toArray, .bool true] ∧ S = [blk b (Ref19Fib.enc ⟨⟨ah, LH.length, ch⟩, ⟨aw, LW.length, cw⟩, ⟨af, Fs.length, cf⟩, o, true⟩) 45, slA 41 51 Entry.enc (.slice ah LH.length ch) LH, slA 41 51 Entry.enc (.slice aw LW.length cw) LW, slA 86 35 Ref19Wait.enc (.slice af Fs.length cf) Fs])) := by
 refine Spec.intro (N := 58) (args := [.pointer (some ⟨b, 0, none⟩), .int .i64 now]) Try.func19 rfl rfl (by simp) ?_
 refine Run.seq fun k1 hk1 => ?_
 refine Run.region ?_
 show Sq _ _ _ [0, 1] _ _ _ _
 refine Sq.eff (i := 0) rfl (Want.none rfl) rfl (ltN rfl) (EF.allocA (l := Op.enc Op.zero) rfl zero43) ?_
 rintro _ _ ⟨b4, rfl, rfl⟩
 refine Sq.quiet (i := 1) rfl (Want.none rfl) rfl (ltN rfl) (QP.assign rfl rfl).read ?_
 refine Sq.nil ?_
 refine hk1 _ _ ?_
 refine Run.seq fun k2 hk2 => ?_
 refine Run.region ?_
 show Sq _ _ _ [0, 1, 2] _ _ _ _
 refine Sq.quiet (i := 0) rfl (Want.none rfl) rfl (ltN rfl) (QP.move rfl rfl).read ?_
 refine Sq.eff (i := 1) rfl (Want.none rfl) rfl (ltN rfl) (EF.call rfl ce46 rfl (.cons (by repeat constructor) (.cons (by repeat constructor) (.cons (by repeat constructor) Takes.nil))) (fun F' hle hr => rtodo_spec F' hoH hoW hhh hhw hlH hlW)) ?_
 rintro v11 _ ⟨_, rfl, rfl⟩
 refine J.app ?_
 refine Sq.slCase (v := v11) (xs := (todoL H Wt LH LW)) (by repeat constructor) (fun a11 c11 hv11 hh11 => ?_)
 subst hv11
 have htl := @todo_len H Wt LH LW
 generalize hT : todoL H Wt LH LW = T at *
 refine Sq.quiet (i := 2) rfl (Want.none rfl) rfl (ltN rfl) (QP.assign rfl rfl).read ?_
 refine Sq.nil ?_
 refine hk2 _ _ ?_
 refine Run.seq fun k3 hk3 => ?_
 refine Run.seq fun k4 hk4 => ?_
 refine Run.region ?_
 show Sq _ _ _ [0] _ _ _ _
 refine Sq.quiet (i := 0) rfl (Want.none rfl) rfl (ltN rfl) (QP.assign rfl rfl).read ?_
 refine Sq.nil ?_
 refine hk4 _ _ ?_
 refine Run.block ?_
 refine Run.loop1 (fun (i : Nat) => i ≤ T.length ∧ ∀ x ∈ T.take i, dueB Fl now x = false) (fun i => .cons 0 (.pointer (some ⟨b, 0, none⟩)) (.cons 1 (.int .i64 now) (.cons 4 (.pointer (some ⟨b4, 0, none⟩)) (.cons 6 (.slice a11 T.length c11) (.cons 7 (.int .i64 i) (.nil)))))) (fun i => [blk b (Ref19Fib.enc ⟨⟨ah, LH.length, ch⟩, ⟨aw, LW.length, cw⟩, ⟨af, Fs.length, cf⟩, way, false⟩) 45, slA 41 51 Entry.enc (.slice ah LH.length ch) LH, slA 41 51 Entry.enc (.slice aw LW.length cw) LW, slA 86 35 Ref19Wait.enc (.slice af Fs.length cf) Fs, blk b4 (Op.enc Op.zero) 43, slA 43 52 Op.enc (.slice a11 T.length c11) T]) (fun i => T.length - i) (0) (⟨Nat.zero_le _, by simp⟩) ?_ ?_
 ·exact fun _ j => J.envJ (J.keep (.cons (by repeat constructor) (.cons (by repeat constructor) (.cons (by repeat constructor) (.cons (by repeat constructor) (.cons (by repeat constructor) (.cons (by repeat constructor) Takes.nil)))))) j) ⟨rfl, rfl, rfl, rfl, rfl, trivial⟩
 rintro i ⟨hile, hno⟩ kl5 hl5
 refine Run.seq fun k6 hk6 => ?_
 refine Run.seq fun k7 hk7 => ?_
 refine Run.region ?_
 show Sq _ _ _ [0, 1, 2, 3, 4, 5, 6, 7, 8, 9, 10] _ _ _ _
 refine Sq.quiet (i := 0) rfl (Want.none rfl) rfl (ltN rfl) (QP.move rfl rfl).read ?_
 refine Sq.quiet (i := 1) rfl (Want.none rfl) rfl (ltN rfl) (QP.move rfl rfl).read ?_
 refine Sq.quiet (i := 2) rfl (Want.none rfl) rfl (ltN rfl) (QP.len rfl rfl rfl Try.underlying82).read ?_
 refine Sq.quiet (i := 3) rfl (Want.none rfl) rfl (ltN rfl) (QP.lss rfl rfl rfl).read ?_
 refine J.caseD (fun c15 => ?_) (fun c15 => ?_)
 ·skip
  refine Sq.quiet (i := 4) rfl (Want.none rfl) rfl (ltN rfl) (QP.move rfl rfl).read ?_
  refine Sq.quiet (i := 5) rfl (Want.yes rfl rfl rfl rfl) rfl (ltN rfl) (QP.move rfl rfl).read ?_
  refine Sq.quiet (i := 6) rfl (Want.yes rfl rfl rfl rfl) rfl (ltN rfl) (QP.nilCheck rfl rfl).read ?_
  refine Sq.quiet (i := 7) rfl (Want.yes rfl rfl rfl rfl) rfl (ltN rfl) (QP.fieldAddr rfl rfl f45_4).read ?_
  refine Sq.quiet (i := 8) rfl (Want.yes rfl rfl rfl rfl) rfl (ltN rfl) (QR.load1 rfl rfl g4 (Ref19Fib.sub_busy _)) ?_
  refine J.boolF (rfl) ?_
  refine Sq.quiet (i := 9) rfl (Want.yes rfl rfl rfl rfl) rfl (ltN rfl) (QP.not rfl rfl).read ?_
  refine Sq.quiet (i := 10) rfl (Want.none rfl) rfl (ltN rfl) (QP.pick_t rfl rfl rfl).read ?_
  refine Sq.nil ?_
  refine hk7 _ _ ?_
  refine Run.cond_t rfl ?_
  refine Run.skip ?_
  refine hk6 _ _ ?_
  refine Run.seq fun k8 hk8 => ?_
  refine Run.block ?_
  refine Run.seq fun k9 hk9 => ?_
  refine Run.region ?_
  show Sq _ _ _ [0, 1, 2, 3, 4, 5, 6, 7, 8, 9, 10, 11, 12] _ _ _ _
  obtain ⟨o, hi⟩ : ∃ o, T[i]? = some o := ⟨_, List.getElem?_eq_getElem (by omega)⟩
  obtain ⟨b0, o0, rfl⟩ := hh11.get (by omega)
  have hun := hfl o.entry.pair
  refine Sq.quiet (i := 0) rfl (Want.none rfl) rfl (ltN rfl) (QP.move rfl rfl).read ?_
  refine Sq.quiet (i := 1) rfl (Want.none rfl) rfl (ltN rfl) (QP.move rfl rfl).read ?_
  refine Sq.quiet (i := 2) rfl (Want.none rfl) rfl (ltN rfl) (QP.move rfl rfl).read ?_
  refine Sq.quiet (i := 3) rfl (Want.none rfl) rfl (ltN rfl) (QP.indexAddr rfl rfl rfl Try.underlying82 z43 (by first | omega | (simp <;> omega)) (by first | omega | (simp <;> omega))).read ?_
  refine Sq.quiet (i := 4) rfl (Want.none rfl) rfl (ltN rfl) (QP.fieldAddr rfl rfl f43_1).read ?_
  refine Sq.quiet (i := 5) rfl (Want.none rfl) rfl (ltN rfl) (QP.fieldAddr rfl rfl f41_0).read ?_
  refine Sq.quiet (i := 6) rfl (Want.none rfl) rfl (ltN rfl) (QR.loadSlF rfl rfl g39 Op.enc_len (SlAt.own Op.enc_len (by repeat constructor)) hi ((Op.sub_entry _).trans (Entry.sub_pair _))) ?_
  refine Sq.eff (i := 7) rfl (Want.none rfl) rfl (ltN rfl) (EF.call rfl ce47 rfl (.cons (by repeat constructor) (.cons (by repeat constructor) Takes.nil)) (fun F' hle hr => until_spec F' hhf hFl o.entry.pair)) ?_
  rintro _ _ ⟨_, ⟨rfl, rfl⟩, rfl⟩
  refine J.app ?_
  refine Sq.quiet (i := 8) rfl (Want.none rfl) rfl (ltN rfl) (QP.move rfl rfl).read ?_
  refine Sq.quiet (i := 9) rfl (Want.none rfl) rfl (ltN rfl) (QP.extract rfl rfl rfl).read ?_
  refine Sq.quiet (i := 10) rfl (Want.none rfl) rfl (ltN rfl) (QP.extract rfl rfl rfl).read ?_
  refine J.caseB (fun c35 => ?_) (fun c35 => ?_)
  ·skip
   refine Sq.quiet (i := 11) rfl (Want.none rfl) rfl (ltN rfl) (QP.assign rfl rfl).read ?_
   refine Sq.quiet (i := 12) rfl (Want.none rfl) rfl (ltN rfl) (QP.assign rfl rfl).read ?_
   refine Sq.nil ?_
   refine hk9 _ _ ?_
   refine Run.seq fun k10 hk10 => ?_
   refine Run.region ?_
   show Sq _ _ _ [0, 1, 2, 3, 4, 5, 6] _ _ _ _
   refine Sq.quiet (i := 0) rfl (Want.none rfl) rfl (ltN rfl) (QP.move rfl rfl).read ?_
   refine Sq.quiet (i := 1) rfl (Want.none rfl) rfl (ltN rfl) (QP.not rfl rfl).read ?_
   refine Sq.quiet (i := 2) rfl (Want.none rfl) rfl (ltN rfl) (QP.move rfl rfl).read ?_
   refine Sq.quiet (i := 3) rfl (Want.yes rfl rfl rfl rfl) rfl (ltN rfl) (QP.move rfl rfl).read ?_
   refine Sq.quiet (i := 4) rfl (Want.yes rfl rfl rfl rfl) rfl (ltN rfl) (QP.move rfl rfl).read ?_
   refine Sq.quiet (i := 5) rfl (Want.yes rfl rfl rfl rfl) rfl (ltN rfl) (QP.leq rfl rfl rfl).read ?_
   refine J.caseD (fun c41 => ?_) (fun c41 => ?_)
   ·skip
    refine Sq.quiet (i := 6) rfl (Want.none rfl) rfl (ltN rfl) (QP.pick_f rfl rfl rfl).read ?_
    refine Sq.nil ?_
    refine hk10 _ _ ?_
    refine Run.cond_t rfl ?_
    refine Run.seq fun k11 hk11 => ?_
    refine Run.region ?_
    show Sq _ _ _ [0, 1, 2, 3, 4, 5, 6, 7] _ _ _ _
    refine Sq.quiet (i := 0) rfl (Want.none rfl) rfl (ltN rfl) (QP.move rfl rfl).read ?_
    refine Sq.quiet (i := 1) rfl (Want.none rfl) rfl (ltN rfl) (QP.move rfl rfl).read ?_
    refine Sq.quiet (i := 2) rfl (Want.none rfl) rfl (ltN rfl) (QP.move rfl rfl).read ?_
    refine Sq.quiet (i := 3) rfl (Want.none rfl) rfl (ltN rfl) (QP.indexAddr rfl rfl rfl Try.underlying82 z43 (by first | omega | (simp <;> omega)) (by first | omega | (simp <;> omega))).read ?_
    refine Sq.quiet (i := 4) rfl (Want.none rfl) rfl (ltN rfl) (QR.loadSl rfl rfl g43 Op.enc_len (SlAt.own Op.enc_len (by repeat constructor)) hi) ?_
    refine Sq.quiet (i := 5) rfl (Want.none rfl) rfl (ltN rfl) (QP.nilCheck rfl rfl).read ?_
    refine Sq.quiet (i := 6) rfl (Want.none rfl) rfl (ltN rfl) (QP.fieldAddr rfl rfl f45_3).read ?_
    refine Sq.act (i := 7) rfl (Want.none rfl) rfl (EF.storeA rfl rfl rfl z43 (Ref19Fib.set_way _ _) (Op.enc_cell _)) ?_
    rintro _ _ rfl
    refine Sq.nil ?_
    refine hk11 _ _ ?_
    refine Run.seq fun k12 hk12 => ?_
    refine Run.region ?_
    show Sq _ _ _ [0, 1, 2, 3] _ _ _ _
    refine Sq.quiet (i := 0) rfl (Want.none rfl) rfl (ltN rfl) (QP.move rfl rfl).read ?_
    refine Sq.quiet (i := 1) rfl (Want.none rfl) rfl (ltN rfl) (QP.nilCheck rfl rfl).read ?_
    refine Sq.quiet (i := 2) rfl (Want.none rfl) rfl (ltN rfl) (QP.fieldAddr rfl rfl f45_4).read ?_
    refine Sq.act (i := 3) rfl (Want.none rfl) rfl (EF.store rfl rfl rfl z4 (Ref19Fib.set_busy _ _) (cell_one rfl)) ?_
    rintro _ _ rfl
    refine Sq.nil ?_
    refine hk12 _ _ ?_
    refine Run.seq fun k13 hk13 => ?_
    refine Run.region ?_
    show Sq _ _ _ [0, 1, 2, 3, 4, 5] _ _ _ _
    refine Sq.quiet (i := 0) rfl (Want.none rfl) rfl (ltN rfl) (QP.move rfl rfl).read ?_
    refine Sq.quiet (i := 1) rfl (Want.none rfl) rfl (ltN rfl) (QP.move rfl rfl).read ?_
    refine Sq.quiet (i := 2) rfl (Want.none rfl) rfl (ltN rfl) (QP.indexAddr rfl rfl rfl Try.underlying82 z43 (by first | omega | (simp <;> omega)) (by first | omega | (simp <;> omega))).read ?_
    refine Sq.quiet (i := 3) rfl (Want.none rfl) rfl (ltN rfl) (QR.loadSl rfl rfl g43 Op.enc_len (SlAt.own Op.enc_len (by repeat constructor)) hi) ?_
    refine Sq.act (i := 4) rfl (Want.none rfl) rfl (EF.storeA rfl rfl rfl z43 (SetL.all (Op.enc_len _) (Op.enc_len _)) (Op.enc_cell _)) ?_
    rintro _ _ rfl
    refine Sq.quiet (i := 5) rfl (Want.none rfl) rfl (ltN rfl) (QP.assign rfl rfl).read ?_
    refine Sq.nil ?_
    refine hk13 _ _ ?_
    refine Run.ret ?_
    exact J.ends (res_cell2 rfl rfl g43 (Op.enc_sub _) rfl) (.cons (by repeat constructor) (.cons (by repeat constructor) (.cons (by repeat constructor) (.cons (by repeat constructor) Takes.nil)))) (.inr ⟨o, find_at hi hno (by unfold dueB; rw [← hun, c35, decide_eq_true c41]; rfl), rfl, rfl⟩)
   ·skip
    refine Sq.quiet (i := 6) rfl (Want.none rfl) rfl (ltN rfl) (QP.pick_f rfl rfl rfl).read ?_
    refine Sq.nil ?_
    refine hk10 _ _ ?_
    refine Run.cond_f rfl ?_
    refine Run.skip ?_
    refine hk8 _ _ ?_
    refine Run.region ?_
    show Sq _ _ _ [0, 1, 2] _ _ _ _
    have hnd : dueB Fl now o = false := by unfold dueB; rw [← hun, c35, decide_eq_false c41]; rfl
    refine Sq.quiet (i := 0) rfl (Want.none rfl) rfl (ltN rfl) (QP.move rfl rfl).read ?_
    refine Sq.quiet (i := 1) rfl (Want.none rfl) rfl (ltN rfl) (QP.add64 rfl rfl rfl (by first | omega | (simp <;> omega)) (by first | omega | (simp <;> omega))).read ?_
    refine Sq.quiet (i := 2) rfl (Want.none rfl) rfl (ltN rfl) (QP.assign rfl rfl).read ?_
    refine Sq.nil ?_
    exact J.envJ (J.keep (.cons (by repeat constructor) (.cons (by repeat constructor) (.cons (by repeat constructor) (.cons (by repeat constructor) (.cons (by repeat constructor) (.cons (by repeat constructor) Takes.nil)))))) (hl5 (i + 1) (⟨by omega, not_due_take hi hno hnd⟩) (by omega))) ⟨rfl, rfl, rfl, rfl, rfl, trivial⟩
  ·skip
   refine Sq.quiet (i := 11) rfl (Want.none rfl) rfl (ltN rfl) (QP.assign rfl rfl).read ?_
   refine Sq.quiet (i := 12) rfl (Want.none rfl) rfl (ltN rfl) (QP.assign rfl rfl).read ?_
   refine Sq.nil ?_
   refine hk9 _ _ ?_
   refine Run.seq fun k14 hk14 => ?_
   refine Run.region ?_
   show Sq _ _ _ [0, 1, 2, 3, 4, 5, 6] _ _ _ _
   refine Sq.quiet (i := 0) rfl (Want.none rfl) rfl (ltN rfl) (QP.move rfl rfl).read ?_
   refine Sq.quiet (i := 1) rfl (Want.none rfl) rfl (ltN rfl) (QP.not rfl rfl).read ?_
   refine Sq.quiet (i := 2) rfl (Want.none rfl) rfl (ltN rfl) (QP.move rfl rfl).read ?_
   refine Sq.skip (i := 3) rfl (Want.no rfl rfl rfl rfl) rfl (ltN rfl) ?_
   refine Sq.skip (i := 4) rfl (Want.no rfl rfl rfl rfl) rfl (ltN rfl) ?_
   refine Sq.skip (i := 5) rfl (Want.no rfl rfl rfl rfl) rfl (ltN rfl) ?_
   refine Sq.quiet (i := 6) rfl (Want.none rfl) rfl (ltN rfl) (QP.pick_t rfl rfl rfl).read ?_
   refine Sq.nil ?_
   refine hk14 _ _ ?_
   refine Run.cond_t rfl ?_
   refine Run.seq fun k15 hk15 => ?_
   refine Run.region ?_
   show Sq _ _ _ [0, 1, 2, 3, 4, 5, 6, 7] _ _ _ _
   refine Sq.quiet (i := 0) rfl (Want.none rfl) rfl (ltN rfl) (QP.move rfl rfl).read ?_
   refine Sq.quiet (i := 1) rfl (Want.none rfl) rfl (ltN rfl) (QP.move rfl rfl).read ?_
   refine Sq.quiet (i := 2) rfl (Want.none rfl) rfl (ltN rfl) (QP.move rfl rfl).read ?_
   refine Sq.quiet (i := 3) rfl (Want.none rfl) rfl (ltN rfl) (QP.indexAddr rfl rfl rfl Try.underlying82 z43 (by first | omega | (simp <;> omega)) (by first | omega | (simp <;> omega))).read ?_
   refine Sq.quiet (i := 4) rfl (Want.none rfl) rfl (ltN rfl) (QR.loadSl rfl rfl g43 Op.enc_len (SlAt.own Op.enc_len (by repeat constructor)) hi) ?_
   refine Sq.quiet (i := 5) rfl (Want.none rfl) rfl (ltN rfl) (QP.nilCheck rfl rfl).read ?_
   refine Sq.quiet (i := 6) rfl (Want.none rfl) rfl (ltN rfl) (QP.fieldAddr rfl rfl f45_3).read ?_
   refine Sq.act (i := 7) rfl (Want.none rfl) rfl (EF.storeA rfl rfl rfl z43 (Ref19Fib.set_way _ _) (Op.enc_cell _)) ?_
   rintro _ _ rfl
   refine Sq.nil ?_
   refine hk15 _ _ ?_
   refine Run.seq fun k16 hk16 => ?_
   refine Run.region ?_
   show Sq _ _ _ [0, 1, 2, 3] _ _ _ _
   refine Sq.quiet (i := 0) rfl (Want.none rfl) rfl (ltN rfl) (QP.move rfl rfl).read ?_
   refine Sq.quiet (i := 1) rfl (Want.none rfl) rfl (ltN rfl) (QP.nilCheck rfl rfl).read ?_
   refine Sq.quiet (i := 2) rfl (Want.none rfl) rfl (ltN rfl) (QP.fieldAddr rfl rfl f45_4).read ?_
   refine Sq.act (i := 3) rfl (Want.none rfl) rfl (EF.store rfl rfl rfl z4 (Ref19Fib.set_busy _ _) (cell_one rfl)) ?_
   rintro _ _ rfl
   refine Sq.nil ?_
   refine hk16 _ _ ?_
   refine Run.seq fun k17 hk17 => ?_
   refine Run.region ?_
   show Sq _ _ _ [0, 1, 2, 3, 4, 5] _ _ _ _
   refine Sq.quiet (i := 0) rfl (Want.none rfl) rfl (ltN rfl) (QP.move rfl rfl).read ?_
   refine Sq.quiet (i := 1) rfl (Want.none rfl) rfl (ltN rfl) (QP.move rfl rfl).read ?_
   refine Sq.quiet (i := 2) rfl (Want.none rfl) rfl (ltN rfl) (QP.indexAddr rfl rfl rfl Try.underlying82 z43 (by first | omega | (simp <;> omega)) (by first | omega | (simp <;> omega))).read ?_
   refine Sq.quiet (i := 3) rfl (Want.none rfl) rfl (ltN rfl) (QR.loadSl rfl rfl g43 Op.enc_len (SlAt.own Op.enc_len (by repeat constructor)) hi) ?_
   refine Sq.act (i := 4) rfl (Want.none rfl) rfl (EF.storeA rfl rfl rfl z43 (SetL.all (Op.enc_len _) (Op.enc_len _)) (Op.enc_cell _)) ?_
   rintro _ _ rfl
   refine Sq.quiet (i := 5) rfl (Want.none rfl) rfl (ltN rfl) (QP.assign rfl rfl).read ?_
   refine Sq.nil ?_
   refine hk17 _ _ ?_
   refine Run.ret ?_
   exact J.ends (res_cell2 rfl rfl g43 (Op.enc_sub _) rfl) (.cons (by repeat constructor) (.cons (by repeat constructor) (.cons (by repeat constructor) (.cons (by repeat constructor) Takes.nil)))) (.inr ⟨o, find_at hi hno (by unfold dueB; rw [← hun, c35]; rfl), rfl, rfl⟩)
 ·skip
  refine Sq.quiet (i := 4) rfl (Want.none rfl) rfl (ltN rfl) (QP.move rfl rfl).read ?_
  refine Sq.skip (i := 5) rfl (Want.no rfl rfl rfl rfl) rfl (ltN rfl) ?_
  refine Sq.skip (i := 6) rfl (Want.no rfl rfl rfl rfl) rfl (ltN rfl) ?_
  refine Sq.skip (i := 7) rfl (Want.no rfl rfl rfl rfl) rfl (ltN rfl) ?_
  refine Sq.skip (i := 8) rfl (Want.no rfl rfl rfl rfl) rfl (ltN rfl) ?_
  refine Sq.skip (i := 9) rfl (Want.no rfl rfl rfl rfl) rfl (ltN rfl) ?_
  refine Sq.quiet (i := 10) rfl (Want.none rfl) rfl (ltN rfl) (QP.pick_f rfl rfl rfl).read ?_
  refine Sq.nil ?_
  refine hk7 _ _ ?_
  refine Run.cond_f rfl ?_
  refine Run.exit rfl ?_
  refine hk3 _ _ ?_
  refine Run.seq fun k18 hk18 => ?_
  refine Run.region ?_
  show Sq _ _ _ [0, 1, 2] _ _ _ _
  refine Sq.quiet (i := 0) rfl (Want.none rfl) rfl (ltN rfl) (QP.build (l := Op.enc Op.zero) rfl st43 rfl (by exact trivial) rfl).read ?_
  refine Sq.act (i := 1) rfl (Want.none rfl) rfl (EF.storeA rfl rfl rfl z43 (SetL.all (Op.enc_len _) (Op.enc_len _)) (Op.enc_cell _)) ?_
  rintro _ _ rfl
  refine Sq.quiet (i := 2) rfl (Want.none rfl) rfl (ltN rfl) (QP.assign rfl rfl).read ?_
  refine Sq.nil ?_
  refine hk18 _ _ ?_
  refine Run.ret ?_
  exact J.ends (res_cell2 rfl rfl g43 (Op.enc_sub _) rfl) (.cons (by repeat constructor) (.cons (by repeat constructor) (.cons (by repeat constructor) (.cons (by repeat constructor) Takes.nil)))) (.inl ⟨find_no (by rw [show T.take i = T from List.take_of_length_le (by omega)] at hno; exact hno), rfl, rfl⟩)

theorem rnext_busy (F : Fr) {b : Nat} {ah aw af : Option Addr} {ch cw cf : Nat} {LH LW : List Entry} {Fs : List Ref19Wait} {way : Op} {busy : Bool} {H Wt : TabE} {Fl : TabI} (hoH : OrdE H LH) (hoW : OrdE Wt LW) (hhh : SlH ah ch LH) (hhw : SlH aw cw LW) (hhf : SlH af cf Fs) (hlH : LH.length ≤ 100000) (hlW : LW.length ≤ 600000) (hFl : Fs.length ≤ 1000000) (hfl : ∀ p, untilL Fs p = alook Fl p) (now : Int)  : Spec Try.prog 19 #[.pointer (some ⟨b, 0, none⟩), .int .i64 now] [blk b (Ref19Fib.enc ⟨⟨ah, LH.length, ch⟩, ⟨aw, LW.length, cw⟩, ⟨af, Fs.length, cf⟩, way, true⟩) 45, slA 41 51 Entry.enc (.slice ah LH.length ch) LH, slA 41 51 Entry.enc (.slice aw LW.length cw) LW, slA 86 35 Ref19Wait.enc (.slice af Fs.length cf) Fs] F (fun v S => v = .tuple #[.agg (Op.enc Op.zero).toArray, .bool false] ∧ S = [blk b (Ref19Fib.enc ⟨⟨ah, LH.length, ch⟩, ⟨aw, LW.length, cw⟩, ⟨af, Fs.length, cf⟩, way, true⟩) 45, slA 41 51 Entry.enc (.slice ah LH.length ch) LH, slA 41 51 Entry.enc (.slice aw LW.length cw) LW, slA 86 35 Ref19Wait.enc (.slice af Fs.length cf) Fs]) := by
 refine Spec.intro (N := 58) (args := [.pointer (some ⟨b, 0, none⟩), .int .i64 now]) Try.func19 rfl rfl (by simp) ?_
 refine Run.seq fun k1 hk1 => ?_
 refine Run.region ?_
 show Sq _ _ _ [0, 1] _ _ _ _
 refine Sq.eff (i := 0) rfl (Want.none rfl) rfl (ltN rfl) (EF.allocA (l := Op.enc Op.zero) rfl zero43) ?_
 rintro _ _ ⟨b4, rfl, rfl⟩
 refine Sq.quiet (i := 1) rfl (Want.none rfl) rfl (ltN rfl) (QP.assign rfl rfl).read ?_
 refine Sq.nil ?_
 refine hk1 _ _ ?_
 refine Run.seq fun k2 hk2 => ?_
 refine Run.region ?_
 show Sq _ _ _ [0, 1, 2] _ _ _ _
 refine Sq.quiet (i := 0) rfl (Want.none rfl) rfl (ltN rfl) (QP.move rfl rfl).read ?_
 refine Sq.eff (i := 1) rfl (Want.none rfl) rfl (ltN rfl) (EF.call rfl ce46 rfl (.cons (by repeat constructor) (.cons (by repeat constructor) (.cons (by repeat constructor) Takes.nil))) (fun F' hle hr => rtodo_spec F' hoH hoW hhh hhw hlH hlW)) ?_
 rintro v11 _ ⟨_, rfl, rfl⟩
 refine J.app ?_
 refine Sq.slCase (v := v11) (xs := (todoL H Wt LH LW)) (by repeat constructor) (fun a11 c11 hv11 hh11 => ?_)
 subst hv11
 have htl := @todo_len H Wt LH LW
 generalize hT : todoL H Wt LH LW = T at *
 refine Sq.quiet (i := 2) rfl (Want.none rfl) rfl (ltN rfl) (QP.assign rfl rfl).read ?_
 refine Sq.nil ?_
 refine hk2 _ _ ?_
 refine Run.seq fun k3 hk3 => ?_
 refine Run.seq fun k4 hk4 => ?_
 refine Run.region ?_
 show Sq _ _ _ [0] _ _ _ _
 refine Sq.quiet (i := 0) rfl (Want.none rfl) rfl (ltN rfl) (QP.assign rfl rfl).read ?_
 refine Sq.nil ?_
 refine hk4 _ _ ?_
 refine Run.block ?_
 refine Run.loop1 (fun (u : Unit) => True) (fun u => .cons 0 (.pointer (some ⟨b, 0, none⟩)) (.cons 1 (.int .i64 now) (.cons 4 (.pointer (some ⟨b4, 0, none⟩)) (.cons 6 (.slice a11 T.length c11) (.cons 7 (.int .i64 0) (.nil)))))) (fun u => [blk b (Ref19Fib.enc ⟨⟨ah, LH.length, ch⟩, ⟨aw, LW.length, cw⟩, ⟨af, Fs.length, cf⟩, way, true⟩) 45, slA 41 51 Entry.enc (.slice ah LH.length ch) LH, slA 41 51 Entry.enc (.slice aw LW.length cw) LW, slA 86 35 Ref19Wait.enc (.slice af Fs.length cf) Fs, blk b4 (Op.enc Op.zero) 43, slA 43 52 Op.enc (.slice a11 T.length c11) T]) (fun u => 0) (()) (trivial) ?_ ?_
 ·exact fun _ j => J.envJ (J.keep (.cons (by repeat constructor) (.cons (by repeat constructor) (.cons (by repeat constructor) (.cons (by repeat constructor) (.cons (by repeat constructor) (.cons (by repeat constructor) Takes.nil)))))) j) ⟨rfl, rfl, rfl, rfl, rfl, trivial⟩
 rintro u _ kl5 hl5
 refine Run.seq fun k6 hk6 => ?_
 refine Run.seq fun k7 hk7 => ?_
 refine Run.region ?_
 show Sq _ _ _ [0, 1, 2, 3, 4, 5, 6, 7, 8, 9, 10] _ _ _ _
 refine Sq.quiet (i := 0) rfl (Want.none rfl) rfl (ltN rfl) (QP.move rfl rfl).read ?_
 refine Sq.quiet (i := 1) rfl (Want.none rfl) rfl (ltN rfl) (QP.move rfl rfl).read ?_
 refine Sq.quiet (i := 2) rfl (Want.none rfl) rfl (ltN rfl) (QP.len rfl rfl rfl Try.underlying82).read ?_
 refine Sq.quiet (i := 3) rfl (Want.none rfl) rfl (ltN rfl) (QP.lss rfl rfl rfl).read ?_
 refine J.caseD (fun c15 => ?_) (fun c15 => ?_)
 ·skip
  refine Sq.quiet (i := 4) rfl (Want.none rfl) rfl (ltN rfl) (QP.move rfl rfl).read ?_
  refine Sq.quiet (i := 5) rfl (Want.yes rfl rfl rfl rfl) rfl (ltN rfl) (QP.move rfl rfl).read ?_
  refine Sq.quiet (i := 6) rfl (Want.yes rfl rfl rfl rfl) rfl (ltN rfl) (QP.nilCheck rfl rfl).read ?_
  refine Sq.quiet (i := 7) rfl (Want.yes rfl rfl rfl rfl) rfl (ltN rfl) (QP.fieldAddr rfl rfl f45_4).read ?_
  refine Sq.quiet (i := 8) rfl (Want.yes rfl rfl rfl rfl) rfl (ltN rfl) (QR.load1 rfl rfl g4 (Ref19Fib.sub_busy _)) ?_
  refine J.boolT (rfl) ?_
  refine Sq.quiet (i := 9) rfl (Want.yes rfl rfl rfl rfl) rfl (ltN rfl) (QP.not rfl rfl).read ?_
  refine Sq.quiet (i := 10) rfl (Want.none rfl) rfl (ltN rfl) (QP.pick_t rfl rfl rfl).read ?_
  refine Sq.nil ?_
  refine hk7 _ _ ?_
  refine Run.cond_f rfl ?_
  refine Run.exit rfl ?_
  refine hk3 _ _ ?_
  refine Run.seq fun k8 hk8 => ?_
  refine Run.region ?_
  show Sq _ _ _ [0, 1, 2] _ _ _ _
  refine Sq.quiet (i := 0) rfl (Want.none rfl) rfl (ltN rfl) (QP.build (l := Op.enc Op.zero) rfl st43 rfl (by exact trivial) rfl).read ?_
  refine Sq.act (i := 1) rfl (Want.none rfl) rfl (EF.storeA rfl rfl rfl z43 (SetL.all (Op.enc_len _) (Op.enc_len _)) (Op.enc_cell _)) ?_
  rintro _ _ rfl
  refine Sq.quiet (i := 2) rfl (Want.none rfl) rfl (ltN rfl) (QP.assign rfl rfl).read ?_
  refine Sq.nil ?_
  refine hk8 _ _ ?_
  refine Run.ret ?_
  exact J.ends (res_cell2 rfl rfl g43 (Op.enc_sub _) rfl) (.cons (by repeat constructor) (.cons (by repeat constructor) (.cons (by repeat constructor) (.cons (by repeat constructor) Takes.nil)))) ⟨rfl, rfl⟩
 ·skip
  refine Sq.quiet (i := 4) rfl (Want.none rfl) rfl (ltN rfl) (QP.move rfl rfl).read ?_
  refine Sq.skip (i := 5) rfl (Want.no rfl rfl rfl rfl) rfl (ltN rfl) ?_
  refine Sq.skip (i := 6) rfl (Want.no rfl rfl rfl rfl) rfl (ltN rfl) ?_
  refine Sq.skip (i := 7) rfl (Want.no rfl rfl rfl rfl) rfl (ltN rfl) ?_
  refine Sq.skip (i := 8) rfl (Want.no rfl rfl rfl rfl) rfl (ltN rfl) ?_
  refine Sq.skip (i := 9) rfl (Want.no rfl rfl rfl rfl) rfl (ltN rfl) ?_
  refine Sq.quiet (i := 10) rfl (Want.none rfl) rfl (ltN rfl) (QP.pick_f rfl rfl rfl).read ?_
  refine Sq.nil ?_
  refine hk7 _ _ ?_
  refine Run.cond_f rfl ?_
  refine Run.exit rfl ?_
  refine hk3 _ _ ?_
  refine Run.seq fun k9 hk9 => ?_
  refine Run.region ?_
  show Sq _ _ _ [0, 1, 2] _ _ _ _
  refine Sq.quiet (i := 0) rfl (Want.none rfl) rfl (ltN rfl) (QP.build (l := Op.enc Op.zero) rfl st43 rfl (by exact trivial) rfl).read ?_
  refine Sq.act (i := 1) rfl (Want.none rfl) rfl (EF.storeA rfl rfl rfl z43 (SetL.all (Op.enc_len _) (Op.enc_len _)) (Op.enc_cell _)) ?_
  rintro _ _ rfl
  refine Sq.quiet (i := 2) rfl (Want.none rfl) rfl (ltN rfl) (QP.assign rfl rfl).read ?_
  refine Sq.nil ?_
  refine hk9 _ _ ?_
  refine Run.ret ?_
  exact J.ends (res_cell2 rfl rfl g43 (Op.enc_sub _) rfl) (.cons (by repeat constructor) (.cons (by repeat constructor) (.cons (by repeat constructor) (.cons (by repeat constructor) Takes.nil)))) ⟨rfl, rfl⟩

theorem rat_spec (F : Fr) {b : Nat} {ah aw af : Option Addr} {ch cw cf : Nat} {LH LW : List Entry} {Fs : List Ref19Wait} {way : Op} {busy : Bool} {H Wt : TabE} {Fl : TabI} (hoH : OrdE H LH) (hoW : OrdE Wt LW) (hhh : SlH ah ch LH) (hhw : SlH aw cw LW) (hhf : SlH af cf Fs) (hlH : LH.length ≤ 100000) (hlW : LW.length ≤ 600000) (hFl : Fs.length ≤ 1000000) (hfl : ∀ p, untilL Fs p = alook Fl p)  : Spec Try.prog 24 #[.pointer (some ⟨b, 0, none⟩)] [blk b (Ref19Fib.enc ⟨⟨ah, LH.length, ch⟩, ⟨aw, LW.length, cw⟩, ⟨af, Fs.length, cf⟩, way, busy⟩) 45, slA 41 51 Entry.enc (.slice ah LH.length ch) LH, slA 41 51 Entry.enc (.slice aw LW.length cw) LW, slA 86 35 Ref19Wait.enc (.slice af Fs.length cf) Fs] F (fun v S => v = .tuple #[.int .i64 ((todoL H Wt LH LW).foldl (astep Fl) (0, false)).1, .bool ((todoL H Wt LH LW).foldl (astep Fl) (0, false)).2] ∧ S = [blk b (Ref19Fib.enc ⟨⟨ah, LH.length, ch⟩, ⟨aw, LW.length, cw⟩, ⟨af, Fs.length, cf⟩, way, busy⟩) 45, slA 41 51 Entry.enc (.slice ah LH.length ch) LH, slA 41 51 Entry.enc (.slice aw LW.length cw) LW, slA 86 35 Ref19Wait.enc (.slice af Fs.length cf) Fs]) := by
 refine Spec.intro (N := 42) (args := [.pointer (some ⟨b, 0, none⟩)]) Try.func24 rfl rfl (by simp) ?_
 refine Run.seq fun k1 hk1 => ?_
 refine Run.region ?_
 show Sq _ _ _ [0, 1] _ _ _ _
 refine Sq.quiet (i := 0) rfl (Want.none rfl) rfl (ltN rfl) (QP.assign rfl rfl).read ?_
 refine Sq.quiet (i := 1) rfl (Want.none rfl) rfl (ltN rfl) (QP.assign rfl rfl).read ?_
 refine Sq.nil ?_
 refine hk1 _ _ ?_
 refine Run.seq fun k2 hk2 => ?_
 refine Run.region ?_
 show Sq _ _ _ [0, 1] _ _ _ _
 refine Sq.quiet (i := 0) rfl (Want.none rfl) rfl (ltN rfl) (QP.assign rfl rfl).read ?_
 refine Sq.quiet (i := 1) rfl (Want.none rfl) rfl (ltN rfl) (QP.assign rfl rfl).read ?_
 refine Sq.nil ?_
 refine hk2 _ _ ?_
 refine Run.seq fun k3 hk3 => ?_
 refine Run.region ?_
 show Sq _ _ _ [0, 1, 2] _ _ _ _
 refine Sq.quiet (i := 0) rfl (Want.none rfl) rfl (ltN rfl) (QP.move rfl rfl).read ?_
 refine Sq.eff (i := 1) rfl (Want.none rfl) rfl (ltN rfl) (EF.call rfl ce46 rfl (.cons (by repeat constructor) (.cons (by repeat constructor) (.cons (by repeat constructor) Takes.nil))) (fun F' hle hr => rtodo_spec F' hoH hoW hhh hhw hlH hlW)) ?_
 rintro v11 _ ⟨_, rfl, rfl⟩
 refine J.app ?_
 refine Sq.slCase (v := v11) (xs := (todoL H Wt LH LW)) (by repeat constructor) (fun a11 c11 hv11 hh11 => ?_)
 subst hv11
 have htl := @todo_len H Wt LH LW
 generalize hT : todoL H Wt LH LW = T at *
 refine Sq.quiet (i := 2) rfl (Want.none rfl) rfl (ltN rfl) (QP.assign rfl rfl).read ?_
 refine Sq.nil ?_
 refine hk3 _ _ ?_
 refine Run.seq fun k4 hk4 => ?_
 refine Run.seq fun k5 hk5 => ?_
 refine Run.region ?_
 show Sq _ _ _ [0] _ _ _ _
 refine Sq.quiet (i := 0) rfl (Want.none rfl) rfl (ltN rfl) (QP.assign rfl rfl).read ?_
 refine Sq.nil ?_
 refine hk5 _ _ ?_
 refine Run.block ?_
 refine Run.loop2 (fun (i : Nat) (r : Int × Bool) => i ≤ T.length ∧ r = (T.take i).foldl (astep Fl) (0, false)) (fun i r => .cons 0 (.pointer (some ⟨b, 0, none⟩)) (.cons 4 (.int .i64 r.1) (.cons 5 (.bool r.2) (.cons 6 (.slice a11 T.length c11) (.cons 7 (.int .i64 i) (.nil)))))) (fun i r => [blk b (Ref19Fib.enc ⟨⟨ah, LH.length, ch⟩, ⟨aw, LW.length, cw⟩, ⟨af, Fs.length, cf⟩, way, busy⟩) 45, slA 41 51 Entry.enc (.slice ah LH.length ch) LH, slA 41 51 Entry.enc (.slice aw LW.length cw) LW, slA 86 35 Ref19Wait.enc (.slice af Fs.length cf) Fs, slA 43 52 Op.enc (.slice a11 T.length c11) T]) (fun i r => T.length - i) (0) ((0, false)) (⟨Nat.zero_le _, rfl⟩) ?_ ?_
 ·exact fun _ j => J.envJ (J.keep (.cons (by repeat constructor) (.cons (by repeat constructor) (.cons (by repeat constructor) (.cons (by repeat constructor) (.cons (by repeat constructor) Takes.nil))))) j) ⟨rfl, rfl, rfl, rfl, rfl, trivial⟩
 rintro i r ⟨hile, hrr⟩ kl6 hl6
 refine Run.seq fun k7 hk7 => ?_
 refine Run.seq fun k8 hk8 => ?_
 refine Run.region ?_
 show Sq _ _ _ [0, 1, 2, 3] _ _ _ _
 refine Sq.quiet (i := 0) rfl (Want.none rfl) rfl (ltN rfl) (QP.move rfl rfl).read ?_
 refine Sq.quiet (i := 1) rfl (Want.none rfl) rfl (ltN rfl) (QP.move rfl rfl).read ?_
 refine Sq.quiet (i := 2) rfl (Want.none rfl) rfl (ltN rfl) (QP.len rfl rfl rfl Try.underlying82).read ?_
 refine Sq.quiet (i := 3) rfl (Want.none rfl) rfl (ltN rfl) (QP.lss rfl rfl rfl).read ?_
 refine J.caseD (fun c15 => ?_) (fun c15 => ?_)
 ·skip
  refine Sq.nil ?_
  refine hk8 _ _ ?_
  refine Run.cond_t rfl ?_
  refine Run.skip ?_
  refine hk7 _ _ ?_
  refine Run.seq fun k9 hk9 => ?_
  refine Run.block ?_
  refine Run.seq fun k10 hk10 => ?_
  refine Run.region ?_
  show Sq _ _ _ [0, 1, 2, 3, 4, 5, 6, 7, 8, 9, 10, 11, 12] _ _ _ _
  obtain ⟨o, hi⟩ : ∃ o, T[i]? = some o := ⟨_, List.getElem?_eq_getElem (by omega)⟩
  obtain ⟨b0, o0, rfl⟩ := hh11.get (by omega)
  have hun := hfl o.entry.pair
  have hsu : (T.take (i + 1)).foldl (astep Fl) (0, false) = astep Fl ((T.take i).foldl (astep Fl) (0, false)) o := by rw [List.take_add_one, hi, Option.toList_some, List.foldl_append]; rfl
  refine Sq.quiet (i := 0) rfl (Want.none rfl) rfl (ltN rfl) (QP.move rfl rfl).read ?_
  refine Sq.quiet (i := 1) rfl (Want.none rfl) rfl (ltN rfl) (QP.move rfl rfl).read ?_
  refine Sq.quiet (i := 2) rfl (Want.none rfl) rfl (ltN rfl) (QP.move rfl rfl).read ?_
  refine Sq.quiet (i := 3) rfl (Want.none rfl) rfl (ltN rfl) (QP.indexAddr rfl rfl rfl Try.underlying82 z43 (by first | omega | (simp <;> omega)) (by first | omega | (simp <;> omega))).read ?_
  refine Sq.quiet (i := 4) rfl (Want.none rfl) rfl (ltN rfl) (QP.fieldAddr rfl rfl f43_1).read ?_
  refine Sq.quiet (i := 5) rfl (Want.none rfl) rfl (ltN rfl) (QP.fieldAddr rfl rfl f41_0).read ?_
  refine Sq.quiet (i := 6) rfl (Want.none rfl) rfl (ltN rfl) (QR.loadSlF rfl rfl g39 Op.enc_len (SlAt.own Op.enc_len (by repeat constructor)) hi ((Op.sub_entry _).trans (Entry.sub_pair _))) ?_
  refine Sq.eff (i := 7) rfl (Want.none rfl) rfl (ltN rfl) (EF.call rfl ce47 rfl (.cons (by repeat constructor) (.cons (by repeat constructor) Takes.nil)) (fun F' hle hr => until_spec F' hhf hFl o.entry.pair)) ?_
  rintro _ _ ⟨_, ⟨rfl, rfl⟩, rfl⟩
  refine J.app ?_
  refine Sq.quiet (i := 8) rfl (Want.none rfl) rfl (ltN rfl) (QP.move rfl rfl).read ?_
  refine Sq.quiet (i := 9) rfl (Want.none rfl) rfl (ltN rfl) (QP.extract rfl rfl rfl).read ?_
  refine Sq.quiet (i := 10) rfl (Want.none rfl) rfl (ltN rfl) (QP.extract rfl rfl rfl).read ?_
  refine J.caseB (fun c28 => ?_) (fun c28 => ?_)
  ·skip
   refine Sq.quiet (i := 11) rfl (Want.none rfl) rfl (ltN rfl) (QP.assign rfl rfl).read ?_
   refine Sq.quiet (i := 12) rfl (Want.none rfl) rfl (ltN rfl) (QP.assign rfl rfl).read ?_
   refine Sq.nil ?_
   refine hk10 _ _ ?_
   refine Run.seq fun k11 hk11 => ?_
   refine Run.region ?_
   show Sq _ _ _ [0, 1, 2, 3, 4, 5, 6, 7, 8, 9] _ _ _ _
   refine Sq.quiet (i := 0) rfl (Want.none rfl) rfl (ltN rfl) (QP.move rfl rfl).read ?_
   refine Sq.quiet (i := 1) rfl (Want.none rfl) rfl (ltN rfl) (QP.move rfl rfl).read ?_
   refine Sq.quiet (i := 2) rfl (Want.yes rfl rfl rfl rfl) rfl (ltN rfl) (QP.move rfl rfl).read ?_
   refine J.caseB (fun c31 => ?_) (fun c31 => ?_)
   ·skip
    refine Sq.quiet (i := 3) rfl (Want.yes rfl rfl rfl rfl) rfl (ltN rfl) (QP.not rfl rfl).read ?_
    refine Sq.quiet (i := 4) rfl (Want.yes rfl rfl rfl rfl) rfl (ltN rfl) (QP.move rfl rfl).read ?_
    refine Sq.quiet (i := 5) rfl (Want.yes rfl rfl rfl rfl) rfl (ltN rfl) (QP.move rfl rfl).read ?_
    refine Sq.quiet (i := 6) rfl (Want.yes rfl rfl rfl rfl) rfl (ltN rfl) (QP.move rfl rfl).read ?_
    refine Sq.quiet (i := 7) rfl (Want.yes rfl rfl rfl rfl) rfl (ltN rfl) (QP.lss rfl rfl rfl).read ?_
    refine J.caseD (fun c36 => ?_) (fun c36 => ?_)
    ·skip
     refine Sq.quiet (i := 8) rfl (Want.yes rfl rfl rfl rfl) rfl (ltN rfl) (QP.pick_f rfl rfl rfl).read ?_
     refine Sq.quiet (i := 9) rfl (Want.none rfl) rfl (ltN rfl) (QP.pick_t rfl rfl rfl).read ?_
     refine Sq.nil ?_
     refine hk11 _ _ ?_
     refine Run.cond_t rfl ?_
     refine Run.region ?_
     show Sq _ _ _ [0, 1, 2] _ _ _ _
     refine Sq.quiet (i := 0) rfl (Want.none rfl) rfl (ltN rfl) (QP.move rfl rfl).read ?_
     refine Sq.quiet (i := 1) rfl (Want.none rfl) rfl (ltN rfl) (QP.assign rfl rfl).read ?_
     refine Sq.quiet (i := 2) rfl (Want.none rfl) rfl (ltN rfl) (QP.assign rfl rfl).read ?_
     refine Sq.nil ?_
     refine hk9 _ _ ?_
     refine Run.region ?_
     show Sq _ _ _ [0, 1, 2] _ _ _ _
     have hst : astep Fl r o = ((alook Fl o.entry.pair).getD 0, true) := by unfold astep; rw [← hun, c28, c31, decide_eq_true c36]; rfl
     refine Sq.quiet (i := 0) rfl (Want.none rfl) rfl (ltN rfl) (QP.move rfl rfl).read ?_
     refine Sq.quiet (i := 1) rfl (Want.none rfl) rfl (ltN rfl) (QP.add64 rfl rfl rfl (by first | omega | (simp <;> omega)) (by first | omega | (simp <;> omega))).read ?_
     refine Sq.quiet (i := 2) rfl (Want.none rfl) rfl (ltN rfl) (QP.assign rfl rfl).read ?_
     refine Sq.nil ?_
     exact J.envJ (J.keep (.cons (by repeat constructor) (.cons (by repeat constructor) (.cons (by repeat constructor) (.cons (by repeat constructor) (.cons (by repeat constructor) Takes.nil))))) (hl6 (i + 1) (((untilL Fs o.entry.pair).getD 0, true)) (⟨by omega, by rw [hsu, ← hrr, hst, ← hun]⟩) (by omega))) ⟨rfl, rfl, rfl, rfl, rfl, trivial⟩
    ·skip
     refine Sq.quiet (i := 8) rfl (Want.yes rfl rfl rfl rfl) rfl (ltN rfl) (QP.pick_f rfl rfl rfl).read ?_
     refine Sq.quiet (i := 9) rfl (Want.none rfl) rfl (ltN rfl) (QP.pick_t rfl rfl rfl).read ?_
     refine Sq.nil ?_
     refine hk11 _ _ ?_
     refine Run.cond_f rfl ?_
     refine Run.skip ?_
     refine hk9 _ _ ?_
     refine Run.region ?_
     show Sq _ _ _ [0, 1, 2] _ _ _ _
     have hst : astep Fl r o = r := by unfold astep; rw [← hun, c28, c31, decide_eq_false c36]; rfl
     refine Sq.quiet (i := 0) rfl (Want.none rfl) rfl (ltN rfl) (QP.move rfl rfl).read ?_
     refine Sq.quiet (i := 1) rfl (Want.none rfl) rfl (ltN rfl) (QP.add64 rfl rfl rfl (by first | omega | (simp <;> omega)) (by first | omega | (simp <;> omega))).read ?_
     refine Sq.quiet (i := 2) rfl (Want.none rfl) rfl (ltN rfl) (QP.assign rfl rfl).read ?_
     refine Sq.nil ?_
     exact J.envJ (J.keep (.cons (by repeat constructor) (.cons (by repeat constructor) (.cons (by repeat constructor) (.cons (by repeat constructor) (.cons (by repeat constructor) Takes.nil))))) (hl6 (i + 1) (r) (⟨by omega, by rw [hsu, ← hrr, hst]⟩) (by omega))) ⟨rfl, rfl, rfl, rfl, rfl, trivial⟩
   ·skip
    refine Sq.quiet (i := 3) rfl (Want.yes rfl rfl rfl rfl) rfl (ltN rfl) (QP.not rfl rfl).read ?_
    refine Sq.quiet (i := 4) rfl (Want.yes rfl rfl rfl rfl) rfl (ltN rfl) (QP.move rfl rfl).read ?_
    refine Sq.skip (i := 5) rfl (Want.no rfl rfl rfl rfl) rfl (ltN rfl) ?_
    refine Sq.skip (i := 6) rfl (Want.no rfl rfl rfl rfl) rfl (ltN rfl) ?_
    refine Sq.skip (i := 7) rfl (Want.no rfl rfl rfl rfl) rfl (ltN rfl) ?_
    refine Sq.quiet (i := 8) rfl (Want.yes rfl rfl rfl rfl) rfl (ltN rfl) (QP.pick_t rfl rfl rfl).read ?_
    refine Sq.quiet (i := 9) rfl (Want.none rfl) rfl (ltN rfl) (QP.pick_t rfl rfl rfl).read ?_
    refine Sq.nil ?_
    refine hk11 _ _ ?_
    refine Run.cond_t rfl ?_
    refine Run.region ?_
    show Sq _ _ _ [0, 1, 2] _ _ _ _
    refine Sq.quiet (i := 0) rfl (Want.none rfl) rfl (ltN rfl) (QP.move rfl rfl).read ?_
    refine Sq.quiet (i := 1) rfl (Want.none rfl) rfl (ltN rfl) (QP.assign rfl rfl).read ?_
    refine Sq.quiet (i := 2) rfl (Want.none rfl) rfl (ltN rfl) (QP.assign rfl rfl).read ?_
    refine Sq.nil ?_
    refine hk9 _ _ ?_
    refine Run.region ?_
    show Sq _ _ _ [0, 1, 2] _ _ _ _
    have hst : astep Fl r o = ((alook Fl o.entry.pair).getD 0, true) := by unfold astep; rw [← hun, c28, c31]; rfl
    refine Sq.quiet (i := 0) rfl (Want.none rfl) rfl (ltN rfl) (QP.move rfl rfl).read ?_
    refine Sq.quiet (i := 1) rfl (Want.none rfl) rfl (ltN rfl) (QP.add64 rfl rfl rfl (by first | omega | (simp <;> omega)) (by first | omega | (simp <;> omega))).read ?_
    refine Sq.quiet (i := 2) rfl (Want.none rfl) rfl (ltN rfl) (QP.assign rfl rfl).read ?_
    refine Sq.nil ?_
    exact J.envJ (J.keep (.cons (by repeat constructor) (.cons (by repeat constructor) (.cons (by repeat constructor) (.cons (by repeat constructor) (.cons (by repeat constructor) Takes.nil))))) (hl6 (i + 1) (((untilL Fs o.entry.pair).getD 0, true)) (⟨by omega, by rw [hsu, ← hrr, hst, ← hun]⟩) (by omega))) ⟨rfl, rfl, rfl, rfl, rfl, trivial⟩
  ·skip
   refine Sq.quiet (i := 11) rfl (Want.none rfl) rfl (ltN rfl) (QP.assign rfl rfl).read ?_
   refine Sq.quiet (i := 12) rfl (Want.none rfl) rfl (ltN rfl) (QP.assign rfl rfl).read ?_
   refine Sq.nil ?_
   refine hk10 _ _ ?_
   refine Run.seq fun k12 hk12 => ?_
   refine Run.region ?_
   show Sq _ _ _ [0, 1, 2, 3, 4, 5, 6, 7, 8, 9] _ _ _ _
   refine Sq.quiet (i := 0) rfl (Want.none rfl) rfl (ltN rfl) (QP.move rfl rfl).read ?_
   refine Sq.quiet (i := 1) rfl (Want.none rfl) rfl (ltN rfl) (QP.move rfl rfl).read ?_
   refine Sq.skip (i := 2) rfl (Want.no rfl rfl rfl rfl) rfl (ltN rfl) ?_
   refine Sq.skip (i := 3) rfl (Want.no rfl rfl rfl rfl) rfl (ltN rfl) ?_
   refine Sq.skip (i := 4) rfl (Want.no rfl rfl rfl rfl) rfl (ltN rfl) ?_
   refine Sq.skip (i := 5) rfl (Want.undef rfl rfl rfl) rfl (ltN rfl) ?_
   refine Sq.skip (i := 6) rfl (Want.undef rfl rfl rfl) rfl (ltN rfl) ?_
   refine Sq.skip (i := 7) rfl (Want.undef rfl rfl rfl) rfl (ltN rfl) ?_
   refine Sq.skip (i := 8) rfl (Want.no rfl rfl rfl rfl) rfl (ltN rfl) ?_
   refine Sq.quiet (i := 9) rfl (Want.none rfl) rfl (ltN rfl) (QP.pick_f rfl rfl rfl).read ?_
   refine Sq.nil ?_
   refine hk12 _ _ ?_
   refine Run.cond_f rfl ?_
   refine Run.skip ?_
   refine hk9 _ _ ?_
   refine Run.region ?_
   show Sq _ _ _ [0, 1, 2] _ _ _ _
   have hst : astep Fl r o = r := by unfold astep; rw [← hun, c28]; rfl
   refine Sq.quiet (i := 0) rfl (Want.none rfl) rfl (ltN rfl) (QP.move rfl rfl).read ?_
   refine Sq.quiet (i := 1) rfl (Want.none rfl) rfl (ltN rfl) (QP.add64 rfl rfl rfl (by first | omega | (simp <;> omega)) (by first | omega | (simp <;> omega))).read ?_
   refine Sq.quiet (i := 2) rfl (Want.none rfl) rfl (ltN rfl) (QP.assign rfl rfl).read ?_
   refine Sq.nil ?_
   exact J.envJ (J.keep (.cons (by repeat constructor) (.cons (by repeat constructor) (.cons (by repeat constructor) (.cons (by repeat constructor) (.cons (by repeat constructor) Takes.nil))))) (hl6 (i + 1) (r) (⟨by omega, by rw [hsu, ← hrr, hst]⟩) (by omega))) ⟨rfl, rfl, rfl, rfl, rfl, trivial⟩
 ·skip
  refine Sq.nil ?_
  refine hk8 _ _ ?_
  refine Run.cond_f rfl ?_
  refine Run.exit rfl ?_
  refine hk4 _ _ ?_
  refine Run.seq fun k13 hk13 => ?_
  refine Run.region ?_
  show Sq _ _ _ [0, 1, 2, 3] _ _ _ _
  refine Sq.quiet (i := 0) rfl (Want.none rfl) rfl (ltN rfl) (QP.move rfl rfl).read ?_
  refine Sq.quiet (i := 1) rfl (Want.none rfl) rfl (ltN rfl) (QP.move rfl rfl).read ?_
  refine Sq.quiet (i := 2) rfl (Want.none rfl) rfl (ltN rfl) (QP.assign rfl rfl).read ?_
  refine Sq.quiet (i := 3) rfl (Want.none rfl) rfl (ltN rfl) (QP.assign rfl rfl).read ?_
  refine Sq.nil ?_
  refine hk13 _ _ ?_
  refine Run.ret ?_
  have hty : T.take i = T := List.take_of_length_le (by omega)
  rw [hty] at hrr
  rw [← hrr]
  exact J.ends (res_tmp2 rfl rfl rfl) (.cons (by repeat constructor) (.cons (by repeat constructor) (.cons (by repeat constructor) (.cons (by repeat constructor) Takes.nil)))) ⟨rfl, rfl⟩

theorem rdrained_busy (F : Fr) {b : Nat} {ah aw af : Option Addr} {ch cw cf : Nat} {LH LW : List Entry} {Fs : List Ref19Wait} {way : Op} {busy : Bool} {H Wt : TabE} {Fl : TabI} (hoH : OrdE H LH) (hoW : OrdE Wt LW) (hhh : SlH ah ch LH) (hhw : SlH aw cw LW) (hhf : SlH af cf Fs) (hlH : LH.length ≤ 100000) (hlW : LW.length ≤ 600000) (hFl : Fs.length ≤ 1000000) (hfl : ∀ p, untilL Fs p = alook Fl p)  : Spec Try.prog 26 #[.pointer (some ⟨b, 0, none⟩)] [blk b (Ref19Fib.enc ⟨⟨ah, LH.length, ch⟩, ⟨aw, LW.length, cw⟩, ⟨af, Fs.length, cf⟩, way, true⟩) 45, slA 41 51 Entry.enc (.slice ah LH.length ch) LH, slA 41 51 Entry.enc (.slice aw LW.length cw) LW, slA 86 35 Ref19Wait.enc (.slice af Fs.length cf) Fs] F (fun v S => v = .bool false ∧ S = [blk b (Ref19Fib.enc ⟨⟨ah, LH.length, ch⟩, ⟨aw, LW.length, cw⟩, ⟨af, Fs.length, cf⟩, way, true⟩) 45, slA 41 51 Entry.enc (.slice ah LH.length ch) LH, slA 41 51 Entry.enc (.slice aw LW.length cw) LW, slA 86 35 Ref19Wait.enc (.slice af Fs.length cf) Fs]) := by
 refine Spec.intro (N := 14) (args := [.pointer (some ⟨b, 0, none⟩)]) Try.func26 rfl rfl (by simp) ?_
 refine Run.seq fun k1 hk1 => ?_
 refine Run.region ?_
 show Sq _ _ _ [0] _ _ _ _
 refine Sq.quiet (i := 0) rfl (Want.none rfl) rfl (ltN rfl) (QP.assign rfl rfl).read ?_
 refine Sq.nil ?_
 refine hk1 _ _ ?_
 refine Run.seq fun k2 hk2 => ?_
 refine Run.region ?_
 show Sq _ _ _ [0, 1, 2, 3, 4, 5, 6, 7, 8, 9, 10, 11] _ _ _ _
 refine Sq.quiet (i := 0) rfl (Want.none rfl) rfl (ltN rfl) (QP.move rfl rfl).read ?_
 refine Sq.quiet (i := 1) rfl (Want.none rfl) rfl (ltN rfl) (QP.nilCheck rfl rfl).read ?_
 refine Sq.quiet (i := 2) rfl (Want.none rfl) rfl (ltN rfl) (QP.fieldAddr rfl rfl f45_4).read ?_
 refine Sq.quiet (i := 3) rfl (Want.none rfl) rfl (ltN rfl) (QR.load1 rfl rfl g4 (Ref19Fib.sub_busy _)) ?_
 refine J.boolT (rfl) ?_
 refine Sq.quiet (i := 4) rfl (Want.none rfl) rfl (ltN rfl) (QP.not rfl rfl).read ?_
 refine Sq.quiet (i := 5) rfl (Want.none rfl) rfl (ltN rfl) (QP.move rfl rfl).read ?_
 refine Sq.skip (i := 6) rfl (Want.no rfl rfl rfl rfl) rfl (ltN rfl) ?_
 refine Sq.skip (i := 7) rfl (Want.no rfl rfl rfl rfl) rfl (ltN rfl) ?_
 refine Sq.skip (i := 8) rfl (Want.no rfl rfl rfl rfl) rfl (ltN rfl) ?_
 refine Sq.skip (i := 9) rfl (Want.no rfl rfl rfl rfl) rfl (ltN rfl) ?_
 refine Sq.quiet (i := 10) rfl (Want.none rfl) rfl (ltN rfl) (QP.pick_f rfl rfl rfl).read ?_
 refine Sq.quiet (i := 11) rfl (Want.none rfl) rfl (ltN rfl) (QP.assign rfl rfl).read ?_
 refine Sq.nil ?_
 refine hk2 _ _ ?_
 refine Run.ret ?_
 exact J.ends (res_tmp rfl rfl) (.cons (by repeat constructor) (.cons (by repeat constructor) (.cons (by repeat constructor) (.cons (by repeat constructor) Takes.nil)))) ⟨rfl, rfl⟩

theorem rdrained_spec (F : Fr) {b : Nat} {ah aw af : Option Addr} {ch cw cf : Nat} {LH LW : List Entry} {Fs : List Ref19Wait} {way : Op} {busy : Bool} {H Wt : TabE} {Fl : TabI} (hoH : OrdE H LH) (hoW : OrdE Wt LW) (hhh : SlH ah ch LH) (hhw : SlH aw cw LW) (hhf : SlH af cf Fs) (hlH : LH.length ≤ 100000) (hlW : LW.length ≤ 600000) (hFl : Fs.length ≤ 1000000) (hfl : ∀ p, untilL Fs p = alook Fl p)  : Spec Try.prog 26 #[.pointer (some ⟨b, 0, none⟩)] [blk b (Ref19Fib.enc ⟨⟨ah, LH.length, ch⟩, ⟨aw, LW.length, cw⟩, ⟨af, Fs.length, cf⟩, way, false⟩) 45, slA 41 51 Entry.enc (.slice ah LH.length ch) LH, slA 41 51 Entry.enc (.slice aw LW.length cw) LW, slA 86 35 Ref19Wait.enc (.slice af Fs.length cf) Fs] F (fun v S => v = .bool (decide ((todoL H Wt LH LW) = [])) ∧ S = [blk b (Ref19Fib.enc ⟨⟨ah, LH.length, ch⟩, ⟨aw, LW.length, cw⟩, ⟨af, Fs.length, cf⟩, way, false⟩) 45, slA 41 51 Entry.enc (.slice ah LH.length ch) LH, slA 41 51 Entry.enc (.slice aw LW.length cw) LW, slA 86 35 Ref19Wait.enc (.slice af Fs.length cf) Fs]) := by
 refine Spec.intro (N := 14) (args := [.pointer (some ⟨b, 0, none⟩)]) Try.func26 rfl rfl (by simp) ?_
 refine Run.seq fun k1 hk1 => ?_
 refine Run.region ?_
 show Sq _ _ _ [0] _ _ _ _
 refine Sq.quiet (i := 0) rfl (Want.none rfl) rfl (ltN rfl) (QP.assign rfl rfl).read ?_
 refine Sq.nil ?_
 refine hk1 _ _ ?_
 refine Run.seq fun k2 hk2 => ?_
 refine Run.region ?_
 show Sq _ _ _ [0, 1, 2, 3, 4, 5, 6, 7, 8, 9, 10, 11] _ _ _ _
 refine Sq.quiet (i := 0) rfl (Want.none rfl) rfl (ltN rfl) (QP.move rfl rfl).read ?_
 refine Sq.quiet (i := 1) rfl (Want.none rfl) rfl (ltN rfl) (QP.nilCheck rfl rfl).read ?_
 refine Sq.quiet (i := 2) rfl (Want.none rfl) rfl (ltN rfl) (QP.fieldAddr rfl rfl f45_4).read ?_
 refine Sq.quiet (i := 3) rfl (Want.none rfl) rfl (ltN rfl) (QR.load1 rfl rfl g4 (Ref19Fib.sub_busy _)) ?_
 refine J.boolF (rfl) ?_
 refine Sq.quiet (i := 4) rfl (Want.none rfl) rfl (ltN rfl) (QP.not rfl rfl).read ?_
 refine Sq.quiet (i := 5) rfl (Want.none rfl) rfl (ltN rfl) (QP.move rfl rfl).read ?_
 refine Sq.quiet (i := 6) rfl (Want.yes rfl rfl rfl rfl) rfl (ltN rfl) (QP.move rfl rfl).read ?_
 refine Sq.eff (i := 7) rfl (Want.yes rfl rfl rfl rfl) rfl (ltN rfl) (EF.call rfl ce46 rfl (.cons (by repeat constructor) (.cons (by repeat constructor) (.cons (by repeat constructor) Takes.nil))) (fun F' hle hr => rtodo_spec F' hoH hoW hhh hhw hlH hlW)) ?_
 rintro v10 _ ⟨_, rfl, rfl⟩
 refine J.app ?_
 refine Sq.slCase (v := v10) (xs := (todoL H Wt LH LW)) (by repeat constructor) (fun a10 c10 hv10 hh10 => ?_)
 subst hv10
 have htl := @todo_len H Wt LH LW
 generalize hT : todoL H Wt LH LW = T at *
 refine Sq.quiet (i := 8) rfl (Want.yes rfl rfl rfl rfl) rfl (ltN rfl) (QP.len rfl rfl rfl Try.underlying82).read ?_
 refine Sq.quiet (i := 9) rfl (Want.yes rfl rfl rfl rfl) rfl (ltN rfl) (QP.eql rfl rfl rfl).read ?_
 refine Sq.quiet (i := 10) rfl (Want.none rfl) rfl (ltN rfl) (QP.pick_t rfl rfl rfl).read ?_
 refine Sq.quiet (i := 11) rfl (Want.none rfl) rfl (ltN rfl) (QP.assign rfl rfl).read ?_
 refine Sq.nil ?_
 refine hk2 _ _ ?_
 refine Run.ret ?_
 exact J.ends (res_tmp rfl rfl) (.cons (by repeat constructor) (.cons (by repeat constructor) (.cons (by repeat constructor) (.cons (by repeat constructor) Takes.nil)))) ⟨congrArg Value.bool (decide_eq_decide.2 ⟨fun h => List.eq_nil_of_length_eq_zero (by omega), fun h => by rw [h]; rfl⟩), rfl⟩

theorem rwant_spec (F : Fr) {b : Nat} {hS wS fS : Slc} {way : Op} {busy : Bool} {a : Option Addr} {c : Nat} {xs : List Entry} (ha : ArgSl F a 51 Entry.enc xs) (hl : xs.length ≤ 24) : Spec Try.prog 17 #[.pointer (some ⟨b, 0, none⟩), .slice a xs.length c] [blk b (Ref19Fib.enc ⟨hS, wS, fS, way, busy⟩) 45] F (fun v S => ∃ L' a2 c2, v = .tuple #[] ∧ Expands xs L' ∧ SlH a2 c2 L' ∧ S = [blk b (Ref19Fib.enc ⟨hS, ⟨a2, L'.length, c2⟩, fS, way, busy⟩) 45, slA 41 51 Entry.enc (.slice a2 L'.length c2) L']) := by
 refine Spec.intro (N := 9) (args := [.pointer (some ⟨b, 0, none⟩), .slice a xs.length c]) Try.func17 rfl rfl (by simp) ?_
 refine Run.region ?_
 show Sq _ _ _ [0, 1, 2, 3, 4, 5] _ _ _ _
 refine Sq.quiet (i := 0) rfl (Want.none rfl) rfl (ltN rfl) (QP.move rfl rfl).read ?_
 refine Sq.quiet (i := 1) rfl (Want.none rfl) rfl (ltN rfl) (QP.move rfl rfl).read ?_
 refine Sq.eff (i := 2) rfl (Want.none rfl) rfl (ltN rfl) (EF.call rfl ce13 rfl Takes.nil (fun F' hle hr => rexpand_spec F' (ha.mono hle) hl)) ?_
 rintro v6 _ ⟨_, ⟨L', hex, rfl⟩, rfl⟩
 refine J.app ?_
 refine Sq.slCase (v := v6) (xs := L') (by repeat constructor) (fun a6 c6 hv6 hh6 => ?_)
 subst hv6
 refine Sq.quiet (i := 3) rfl (Want.none rfl) rfl (ltN rfl) (QP.nilCheck rfl rfl).read ?_
 refine Sq.quiet (i := 4) rfl (Want.none rfl) rfl (ltN rfl) (QP.fieldAddr rfl rfl f45_1).read ?_
 refine Sq.act (i := 5) rfl (Want.none rfl) rfl (EF.store rfl rfl rfl z22 (Ref19Fib.set_w _ ⟨a6, L'.length, c6⟩) (cell_one rfl)) ?_
 rintro _ _ rfl
 refine Sq.nil ?_
 exact J.ends (res_none rfl) (.cons (by repeat constructor) (.cons (by repeat constructor) Takes.nil)) ⟨L', a6, c6, rfl, hex, hh6, rfl⟩
end Slb
