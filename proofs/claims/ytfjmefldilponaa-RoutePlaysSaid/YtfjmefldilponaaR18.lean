/- R18: a part of the proof that a law of this package holds for every input; no condition. -/
import Derived.Test.YtfjmefldilponaaR17
namespace Slb
open Go Go.Proofs
set_option maxRecDepth 20000
theorem rretract_spec (F : Fr) {b : Nat} {most : Int} {a : Option Addr} {c : Nat} {L : List Route} (hh : SlH a c L) (hL : L.length ≤ 1000000) (hh0 : ∀ x ∈ L, 1 ≤ x.hold ∧ x.hold ≤ 2147483648) (now : Int) (hn0 : 0 ≤ now) (hn1 : now ≤ 2305843009213693952) (j : Int) (fr : Bs 16) : Spec Try.prog 40 #[.pointer (some ⟨b, 0, none⟩), .int .i64 now, .int .i64 j, .agg (Bs.enc (fr : Bs 16)).toArray] [blk b (Ref16Table.enc ⟨most, ⟨a, L.length, c⟩⟩) 57, slA 37 81 Route.enc (.slice a L.length c) L] F (fun v S => v = .int .i64 (L.filter (mineR j fr)).length ∧ S = [blk b (Ref16Table.enc ⟨most, ⟨a, L.length, c⟩⟩) 57, slA 37 81 Route.enc (.slice a L.length c) (L.map (retrR now j fr))]) := by
 refine Spec.intro (N := 80) (args := [.pointer (some ⟨b, 0, none⟩), .int .i64 now, .int .i64 j, .agg (Bs.enc (fr : Bs 16)).toArray]) Try.func40 rfl rfl (by simp) ?_
 refine Run.seq fun k1 hk1 => ?_
 refine Run.region ?_
 show Sq _ _ _ [0, 1] _ _ _ _
 refine Sq.eff (i := 0) rfl (Want.none rfl) rfl (ltN rfl) (EF.boxA rfl rfl) ?_
 rintro _ _ ⟨b7, rfl, rfl⟩
 refine Sq.quiet (i := 1) rfl (Want.none rfl) rfl (ltN rfl) (QP.assign rfl rfl).read ?_
 refine Sq.nil ?_
 refine hk1 _ _ ?_
 refine Run.seq fun k2 hk2 => ?_
 refine Run.region ?_
 show Sq _ _ _ [0] _ _ _ _
 refine Sq.quiet (i := 0) rfl (Want.none rfl) rfl (ltN rfl) (QP.assign rfl rfl).read ?_
 refine Sq.nil ?_
 refine hk2 _ _ ?_
 refine Run.seq fun k3 hk3 => ?_
 refine Run.seq fun k4 hk4 => ?_
 refine Run.region ?_
 show Sq _ _ _ [0] _ _ _ _
 refine Sq.slEq (by repeat constructor) (mapTo_zero (retrR now j fr) L).symm ?_
 refine Sq.quiet (i := 0) rfl (Want.none rfl) rfl (ltN rfl) (QP.assign rfl rfl).read ?_
 refine Sq.nil ?_
 refine hk4 _ _ ?_
 refine Run.block ?_
 refine Run.loop1 (fun (i : Nat) => i ≤ L.length) (fun i => .cons 0 (.pointer (some ⟨b, 0, none⟩)) (.cons 1 (.int .i64 now) (.cons 2 (.int .i64 j) (.cons 7 (.pointer (some ⟨b7, 0, none⟩)) (.cons 9 (.int .i64 ((L.take i).filter (mineR j fr)).length) (.cons 10 (.int .i64 i) (.nil))))))) (fun i => [blk b (Ref16Table.enc ⟨most, ⟨a, L.length, c⟩⟩) 57, slA 37 81 Route.enc (.slice a L.length c) (mapTo (retrR now j fr) i L), blk b7 (Bs.enc fr) 28]) (fun i => L.length - i) (0) (Nat.zero_le _) ?_ ?_
 ·exact fun _ j => J.envJ (J.keep (.cons (by repeat constructor) (.cons (by repeat constructor) (.cons (by repeat constructor) Takes.nil))) j) ⟨rfl, rfl, rfl, rfl, rfl, rfl, trivial⟩
 rintro i hile kl5 hl5
 refine Run.seq fun k6 hk6 => ?_
 refine Run.seq fun k7 hk7 => ?_
 refine Run.region ?_
 show Sq _ _ _ [0, 1, 2, 3, 4, 5, 6] _ _ _ _
 refine Sq.quiet (i := 0) rfl (Want.none rfl) rfl (ltN rfl) (QP.move rfl rfl).read ?_
 refine Sq.quiet (i := 1) rfl (Want.none rfl) rfl (ltN rfl) (QP.move rfl rfl).read ?_
 refine Sq.quiet (i := 2) rfl (Want.none rfl) rfl (ltN rfl) (QP.nilCheck rfl rfl).read ?_
 refine Sq.quiet (i := 3) rfl (Want.none rfl) rfl (ltN rfl) (QP.fieldAddr rfl rfl f57_1).read ?_
 refine Sq.quiet (i := 4) rfl (Want.none rfl) rfl (ltN rfl) (QR.load1 (v := .slice _ L.length _) rfl rfl g46 (Ref16Table.sub_l _)) ?_
 refine Sq.quiet (i := 5) rfl (Want.none rfl) rfl (ltN rfl) (QP.len rfl rfl rfl Try.underlying46).read ?_
 refine Sq.quiet (i := 6) rfl (Want.none rfl) rfl (ltN rfl) (QP.lss rfl rfl rfl).read ?_
 refine J.caseD (fun c17 => ?_) (fun c17 => ?_)
 ·skip
  refine Sq.nil ?_
  refine hk7 _ _ ?_
  refine Run.cond_t rfl ?_
  refine Run.skip ?_
  refine hk6 _ _ ?_
  refine Run.seq fun k8 hk8 => ?_
  refine Run.block ?_
  refine Run.seq fun k9 hk9 => ?_
  refine Run.regionD (M := [0, 1, 3, 7, 0, 31, 63, 127, 0, 511, 1023, 2047, 4095, 8191, 16383, 2047, 65535, 131071, 262143, 2047, 1048575, 2097151, 4194303, 8388607, 16777215, 33554431, 67108863, 8388607, 268435455, 536870911, 1073741823, 2147483647, 4294967295]) (q := 8589934591) (r := 1141653640) (by kernel_rfl) ?_
  have hlt : i < L.length := by omega
  obtain ⟨x, hi⟩ : ∃ x, L[i]? = some x := ⟨_, List.getElem?_eq_getElem hlt⟩
  obtain ⟨b0, o0, rfl⟩ := hh.get (by omega)
  have hm := mapTo_get (retrR now j fr) hi
  have hml := mapTo_len (retrR now j fr) i L
  have hfl : ((L.take i).filter (mineR j fr)).length ≤ 1000000 := by
    have := List.length_filter_le (mineR j fr) (L.take i)
    have := List.length_take_le i L
    omega
  have hhold := hh0 x (List.mem_of_getElem? hi)
  refine Dw.pure (i := 0) rfl (by kernel_rfl) (Want.none rfl) rfl (ltN rfl) (QP.move rfl rfl) ?_
  refine Dw.pure (i := 1) rfl (by kernel_rfl) (Want.none rfl) rfl (ltN rfl) (QP.nilCheck rfl rfl) ?_
  refine Dw.pure (i := 2) rfl (by kernel_rfl) (Want.none rfl) rfl (ltN rfl) (QP.fieldAddr rfl rfl f57_1) ?_
  refine Dw.read (i := 3) rfl (by kernel_rfl) (Want.none rfl) rfl (ltN rfl) (QR.load1 (v := .slice _ L.length _) rfl rfl g46 (Ref16Table.sub_l _)) ?_
  refine Dw.pure (i := 4) rfl (by kernel_rfl) (Want.none rfl) rfl (ltN rfl) (QP.move rfl rfl) ?_
  refine Dw.pure (i := 5) rfl (by kernel_rfl) (Want.none rfl) rfl (ltN rfl) (QP.indexAddr rfl rfl rfl Try.underlying46 z37 (by first | omega | (simp <;> omega)) (by first | omega | (simp <;> omega))) ?_
  refine Dw.pure (i := 6) rfl (by kernel_rfl) (Want.none rfl) rfl (ltN rfl) (QP.fieldAddr rfl rfl f37_1) ?_
  refine Dw.read (i := 7) rfl (by kernel_rfl) (Want.none rfl) rfl (ltN rfl) (QR.loadSlF1 rfl rfl g3 Route.enc_len (SlAt.own Route.enc_len (by repeat constructor)) hm (Route.sub_if_ _)) ?_
  refine Dw.pure (i := 8) rfl (by kernel_rfl) (Want.none rfl) rfl (ltN rfl) (QP.move rfl rfl) ?_
  refine Dw.pure (i := 9) rfl (by kernel_rfl) (Want.none rfl) rfl (ltN rfl) (QP.eql rfl rfl rfl) ?_
  refine J.caseD (fun c29 => ?_) (fun c29 => ?_)
  ·skip
   refine Dw.pure (i := 10) rfl (by kernel_rfl) (Want.none rfl) rfl (ltN rfl) (QP.move rfl rfl) ?_
   refine Dw.pure (i := 11) rfl (by kernel_rfl) (Want.yes rfl rfl rfl rfl) rfl (ltN rfl) (QP.move rfl rfl) ?_
   refine Dw.pure (i := 12) rfl (by kernel_rfl) (Want.yes rfl rfl rfl rfl) rfl (ltN rfl) (QP.nilCheck rfl rfl) ?_
   refine Dw.pure (i := 13) rfl (by kernel_rfl) (Want.yes rfl rfl rfl rfl) rfl (ltN rfl) (QP.fieldAddr rfl rfl f57_1) ?_
   refine Dw.read (i := 14) rfl (by kernel_rfl) (Want.yes rfl rfl rfl rfl) rfl (ltN rfl) (QR.load1 (v := .slice _ L.length _) rfl rfl g46 (Ref16Table.sub_l _)) ?_
   refine Dw.pure (i := 15) rfl (by kernel_rfl) (Want.yes rfl rfl rfl rfl) rfl (ltN rfl) (QP.move rfl rfl) ?_
   refine Dw.pure (i := 16) rfl (by kernel_rfl) (Want.yes rfl rfl rfl rfl) rfl (ltN rfl) (QP.indexAddr rfl rfl rfl Try.underlying46 z37 (by first | omega | (simp <;> omega)) (by first | omega | (simp <;> omega))) ?_
   refine Dw.pure (i := 17) rfl (by kernel_rfl) (Want.yes rfl rfl rfl rfl) rfl (ltN rfl) (QP.fieldAddr rfl rfl f37_2) ?_
   refine Dw.read (i := 18) rfl (by kernel_rfl) (Want.yes rfl rfl rfl rfl) rfl (ltN rfl) (QR.loadSlF rfl rfl g28 Route.enc_len (SlAt.own Route.enc_len (by repeat constructor)) hm (Route.sub_from_ _)) ?_
   refine Dw.read (i := 19) rfl (by kernel_rfl) (Want.yes rfl rfl rfl rfl) rfl (ltN rfl) (QR.load rfl rfl g28 (Bs.sub _)) ?_
   refine Dw.pure (i := 20) rfl (by kernel_rfl) (Want.yes rfl rfl rfl rfl) rfl (ltN rfl) (QP.eql_agg eq28 rfl rfl rfl) ?_
   refine J.caseD (fun c40 => ?_) (fun c40 => ?_)
   ·skip
    refine Dw.pure (i := 21) rfl (by kernel_rfl) (Want.none rfl) rfl (ltN rfl) (QP.pick_t rfl rfl rfl) ?_
    refine Dw.pure (i := 22) rfl (by kernel_rfl) (Want.none rfl) rfl (ltN rfl) (QP.move rfl rfl) ?_
    refine Dw.pure (i := 23) rfl (by kernel_rfl) (Want.yes rfl rfl rfl rfl) rfl (ltN rfl) (QP.move rfl rfl) ?_
    refine Dw.pure (i := 24) rfl (by kernel_rfl) (Want.yes rfl rfl rfl rfl) rfl (ltN rfl) (QP.nilCheck rfl rfl) ?_
    refine Dw.pure (i := 25) rfl (by kernel_rfl) (Want.yes rfl rfl rfl rfl) rfl (ltN rfl) (QP.fieldAddr rfl rfl f57_1) ?_
    refine Dw.read (i := 26) rfl (by kernel_rfl) (Want.yes rfl rfl rfl rfl) rfl (ltN rfl) (QR.load1 (v := .slice _ L.length _) rfl rfl g46 (Ref16Table.sub_l _)) ?_
    refine Dw.pure (i := 27) rfl (by kernel_rfl) (Want.yes rfl rfl rfl rfl) rfl (ltN rfl) (QP.move rfl rfl) ?_
    refine Dw.pure (i := 28) rfl (by kernel_rfl) (Want.yes rfl rfl rfl rfl) rfl (ltN rfl) (QP.indexAddr rfl rfl rfl Try.underlying46 z37 (by first | omega | (simp <;> omega)) (by first | omega | (simp <;> omega))) ?_
    refine Dw.pure (i := 29) rfl (by kernel_rfl) (Want.yes rfl rfl rfl rfl) rfl (ltN rfl) (QP.fieldAddr rfl rfl f37_5) ?_
    refine Dw.read (i := 30) rfl (by kernel_rfl) (Want.yes rfl rfl rfl rfl) rfl (ltN rfl) (QR.loadSlF1 rfl rfl g35 Route.enc_len (SlAt.own Route.enc_len (by repeat constructor)) hm (Route.sub_ref _)) ?_
    refine Dw.pure (i := 31) rfl (by kernel_rfl) (Want.yes rfl rfl rfl rfl) rfl (ltN rfl) (QP.neq rfl rfl rfl) ?_
    refine J.caseD (fun c51 => ?_) (fun c51 => ?_)
    ·skip
     refine Dw.pure (i := 32) rfl (by kernel_rfl) (Want.none rfl) rfl (ltN rfl) (QP.pick_t rfl rfl rfl) ?_
     refine Dw.nil (by kernel_rfl) ?_
     refine hk9 _ _ ?_
     refine Run.cond_t rfl ?_
     refine Run.seq fun k10 hk10 => ?_
     refine Run.region ?_
     show Sq _ _ _ [0, 1, 2, 3, 4, 5, 6, 7] _ _ _ _
     refine Sq.quiet (i := 0) rfl (Want.none rfl) rfl (ltN rfl) (QP.move rfl rfl).read ?_
     refine Sq.quiet (i := 1) rfl (Want.none rfl) rfl (ltN rfl) (QP.nilCheck rfl rfl).read ?_
     refine Sq.quiet (i := 2) rfl (Want.none rfl) rfl (ltN rfl) (QP.fieldAddr rfl rfl f57_1).read ?_
     refine Sq.quiet (i := 3) rfl (Want.none rfl) rfl (ltN rfl) (QR.load1 (v := .slice _ L.length _) rfl rfl g46 (Ref16Table.sub_l _)) ?_
     refine Sq.quiet (i := 4) rfl (Want.none rfl) rfl (ltN rfl) (QP.move rfl rfl).read ?_
     refine Sq.quiet (i := 5) rfl (Want.none rfl) rfl (ltN rfl) (QP.indexAddr rfl rfl rfl Try.underlying46 z37 (by first | omega | (simp <;> omega)) (by first | omega | (simp <;> omega))).read ?_
     refine Sq.quiet (i := 6) rfl (Want.none rfl) rfl (ltN rfl) (QP.fieldAddr rfl rfl f37_5).read ?_
     refine Sq.act (i := 7) rfl (Want.none rfl) rfl (EF.storeSlF (enc := Route.enc) rfl rfl rfl z35 (by repeat constructor) Route.enc_len (by first | omega | (simp <;> omega)) (fun y hy => by cases hy.symm.trans hm; exact (Route.set_ref _ 65535)) (cell_one rfl)) ?_
     rintro _ _ rfl
     generalize hs1 : ({ x with ref := 65535 } : Route) = s1
     have hm1 : ((mapTo (retrR now j fr) i L).set i s1)[i]? = some s1 := set_get (by omega)
     have hml1 : ((mapTo (retrR now j fr) i L).set i s1).length = L.length := by rw [List.length_set]; exact hml
     have hho1 : s1.hold = x.hold := by rw [← hs1]
     refine Sq.nil ?_
     refine hk10 _ _ ?_
     refine Run.seq fun k11 hk11 => ?_
     refine Run.regionD (M := [0, 1, 3, 7, 0, 0, 0, 64, 192, 448, 0, 1984, 4032, 8128, 16352, 32767, 65535, 131071]) (q := 131071) (r := 8712) (by kernel_rfl) ?_
     refine Dw.pure (i := 0) rfl (by kernel_rfl) (Want.none rfl) rfl (ltN rfl) (QP.move rfl rfl) ?_
     refine Dw.pure (i := 1) rfl (by kernel_rfl) (Want.none rfl) rfl (ltN rfl) (QP.nilCheck rfl rfl) ?_
     refine Dw.pure (i := 2) rfl (by kernel_rfl) (Want.none rfl) rfl (ltN rfl) (QP.fieldAddr rfl rfl f57_1) ?_
     refine Dw.read (i := 3) rfl (by kernel_rfl) (Want.none rfl) rfl (ltN rfl) (QR.load1 (v := .slice _ L.length _) rfl rfl g46 (Ref16Table.sub_l _)) ?_
     refine Dw.pure (i := 4) rfl (by kernel_rfl) (Want.none rfl) rfl (ltN rfl) (QP.move rfl rfl) ?_
     refine Dw.pure (i := 5) rfl (by kernel_rfl) (Want.none rfl) rfl (ltN rfl) (QP.move rfl rfl) ?_
     refine Dw.pure (i := 6) rfl (by kernel_rfl) (Want.none rfl) rfl (ltN rfl) (QP.move rfl rfl) ?_
     refine Dw.pure (i := 7) rfl (by kernel_rfl) (Want.none rfl) rfl (ltN rfl) (QP.nilCheck rfl rfl) ?_
     refine Dw.pure (i := 8) rfl (by kernel_rfl) (Want.none rfl) rfl (ltN rfl) (QP.fieldAddr rfl rfl f57_1) ?_
     refine Dw.read (i := 9) rfl (by kernel_rfl) (Want.none rfl) rfl (ltN rfl) (QR.load1 (v := .slice _ L.length _) rfl rfl g46 (Ref16Table.sub_l _)) ?_
     refine Dw.pure (i := 10) rfl (by kernel_rfl) (Want.none rfl) rfl (ltN rfl) (QP.move rfl rfl) ?_
     refine Dw.pure (i := 11) rfl (by kernel_rfl) (Want.none rfl) rfl (ltN rfl) (QP.indexAddr rfl rfl rfl Try.underlying46 z37 (by first | omega | (simp <;> omega)) (by first | omega | (simp <;> omega))) ?_
     refine Dw.pure (i := 12) rfl (by kernel_rfl) (Want.none rfl) rfl (ltN rfl) (QP.fieldAddr rfl rfl f37_9) ?_
     refine Dw.read (i := 13) rfl (by kernel_rfl) (Want.none rfl) rfl (ltN rfl) (QR.loadSlF1 rfl rfl g3 Route.enc_len (SlAt.own Route.enc_len (by repeat constructor)) hm1 (Route.sub_hold _)) ?_
     refine Dw.pure (i := 14) rfl (by kernel_rfl) (Want.none rfl) rfl (ltN rfl) (QP.add64 rfl rfl rfl (by first | omega | (simp <;> omega)) (by first | omega | (simp <;> omega))) ?_
     refine Dw.pure (i := 15) rfl (by kernel_rfl) (Want.none rfl) rfl (ltN rfl) (QP.indexAddr rfl rfl rfl Try.underlying46 z37 (by first | omega | (simp <;> omega)) (by first | omega | (simp <;> omega))) ?_
     refine Dw.pure (i := 16) rfl (by kernel_rfl) (Want.none rfl) rfl (ltN rfl) (QP.fieldAddr rfl rfl f37_8) ?_
     refine Dw.eff (i := 17) (by kernel_rfl) (by kernel_rfl) ?_
     refine One.act (o := _) (l := []) rfl (by kernel_rfl) (Want.none rfl) rfl (EF.storeSlF (enc := Route.enc) rfl rfl rfl z3 (by repeat constructor) Route.enc_len (by first | omega | (simp <;> omega)) (fun y hy => by cases hy.symm.trans hm1; exact (Route.set_until_ _ _)) (cell_one rfl)) (by kernel_rfl) ?_
     rintro _ _ rfl
     refine ⟨fun _ h => (by cases h), ?_⟩
     refine Dw.nil (by kernel_rfl) ?_
     refine hk11 _ _ ?_
     refine Run.region ?_
     show Sq _ _ _ [0, 1, 2] _ _ _ _
     have hmine : mineR j fr x = true := by simp only [mineR, c29, c40, decide_true, Bool.true_and]; simpa using c51
     rw [List.set_set]
     refine Sq.slEq (by repeat constructor) (mapTo_set (f := retrR now j fr) hi (by unfold retrR; rw [hmine, if_pos rfl, ← hs1])) ?_
     refine Sq.quiet (i := 0) rfl (Want.none rfl) rfl (ltN rfl) (QP.move rfl rfl).read ?_
     refine Sq.quiet (i := 1) rfl (Want.none rfl) rfl (ltN rfl) (QP.add64 rfl rfl rfl (by first | omega | (simp <;> omega)) (by first | omega | (simp <;> omega))).read ?_
     refine Sq.quiet (i := 2) rfl (Want.none rfl) rfl (ltN rfl) (QP.assign rfl rfl).read ?_
     refine Sq.nil ?_
     refine hk8 _ _ ?_
     refine Run.region ?_
     show Sq _ _ _ [0, 1, 2] _ _ _ _
     refine Sq.quiet (i := 0) rfl (Want.none rfl) rfl (ltN rfl) (QP.move rfl rfl).read ?_
     refine Sq.quiet (i := 1) rfl (Want.none rfl) rfl (ltN rfl) (QP.add64 rfl rfl rfl (by first | omega | (simp <;> omega)) (by first | omega | (simp <;> omega))).read ?_
     refine Sq.quiet (i := 2) rfl (Want.none rfl) rfl (ltN rfl) (QP.assign rfl rfl).read ?_
     refine Sq.nil ?_
     exact J.envJ (J.keep (.cons (by repeat constructor) (.cons (by repeat constructor) (.cons (by repeat constructor) Takes.nil))) (hl5 (i + 1) (by omega) (by omega))) ⟨rfl, rfl, rfl, rfl, (congrArg (fun n : Nat => some (Value.int .i64 n)) (show _ = _ from by rw [filter_succ _ hi, hmine]; simp)), rfl, trivial⟩
    ·skip
     refine Dw.pure (i := 32) rfl (by kernel_rfl) (Want.none rfl) rfl (ltN rfl) (QP.pick_t rfl rfl rfl) ?_
     refine Dw.nil (by kernel_rfl) ?_
     refine hk9 _ _ ?_
     refine Run.cond_f rfl ?_
     refine Run.skip ?_
     refine hk8 _ _ ?_
     refine Run.region ?_
     show Sq _ _ _ [0, 1, 2] _ _ _ _
     have hmine : mineR j fr x = false := by simp only [mineR, Bool.and_eq_false_iff, decide_eq_false_iff_not]; exact .inr (by simpa using c51)
     refine Sq.slEq (by repeat constructor) (mapTo_same (f := retrR now j fr) hi (by unfold retrR; rw [hmine]; rfl)) ?_
     refine Sq.quiet (i := 0) rfl (Want.none rfl) rfl (ltN rfl) (QP.move rfl rfl).read ?_
     refine Sq.quiet (i := 1) rfl (Want.none rfl) rfl (ltN rfl) (QP.add64 rfl rfl rfl (by first | omega | (simp <;> omega)) (by first | omega | (simp <;> omega))).read ?_
     refine Sq.quiet (i := 2) rfl (Want.none rfl) rfl (ltN rfl) (QP.assign rfl rfl).read ?_
     refine Sq.nil ?_
     exact J.envJ (J.keep (.cons (by repeat constructor) (.cons (by repeat constructor) (.cons (by repeat constructor) Takes.nil))) (hl5 (i + 1) (by omega) (by omega))) ⟨rfl, rfl, rfl, rfl, (congrArg (fun n : Nat => some (Value.int .i64 n)) (show _ = _ from by rw [filter_succ _ hi, hmine]; simp)), rfl, trivial⟩
   ·skip
    refine Dw.pure (i := 21) rfl (by kernel_rfl) (Want.none rfl) rfl (ltN rfl) (QP.pick_t rfl rfl rfl) ?_
    refine Dw.pure (i := 22) rfl (by kernel_rfl) (Want.none rfl) rfl (ltN rfl) (QP.move rfl rfl) ?_
    refine Dw.skip (i := 23) rfl (by kernel_rfl) (Want.no rfl rfl rfl rfl) rfl (ltN rfl) ?_
    refine Dw.skip (i := 24) rfl (by kernel_rfl) (Want.no rfl rfl rfl rfl) rfl (ltN rfl) ?_
    refine Dw.skip (i := 25) rfl (by kernel_rfl) (Want.no rfl rfl rfl rfl) rfl (ltN rfl) ?_
    refine Dw.skip (i := 26) rfl (by kernel_rfl) (Want.no rfl rfl rfl rfl) rfl (ltN rfl) ?_
    refine Dw.skip (i := 27) rfl (by kernel_rfl) (Want.no rfl rfl rfl rfl) rfl (ltN rfl) ?_
    refine Dw.skip (i := 28) rfl (by kernel_rfl) (Want.no rfl rfl rfl rfl) rfl (ltN rfl) ?_
    refine Dw.skip (i := 29) rfl (by kernel_rfl) (Want.no rfl rfl rfl rfl) rfl (ltN rfl) ?_
    refine Dw.skip (i := 30) rfl (by kernel_rfl) (Want.no rfl rfl rfl rfl) rfl (ltN rfl) ?_
    refine Dw.skip (i := 31) rfl (by kernel_rfl) (Want.no rfl rfl rfl rfl) rfl (ltN rfl) ?_
    refine Dw.pure (i := 32) rfl (by kernel_rfl) (Want.none rfl) rfl (ltN rfl) (QP.pick_f rfl rfl rfl) ?_
    refine Dw.nil (by kernel_rfl) ?_
    refine hk9 _ _ ?_
    refine Run.cond_f rfl ?_
    refine Run.skip ?_
    refine hk8 _ _ ?_
    refine Run.region ?_
    show Sq _ _ _ [0, 1, 2] _ _ _ _
    have hmine : mineR j fr x = false := by simp only [mineR, Bool.and_eq_false_iff, decide_eq_false_iff_not]; exact .inl (.inr c40)
    refine Sq.slEq (by repeat constructor) (mapTo_same (f := retrR now j fr) hi (by unfold retrR; rw [hmine]; rfl)) ?_
    refine Sq.quiet (i := 0) rfl (Want.none rfl) rfl (ltN rfl) (QP.move rfl rfl).read ?_
    refine Sq.quiet (i := 1) rfl (Want.none rfl) rfl (ltN rfl) (QP.add64 rfl rfl rfl (by first | omega | (simp <;> omega)) (by first | omega | (simp <;> omega))).read ?_
    refine Sq.quiet (i := 2) rfl (Want.none rfl) rfl (ltN rfl) (QP.assign rfl rfl).read ?_
    refine Sq.nil ?_
    exact J.envJ (J.keep (.cons (by repeat constructor) (.cons (by repeat constructor) (.cons (by repeat constructor) Takes.nil))) (hl5 (i + 1) (by omega) (by omega))) ⟨rfl, rfl, rfl, rfl, (congrArg (fun n : Nat => some (Value.int .i64 n)) (show _ = _ from by rw [filter_succ _ hi, hmine]; simp)), rfl, trivial⟩
  ·skip
   refine Dw.pure (i := 10) rfl (by kernel_rfl) (Want.none rfl) rfl (ltN rfl) (QP.move rfl rfl) ?_
   refine Dw.skip (i := 11) rfl (by kernel_rfl) (Want.no rfl rfl rfl rfl) rfl (ltN rfl) ?_
   refine Dw.skip (i := 12) rfl (by kernel_rfl) (Want.no rfl rfl rfl rfl) rfl (ltN rfl) ?_
   refine Dw.skip (i := 13) rfl (by kernel_rfl) (Want.no rfl rfl rfl rfl) rfl (ltN rfl) ?_
   refine Dw.skip (i := 14) rfl (by kernel_rfl) (Want.no rfl rfl rfl rfl) rfl (ltN rfl) ?_
   refine Dw.skip (i := 15) rfl (by kernel_rfl) (Want.no rfl rfl rfl rfl) rfl (ltN rfl) ?_
   refine Dw.skip (i := 16) rfl (by kernel_rfl) (Want.no rfl rfl rfl rfl) rfl (ltN rfl) ?_
   refine Dw.skip (i := 17) rfl (by kernel_rfl) (Want.no rfl rfl rfl rfl) rfl (ltN rfl) ?_
   refine Dw.skip (i := 18) rfl (by kernel_rfl) (Want.no rfl rfl rfl rfl) rfl (ltN rfl) ?_
   refine Dw.skip (i := 19) rfl (by kernel_rfl) (Want.no rfl rfl rfl rfl) rfl (ltN rfl) ?_
   refine Dw.skip (i := 20) rfl (by kernel_rfl) (Want.no rfl rfl rfl rfl) rfl (ltN rfl) ?_
   refine Dw.pure (i := 21) rfl (by kernel_rfl) (Want.none rfl) rfl (ltN rfl) (QP.pick_f rfl rfl rfl) ?_
   refine Dw.pure (i := 22) rfl (by kernel_rfl) (Want.none rfl) rfl (ltN rfl) (QP.move rfl rfl) ?_
   refine Dw.skip (i := 23) rfl (by kernel_rfl) (Want.no rfl rfl rfl rfl) rfl (ltN rfl) ?_
   refine Dw.skip (i := 24) rfl (by kernel_rfl) (Want.no rfl rfl rfl rfl) rfl (ltN rfl) ?_
   refine Dw.skip (i := 25) rfl (by kernel_rfl) (Want.no rfl rfl rfl rfl) rfl (ltN rfl) ?_
   refine Dw.skip (i := 26) rfl (by kernel_rfl) (Want.no rfl rfl rfl rfl) rfl (ltN rfl) ?_
   refine Dw.skip (i := 27) rfl (by kernel_rfl) (Want.no rfl rfl rfl rfl) rfl (ltN rfl) ?_
   refine Dw.skip (i := 28) rfl (by kernel_rfl) (Want.no rfl rfl rfl rfl) rfl (ltN rfl) ?_
   refine Dw.skip (i := 29) rfl (by kernel_rfl) (Want.no rfl rfl rfl rfl) rfl (ltN rfl) ?_
   refine Dw.skip (i := 30) rfl (by kernel_rfl) (Want.no rfl rfl rfl rfl) rfl (ltN rfl) ?_
   refine Dw.skip (i := 31) rfl (by kernel_rfl) (Want.no rfl rfl rfl rfl) rfl (ltN rfl) ?_
   refine Dw.pure (i := 32) rfl (by kernel_rfl) (Want.none rfl) rfl (ltN rfl) (QP.pick_f rfl rfl rfl) ?_
   refine Dw.nil (by kernel_rfl) ?_
   refine hk9 _ _ ?_
   refine Run.cond_f rfl ?_
   refine Run.skip ?_
   refine hk8 _ _ ?_
   refine Run.region ?_
   show Sq _ _ _ [0, 1, 2] _ _ _ _
   have hmine : mineR j fr x = false := by simp only [mineR, Bool.and_eq_false_iff, decide_eq_false_iff_not]; exact .inl (.inl c29)
   refine Sq.slEq (by repeat constructor) (mapTo_same (f := retrR now j fr) hi (by unfold retrR; rw [hmine]; rfl)) ?_
   refine Sq.quiet (i := 0) rfl (Want.none rfl) rfl (ltN rfl) (QP.move rfl rfl).read ?_
   refine Sq.quiet (i := 1) rfl (Want.none rfl) rfl (ltN rfl) (QP.add64 rfl rfl rfl (by first | omega | (simp <;> omega)) (by first | omega | (simp <;> omega))).read ?_
   refine Sq.quiet (i := 2) rfl (Want.none rfl) rfl (ltN rfl) (QP.assign rfl rfl).read ?_
   refine Sq.nil ?_
   exact J.envJ (J.keep (.cons (by repeat constructor) (.cons (by repeat constructor) (.cons (by repeat constructor) Takes.nil))) (hl5 (i + 1) (by omega) (by omega))) ⟨rfl, rfl, rfl, rfl, (congrArg (fun n : Nat => some (Value.int .i64 n)) (show _ = _ from by rw [filter_succ _ hi, hmine]; simp)), rfl, trivial⟩
 ·skip
  refine Sq.nil ?_
  refine hk7 _ _ ?_
  refine Run.cond_f rfl ?_
  refine Run.exit rfl ?_
  refine hk3 _ _ ?_
  refine Run.seq fun k12 hk12 => ?_
  refine Run.region ?_
  show Sq _ _ _ [0, 1] _ _ _ _
  refine Sq.quiet (i := 0) rfl (Want.none rfl) rfl (ltN rfl) (QP.move rfl rfl).read ?_
  refine Sq.quiet (i := 1) rfl (Want.none rfl) rfl (ltN rfl) (QP.assign rfl rfl).read ?_
  refine Sq.nil ?_
  refine hk12 _ _ ?_
  refine Run.ret ?_
  exact J.ends (res_tmp rfl rfl) (.cons (by repeat constructor) (.cons (by repeat constructor) Takes.nil)) ⟨by rw [List.take_of_length_le (by omega)], by rw [mapTo_all _ (by omega)]⟩

theorem rsetmetric_spec (F : Fr) {b : Nat} {most : Int} {a : Option Addr} {c : Nat} {L : List Route} (hh : SlH a c L) (hL : L.length ≤ 1000000) {i : Nat} {x : Route} (hi : L[i]? = some x) (m : Int) : Spec Try.prog 41 #[.pointer (some ⟨b, 0, none⟩), .int .i64 (i : Int), .int .u16 m] [blk b (Ref16Table.enc ⟨most, ⟨a, L.length, c⟩⟩) 57, slA 37 81 Route.enc (.slice a L.length c) L] F (fun v S => v = .bool (decide (x.metric ≠ m)) ∧ S = [blk b (Ref16Table.enc ⟨most, ⟨a, L.length, c⟩⟩) 57, slA 37 81 Route.enc (.slice a L.length c) (L.set i { x with metric := m })]) := by
 refine Spec.intro (N := 27) (args := [.pointer (some ⟨b, 0, none⟩), .int .i64 (i : Int), .int .u16 m]) Try.func41 rfl rfl (by simp) ?_
 refine Run.seq fun k1 hk1 => ?_
 refine Run.region ?_
 show Sq _ _ _ [0] _ _ _ _
 refine Sq.quiet (i := 0) rfl (Want.none rfl) rfl (ltN rfl) (QP.assign rfl rfl).read ?_
 refine Sq.nil ?_
 refine hk1 _ _ ?_
 refine Run.seq fun k2 hk2 => ?_
 refine Run.region ?_
 show Sq _ _ _ [0, 1, 2, 3, 4, 5, 6, 7, 8] _ _ _ _
 have hlt : i < L.length := (List.getElem?_eq_some_iff.1 hi).1
 obtain ⟨b0, o0, rfl⟩ := hh.get (by omega)
 refine Sq.quiet (i := 0) rfl (Want.none rfl) rfl (ltN rfl) (QP.move rfl rfl).read ?_
 refine Sq.quiet (i := 1) rfl (Want.none rfl) rfl (ltN rfl) (QP.nilCheck rfl rfl).read ?_
 refine Sq.quiet (i := 2) rfl (Want.none rfl) rfl (ltN rfl) (QP.fieldAddr rfl rfl f57_1).read ?_
 refine Sq.quiet (i := 3) rfl (Want.none rfl) rfl (ltN rfl) (QR.load1 (v := .slice _ L.length _) rfl rfl g46 (Ref16Table.sub_l _)) ?_
 refine Sq.quiet (i := 4) rfl (Want.none rfl) rfl (ltN rfl) (QP.move rfl rfl).read ?_
 refine Sq.quiet (i := 5) rfl (Want.none rfl) rfl (ltN rfl) (QP.indexAddr rfl rfl rfl Try.underlying46 z37 (by first | omega | (simp <;> omega)) (by first | omega | (simp <;> omega))).read ?_
 refine Sq.quiet (i := 6) rfl (Want.none rfl) rfl (ltN rfl) (QP.fieldAddr rfl rfl f37_6).read ?_
 refine Sq.quiet (i := 7) rfl (Want.none rfl) rfl (ltN rfl) (QR.loadSlF1 rfl rfl g35 Route.enc_len (SlAt.own Route.enc_len (by repeat constructor)) hi (Route.sub_metric _)) ?_
 refine Sq.quiet (i := 8) rfl (Want.none rfl) rfl (ltN rfl) (QP.assign rfl rfl).read ?_
 refine Sq.nil ?_
 refine hk2 _ _ ?_
 refine Run.seq fun k3 hk3 => ?_
 refine Run.region ?_
 show Sq _ _ _ [0, 1, 2, 3, 4, 5, 6, 7, 8] _ _ _ _
 refine Sq.quiet (i := 0) rfl (Want.none rfl) rfl (ltN rfl) (QP.move rfl rfl).read ?_
 refine Sq.quiet (i := 1) rfl (Want.none rfl) rfl (ltN rfl) (QP.nilCheck rfl rfl).read ?_
 refine Sq.quiet (i := 2) rfl (Want.none rfl) rfl (ltN rfl) (QP.fieldAddr rfl rfl f57_1).read ?_
 refine Sq.quiet (i := 3) rfl (Want.none rfl) rfl (ltN rfl) (QR.load1 (v := .slice _ L.length _) rfl rfl g46 (Ref16Table.sub_l _)) ?_
 refine Sq.quiet (i := 4) rfl (Want.none rfl) rfl (ltN rfl) (QP.move rfl rfl).read ?_
 refine Sq.quiet (i := 5) rfl (Want.none rfl) rfl (ltN rfl) (QP.move rfl rfl).read ?_
 refine Sq.quiet (i := 6) rfl (Want.none rfl) rfl (ltN rfl) (QP.indexAddr rfl rfl rfl Try.underlying46 z37 (by first | omega | (simp <;> omega)) (by first | omega | (simp <;> omega))).read ?_
 refine Sq.quiet (i := 7) rfl (Want.none rfl) rfl (ltN rfl) (QP.fieldAddr rfl rfl f37_6).read ?_
 refine Sq.act (i := 8) rfl (Want.none rfl) rfl (EF.storeSlF (enc := Route.enc) rfl rfl rfl z35 (by repeat constructor) Route.enc_len (by first | omega | (simp <;> omega)) (fun y hy => by cases hy.symm.trans hi; exact (Route.set_metric _ m)) (cell_one rfl)) ?_
 rintro _ _ rfl
 refine Sq.nil ?_
 refine hk3 _ _ ?_
 refine Run.seq fun k4 hk4 => ?_
 refine Run.region ?_
 show Sq _ _ _ [0, 1, 2, 3] _ _ _ _
 refine Sq.quiet (i := 0) rfl (Want.none rfl) rfl (ltN rfl) (QP.move rfl rfl).read ?_
 refine Sq.quiet (i := 1) rfl (Want.none rfl) rfl (ltN rfl) (QP.move rfl rfl).read ?_
 refine Sq.quiet (i := 2) rfl (Want.none rfl) rfl (ltN rfl) (QP.neq rfl rfl rfl).read ?_
 refine Sq.quiet (i := 3) rfl (Want.none rfl) rfl (ltN rfl) (QP.assign rfl rfl).read ?_
 refine Sq.nil ?_
 refine hk4 _ _ ?_
 refine Run.ret ?_
 exact J.ends (res_tmp rfl rfl) (.cons (by repeat constructor) (.cons (by repeat constructor) Takes.nil)) ⟨rfl, rfl⟩

def selR (p : Pair) (j : I64) (fr : Bs 16) (s : Route) : Route := if s.pair = p then { s with selected := decide (s.if_.val = j.val) && decide (s.from_ = fr) } else s

theorem rselect_none (F : Fr) {b : Nat} {most : Int} {a : Option Addr} {c : Nat} {L : List Route} (hh : SlH a c L) (hL : L.length ≤ 1000000) (p : Pair) (j : I64) (fr : Bs 16) (hno : ∀ x ∈ L, keyR x ≠ ⟨p, j, fr⟩) : Spec Try.prog 42 #[.pointer (some ⟨b, 0, none⟩), .agg (Pair.enc p).toArray, .int .i64 (j : I64).val, .agg (Bs.enc (fr : Bs 16)).toArray] [blk b (Ref16Table.enc ⟨most, ⟨a, L.length, c⟩⟩) 57, slA 37 81 Route.enc (.slice a L.length c) L] F (fun v S => v = .int .i64 7 ∧ S = [blk b (Ref16Table.enc ⟨most, ⟨a, L.length, c⟩⟩) 57, slA 37 81 Route.enc (.slice a L.length c) L]) := by
 refine Spec.intro (N := 64) (args := [.pointer (some ⟨b, 0, none⟩), .agg (Pair.enc p).toArray, .int .i64 (j : I64).val, .agg (Bs.enc (fr : Bs 16)).toArray]) Try.func42 rfl rfl (by simp) ?_
 refine Run.seq fun k1 hk1 => ?_
 refine Run.region ?_
 show Sq _ _ _ [0, 1, 2] _ _ _ _
 refine Sq.eff (i := 0) rfl (Want.none rfl) rfl (ltN rfl) (EF.boxA rfl rfl) ?_
 rintro _ _ ⟨b5, rfl, rfl⟩
 refine Sq.eff (i := 1) rfl (Want.none rfl) rfl (ltN rfl) (EF.boxA rfl rfl) ?_
 rintro _ _ ⟨b7, rfl, rfl⟩
 refine Sq.quiet (i := 2) rfl (Want.none rfl) rfl (ltN rfl) (QP.assign rfl rfl).read ?_
 refine Sq.nil ?_
 refine hk1 _ _ ?_
 refine Run.seq fun k2 hk2 => ?_
 refine Run.seq fun k3 hk3 => ?_
 refine Run.region ?_
 show Sq _ _ _ [0, 1, 2, 3, 4, 5] _ _ _ _
 refine Sq.quiet (i := 0) rfl (Want.none rfl) rfl (ltN rfl) (QP.move rfl rfl).read ?_
 refine Sq.quiet (i := 1) rfl (Want.none rfl) rfl (ltN rfl) (QR.load rfl rfl g32 (Pair.enc_sub _)) ?_
 refine Sq.quiet (i := 2) rfl (Want.none rfl) rfl (ltN rfl) (QP.move rfl rfl).read ?_
 refine Sq.quiet (i := 3) rfl (Want.none rfl) rfl (ltN rfl) (QR.load rfl rfl g28 (Bs.sub _)) ?_
 refine Sq.eff (i := 4) rfl (Want.none rfl) rfl (ltN rfl) (EF.call rfl ce21 rfl (.cons (by repeat constructor) (.cons (by repeat constructor) Takes.nil)) (fun F' hle hr => rfind_spec F' hh hL p j fr)) ?_
 rintro _ _ ⟨_, ⟨rfl, n14, rfl, hfind⟩, rfl⟩
 refine J.app ?_
 refine Sq.quiet (i := 5) rfl (Want.none rfl) rfl (ltN rfl) (QP.lss rfl rfl rfl).read ?_
 refine J.decT (by rcases hfind with ⟨h1, _⟩ | ⟨i, x, h1, h2, h3⟩ <;> first | omega | exact absurd h3 (hno x (List.mem_of_getElem? h2))) ?_
 refine Sq.nil ?_
 refine hk3 _ _ ?_
 refine Run.cond_t rfl ?_
 refine Run.seq fun k4 hk4 => ?_
 refine Run.region ?_
 show Sq _ _ _ [0] _ _ _ _
 refine Sq.quiet (i := 0) rfl (Want.none rfl) rfl (ltN rfl) (QP.assign rfl rfl).read ?_
 refine Sq.nil ?_
 refine hk4 _ _ ?_
 refine Run.ret ?_
 exact J.ends (res_tmp rfl rfl) (.cons (by repeat constructor) (.cons (by repeat constructor) Takes.nil)) ⟨rfl, rfl⟩

theorem rselect_some (F : Fr) {b : Nat} {most : Int} {a : Option Addr} {c : Nat} {L : List Route} (hh : SlH a c L) (hL : L.length ≤ 1000000) (p : Pair) (j : I64) (fr : Bs 16) {i0 : Nat} {x0 : Route} (hi0 : L[i0]? = some x0) (hk0 : keyR x0 = ⟨p, j, fr⟩) : Spec Try.prog 42 #[.pointer (some ⟨b, 0, none⟩), .agg (Pair.enc p).toArray, .int .i64 (j : I64).val, .agg (Bs.enc (fr : Bs 16)).toArray] [blk b (Ref16Table.enc ⟨most, ⟨a, L.length, c⟩⟩) 57, slA 37 81 Route.enc (.slice a L.length c) L] F (fun v S => v = .int .i64 0 ∧ S = [blk b (Ref16Table.enc ⟨most, ⟨a, L.length, c⟩⟩) 57, slA 37 81 Route.enc (.slice a L.length c) (L.map (selR p j fr))]) := by
 refine Spec.intro (N := 64) (args := [.pointer (some ⟨b, 0, none⟩), .agg (Pair.enc p).toArray, .int .i64 (j : I64).val, .agg (Bs.enc (fr : Bs 16)).toArray]) Try.func42 rfl rfl (by simp) ?_
 refine Run.seq fun k1 hk1 => ?_
 refine Run.region ?_
 show Sq _ _ _ [0, 1, 2] _ _ _ _
 refine Sq.eff (i := 0) rfl (Want.none rfl) rfl (ltN rfl) (EF.boxA rfl rfl) ?_
 rintro _ _ ⟨b5, rfl, rfl⟩
 refine Sq.eff (i := 1) rfl (Want.none rfl) rfl (ltN rfl) (EF.boxA rfl rfl) ?_
 rintro _ _ ⟨b7, rfl, rfl⟩
 refine Sq.quiet (i := 2) rfl (Want.none rfl) rfl (ltN rfl) (QP.assign rfl rfl).read ?_
 refine Sq.nil ?_
 refine hk1 _ _ ?_
 refine Run.seq fun k2 hk2 => ?_
 refine Run.seq fun k3 hk3 => ?_
 refine Run.region ?_
 show Sq _ _ _ [0, 1, 2, 3, 4, 5] _ _ _ _
 refine Sq.quiet (i := 0) rfl (Want.none rfl) rfl (ltN rfl) (QP.move rfl rfl).read ?_
 refine Sq.quiet (i := 1) rfl (Want.none rfl) rfl (ltN rfl) (QR.load rfl rfl g32 (Pair.enc_sub _)) ?_
 refine Sq.quiet (i := 2) rfl (Want.none rfl) rfl (ltN rfl) (QP.move rfl rfl).read ?_
 refine Sq.quiet (i := 3) rfl (Want.none rfl) rfl (ltN rfl) (QR.load rfl rfl g28 (Bs.sub _)) ?_
 refine Sq.eff (i := 4) rfl (Want.none rfl) rfl (ltN rfl) (EF.call rfl ce21 rfl (.cons (by repeat constructor) (.cons (by repeat constructor) Takes.nil)) (fun F' hle hr => rfind_spec F' hh hL p j fr)) ?_
 rintro _ _ ⟨_, ⟨rfl, n14, rfl, hfind⟩, rfl⟩
 refine J.app ?_
 refine Sq.quiet (i := 5) rfl (Want.none rfl) rfl (ltN rfl) (QP.lss rfl rfl rfl).read ?_
 refine J.decF (by rcases hfind with ⟨_, h2⟩ | ⟨i, x, h1, h2, h3⟩ <;> first | omega | exact absurd hk0 (h2 x0 (List.mem_of_getElem? hi0))) ?_
 refine Sq.nil ?_
 refine hk3 _ _ ?_
 refine Run.cond_f rfl ?_
 refine Run.skip ?_
 refine hk2 _ _ ?_
 refine Run.seq fun k4 hk4 => ?_
 refine Run.seq fun k5 hk5 => ?_
 refine Run.region ?_
 show Sq _ _ _ [0] _ _ _ _
 refine Sq.slEq (by repeat constructor) (mapTo_zero (selR p j fr) L).symm ?_
 refine Sq.quiet (i := 0) rfl (Want.none rfl) rfl (ltN rfl) (QP.assign rfl rfl).read ?_
 refine Sq.nil ?_
 refine hk5 _ _ ?_
 refine Run.block ?_
 refine Run.loop1 (fun (i : Nat) => i ≤ L.length) (fun i => .cons 0 (.pointer (some ⟨b, 0, none⟩)) (.cons 2 (.int .i64 j.val) (.cons 5 (.pointer (some ⟨b5, 0, none⟩)) (.cons 7 (.pointer (some ⟨b7, 0, none⟩)) (.cons 9 (.int .i64 i) (.nil)))))) (fun i => [blk b (Ref16Table.enc ⟨most, ⟨a, L.length, c⟩⟩) 57, slA 37 81 Route.enc (.slice a L.length c) (mapTo (selR p j fr) i L), blk b5 (Pair.enc p) 32, blk b7 (Bs.enc fr) 28]) (fun i => L.length - i) (0) (Nat.zero_le _) ?_ ?_
 ·exact fun _ j => J.envJ (J.keep (.cons (by repeat constructor) (.cons (by repeat constructor) (.cons (by repeat constructor) (.cons (by repeat constructor) Takes.nil)))) j) ⟨rfl, rfl, rfl, rfl, rfl, trivial⟩
 rintro i hile kl6 hl6
 refine Run.seq fun k7 hk7 => ?_
 refine Run.seq fun k8 hk8 => ?_
 refine Run.region ?_
 show Sq _ _ _ [0, 1, 2, 3, 4, 5, 6] _ _ _ _
 refine Sq.quiet (i := 0) rfl (Want.none rfl) rfl (ltN rfl) (QP.move rfl rfl).read ?_
 refine Sq.quiet (i := 1) rfl (Want.none rfl) rfl (ltN rfl) (QP.move rfl rfl).read ?_
 refine Sq.quiet (i := 2) rfl (Want.none rfl) rfl (ltN rfl) (QP.nilCheck rfl rfl).read ?_
 refine Sq.quiet (i := 3) rfl (Want.none rfl) rfl (ltN rfl) (QP.fieldAddr rfl rfl f57_1).read ?_
 refine Sq.quiet (i := 4) rfl (Want.none rfl) rfl (ltN rfl) (QR.load1 (v := .slice _ L.length _) rfl rfl g46 (Ref16Table.sub_l _)) ?_
 refine Sq.quiet (i := 5) rfl (Want.none rfl) rfl (ltN rfl) (QP.len rfl rfl rfl Try.underlying46).read ?_
 refine Sq.quiet (i := 6) rfl (Want.none rfl) rfl (ltN rfl) (QP.lss rfl rfl rfl).read ?_
 refine J.caseD (fun c22 => ?_) (fun c22 => ?_)
 ·skip
  refine Sq.nil ?_
  refine hk8 _ _ ?_
  refine Run.cond_t rfl ?_
  refine Run.skip ?_
  refine hk7 _ _ ?_
  refine Run.seq fun k9 hk9 => ?_
  refine Run.block ?_
  refine Run.seq fun k10 hk10 => ?_
  refine Run.regionD (M := [0, 1, 3, 7, 0, 31, 63, 127, 0, 511]) (q := 1023) (r := 392) (by kernel_rfl) ?_
  have hlt : i < L.length := by omega
  obtain ⟨x, hi⟩ : ∃ x, L[i]? = some x := ⟨_, List.getElem?_eq_getElem hlt⟩
  obtain ⟨b0, o0, rfl⟩ := hh.get (by omega)
  have hm := mapTo_get (selR p j fr) hi
  have hml := mapTo_len (selR p j fr) i L
  refine Dw.pure (i := 0) rfl (by kernel_rfl) (Want.none rfl) rfl (ltN rfl) (QP.move rfl rfl) ?_
  refine Dw.pure (i := 1) rfl (by kernel_rfl) (Want.none rfl) rfl (ltN rfl) (QP.nilCheck rfl rfl) ?_
  refine Dw.pure (i := 2) rfl (by kernel_rfl) (Want.none rfl) rfl (ltN rfl) (QP.fieldAddr rfl rfl f57_1) ?_
  refine Dw.read (i := 3) rfl (by kernel_rfl) (Want.none rfl) rfl (ltN rfl) (QR.load1 (v := .slice _ L.length _) rfl rfl g46 (Ref16Table.sub_l _)) ?_
  refine Dw.pure (i := 4) rfl (by kernel_rfl) (Want.none rfl) rfl (ltN rfl) (QP.move rfl rfl) ?_
  refine Dw.pure (i := 5) rfl (by kernel_rfl) (Want.none rfl) rfl (ltN rfl) (QP.indexAddr rfl rfl rfl Try.underlying46 z37 (by first | omega | (simp <;> omega)) (by first | omega | (simp <;> omega))) ?_
  refine Dw.pure (i := 6) rfl (by kernel_rfl) (Want.none rfl) rfl (ltN rfl) (QP.fieldAddr rfl rfl f37_0) ?_
  refine Dw.read (i := 7) rfl (by kernel_rfl) (Want.none rfl) rfl (ltN rfl) (QR.loadSlF rfl rfl g32 Route.enc_len (SlAt.own Route.enc_len (by repeat constructor)) hm (Route.sub_pair _)) ?_
  refine Dw.read (i := 8) rfl (by kernel_rfl) (Want.none rfl) rfl (ltN rfl) (QR.load rfl rfl g32 (Pair.enc_sub _)) ?_
  refine Dw.pure (i := 9) rfl (by kernel_rfl) (Want.none rfl) rfl (ltN rfl) (QP.eql_agg eq32 rfl rfl rfl) ?_
  refine J.caseD (fun c34 => ?_) (fun c34 => ?_)
  ·skip
   refine Dw.nil (by kernel_rfl) ?_
   refine hk10 _ _ ?_
   refine Run.cond_t rfl ?_
   refine Run.regionD (M := [0, 1, 3, 7, 0, 0, 32, 96, 224, 0, 992, 2016, 4064, 0, 16352, 32736, 65504, 131040, 262112, 524256, 65504, 2097120, 4194272, 8388576, 65504, 33554400, 67108832, 134217727, 268435455, 536870911]) (q := 536870911) (r := 25694472) (by kernel_rfl) ?_
   refine Dw.pure (i := 0) rfl (by kernel_rfl) (Want.none rfl) rfl (ltN rfl) (QP.move rfl rfl) ?_
   refine Dw.pure (i := 1) rfl (by kernel_rfl) (Want.none rfl) rfl (ltN rfl) (QP.nilCheck rfl rfl) ?_
   refine Dw.pure (i := 2) rfl (by kernel_rfl) (Want.none rfl) rfl (ltN rfl) (QP.fieldAddr rfl rfl f57_1) ?_
   refine Dw.read (i := 3) rfl (by kernel_rfl) (Want.none rfl) rfl (ltN rfl) (QR.load1 (v := .slice _ L.length _) rfl rfl g46 (Ref16Table.sub_l _)) ?_
   refine Dw.pure (i := 4) rfl (by kernel_rfl) (Want.none rfl) rfl (ltN rfl) (QP.move rfl rfl) ?_
   refine Dw.pure (i := 5) rfl (by kernel_rfl) (Want.none rfl) rfl (ltN rfl) (QP.move rfl rfl) ?_
   refine Dw.pure (i := 6) rfl (by kernel_rfl) (Want.none rfl) rfl (ltN rfl) (QP.nilCheck rfl rfl) ?_
   refine Dw.pure (i := 7) rfl (by kernel_rfl) (Want.none rfl) rfl (ltN rfl) (QP.fieldAddr rfl rfl f57_1) ?_
   refine Dw.read (i := 8) rfl (by kernel_rfl) (Want.none rfl) rfl (ltN rfl) (QR.load1 (v := .slice _ L.length _) rfl rfl g46 (Ref16Table.sub_l _)) ?_
   refine Dw.pure (i := 9) rfl (by kernel_rfl) (Want.none rfl) rfl (ltN rfl) (QP.move rfl rfl) ?_
   refine Dw.pure (i := 10) rfl (by kernel_rfl) (Want.none rfl) rfl (ltN rfl) (QP.indexAddr rfl rfl rfl Try.underlying46 z37 (by first | omega | (simp <;> omega)) (by first | omega | (simp <;> omega))) ?_
   refine Dw.pure (i := 11) rfl (by kernel_rfl) (Want.none rfl) rfl (ltN rfl) (QP.fieldAddr rfl rfl f37_1) ?_
   refine Dw.read (i := 12) rfl (by kernel_rfl) (Want.none rfl) rfl (ltN rfl) (QR.loadSlF1 rfl rfl g3 Route.enc_len (SlAt.own Route.enc_len (by repeat constructor)) hm (Route.sub_if_ _)) ?_
   refine Dw.pure (i := 13) rfl (by kernel_rfl) (Want.none rfl) rfl (ltN rfl) (QP.move rfl rfl) ?_
   refine Dw.pure (i := 14) rfl (by kernel_rfl) (Want.none rfl) rfl (ltN rfl) (QP.eql rfl rfl rfl) ?_
   refine J.caseD (fun c49 => ?_) (fun c49 => ?_)
   ·skip
    refine Dw.pure (i := 15) rfl (by kernel_rfl) (Want.none rfl) rfl (ltN rfl) (QP.move rfl rfl) ?_
    refine Dw.pure (i := 16) rfl (by kernel_rfl) (Want.yes rfl rfl rfl rfl) rfl (ltN rfl) (QP.move rfl rfl) ?_
    refine Dw.pure (i := 17) rfl (by kernel_rfl) (Want.yes rfl rfl rfl rfl) rfl (ltN rfl) (QP.nilCheck rfl rfl) ?_
    refine Dw.pure (i := 18) rfl (by kernel_rfl) (Want.yes rfl rfl rfl rfl) rfl (ltN rfl) (QP.fieldAddr rfl rfl f57_1) ?_
    refine Dw.read (i := 19) rfl (by kernel_rfl) (Want.yes rfl rfl rfl rfl) rfl (ltN rfl) (QR.load1 (v := .slice _ L.length _) rfl rfl g46 (Ref16Table.sub_l _)) ?_
    refine Dw.pure (i := 20) rfl (by kernel_rfl) (Want.yes rfl rfl rfl rfl) rfl (ltN rfl) (QP.move rfl rfl) ?_
    refine Dw.pure (i := 21) rfl (by kernel_rfl) (Want.yes rfl rfl rfl rfl) rfl (ltN rfl) (QP.indexAddr rfl rfl rfl Try.underlying46 z37 (by first | omega | (simp <;> omega)) (by first | omega | (simp <;> omega))) ?_
    refine Dw.pure (i := 22) rfl (by kernel_rfl) (Want.yes rfl rfl rfl rfl) rfl (ltN rfl) (QP.fieldAddr rfl rfl f37_2) ?_
    refine Dw.read (i := 23) rfl (by kernel_rfl) (Want.yes rfl rfl rfl rfl) rfl (ltN rfl) (QR.loadSlF rfl rfl g28 Route.enc_len (SlAt.own Route.enc_len (by repeat constructor)) hm (Route.sub_from_ _)) ?_
    refine Dw.read (i := 24) rfl (by kernel_rfl) (Want.yes rfl rfl rfl rfl) rfl (ltN rfl) (QR.load rfl rfl g28 (Bs.sub _)) ?_
    refine Dw.pure (i := 25) rfl (by kernel_rfl) (Want.yes rfl rfl rfl rfl) rfl (ltN rfl) (QP.eql_agg eq28 rfl rfl rfl) ?_
    refine Dw.pure (i := 26) rfl (by kernel_rfl) (Want.none rfl) rfl (ltN rfl) (QP.pick_t rfl rfl rfl) ?_
    refine Dw.pure (i := 27) rfl (by kernel_rfl) (Want.none rfl) rfl (ltN rfl) (QP.indexAddr rfl rfl rfl Try.underlying46 z37 (by first | omega | (simp <;> omega)) (by first | omega | (simp <;> omega))) ?_
    refine Dw.pure (i := 28) rfl (by kernel_rfl) (Want.none rfl) rfl (ltN rfl) (QP.fieldAddr rfl rfl f37_10) ?_
    refine Dw.eff (i := 29) (by kernel_rfl) (by kernel_rfl) ?_
    refine One.act (o := _) (l := []) rfl (by kernel_rfl) (Want.none rfl) rfl (EF.storeSlF (enc := Route.enc) rfl rfl rfl z4 (by repeat constructor) Route.enc_len (by first | omega | (simp <;> omega)) (fun y hy => by cases hy.symm.trans hm; exact (Route.set_selected _ _)) (cell_one rfl)) (by kernel_rfl) ?_
    rintro _ _ rfl
    refine ⟨fun _ h => (by cases h), ?_⟩
    refine Dw.nil (by kernel_rfl) ?_
    refine hk9 _ _ ?_
    refine Run.region ?_
    show Sq _ _ _ [0, 1, 2] _ _ _ _
    refine Sq.slEq (by repeat constructor) (mapTo_set (f := selR p j fr) hi (by unfold selR; rw [if_pos c34]; simp_all)) ?_
    refine Sq.quiet (i := 0) rfl (Want.none rfl) rfl (ltN rfl) (QP.move rfl rfl).read ?_
    refine Sq.quiet (i := 1) rfl (Want.none rfl) rfl (ltN rfl) (QP.add64 rfl rfl rfl (by first | omega | (simp <;> omega)) (by first | omega | (simp <;> omega))).read ?_
    refine Sq.quiet (i := 2) rfl (Want.none rfl) rfl (ltN rfl) (QP.assign rfl rfl).read ?_
    refine Sq.nil ?_
    exact J.envJ (J.keep (.cons (by repeat constructor) (.cons (by repeat constructor) (.cons (by repeat constructor) (.cons (by repeat constructor) Takes.nil)))) (hl6 (i + 1) (by omega) (by omega))) ⟨rfl, rfl, rfl, rfl, rfl, trivial⟩
   ·skip
    refine Dw.pure (i := 15) rfl (by kernel_rfl) (Want.none rfl) rfl (ltN rfl) (QP.move rfl rfl) ?_
    refine Dw.skip (i := 16) rfl (by kernel_rfl) (Want.no rfl rfl rfl rfl) rfl (ltN rfl) ?_
    refine Dw.skip (i := 17) rfl (by kernel_rfl) (Want.no rfl rfl rfl rfl) rfl (ltN rfl) ?_
    refine Dw.skip (i := 18) rfl (by kernel_rfl) (Want.no rfl rfl rfl rfl) rfl (ltN rfl) ?_
    refine Dw.skip (i := 19) rfl (by kernel_rfl) (Want.no rfl rfl rfl rfl) rfl (ltN rfl) ?_
    refine Dw.skip (i := 20) rfl (by kernel_rfl) (Want.no rfl rfl rfl rfl) rfl (ltN rfl) ?_
    refine Dw.skip (i := 21) rfl (by kernel_rfl) (Want.no rfl rfl rfl rfl) rfl (ltN rfl) ?_
    refine Dw.skip (i := 22) rfl (by kernel_rfl) (Want.no rfl rfl rfl rfl) rfl (ltN rfl) ?_
    refine Dw.skip (i := 23) rfl (by kernel_rfl) (Want.no rfl rfl rfl rfl) rfl (ltN rfl) ?_
    refine Dw.skip (i := 24) rfl (by kernel_rfl) (Want.no rfl rfl rfl rfl) rfl (ltN rfl) ?_
    refine Dw.skip (i := 25) rfl (by kernel_rfl) (Want.no rfl rfl rfl rfl) rfl (ltN rfl) ?_
    refine Dw.pure (i := 26) rfl (by kernel_rfl) (Want.none rfl) rfl (ltN rfl) (QP.pick_f rfl rfl rfl) ?_
    refine Dw.pure (i := 27) rfl (by kernel_rfl) (Want.none rfl) rfl (ltN rfl) (QP.indexAddr rfl rfl rfl Try.underlying46 z37 (by first | omega | (simp <;> omega)) (by first | omega | (simp <;> omega))) ?_
    refine Dw.pure (i := 28) rfl (by kernel_rfl) (Want.none rfl) rfl (ltN rfl) (QP.fieldAddr rfl rfl f37_10) ?_
    refine Dw.eff (i := 29) (by kernel_rfl) (by kernel_rfl) ?_
    refine One.act (o := _) (l := []) rfl (by kernel_rfl) (Want.none rfl) rfl (EF.storeSlF (enc := Route.enc) rfl rfl rfl z4 (by repeat constructor) Route.enc_len (by first | omega | (simp <;> omega)) (fun y hy => by cases hy.symm.trans hm; exact (Route.set_selected _ _)) (cell_one rfl)) (by kernel_rfl) ?_
    rintro _ _ rfl
    refine ⟨fun _ h => (by cases h), ?_⟩
    refine Dw.nil (by kernel_rfl) ?_
    refine hk9 _ _ ?_
    refine Run.region ?_
    show Sq _ _ _ [0, 1, 2] _ _ _ _
    refine Sq.slEq (by repeat constructor) (mapTo_set (f := selR p j fr) hi (by unfold selR; rw [if_pos c34]; simp_all)) ?_
    refine Sq.quiet (i := 0) rfl (Want.none rfl) rfl (ltN rfl) (QP.move rfl rfl).read ?_
    refine Sq.quiet (i := 1) rfl (Want.none rfl) rfl (ltN rfl) (QP.add64 rfl rfl rfl (by first | omega | (simp <;> omega)) (by first | omega | (simp <;> omega))).read ?_
    refine Sq.quiet (i := 2) rfl (Want.none rfl) rfl (ltN rfl) (QP.assign rfl rfl).read ?_
    refine Sq.nil ?_
    exact J.envJ (J.keep (.cons (by repeat constructor) (.cons (by repeat constructor) (.cons (by repeat constructor) (.cons (by repeat constructor) Takes.nil)))) (hl6 (i + 1) (by omega) (by omega))) ⟨rfl, rfl, rfl, rfl, rfl, trivial⟩
  ·skip
   refine Dw.nil (by kernel_rfl) ?_
   refine hk10 _ _ ?_
   refine Run.cond_f rfl ?_
   refine Run.skip ?_
   refine hk9 _ _ ?_
   refine Run.region ?_
   show Sq _ _ _ [0, 1, 2] _ _ _ _
   refine Sq.slEq (by repeat constructor) (mapTo_same (f := selR p j fr) hi (by unfold selR; rw [if_neg c34])) ?_
   refine Sq.quiet (i := 0) rfl (Want.none rfl) rfl (ltN rfl) (QP.move rfl rfl).read ?_
   refine Sq.quiet (i := 1) rfl (Want.none rfl) rfl (ltN rfl) (QP.add64 rfl rfl rfl (by first | omega | (simp <;> omega)) (by first | omega | (simp <;> omega))).read ?_
   refine Sq.quiet (i := 2) rfl (Want.none rfl) rfl (ltN rfl) (QP.assign rfl rfl).read ?_
   refine Sq.nil ?_
   exact J.envJ (J.keep (.cons (by repeat constructor) (.cons (by repeat constructor) (.cons (by repeat constructor) (.cons (by repeat constructor) Takes.nil)))) (hl6 (i + 1) (by omega) (by omega))) ⟨rfl, rfl, rfl, rfl, rfl, trivial⟩
 ·skip
  refine Sq.nil ?_
  refine hk8 _ _ ?_
  refine Run.cond_f rfl ?_
  refine Run.exit rfl ?_
  refine hk4 _ _ ?_
  refine Run.seq fun k11 hk11 => ?_
  refine Run.region ?_
  show Sq _ _ _ [0] _ _ _ _
  refine Sq.quiet (i := 0) rfl (Want.none rfl) rfl (ltN rfl) (QP.assign rfl rfl).read ?_
  refine Sq.nil ?_
  refine hk11 _ _ ?_
  refine Run.ret ?_
  exact J.ends (res_tmp rfl rfl) (.cons (by repeat constructor) (.cons (by repeat constructor) Takes.nil)) ⟨rfl, by rw [mapTo_all _ (by omega)]⟩

theorem runselect_spec (F : Fr) {b : Nat} {most : Int} {a : Option Addr} {c : Nat} {L : List Route} (hh : SlH a c L) (hL : L.length ≤ 1000000) (p : Pair) : Spec Try.prog 43 #[.pointer (some ⟨b, 0, none⟩), .agg (Pair.enc p).toArray] [blk b (Ref16Table.enc ⟨most, ⟨a, L.length, c⟩⟩) 57, slA 37 81 Route.enc (.slice a L.length c) L] F (fun v S => v = .int .i64 (L.filter (unsP [p])).length ∧ S = [blk b (Ref16Table.enc ⟨most, ⟨a, L.length, c⟩⟩) 57, slA 37 81 Route.enc (.slice a L.length c) (L.map (unsR [p]))]) := by
 refine Spec.intro (N := 46) (args := [.pointer (some ⟨b, 0, none⟩), .agg (Pair.enc p).toArray]) Try.func43 rfl rfl (by simp) ?_
 refine Run.seq fun k1 hk1 => ?_
 refine Run.region ?_
 show Sq _ _ _ [0, 1] _ _ _ _
 refine Sq.eff (i := 0) rfl (Want.none rfl) rfl (ltN rfl) (EF.boxA rfl rfl) ?_
 rintro _ _ ⟨b3, rfl, rfl⟩
 refine Sq.quiet (i := 1) rfl (Want.none rfl) rfl (ltN rfl) (QP.assign rfl rfl).read ?_
 refine Sq.nil ?_
 refine hk1 _ _ ?_
 refine Run.seq fun k2 hk2 => ?_
 refine Run.region ?_
 show Sq _ _ _ [0] _ _ _ _
 refine Sq.quiet (i := 0) rfl (Want.none rfl) rfl (ltN rfl) (QP.assign rfl rfl).read ?_
 refine Sq.nil ?_
 refine hk2 _ _ ?_
 refine Run.seq fun k3 hk3 => ?_
 refine Run.seq fun k4 hk4 => ?_
 refine Run.region ?_
 show Sq _ _ _ [0] _ _ _ _
 refine Sq.slEq (by repeat constructor) (mapTo_zero (unsR [p]) L).symm ?_
 refine Sq.quiet (i := 0) rfl (Want.none rfl) rfl (ltN rfl) (QP.assign rfl rfl).read ?_
 refine Sq.nil ?_
 refine hk4 _ _ ?_
 refine Run.block ?_
 refine Run.loop1 (fun (i : Nat) => i ≤ L.length) (fun i => .cons 0 (.pointer (some ⟨b, 0, none⟩)) (.cons 3 (.pointer (some ⟨b3, 0, none⟩)) (.cons 5 (.int .i64 ((L.take i).filter (unsP [p])).length) (.cons 6 (.int .i64 i) (.nil))))) (fun i => [blk b (Ref16Table.enc ⟨most, ⟨a, L.length, c⟩⟩) 57, slA 37 81 Route.enc (.slice a L.length c) (mapTo (unsR [p]) i L), blk b3 (Pair.enc p) 32]) (fun i => L.length - i) (0) (Nat.zero_le _) ?_ ?_
 ·exact fun _ j => J.envJ (J.keep (.cons (by repeat constructor) (.cons (by repeat constructor) (.cons (by repeat constructor) Takes.nil))) j) ⟨rfl, rfl, rfl, rfl, trivial⟩
 rintro i hile kl5 hl5
 refine Run.seq fun k6 hk6 => ?_
 refine Run.seq fun k7 hk7 => ?_
 refine Run.region ?_
 show Sq _ _ _ [0, 1, 2, 3, 4, 5, 6] _ _ _ _
 refine Sq.quiet (i := 0) rfl (Want.none rfl) rfl (ltN rfl) (QP.move rfl rfl).read ?_
 refine Sq.quiet (i := 1) rfl (Want.none rfl) rfl (ltN rfl) (QP.move rfl rfl).read ?_
 refine Sq.quiet (i := 2) rfl (Want.none rfl) rfl (ltN rfl) (QP.nilCheck rfl rfl).read ?_
 refine Sq.quiet (i := 3) rfl (Want.none rfl) rfl (ltN rfl) (QP.fieldAddr rfl rfl f57_1).read ?_
 refine Sq.quiet (i := 4) rfl (Want.none rfl) rfl (ltN rfl) (QR.load1 (v := .slice _ L.length _) rfl rfl g46 (Ref16Table.sub_l _)) ?_
 refine Sq.quiet (i := 5) rfl (Want.none rfl) rfl (ltN rfl) (QP.len rfl rfl rfl Try.underlying46).read ?_
 refine Sq.quiet (i := 6) rfl (Want.none rfl) rfl (ltN rfl) (QP.lss rfl rfl rfl).read ?_
 refine J.caseD (fun c13 => ?_) (fun c13 => ?_)
 ·skip
  refine Sq.nil ?_
  refine hk7 _ _ ?_
  refine Run.cond_t rfl ?_
  refine Run.skip ?_
  refine hk6 _ _ ?_
  refine Run.seq fun k8 hk8 => ?_
  refine Run.block ?_
  refine Run.seq fun k9 hk9 => ?_
  refine Run.regionD (M := [0, 1, 3, 7, 0, 31, 63, 127, 0, 511, 1023, 2047, 4095, 8191, 16383, 2047, 65535, 131071, 262143, 524287]) (q := 1048575) (r := 278920) (by kernel_rfl) ?_
  have hlt : i < L.length := by omega
  obtain ⟨x, hi⟩ : ∃ x, L[i]? = some x := ⟨_, List.getElem?_eq_getElem hlt⟩
  obtain ⟨b0, o0, rfl⟩ := hh.get (by omega)
  have hm := mapTo_get (unsR [p]) hi
  have hml := mapTo_len (unsR [p]) i L
  have hfl : ((L.take i).filter (unsP [p])).length ≤ 1000000 := by
    have := List.length_filter_le (unsP [p]) (L.take i)
    have := List.length_take_le i L
    omega
  refine Dw.pure (i := 0) rfl (by kernel_rfl) (Want.none rfl) rfl (ltN rfl) (QP.move rfl rfl) ?_
  refine Dw.pure (i := 1) rfl (by kernel_rfl) (Want.none rfl) rfl (ltN rfl) (QP.nilCheck rfl rfl) ?_
  refine Dw.pure (i := 2) rfl (by kernel_rfl) (Want.none rfl) rfl (ltN rfl) (QP.fieldAddr rfl rfl f57_1) ?_
  refine Dw.read (i := 3) rfl (by kernel_rfl) (Want.none rfl) rfl (ltN rfl) (QR.load1 (v := .slice _ L.length _) rfl rfl g46 (Ref16Table.sub_l _)) ?_
  refine Dw.pure (i := 4) rfl (by kernel_rfl) (Want.none rfl) rfl (ltN rfl) (QP.move rfl rfl) ?_
  refine Dw.pure (i := 5) rfl (by kernel_rfl) (Want.none rfl) rfl (ltN rfl) (QP.indexAddr rfl rfl rfl Try.underlying46 z37 (by first | omega | (simp <;> omega)) (by first | omega | (simp <;> omega))) ?_
  refine Dw.pure (i := 6) rfl (by kernel_rfl) (Want.none rfl) rfl (ltN rfl) (QP.fieldAddr rfl rfl f37_0) ?_
  refine Dw.read (i := 7) rfl (by kernel_rfl) (Want.none rfl) rfl (ltN rfl) (QR.loadSlF rfl rfl g32 Route.enc_len (SlAt.own Route.enc_len (by repeat constructor)) hm (Route.sub_pair _)) ?_
  refine Dw.read (i := 8) rfl (by kernel_rfl) (Want.none rfl) rfl (ltN rfl) (QR.load rfl rfl g32 (Pair.enc_sub _)) ?_
  refine Dw.pure (i := 9) rfl (by kernel_rfl) (Want.none rfl) rfl (ltN rfl) (QP.eql_agg eq32 rfl rfl rfl) ?_
  refine J.caseD (fun c25 => ?_) (fun c25 => ?_)
  ·skip
   refine Dw.pure (i := 10) rfl (by kernel_rfl) (Want.none rfl) rfl (ltN rfl) (QP.move rfl rfl) ?_
   refine Dw.pure (i := 11) rfl (by kernel_rfl) (Want.yes rfl rfl rfl rfl) rfl (ltN rfl) (QP.move rfl rfl) ?_
   refine Dw.pure (i := 12) rfl (by kernel_rfl) (Want.yes rfl rfl rfl rfl) rfl (ltN rfl) (QP.nilCheck rfl rfl) ?_
   refine Dw.pure (i := 13) rfl (by kernel_rfl) (Want.yes rfl rfl rfl rfl) rfl (ltN rfl) (QP.fieldAddr rfl rfl f57_1) ?_
   refine Dw.read (i := 14) rfl (by kernel_rfl) (Want.yes rfl rfl rfl rfl) rfl (ltN rfl) (QR.load1 (v := .slice _ L.length _) rfl rfl g46 (Ref16Table.sub_l _)) ?_
   refine Dw.pure (i := 15) rfl (by kernel_rfl) (Want.yes rfl rfl rfl rfl) rfl (ltN rfl) (QP.move rfl rfl) ?_
   refine Dw.pure (i := 16) rfl (by kernel_rfl) (Want.yes rfl rfl rfl rfl) rfl (ltN rfl) (QP.indexAddr rfl rfl rfl Try.underlying46 z37 (by first | omega | (simp <;> omega)) (by first | omega | (simp <;> omega))) ?_
   refine Dw.pure (i := 17) rfl (by kernel_rfl) (Want.yes rfl rfl rfl rfl) rfl (ltN rfl) (QP.fieldAddr rfl rfl f37_10) ?_
   refine Dw.read (i := 18) rfl (by kernel_rfl) (Want.yes rfl rfl rfl rfl) rfl (ltN rfl) (QR.loadSlF1 rfl rfl g4 Route.enc_len (SlAt.own Route.enc_len (by repeat constructor)) hm (Route.sub_selected _)) ?_
   refine J.caseB (fun c34 => ?_) (fun c34 => ?_)
   ·skip
    refine Dw.pure (i := 19) rfl (by kernel_rfl) (Want.none rfl) rfl (ltN rfl) (QP.pick_t rfl rfl rfl) ?_
    refine Dw.nil (by kernel_rfl) ?_
    refine hk9 _ _ ?_
    refine Run.cond_t rfl ?_
    refine Run.seq fun k10 hk10 => ?_
    refine Run.region ?_
    show Sq _ _ _ [0, 1, 2, 3, 4, 5, 6, 7] _ _ _ _
    refine Sq.quiet (i := 0) rfl (Want.none rfl) rfl (ltN rfl) (QP.move rfl rfl).read ?_
    refine Sq.quiet (i := 1) rfl (Want.none rfl) rfl (ltN rfl) (QP.nilCheck rfl rfl).read ?_
    refine Sq.quiet (i := 2) rfl (Want.none rfl) rfl (ltN rfl) (QP.fieldAddr rfl rfl f57_1).read ?_
    refine Sq.quiet (i := 3) rfl (Want.none rfl) rfl (ltN rfl) (QR.load1 (v := .slice _ L.length _) rfl rfl g46 (Ref16Table.sub_l _)) ?_
    refine Sq.quiet (i := 4) rfl (Want.none rfl) rfl (ltN rfl) (QP.move rfl rfl).read ?_
    refine Sq.quiet (i := 5) rfl (Want.none rfl) rfl (ltN rfl) (QP.indexAddr rfl rfl rfl Try.underlying46 z37 (by first | omega | (simp <;> omega)) (by first | omega | (simp <;> omega))).read ?_
    refine Sq.quiet (i := 6) rfl (Want.none rfl) rfl (ltN rfl) (QP.fieldAddr rfl rfl f37_10).read ?_
    refine Sq.act (i := 7) rfl (Want.none rfl) rfl (EF.storeSlF (enc := Route.enc) rfl rfl rfl z4 (by repeat constructor) Route.enc_len (by first | omega | (simp <;> omega)) (fun y hy => by cases hy.symm.trans hm; exact (Route.set_selected _ _)) (cell_one rfl)) ?_
    rintro _ _ rfl
    refine Sq.nil ?_
    refine hk10 _ _ ?_
    refine Run.region ?_
    show Sq _ _ _ [0, 1, 2] _ _ _ _
    have hu : unsP [p] x = true := by simp_all [unsP]
    refine Sq.slEq (by repeat constructor) (mapTo_set (f := unsR [p]) hi (by unfold unsR; rw [hu, if_pos rfl])) ?_
    refine Sq.quiet (i := 0) rfl (Want.none rfl) rfl (ltN rfl) (QP.move rfl rfl).read ?_
    refine Sq.quiet (i := 1) rfl (Want.none rfl) rfl (ltN rfl) (QP.add64 rfl rfl rfl (by first | omega | (simp <;> omega)) (by first | omega | (simp <;> omega))).read ?_
    refine Sq.quiet (i := 2) rfl (Want.none rfl) rfl (ltN rfl) (QP.assign rfl rfl).read ?_
    refine Sq.nil ?_
    refine hk8 _ _ ?_
    refine Run.region ?_
    show Sq _ _ _ [0, 1, 2] _ _ _ _
    refine Sq.quiet (i := 0) rfl (Want.none rfl) rfl (ltN rfl) (QP.move rfl rfl).read ?_
    refine Sq.quiet (i := 1) rfl (Want.none rfl) rfl (ltN rfl) (QP.add64 rfl rfl rfl (by first | omega | (simp <;> omega)) (by first | omega | (simp <;> omega))).read ?_
    refine Sq.quiet (i := 2) rfl (Want.none rfl) rfl (ltN rfl) (QP.assign rfl rfl).read ?_
    refine Sq.nil ?_
    exact J.envJ (J.keep (.cons (by repeat constructor) (.cons (by repeat constructor) (.cons (by repeat constructor) Takes.nil))) (hl5 (i + 1) (by omega) (by omega))) ⟨rfl, rfl, (congrArg (fun n : Nat => some (Value.int .i64 n)) (show _ = _ from by rw [filter_succ _ hi, hu]; simp)), rfl, trivial⟩
   ·skip
    refine Dw.pure (i := 19) rfl (by kernel_rfl) (Want.none rfl) rfl (ltN rfl) (QP.pick_t rfl rfl rfl) ?_
    refine Dw.nil (by kernel_rfl) ?_
    refine hk9 _ _ ?_
    refine Run.cond_f rfl ?_
    refine Run.skip ?_
    refine hk8 _ _ ?_
    refine Run.region ?_
    show Sq _ _ _ [0, 1, 2] _ _ _ _
    have hu : unsP [p] x = false := by simp_all [unsP]
    refine Sq.slEq (by repeat constructor) (mapTo_same (f := unsR [p]) hi (by unfold unsR; rw [hu]; rfl)) ?_
    refine Sq.quiet (i := 0) rfl (Want.none rfl) rfl (ltN rfl) (QP.move rfl rfl).read ?_
    refine Sq.quiet (i := 1) rfl (Want.none rfl) rfl (ltN rfl) (QP.add64 rfl rfl rfl (by first | omega | (simp <;> omega)) (by first | omega | (simp <;> omega))).read ?_
    refine Sq.quiet (i := 2) rfl (Want.none rfl) rfl (ltN rfl) (QP.assign rfl rfl).read ?_
    refine Sq.nil ?_
    exact J.envJ (J.keep (.cons (by repeat constructor) (.cons (by repeat constructor) (.cons (by repeat constructor) Takes.nil))) (hl5 (i + 1) (by omega) (by omega))) ⟨rfl, rfl, (congrArg (fun n : Nat => some (Value.int .i64 n)) (show _ = _ from by rw [filter_succ _ hi, hu]; simp)), rfl, trivial⟩
  ·skip
   refine Dw.pure (i := 10) rfl (by kernel_rfl) (Want.none rfl) rfl (ltN rfl) (QP.move rfl rfl) ?_
   refine Dw.skip (i := 11) rfl (by kernel_rfl) (Want.no rfl rfl rfl rfl) rfl (ltN rfl) ?_
   refine Dw.skip (i := 12) rfl (by kernel_rfl) (Want.no rfl rfl rfl rfl) rfl (ltN rfl) ?_
   refine Dw.skip (i := 13) rfl (by kernel_rfl) (Want.no rfl rfl rfl rfl) rfl (ltN rfl) ?_
   refine Dw.skip (i := 14) rfl (by kernel_rfl) (Want.no rfl rfl rfl rfl) rfl (ltN rfl) ?_
   refine Dw.skip (i := 15) rfl (by kernel_rfl) (Want.no rfl rfl rfl rfl) rfl (ltN rfl) ?_
   refine Dw.skip (i := 16) rfl (by kernel_rfl) (Want.no rfl rfl rfl rfl) rfl (ltN rfl) ?_
   refine Dw.skip (i := 17) rfl (by kernel_rfl) (Want.no rfl rfl rfl rfl) rfl (ltN rfl) ?_
   refine Dw.skip (i := 18) rfl (by kernel_rfl) (Want.no rfl rfl rfl rfl) rfl (ltN rfl) ?_
   refine Dw.pure (i := 19) rfl (by kernel_rfl) (Want.none rfl) rfl (ltN rfl) (QP.pick_f rfl rfl rfl) ?_
   refine Dw.nil (by kernel_rfl) ?_
   refine hk9 _ _ ?_
   refine Run.cond_f rfl ?_
   refine Run.skip ?_
   refine hk8 _ _ ?_
   refine Run.region ?_
   show Sq _ _ _ [0, 1, 2] _ _ _ _
   have hu : unsP [p] x = false := by simp_all [unsP]
   refine Sq.slEq (by repeat constructor) (mapTo_same (f := unsR [p]) hi (by unfold unsR; rw [hu]; rfl)) ?_
   refine Sq.quiet (i := 0) rfl (Want.none rfl) rfl (ltN rfl) (QP.move rfl rfl).read ?_
   refine Sq.quiet (i := 1) rfl (Want.none rfl) rfl (ltN rfl) (QP.add64 rfl rfl rfl (by first | omega | (simp <;> omega)) (by first | omega | (simp <;> omega))).read ?_
   refine Sq.quiet (i := 2) rfl (Want.none rfl) rfl (ltN rfl) (QP.assign rfl rfl).read ?_
   refine Sq.nil ?_
   exact J.envJ (J.keep (.cons (by repeat constructor) (.cons (by repeat constructor) (.cons (by repeat constructor) Takes.nil))) (hl5 (i + 1) (by omega) (by omega))) ⟨rfl, rfl, (congrArg (fun n : Nat => some (Value.int .i64 n)) (show _ = _ from by rw [filter_succ _ hi, hu]; simp)), rfl, trivial⟩
 ·skip
  refine Sq.nil ?_
  refine hk7 _ _ ?_
  refine Run.cond_f rfl ?_
  refine Run.exit rfl ?_
  refine hk3 _ _ ?_
  refine Run.seq fun k11 hk11 => ?_
  refine Run.region ?_
  show Sq _ _ _ [0, 1] _ _ _ _
  refine Sq.quiet (i := 0) rfl (Want.none rfl) rfl (ltN rfl) (QP.move rfl rfl).read ?_
  refine Sq.quiet (i := 1) rfl (Want.none rfl) rfl (ltN rfl) (QP.assign rfl rfl).read ?_
  refine Sq.nil ?_
  refine hk11 _ _ ?_
  refine Run.ret ?_
  exact J.ends (res_tmp rfl rfl) (.cons (by repeat constructor) (.cons (by repeat constructor) Takes.nil)) ⟨by rw [List.take_of_length_le (by omega)], by rw [mapTo_all _ (by omega)]⟩
end Slb
