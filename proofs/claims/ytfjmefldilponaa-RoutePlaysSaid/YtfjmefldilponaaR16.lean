/- R16: a part of the proof that a law of this package holds for every input; no condition. -/
import Derived.Test.YtfjmefldilponaaR15
namespace Slb
open Go Go.Proofs
set_option maxRecDepth 20000
def unsP (xs : List Pair) (s : Route) : Bool := s.selected && decide (s.pair ∈ xs)
def unsR (xs : List Pair) (s : Route) : Route := if unsP xs s then { s with selected := false } else s
def unsG (xs : List Pair) (s : Route) : Option Route := some (unsR xs s)

theorem unselectT0 (F : Fr) {b : Nat} {most : Int} {M : TabR} (hM : M.length ≤ 1000000) {a : Option Addr} {xs : List Pair} {c : Nat} (hlen : xs.length ≤ 4294967296) (ha : ArgSl F a 34 Pair.enc xs)  : Spec Try.prog 33 #[.pointer (some ⟨b, 0, none⟩), .slice a xs.length c] [RTab b most M] F (fun v S => ∃ r E es, vals E = M ∧ (E.map (·.1)).Nodup ∧ es.Perm E ∧ v = .int .i64 (es.filter fun e => unsP xs e.2.2).length ∧ S = [blk b (RouteTable.enc ⟨most, some r⟩) 76, mapR r (ptrs (stepE (unsG xs) E es)), rowsA Route.enc 37 (stepE (unsG xs) E es)]) := by
 refine Spec.intro (N := 33) (args := [.pointer (some ⟨b, 0, none⟩), .slice a xs.length c]) Try.func33 rfl rfl (by simp) ?_
 refine Run.seq fun k1 hk1 => ?_
 refine Run.region ?_
 show Sq _ _ _ [0] _ _ _ _
 refine Sq.quiet (i := 0) rfl (Want.none rfl) rfl (ltN rfl) (QP.assign rfl rfl).read ?_
 refine Sq.nil ?_
 refine hk1 _ _ ?_
 refine Run.seq fun k2 hk2 => ?_
 refine Run.seq fun k3 hk3 => ?_
 refine Run.region ?_
 show Sq _ _ _ [0, 1, 2, 3] _ _ _ _
 refine Sq.quiet (i := 0) rfl (Want.none rfl) rfl (ltN rfl) (QP.move rfl rfl).read ?_
 refine Sq.eff (i := 1) rfl (Want.none rfl) rfl (ltN rfl) (EF.call rfl ce35 rfl (.cons (by repeat constructor) Takes.nil) (fun F' hle hr => allT F' hM)) ?_
 rintro v8 _ ⟨_, ⟨r, E, es, hv, hn, hp, hs, rfl⟩, rfl⟩
 refine J.app ?_
 refine Sq.slCase (v := v8) (xs := es) (by repeat constructor) (fun a8 c8 hv8 hh8 => ?_)
 subst hv8
 have hyl : es.length = E.length := hp.length_eq
 have hEl : E.length = M.length := by rw [← hv, lenR]
 refine Sq.quiet (i := 2) rfl (Want.none rfl) rfl (ltN rfl) (QP.len rfl rfl rfl Try.underlying80).read ?_
 refine Sq.quiet (i := 3) rfl (Want.none rfl) rfl (ltN rfl) (QP.move rfl rfl).read ?_
 refine Sq.nil ?_
 refine hk3 _ _ ?_
 refine Run.block ?_
 refine Run.loop2 (fun (i : Nat) (Pm : List (RouteKey × Nat)) => i ≤ es.length ∧ Pm = ptrs (stepE (unsG xs) E (es.take i))) (fun i Pm => .cons 0 (.pointer (some ⟨b, 0, none⟩)) (.cons 1 (.slice a xs.length c) (.cons 4 (.int .i64 ((es.take i).filter fun e => unsP xs e.2.2).length) (.cons 8 (.slice a8 es.length c8) (.cons 9 (.int .i64 es.length) (.cons 10 (.int .i64 i) (.nil))))))) (fun i Pm => [blk b (RouteTable.enc ⟨most, some r⟩) 76, mapR r Pm, rowsA Route.enc 37 (stepE (unsG xs) E (es.take i)), slA 77 1 pvE (.slice a8 es.length c8) es]) (fun i Pm => es.length - i) (0) (ptrs E) (⟨Nat.zero_le _, rfl⟩) ?_ ?_
 ·exact fun _ j => J.envJ (J.keep (.cons (by repeat constructor) (.cons (by repeat constructor) (.cons (by repeat constructor) (.cons (by repeat constructor) Takes.nil)))) j) ⟨rfl, rfl, rfl, rfl, rfl, rfl, trivial⟩
 rintro i Pm ⟨hile, hPm⟩ kl4 hl4
 refine Run.seq fun k5 hk5 => ?_
 refine Run.region ?_
 show Sq _ _ _ [0] _ _ _ _
 refine Sq.quiet (i := 0) rfl (Want.none rfl) rfl (ltN rfl) (QP.lss rfl rfl rfl).read ?_
 refine J.caseD (fun c11 => ?_) (fun c11 => ?_)
 ·skip
  refine Sq.nil ?_
  refine hk5 _ _ ?_
  refine Run.seq fun k6 hk6 => ?_
  refine Run.cond_t rfl ?_
  refine Run.skip ?_
  refine hk6 _ _ ?_
  refine Run.seq fun k7 hk7 => ?_
  refine Run.block ?_
  refine Run.seq fun k8 hk8 => ?_
  refine Run.region ?_
  show Sq _ _ _ [0, 1, 2] _ _ _ _
  have hlt : i < es.length := by omega
  obtain ⟨e, hi⟩ : ∃ e, es[i]? = some e := ⟨_, List.getElem?_eq_getElem hlt⟩
  obtain ⟨b0, o0, rfl⟩ := hh8.get (by omega)
  have hlook : alook (stepE (unsG xs) E (es.take i)) e.1 = some (e.2.1, e.2.2) := stepE_look hn hp hi
  refine Sq.openE (by repeat constructor) (fun _ g => rowsA_open (c := e.2.1) (s := e.2.2) hlook g) fun _ => ?_
  refine Sq.app ?_
  have hfl : ((es.take i).filter fun e => unsP xs e.2.2).length ≤ 1000000 := by
    have := List.length_filter_le (fun e => unsP xs e.2.2) (es.take i)
    have := List.length_take_le i es
    omega
  refine Sq.quiet (i := 0) rfl (Want.none rfl) rfl (ltN rfl) (QP.indexAddr rfl rfl rfl Try.underlying80 z77 (by first | omega | (simp <;> omega)) (by first | omega | (simp <;> omega))).read ?_
  refine Sq.quiet (i := 1) rfl (Want.none rfl) rfl (ltN rfl) (QR.loadSl1 (ev := evE) rfl rfl g77 (SlAt.own (enc := pvE) (fun _ => rfl) (by repeat constructor)) hi) ?_
  refine Sq.quiet (i := 2) rfl (Want.none rfl) rfl (ltN rfl) (QP.assign rfl rfl).read ?_
  refine Sq.nil ?_
  refine hk8 _ _ ?_
  refine Run.seq fun k9 hk9 => ?_
  refine Run.region ?_
  show Sq _ _ _ [0, 1, 2, 3, 4, 5, 6, 7, 8, 9, 10, 11] _ _ _ _
  refine Sq.quiet (i := 0) rfl (Want.none rfl) rfl (ltN rfl) (QP.move rfl rfl).read ?_
  refine Sq.quiet (i := 1) rfl (Want.none rfl) rfl (ltN rfl) (QP.nilCheck rfl rfl).read ?_
  refine Sq.quiet (i := 2) rfl (Want.none rfl) rfl (ltN rfl) (QP.fieldAddr rfl rfl f37_10).read ?_
  refine Sq.quiet (i := 3) rfl (Want.none rfl) rfl (ltN rfl) (QR.load1 rfl rfl g4 (Route.sub_selected _)) ?_
  refine J.caseB (fun c17 => ?_) (fun c17 => ?_)
  ·skip
   refine Sq.quiet (i := 4) rfl (Want.none rfl) rfl (ltN rfl) (QP.move rfl rfl).read ?_
   refine Sq.quiet (i := 5) rfl (Want.yes rfl rfl rfl rfl) rfl (ltN rfl) (QP.move rfl rfl).read ?_
   refine Sq.quiet (i := 6) rfl (Want.yes rfl rfl rfl rfl) rfl (ltN rfl) (QP.move rfl rfl).read ?_
   refine Sq.quiet (i := 7) rfl (Want.yes rfl rfl rfl rfl) rfl (ltN rfl) (QP.nilCheck rfl rfl).read ?_
   refine Sq.quiet (i := 8) rfl (Want.yes rfl rfl rfl rfl) rfl (ltN rfl) (QP.fieldAddr rfl rfl f37_0).read ?_
   refine Sq.quiet (i := 9) rfl (Want.yes rfl rfl rfl rfl) rfl (ltN rfl) (QR.load rfl rfl g32 (Route.sub_pair _)) ?_
   refine Sq.eff (i := 10) rfl (Want.yes rfl rfl rfl rfl) rfl (ltN rfl) (EF.call rfl ce51 rfl Takes.nil (fun F' hle hr => containsP F' hlen (ha.mono hle) e.2.2.pair)) ?_
   rintro _ _ ⟨_, ⟨rfl, rfl⟩, rfl⟩
   refine J.app ?_
   refine J.caseB (fun c24 => ?_) (fun c24 => ?_)
   ·skip
    refine Sq.quiet (i := 11) rfl (Want.none rfl) rfl (ltN rfl) (QP.pick_t rfl rfl rfl).read ?_
    refine Sq.nil ?_
    refine hk9 _ _ ?_
    refine Run.cond_t rfl ?_
    refine Run.seq fun k10 hk10 => ?_
    refine Run.region ?_
    show Sq _ _ _ [0, 1, 2, 3] _ _ _ _
    refine Sq.quiet (i := 0) rfl (Want.none rfl) rfl (ltN rfl) (QP.move rfl rfl).read ?_
    refine Sq.quiet (i := 1) rfl (Want.none rfl) rfl (ltN rfl) (QP.nilCheck rfl rfl).read ?_
    refine Sq.quiet (i := 2) rfl (Want.none rfl) rfl (ltN rfl) (QP.fieldAddr rfl rfl f37_10).read ?_
    refine Sq.act (i := 3) rfl (Want.none rfl) rfl (EF.store rfl rfl rfl z4 (Route.set_selected _ _) (cell_one rfl)) ?_
    rintro _ _ rfl
    generalize hs1 : ({ e.2.2 with selected := false } : Route) = s1
    refine Sq.nil ?_
    refine hk10 _ _ ?_
    refine Run.region ?_
    show Sq _ _ _ [0, 1, 2] _ _ _ _
    refine Sq.quiet (i := 0) rfl (Want.none rfl) rfl (ltN rfl) (QP.move rfl rfl).read ?_
    refine Sq.quiet (i := 1) rfl (Want.none rfl) rfl (ltN rfl) (QP.add64 rfl rfl rfl (by first | omega | (simp <;> omega)) (by first | omega | (simp <;> omega))).read ?_
    refine Sq.quiet (i := 2) rfl (Want.none rfl) rfl (ltN rfl) (QP.assign rfl rfl).read ?_
    refine Sq.nil ?_
    refine hk7 _ _ ?_
    refine Run.region ?_
    show Sq _ _ _ [0, 1] _ _ _ _
    have hu : unsP xs e.2.2 = true := by simp_all [unsP]
    have hst := step_some (g := unsG xs) (E := E) hi (show unsG xs e.2.2 = some s1 from by unfold unsG unsR; rw [hu, if_pos rfl]; subst hs1; rfl)
    refine Sq.close (A := rowsA Route.enc 37 (stepE (unsG xs) E (es.take (i + 1)))) (m := [blk e.2.1 (Route.enc s1) 37, rowsA Route.enc 37 (adel (stepE (unsG xs) E (es.take i)) e.1)]) (.cons (by repeat constructor) (.cons (by repeat constructor) Takes.nil)) (fun _ g => by rw [hst]; exact rowsA_close hlook g) ?_
    refine Sq.quiet (i := 0) rfl (Want.none rfl) rfl (ltN rfl) (QP.add64 rfl rfl rfl (by first | omega | (simp <;> omega)) (by first | omega | (simp <;> omega))).read ?_
    refine Sq.quiet (i := 1) rfl (Want.none rfl) rfl (ltN rfl) (QP.move rfl rfl).read ?_
    refine Sq.nil ?_
    exact J.envJ (J.keep (.cons (by repeat constructor) (.cons (by repeat constructor) (.cons (by repeat constructor) (.cons (by repeat constructor) Takes.nil)))) (hl4 (i + 1) (Pm) (⟨by omega, by rw [hst, ptrs_step hlook]; exact hPm⟩) (by omega))) ⟨rfl, rfl, (congrArg (fun n : Nat => some (Value.int .i64 n)) (show _ = _ from by rw [filter_succ _ hi, hu]; simp)), rfl, rfl, rfl, trivial⟩
   ·skip
    refine Sq.quiet (i := 11) rfl (Want.none rfl) rfl (ltN rfl) (QP.pick_t rfl rfl rfl).read ?_
    refine Sq.nil ?_
    refine hk9 _ _ ?_
    refine Run.cond_f rfl ?_
    refine Run.skip ?_
    refine hk7 _ _ ?_
    refine Run.region ?_
    show Sq _ _ _ [0, 1] _ _ _ _
    have hu : unsP xs e.2.2 = false := by simp_all [unsP]
    have hst := step_some (g := unsG xs) (E := E) hi (show unsG xs e.2.2 = some e.2.2 from by unfold unsG unsR; rw [hu]; rfl)
    refine Sq.close (A := rowsA Route.enc 37 (stepE (unsG xs) E (es.take (i + 1)))) (m := [blk e.2.1 (Route.enc e.2.2) 37, rowsA Route.enc 37 (adel (stepE (unsG xs) E (es.take i)) e.1)]) (.cons (by repeat constructor) (.cons (by repeat constructor) Takes.nil)) (fun _ g => by rw [hst]; exact rowsA_close hlook g) ?_
    refine Sq.quiet (i := 0) rfl (Want.none rfl) rfl (ltN rfl) (QP.add64 rfl rfl rfl (by first | omega | (simp <;> omega)) (by first | omega | (simp <;> omega))).read ?_
    refine Sq.quiet (i := 1) rfl (Want.none rfl) rfl (ltN rfl) (QP.move rfl rfl).read ?_
    refine Sq.nil ?_
    exact J.envJ (J.keep (.cons (by repeat constructor) (.cons (by repeat constructor) (.cons (by repeat constructor) (.cons (by repeat constructor) Takes.nil)))) (hl4 (i + 1) (Pm) (⟨by omega, by rw [hst, ptrs_step hlook]; exact hPm⟩) (by omega))) ⟨rfl, rfl, (congrArg (fun n : Nat => some (Value.int .i64 n)) (show _ = _ from by rw [filter_succ _ hi, hu]; simp)), rfl, rfl, rfl, trivial⟩
  ·skip
   refine Sq.quiet (i := 4) rfl (Want.none rfl) rfl (ltN rfl) (QP.move rfl rfl).read ?_
   refine Sq.skip (i := 5) rfl (Want.no rfl rfl rfl rfl) rfl (ltN rfl) ?_
   refine Sq.skip (i := 6) rfl (Want.no rfl rfl rfl rfl) rfl (ltN rfl) ?_
   refine Sq.skip (i := 7) rfl (Want.no rfl rfl rfl rfl) rfl (ltN rfl) ?_
   refine Sq.skip (i := 8) rfl (Want.no rfl rfl rfl rfl) rfl (ltN rfl) ?_
   refine Sq.skip (i := 9) rfl (Want.no rfl rfl rfl rfl) rfl (ltN rfl) ?_
   refine Sq.skip (i := 10) rfl (Want.no rfl rfl rfl rfl) rfl (ltN rfl) ?_
   refine Sq.quiet (i := 11) rfl (Want.none rfl) rfl (ltN rfl) (QP.pick_f rfl rfl rfl).read ?_
   refine Sq.nil ?_
   refine hk9 _ _ ?_
   refine Run.cond_f rfl ?_
   refine Run.skip ?_
   refine hk7 _ _ ?_
   refine Run.region ?_
   show Sq _ _ _ [0, 1] _ _ _ _
   have hu : unsP xs e.2.2 = false := by simp_all [unsP]
   have hst := step_some (g := unsG xs) (E := E) hi (show unsG xs e.2.2 = some e.2.2 from by unfold unsG unsR; rw [hu]; rfl)
   refine Sq.close (A := rowsA Route.enc 37 (stepE (unsG xs) E (es.take (i + 1)))) (m := [blk e.2.1 (Route.enc e.2.2) 37, rowsA Route.enc 37 (adel (stepE (unsG xs) E (es.take i)) e.1)]) (.cons (by repeat constructor) (.cons (by repeat constructor) Takes.nil)) (fun _ g => by rw [hst]; exact rowsA_close hlook g) ?_
   refine Sq.quiet (i := 0) rfl (Want.none rfl) rfl (ltN rfl) (QP.add64 rfl rfl rfl (by first | omega | (simp <;> omega)) (by first | omega | (simp <;> omega))).read ?_
   refine Sq.quiet (i := 1) rfl (Want.none rfl) rfl (ltN rfl) (QP.move rfl rfl).read ?_
   refine Sq.nil ?_
   exact J.envJ (J.keep (.cons (by repeat constructor) (.cons (by repeat constructor) (.cons (by repeat constructor) (.cons (by repeat constructor) Takes.nil)))) (hl4 (i + 1) (Pm) (⟨by omega, by rw [hst, ptrs_step hlook]; exact hPm⟩) (by omega))) ⟨rfl, rfl, (congrArg (fun n : Nat => some (Value.int .i64 n)) (show _ = _ from by rw [filter_succ _ hi, hu]; simp)), rfl, rfl, rfl, trivial⟩
 ·skip
  refine Sq.nil ?_
  refine hk5 _ _ ?_
  refine Run.seq fun k11 hk11 => ?_
  refine Run.cond_f rfl ?_
  refine Run.exit rfl ?_
  refine hk2 _ _ ?_
  refine Run.seq fun k12 hk12 => ?_
  refine Run.region ?_
  show Sq _ _ _ [0, 1] _ _ _ _
  refine Sq.quiet (i := 0) rfl (Want.none rfl) rfl (ltN rfl) (QP.move rfl rfl).read ?_
  refine Sq.quiet (i := 1) rfl (Want.none rfl) rfl (ltN rfl) (QP.assign rfl rfl).read ?_
  refine Sq.nil ?_
  refine hk12 _ _ ?_
  refine Run.ret ?_
  have hty : es.take i = es := List.take_of_length_le (by omega)
  rw [hty] at hPm
  subst hPm
  rw [hty]
  exact J.ends (res_tmp rfl rfl) (.cons (by repeat constructor) (.cons (by repeat constructor) (.cons (by repeat constructor) Takes.nil))) ⟨r, E, es, hv, hn, hp, rfl, rfl⟩

theorem uns_key (xs : List Pair) (s : Route) : keyR (unsR xs s) = keyR s := by unfold unsR; split <;> rfl
theorem unselectT (F : Fr) {b : Nat} {most : Int} {M : TabR} (hM : M.length ≤ 1000000) {a : Option Addr} {xs : List Pair} {c : Nat} (hlen : xs.length ≤ 4294967296) (ha : ArgSl F a 34 Pair.enc xs) :
    Spec Try.prog 33 #[.pointer (some ⟨b, 0, none⟩), .slice a xs.length c] [RTab b most M] F
    fun v S => v = .int .i64 (M.filter fun e => unsP xs e.2).length ∧ S = [RTab b most (mapM (unsR xs) M)] :=
  (unselectT0 F hM hlen ha).post fun v S w ⟨r, E, es, hv, hn, hp, h1, h2⟩ s => by
    refine ⟨_, ⟨by rw [h1, count_es hv hp], rfl⟩, ?_⟩
    subst h2
    refine s.pack (r := []) (m := [blk b (RouteTable.enc ⟨most, some r⟩) 76, mapR r (ptrs (stepE (unsG xs) E es)), rowsA Route.enc 37 (stepE (unsG xs) E es)]) fun p g => GTab.close ?_ g
    rw [stepE_vals hn hp, hv]
    exact filterMap_some _ _

theorem selectT_none (F : Fr) {b : Nat} {most : Int} {M : TabR} (p : Pair) (j : I64) (fr : Bs 16) (h0 : alook M ⟨p, j, fr⟩ = none) : Spec Try.prog 32 #[.pointer (some ⟨b, 0, none⟩), .agg (Pair.enc p).toArray, .int .i64 (j : I64).val, .agg (Bs.enc (fr : Bs 16)).toArray] [RTab b most M] F (fun v S => v = .int .i64 7 ∧ S = [RTab b most M]) := by
 refine Spec.intro (N := 38) (args := [.pointer (some ⟨b, 0, none⟩), .agg (Pair.enc p).toArray, .int .i64 (j : I64).val, .agg (Bs.enc (fr : Bs 16)).toArray]) Try.func32 rfl rfl (by simp) ?_
 refine Run.seq fun k1 hk1 => ?_
 refine Run.region ?_
 show Sq _ _ _ [0, 1, 2] _ _ _ _
 refine J.openTab (by repeat constructor) fun r E hv hn => ?_
 have hl : alook (ptrs E) ⟨p, j, fr⟩ = none := by rw [alook_ptrs, look_none hv h0]; rfl
 refine Sq.eff (i := 0) rfl (Want.none rfl) rfl (ltN rfl) (EF.boxA rfl rfl) ?_
 rintro _ _ ⟨b5, rfl, rfl⟩
 refine Sq.eff (i := 1) rfl (Want.none rfl) rfl (ltN rfl) (EF.boxA rfl rfl) ?_
 rintro _ _ ⟨b7, rfl, rfl⟩
 refine Sq.quiet (i := 2) rfl (Want.none rfl) rfl (ltN rfl) (QP.assign rfl rfl).read ?_
 refine Sq.nil ?_
 refine hk1 _ _ ?_
 refine Run.seq fun k2 hk2 => ?_
 refine Run.seq fun k3 hk3 => ?_
 refine Run.regionD (M := [0, 1, 3, 7, 15, 31, 63, 7, 7, 7, 903, 2047, 4095, 8191]) (q := 16383) (r := 2752) (by kernel_rfl) ?_
 refine Dw.pure (i := 0) rfl (by kernel_rfl) (Want.none rfl) rfl (ltN rfl) (QP.move rfl rfl) ?_
 refine Dw.pure (i := 1) rfl (by kernel_rfl) (Want.none rfl) rfl (ltN rfl) (QP.ptr_eq_nil rfl rfl rfl Try.underlying25) ?_
 refine Dw.pure (i := 2) rfl (by kernel_rfl) (Want.none rfl) rfl (ltN rfl) (QP.move rfl rfl) ?_
 refine Dw.pure (i := 3) rfl (by kernel_rfl) (Want.yes rfl rfl rfl rfl) rfl (ltN rfl) (QP.move rfl rfl) ?_
 refine Dw.pure (i := 4) rfl (by kernel_rfl) (Want.yes rfl rfl rfl rfl) rfl (ltN rfl) (QP.nilCheck rfl rfl) ?_
 refine Dw.pure (i := 5) rfl (by kernel_rfl) (Want.yes rfl rfl rfl rfl) rfl (ltN rfl) (QP.fieldAddr rfl rfl f76_1) ?_
 refine Dw.read (i := 6) rfl (by kernel_rfl) (Want.yes rfl rfl rfl rfl) rfl (ltN rfl) (QR.load1 rfl rfl g74 (RouteTable.sub_m _)) ?_
 refine Dw.read (i := 7) rfl (by kernel_rfl) (Want.yes rfl rfl rfl rfl) rfl (ltN rfl) (QR.load rfl rfl g32 (Pair.enc_sub _)) ?_
 refine Dw.pure (i := 8) rfl (by kernel_rfl) (Want.yes rfl rfl rfl rfl) rfl (ltN rfl) (QP.move rfl rfl) ?_
 refine Dw.read (i := 9) rfl (by kernel_rfl) (Want.yes rfl rfl rfl rfl) rfl (ltN rfl) (QR.load rfl rfl g28 (Bs.sub _)) ?_
 refine Dw.pure (i := 10) rfl (by kernel_rfl) (Want.yes rfl rfl rfl rfl) rfl (ltN rfl) (QP.build (l := RouteKey.enc ⟨(p), j, (fr)⟩) rfl st79 rfl (by exact ⟨(congrArg some (Pair.enc_len _).symm), ⟨rfl, ⟨(congrArg some (Bs.len _).symm), trivial⟩⟩⟩) rfl) ?_
 refine Dw.read (i := 11) rfl (by kernel_rfl) (Want.yes rfl rfl rfl rfl) rfl (ltN rfl) (QR.lookupNone key79 rfl rfl rfl Try.underlying74 zero77 hl) ?_
 refine Dw.pure (i := 12) rfl (by kernel_rfl) (Want.yes rfl rfl rfl rfl) rfl (ltN rfl) (QP.ptr_eq_nil rfl rfl rfl Try.underlying77) ?_
 refine Dw.pure (i := 13) rfl (by kernel_rfl) (Want.none rfl) rfl (ltN rfl) (QP.pick_f rfl rfl rfl) ?_
 refine Dw.nil (by kernel_rfl) ?_
 refine hk3 _ _ ?_
 refine Run.cond_t rfl ?_
 refine Run.seq fun k4 hk4 => ?_
 refine Run.region ?_
 show Sq _ _ _ [0] _ _ _ _
 refine Sq.close (A := RTab b most (M)) (m := [blk b (RouteTable.enc ⟨most, some r⟩) 76, mapR r (ptrs (E)), rowsA Route.enc 37 (E)]) (.cons (by repeat constructor) (.cons (by repeat constructor) (.cons (by repeat constructor) Takes.nil))) (fun _ g => GTab.close hv g) ?_
 refine Sq.quiet (i := 0) rfl (Want.none rfl) rfl (ltN rfl) (QP.assign rfl rfl).read ?_
 refine Sq.nil ?_
 refine hk4 _ _ ?_
 refine Run.ret ?_
 exact J.ends (res_tmp rfl rfl) (.cons (by repeat constructor) Takes.nil) ⟨rfl, rfl⟩

theorem selectT_some (F : Fr) {b : Nat} {most : Int} {M : TabR} (hM : M.length ≤ 1000000) (p : Pair) (j : I64) (fr : Bs 16) {s : Route} (h0 : alook M ⟨p, j, fr⟩ = some s) : Spec Try.prog 32 #[.pointer (some ⟨b, 0, none⟩), .agg (Pair.enc p).toArray, .int .i64 (j : I64).val, .agg (Bs.enc (fr : Bs 16)).toArray] [RTab b most M] F (fun v S => v = .int .i64 0 ∧ S = [RTab b most (aset (mapM (unsR [p]) M) ⟨p, j, fr⟩ { unsR [p] s with selected := true })]) := by
 refine Spec.intro (N := 38) (args := [.pointer (some ⟨b, 0, none⟩), .agg (Pair.enc p).toArray, .int .i64 (j : I64).val, .agg (Bs.enc (fr : Bs 16)).toArray]) Try.func32 rfl rfl (by simp) ?_
 refine Run.seq fun k1 hk1 => ?_
 refine Run.region ?_
 show Sq _ _ _ [0, 1, 2] _ _ _ _
 refine J.openTab (by repeat constructor) fun r E hv hn => ?_
 obtain ⟨c, hl0⟩ := look_row hv h0
 have hl : alook (ptrs E) ⟨p, j, fr⟩ = some c := by rw [alook_ptrs, hl0]; rfl
 refine Sq.eff (i := 0) rfl (Want.none rfl) rfl (ltN rfl) (EF.boxA rfl rfl) ?_
 rintro _ _ ⟨b5, rfl, rfl⟩
 refine Sq.eff (i := 1) rfl (Want.none rfl) rfl (ltN rfl) (EF.boxA rfl rfl) ?_
 rintro _ _ ⟨b7, rfl, rfl⟩
 refine Sq.quiet (i := 2) rfl (Want.none rfl) rfl (ltN rfl) (QP.assign rfl rfl).read ?_
 refine Sq.nil ?_
 refine hk1 _ _ ?_
 refine Run.seq fun k2 hk2 => ?_
 refine Run.seq fun k3 hk3 => ?_
 refine Run.regionD (M := [0, 1, 3, 7, 15, 31, 63, 7, 7, 7, 903, 2047, 4095, 8191]) (q := 16383) (r := 2752) (by kernel_rfl) ?_
 refine Dw.pure (i := 0) rfl (by kernel_rfl) (Want.none rfl) rfl (ltN rfl) (QP.move rfl rfl) ?_
 refine Dw.pure (i := 1) rfl (by kernel_rfl) (Want.none rfl) rfl (ltN rfl) (QP.ptr_eq_nil rfl rfl rfl Try.underlying25) ?_
 refine Dw.pure (i := 2) rfl (by kernel_rfl) (Want.none rfl) rfl (ltN rfl) (QP.move rfl rfl) ?_
 refine Dw.pure (i := 3) rfl (by kernel_rfl) (Want.yes rfl rfl rfl rfl) rfl (ltN rfl) (QP.move rfl rfl) ?_
 refine Dw.pure (i := 4) rfl (by kernel_rfl) (Want.yes rfl rfl rfl rfl) rfl (ltN rfl) (QP.nilCheck rfl rfl) ?_
 refine Dw.pure (i := 5) rfl (by kernel_rfl) (Want.yes rfl rfl rfl rfl) rfl (ltN rfl) (QP.fieldAddr rfl rfl f76_1) ?_
 refine Dw.read (i := 6) rfl (by kernel_rfl) (Want.yes rfl rfl rfl rfl) rfl (ltN rfl) (QR.load1 rfl rfl g74 (RouteTable.sub_m _)) ?_
 refine Dw.read (i := 7) rfl (by kernel_rfl) (Want.yes rfl rfl rfl rfl) rfl (ltN rfl) (QR.load rfl rfl g32 (Pair.enc_sub _)) ?_
 refine Dw.pure (i := 8) rfl (by kernel_rfl) (Want.yes rfl rfl rfl rfl) rfl (ltN rfl) (QP.move rfl rfl) ?_
 refine Dw.read (i := 9) rfl (by kernel_rfl) (Want.yes rfl rfl rfl rfl) rfl (ltN rfl) (QR.load rfl rfl g28 (Bs.sub _)) ?_
 refine Dw.pure (i := 10) rfl (by kernel_rfl) (Want.yes rfl rfl rfl rfl) rfl (ltN rfl) (QP.build (l := RouteKey.enc ⟨(p), j, (fr)⟩) rfl st79 rfl (by exact ⟨(congrArg some (Pair.enc_len _).symm), ⟨rfl, ⟨(congrArg some (Bs.len _).symm), trivial⟩⟩⟩) rfl) ?_
 refine Dw.read (i := 11) rfl (by kernel_rfl) (Want.yes rfl rfl rfl rfl) rfl (ltN rfl) (QR.lookupSome key79 rfl rfl rfl Try.underlying74 zero77 hl) ?_
 refine Dw.pure (i := 12) rfl (by kernel_rfl) (Want.yes rfl rfl rfl rfl) rfl (ltN rfl) (QP.ptr_eq_nil rfl rfl rfl Try.underlying77) ?_
 refine Dw.pure (i := 13) rfl (by kernel_rfl) (Want.none rfl) rfl (ltN rfl) (QP.pick_f rfl rfl rfl) ?_
 refine Dw.nil (by kernel_rfl) ?_
 refine hk3 _ _ ?_
 refine Run.cond_f rfl ?_
 refine Run.skip ?_
 refine hk2 _ _ ?_
 refine Run.seq fun k4 hk4 => ?_
 refine Run.region ?_
 show Sq _ _ _ [0, 1, 2, 3] _ _ _ _
 refine Sq.close (A := RTab b most (M)) (m := [blk b (RouteTable.enc ⟨most, some r⟩) 76, mapR r (ptrs (E)), rowsA Route.enc 37 (E)]) (.cons (by repeat constructor) (.cons (by repeat constructor) (.cons (by repeat constructor) Takes.nil))) (fun _ g => GTab.close hv g) ?_
 refine Sq.quiet (i := 0) rfl (Want.none rfl) rfl (ltN rfl) (QP.move rfl rfl).read ?_
 refine Sq.quiet (i := 1) rfl (Want.none rfl) rfl (ltN rfl) (QR.load rfl rfl g32 (Pair.enc_sub _)) ?_
 refine Sq.eff (i := 2) rfl (Want.none rfl) rfl (ltN rfl) (EF.buildSlice1 rfl Try.underlying43 z32 zero32 (by simp [Value.cells, Pair.enc_len]) (by decide) rfl rfl (Pair.enc_len _) (by decide)) ?_
 rintro _ _ ⟨b25, rfl, rfl⟩
 refine Sq.eff (i := 3) rfl (Want.none rfl) rfl (ltN rfl) (EF.call rfl ce33 rfl (.cons (by repeat constructor) Takes.nil) (fun F' hle hr => unselectT F' hM (xs := [p]) (by simp) (argSl_one Pair.enc_len (hr b25 _ (by repeat constructor))))) ?_
 rintro _ _ ⟨_, ⟨rfl, rfl⟩, rfl⟩
 refine J.app ?_
 refine Sq.nil ?_
 refine hk4 _ _ ?_
 refine Run.seq fun k5 hk5 => ?_
 refine Run.regionD (M := [0, 1, 3, 7, 0, 0, 0, 112, 255, 511, 1023, 2047]) (q := 2047) (r := 344) (by kernel_rfl) ?_
 refine Dw.openTab (by repeat constructor) fun r2 E2 hv2 hn2 => ?_
 obtain ⟨c, hl0⟩ := look_row hv2 (show alook (mapM (unsR [p]) M) ⟨p, j, fr⟩ = some (unsR [p] s) by unfold mapM; rw [alook_map, h0]; rfl)
 have hl : alook (ptrs E2) ⟨p, j, fr⟩ = some c := by rw [alook_ptrs, hl0]; rfl
 refine Dw.openE (by repeat constructor) (fun _ g => rowsA_open (c := c) (s := unsR [p] s) hl0 g) fun _ => ?_
 refine Dw.app ?_
 refine Dw.pure (i := 0) rfl (by kernel_rfl) (Want.none rfl) rfl (ltN rfl) (QP.move rfl rfl) ?_
 refine Dw.pure (i := 1) rfl (by kernel_rfl) (Want.none rfl) rfl (ltN rfl) (QP.nilCheck rfl rfl) ?_
 refine Dw.pure (i := 2) rfl (by kernel_rfl) (Want.none rfl) rfl (ltN rfl) (QP.fieldAddr rfl rfl f76_1) ?_
 refine Dw.read (i := 3) rfl (by kernel_rfl) (Want.none rfl) rfl (ltN rfl) (QR.load1 rfl rfl g74 (RouteTable.sub_m _)) ?_
 refine Dw.read (i := 4) rfl (by kernel_rfl) (Want.none rfl) rfl (ltN rfl) (QR.load rfl rfl g32 (Pair.enc_sub _)) ?_
 refine Dw.pure (i := 5) rfl (by kernel_rfl) (Want.none rfl) rfl (ltN rfl) (QP.move rfl rfl) ?_
 refine Dw.read (i := 6) rfl (by kernel_rfl) (Want.none rfl) rfl (ltN rfl) (QR.load rfl rfl g28 (Bs.sub _)) ?_
 refine Dw.pure (i := 7) rfl (by kernel_rfl) (Want.none rfl) rfl (ltN rfl) (QP.build (l := RouteKey.enc ⟨(p), j, (fr)⟩) rfl st79 rfl (by exact ⟨(congrArg some (Pair.enc_len _).symm), ⟨rfl, ⟨(congrArg some (Bs.len _).symm), trivial⟩⟩⟩) rfl) ?_
 refine Dw.read (i := 8) rfl (by kernel_rfl) (Want.none rfl) rfl (ltN rfl) (QR.lookupSome key79 rfl rfl rfl Try.underlying74 zero77 hl) ?_
 refine Dw.pure (i := 9) rfl (by kernel_rfl) (Want.none rfl) rfl (ltN rfl) (QP.nilCheck rfl rfl) ?_
 refine Dw.pure (i := 10) rfl (by kernel_rfl) (Want.none rfl) rfl (ltN rfl) (QP.fieldAddr rfl rfl f37_10) ?_
 refine Dw.eff (i := 11) (by kernel_rfl) (by kernel_rfl) ?_
 refine One.act (o := _) (l := []) rfl (by kernel_rfl) (Want.none rfl) rfl (EF.store rfl rfl rfl z4 (Route.set_selected _ _) (cell_one rfl)) (by kernel_rfl) ?_
 rintro _ _ rfl
 refine ⟨fun _ h => (by cases h), ?_⟩
 refine Dw.nil (by kernel_rfl) ?_
 refine hk5 _ _ ?_
 refine Run.seq fun k6 hk6 => ?_
 refine Run.region ?_
 show Sq _ _ _ [0] _ _ _ _
 refine Sq.close (A := rowsA Route.enc 37 (aset E2 ⟨p, j, fr⟩ (c, { unsR [p] s with selected := true }))) (m := [blk c (Route.enc { unsR [p] s with selected := true }) 37, rowsA Route.enc 37 (adel E2 ⟨p, j, fr⟩)]) (.cons (by repeat constructor) (.cons (by repeat constructor) Takes.nil)) (fun _ g => rowsA_close hl0 g) ?_
 refine Sq.close (A := RTab b most (aset (mapM (unsR [p]) M) ⟨p, j, fr⟩ { unsR [p] s with selected := true })) (m := [blk b (RouteTable.enc ⟨most, some r2⟩) 76, mapR r2 (ptrs E2), rowsA Route.enc 37 (aset E2 ⟨p, j, fr⟩ (c, { unsR [p] s with selected := true }))]) (.cons (by repeat constructor) (.cons (by repeat constructor) (.cons (by repeat constructor) Takes.nil))) (fun _ g => GTab.close (E := aset E2 ⟨p, j, fr⟩ (c, { unsR [p] s with selected := true })) (by rw [vals_aset, hv2]) (by rw [ptrs_same hl0]; exact g)) ?_
 refine Sq.quiet (i := 0) rfl (Want.none rfl) rfl (ltN rfl) (QP.assign rfl rfl).read ?_
 refine Sq.nil ?_
 refine hk6 _ _ ?_
 refine Run.ret ?_
 exact J.ends (res_tmp rfl rfl) (.cons (by repeat constructor) Takes.nil) ⟨rfl, rfl⟩

/-- When the first is due. -/
def NextIs (L : List Route) (n : Int) (ok : Bool) : Prop := (L = [] ∧ n = 0 ∧ ok = false) ∨ (ok = true ∧ (∃ x ∈ L, x.until_ = n) ∧ ∀ x ∈ L, n ≤ x.until_)
theorem NextIs.uniq {L : List Route} {n m : Int} {a b : Bool} (h : NextIs L n a) (k : NextIs L m b) : n = m ∧ a = b := by
  rcases h with ⟨rfl, rfl, rfl⟩ | ⟨rfl, ⟨x, hx, rfl⟩, hl⟩
  · rcases k with ⟨_, rfl, rfl⟩ | ⟨_, ⟨x, hx, _⟩, _⟩
    · exact ⟨rfl, rfl⟩
    · cases hx
  · rcases k with ⟨rfl, _, _⟩ | ⟨rfl, ⟨y, hy, rfl⟩, kl⟩
    · cases hx
    · have := hl y hy
      have := kl x hx
      exact ⟨by omega, rfl⟩
theorem NextIs.less {L : List Route} {i : Nat} {x : Route} {n : Int} {ok : Bool} (h : NextIs (L.take i) n ok) (hi : L[i]? = some x) (hx : ok = false ∨ x.until_ < n) : NextIs (L.take (i + 1)) x.until_ true := by
  rw [List.take_add_one, hi]
  refine .inr ⟨rfl, ⟨x, by simp, rfl⟩, fun y hy => ?_⟩
  rcases List.mem_append.1 hy with hy | hy
  · rcases h with ⟨h1, _, _⟩ | ⟨rfl, _, hl⟩
    · rw [h1] at hy; cases hy
    · have := hl y hy
      rcases hx with hx | hx
      · cases hx
      · omega
  · simp at hy; subst hy; exact Int.le_refl _
theorem NextIs.keep {L : List Route} {i : Nat} {x : Route} {n : Int} (h : NextIs (L.take i) n true) (hi : L[i]? = some x) (hx : ¬ x.until_ < n) : NextIs (L.take (i + 1)) n true := by
  rcases h with ⟨_, _, h⟩ | ⟨_, ⟨y, hy, hn⟩, hl⟩
  · cases h
  · rw [List.take_add_one, hi]
    refine .inr ⟨rfl, ⟨y, List.mem_append_left _ hy, hn⟩, fun z hz => ?_⟩
    rcases List.mem_append.1 hz with hz | hz
    · exact hl z hz
    · simp at hz; subst hz; omega

theorem NextIs.perm {L L2 : List Route} {n : Int} {ok : Bool} (h : NextIs L n ok) (hp : L.Perm L2) : NextIs L2 n ok := by
  rcases h with ⟨rfl, h1, h2⟩ | ⟨h1, ⟨x, hx, h2⟩, h3⟩
  · exact .inl ⟨hp.symm.eq_nil, h1, h2⟩
  · exact .inr ⟨h1, ⟨x, hp.subset hx, h2⟩, fun y hy => h3 y (hp.symm.subset hy)⟩

theorem next1_spec (F : Fr) {c0 c1 : Nat} {s t : Route} (hrow : F.h c0 = some (.cells (Route.enc s).toArray 37 (0, 0))) (hrow1 : F.h c1 = some (.cells (Route.enc t).toArray 37 (0, 0))) : Spec Try.prog 48 #[.pointer (some ⟨c0, 0, none⟩), .pointer (some ⟨c1, 0, none⟩)] [] F (fun v S => v = .int .i64 (cmpF s.until_ t.until_) ∧ S = []) := by
 refine Spec.intro (N := 14) (args := [.pointer (some ⟨c0, 0, none⟩), .pointer (some ⟨c1, 0, none⟩)]) Try.func48 rfl rfl (by simp) ?_
 refine Run.seq fun k1 hk1 => ?_
 refine Run.region ?_
 show Sq _ _ _ [0] _ _ _ _
 refine Sq.quiet (i := 0) rfl (Want.none rfl) rfl (ltN rfl) (QP.assign rfl rfl).read ?_
 refine Sq.nil ?_
 refine hk1 _ _ ?_
 refine Run.seq fun k2 hk2 => ?_
 refine Run.regionD (M := [0, 1, 3, 7, 0, 16, 48, 112, 255, 511]) (q := 255) (r := 136) (by kernel_rfl) ?_
 refine Dw.pure (i := 0) rfl (by kernel_rfl) (Want.none rfl) rfl (ltN rfl) (QP.move rfl rfl) ?_
 refine Dw.pure (i := 1) rfl (by kernel_rfl) (Want.none rfl) rfl (ltN rfl) (QP.nilCheck rfl rfl) ?_
 refine Dw.pure (i := 2) rfl (by kernel_rfl) (Want.none rfl) rfl (ltN rfl) (QP.fieldAddr rfl rfl f37_8) ?_
 refine Dw.read (i := 3) rfl (by kernel_rfl) (Want.none rfl) rfl (ltN rfl) (QR.load1F rfl rfl g3 hrow (Route.sub_until_ _)) ?_
 refine Dw.pure (i := 4) rfl (by kernel_rfl) (Want.none rfl) rfl (ltN rfl) (QP.move rfl rfl) ?_
 refine Dw.pure (i := 5) rfl (by kernel_rfl) (Want.none rfl) rfl (ltN rfl) (QP.nilCheck rfl rfl) ?_
 refine Dw.pure (i := 6) rfl (by kernel_rfl) (Want.none rfl) rfl (ltN rfl) (QP.fieldAddr rfl rfl f37_8) ?_
 refine Dw.read (i := 7) rfl (by kernel_rfl) (Want.none rfl) rfl (ltN rfl) (QR.load1F rfl rfl g3 hrow1 (Route.sub_until_ _)) ?_
 refine Dw.eff (i := 8) (by kernel_rfl) (by kernel_rfl) ?_
 refine One.mk (o := _) (l := []) rfl (by kernel_rfl) (Want.none rfl) rfl (ltN rfl) (EF.call rfl ce49 rfl Takes.nil (fun F' hle hr => cmpCompare_spec F' (s).until_ (t).until_)) (by kernel_rfl) ?_
 rintro _ _ ⟨_, ⟨rfl, rfl⟩, rfl⟩
 refine ⟨fun _ h => (by cases h), ?_⟩
 refine J.app ?_
 refine Dw.eff (i := 9) (by kernel_rfl) (by kernel_rfl) ?_
 refine One.mk (o := _) (l := []) rfl (by kernel_rfl) (Want.none rfl) rfl (ltN rfl) ((QP.assign rfl rfl).eff) (by kernel_rfl) ?_
 rintro _ _ ⟨rfl, rfl⟩
 refine ⟨fun _ h => (by cases h), ?_⟩
 refine Dw.nil (by kernel_rfl) ?_
 refine hk2 _ _ ?_
 refine Run.ret ?_
 exact J.ends (res_tmp rfl rfl) Takes.nil ⟨rfl, rfl⟩

theorem minfuncR (F : Fr) {a : Option Addr} {c : Nat} {es : EntR} (hh : SlH a c es) (h0 : 0 < es.length) (hl : es.length ≤ 1000000) (hf : ∀ e ∈ es, F.h e.2.1 = some (.cells (Route.enc e.2.2).toArray 37 (0, 0))) : Spec Try.prog 47 #[.slice a es.length c, .func (.func 48) #[] #[]] [slA 77 1 pvE (.slice a es.length c) es] F (fun v S => ∃ m : RouteKey × (Nat × Route), v = .pointer (some ⟨m.2.1, 0, none⟩) ∧ m ∈ es ∧ NextIs (es.map fun e => e.2.2) m.2.2.until_ true ∧ S = [slA 77 1 pvE (.slice a es.length c) es]) := by
 refine Spec.intro (N := 33) (args := [.slice a es.length c, .func (.func 48) #[] #[]]) Try.func47 rfl rfl (by simp) ?_
 refine Run.seq fun k1 hk1 => ?_
 refine Run.region ?_
 show Sq _ _ _ [0] _ _ _ _
 refine Sq.quiet (i := 0) rfl (Want.none rfl) rfl (ltN rfl) (QP.assign rfl rfl).read ?_
 refine Sq.nil ?_
 refine hk1 _ _ ?_
 refine Run.seq fun k2 hk2 => ?_
 refine Run.seq fun k3 hk3 => ?_
 refine Run.region ?_
 show Sq _ _ _ [0, 1, 2] _ _ _ _
 refine Sq.quiet (i := 0) rfl (Want.none rfl) rfl (ltN rfl) (QP.move rfl rfl).read ?_
 refine Sq.quiet (i := 1) rfl (Want.none rfl) rfl (ltN rfl) (QP.len rfl rfl rfl Try.underlying80).read ?_
 refine Sq.quiet (i := 2) rfl (Want.none rfl) rfl (ltN rfl) (QP.lss rfl rfl rfl).read ?_
 refine J.decF (by omega) ?_
 refine Sq.nil ?_
 refine hk3 _ _ ?_
 refine Run.cond_f rfl ?_
 refine Run.skip ?_
 refine hk2 _ _ ?_
 refine Run.seq fun k4 hk4 => ?_
 refine Run.region ?_
 show Sq _ _ _ [0, 1, 2, 3] _ _ _ _
 obtain ⟨b0, o0, rfl⟩ := hh.get (by omega)
 obtain ⟨m0, hm0⟩ : ∃ x, es[0]? = some x := ⟨_, List.getElem?_eq_getElem (by omega)⟩
 refine Sq.quiet (i := 0) rfl (Want.none rfl) rfl (ltN rfl) (QP.move rfl rfl).read ?_
 refine Sq.quiet (i := 1) rfl (Want.none rfl) rfl (ltN rfl) (QP.indexAddr rfl rfl rfl Try.underlying80 z77 (by omega) (by omega)).read ?_
 refine Sq.quiet (i := 2) rfl (Want.none rfl) rfl (ltN rfl) (QR.loadSl1 (ev := evE) rfl rfl g77 (SlAt.own (enc := pvE) (fun _ => rfl) (by repeat constructor)) hm0) ?_
 refine Sq.quiet (i := 3) rfl (Want.none rfl) rfl (ltN rfl) (QP.assign rfl rfl).read ?_
 refine Sq.nil ?_
 refine hk4 _ _ ?_
 refine Run.seq fun k5 hk5 => ?_
 refine Run.seq fun k6 hk6 => ?_
 refine Run.region ?_
 show Sq _ _ _ [0] _ _ _ _
 refine Sq.quiet (i := 0) rfl (Want.none rfl) rfl (ltN rfl) (QP.assign rfl rfl).read ?_
 refine Sq.nil ?_
 refine hk6 _ _ ?_
 refine Run.block ?_
 refine Run.loop2 (fun (i : Nat) (m : RouteKey × (Nat × Route)) => 1 ≤ i ∧ i ≤ es.length ∧ m ∈ es ∧ NextIs ((es.map fun e => e.2.2).take i) m.2.2.until_ true) (fun i m => .cons 0 (.slice (some ⟨b0, o0, none⟩) es.length c) (.cons 1 (.func (.func 48) #[] #[]) (.cons 5 (.pointer (some ⟨m.2.1, 0, none⟩)) (.cons 6 (.int .i64 i) (.nil))))) (fun i m => [slA 77 1 pvE (.slice (some ⟨b0, o0, none⟩) es.length c) es]) (fun i m => es.length - i) (1) (m0) (⟨Nat.le_refl _, by omega, List.mem_of_getElem? hm0, by rw [List.take_add_one, List.getElem?_map, hm0]; exact .inr ⟨rfl, ⟨m0.2.2, by simp, rfl⟩, fun y hy => by simp at hy; subst hy; exact Int.le_refl _⟩⟩) ?_ ?_
 ·exact fun _ j => J.envJ (J.keep (.cons (by repeat constructor) Takes.nil) j) ⟨rfl, rfl, rfl, rfl, trivial⟩
 rintro i m ⟨h1i, hile, hm, hnx⟩ kl7 hl7
 refine Run.seq fun k8 hk8 => ?_
 refine Run.seq fun k9 hk9 => ?_
 refine Run.region ?_
 show Sq _ _ _ [0, 1, 2, 3] _ _ _ _
 refine Sq.quiet (i := 0) rfl (Want.none rfl) rfl (ltN rfl) (QP.move rfl rfl).read ?_
 refine Sq.quiet (i := 1) rfl (Want.none rfl) rfl (ltN rfl) (QP.move rfl rfl).read ?_
 refine Sq.quiet (i := 2) rfl (Want.none rfl) rfl (ltN rfl) (QP.len rfl rfl rfl Try.underlying80).read ?_
 refine Sq.quiet (i := 3) rfl (Want.none rfl) rfl (ltN rfl) (QP.lss rfl rfl rfl).read ?_
 refine J.caseD (fun c17 => ?_) (fun c17 => ?_)
 ·skip
  refine Sq.nil ?_
  refine hk9 _ _ ?_
  refine Run.cond_t rfl ?_
  refine Run.skip ?_
  refine hk8 _ _ ?_
  refine Run.seq fun k10 hk10 => ?_
  refine Run.block ?_
  refine Run.seq fun k11 hk11 => ?_
  refine Run.region ?_
  show Sq _ _ _ [0, 1, 2, 3, 4, 5, 6, 7] _ _ _ _
  obtain ⟨e, hi⟩ : ∃ x, es[i]? = some x := ⟨_, List.getElem?_eq_getElem (by omega)⟩
  have hie : (es.map fun e => e.2.2)[i]? = some e.2.2 := by rw [List.getElem?_map, hi]; rfl
  have hrow := hf e (List.mem_of_getElem? hi)
  refine Sq.quiet (i := 0) rfl (Want.none rfl) rfl (ltN rfl) (QP.move rfl rfl).read ?_
  refine Sq.quiet (i := 1) rfl (Want.none rfl) rfl (ltN rfl) (QP.move rfl rfl).read ?_
  refine Sq.quiet (i := 2) rfl (Want.none rfl) rfl (ltN rfl) (QP.move rfl rfl).read ?_
  refine Sq.quiet (i := 3) rfl (Want.none rfl) rfl (ltN rfl) (QP.indexAddr rfl rfl rfl Try.underlying80 z77 (by first | omega | (simp <;> omega)) (by first | omega | (simp <;> omega))).read ?_
  refine Sq.quiet (i := 4) rfl (Want.none rfl) rfl (ltN rfl) (QR.loadSl1 (ev := evE) rfl rfl g77 (SlAt.own (enc := pvE) (fun _ => rfl) (by repeat constructor)) hi) ?_
  refine Sq.quiet (i := 5) rfl (Want.none rfl) rfl (ltN rfl) (QP.move rfl rfl).read ?_
  refine Sq.eff (i := 6) rfl (Want.none rfl) rfl (ltN rfl) (EF.callV rfl rfl ce48 rfl Takes.nil (fun F' hle hr => next1_spec F' (hle _ _ (hf e (List.mem_of_getElem? hi))) (hle _ _ (hf m hm)))) ?_
  rintro _ _ ⟨_, ⟨rfl, rfl⟩, rfl⟩
  refine J.app ?_
  refine Sq.quiet (i := 7) rfl (Want.none rfl) rfl (ltN rfl) (QP.lss rfl rfl rfl).read ?_
  refine J.caseD (fun c27 => ?_) (fun c27 => ?_)
  ·skip
   refine Sq.nil ?_
   refine hk11 _ _ ?_
   refine Run.cond_t rfl ?_
   refine Run.region ?_
   show Sq _ _ _ [0, 1, 2, 3, 4] _ _ _ _
   refine Sq.quiet (i := 0) rfl (Want.none rfl) rfl (ltN rfl) (QP.move rfl rfl).read ?_
   refine Sq.quiet (i := 1) rfl (Want.none rfl) rfl (ltN rfl) (QP.move rfl rfl).read ?_
   refine Sq.quiet (i := 2) rfl (Want.none rfl) rfl (ltN rfl) (QP.indexAddr rfl rfl rfl Try.underlying80 z77 (by first | omega | (simp <;> omega)) (by first | omega | (simp <;> omega))).read ?_
   refine Sq.quiet (i := 3) rfl (Want.none rfl) rfl (ltN rfl) (QR.loadSl1 (ev := evE) rfl rfl g77 (SlAt.own (enc := pvE) (fun _ => rfl) (by repeat constructor)) hi) ?_
   refine Sq.quiet (i := 4) rfl (Want.none rfl) rfl (ltN rfl) (QP.assign rfl rfl).read ?_
   refine Sq.nil ?_
   refine hk10 _ _ ?_
   refine Run.region ?_
   show Sq _ _ _ [0, 1, 2] _ _ _ _
   refine Sq.quiet (i := 0) rfl (Want.none rfl) rfl (ltN rfl) (QP.move rfl rfl).read ?_
   refine Sq.quiet (i := 1) rfl (Want.none rfl) rfl (ltN rfl) (QP.add64 rfl rfl rfl (by first | omega | (simp <;> omega)) (by first | omega | (simp <;> omega))).read ?_
   refine Sq.quiet (i := 2) rfl (Want.none rfl) rfl (ltN rfl) (QP.assign rfl rfl).read ?_
   refine Sq.nil ?_
   exact J.envJ (J.keep (.cons (by repeat constructor) Takes.nil) (hl7 (i + 1) (e) (⟨by omega, by omega, List.mem_of_getElem? hi, hnx.less hie (.inr (by unfold cmpF at c27; split at c27; assumption; split at c27 <;> omega))⟩) (by omega))) ⟨rfl, rfl, rfl, rfl, trivial⟩
  ·skip
   refine Sq.nil ?_
   refine hk11 _ _ ?_
   refine Run.cond_f rfl ?_
   refine Run.skip ?_
   refine hk10 _ _ ?_
   refine Run.region ?_
   show Sq _ _ _ [0, 1, 2] _ _ _ _
   refine Sq.quiet (i := 0) rfl (Want.none rfl) rfl (ltN rfl) (QP.move rfl rfl).read ?_
   refine Sq.quiet (i := 1) rfl (Want.none rfl) rfl (ltN rfl) (QP.add64 rfl rfl rfl (by first | omega | (simp <;> omega)) (by first | omega | (simp <;> omega))).read ?_
   refine Sq.quiet (i := 2) rfl (Want.none rfl) rfl (ltN rfl) (QP.assign rfl rfl).read ?_
   refine Sq.nil ?_
   exact J.envJ (J.keep (.cons (by repeat constructor) Takes.nil) (hl7 (i + 1) (m) (⟨by omega, by omega, hm, hnx.keep hie (by unfold cmpF at c27; split at c27; omega; assumption)⟩) (by omega))) ⟨rfl, rfl, rfl, rfl, trivial⟩
 ·skip
  refine Sq.nil ?_
  refine hk9 _ _ ?_
  refine Run.cond_f rfl ?_
  refine Run.exit rfl ?_
  refine hk5 _ _ ?_
  refine Run.seq fun k12 hk12 => ?_
  refine Run.region ?_
  show Sq _ _ _ [0, 1] _ _ _ _
  refine Sq.quiet (i := 0) rfl (Want.none rfl) rfl (ltN rfl) (QP.move rfl rfl).read ?_
  refine Sq.quiet (i := 1) rfl (Want.none rfl) rfl (ltN rfl) (QP.assign rfl rfl).read ?_
  refine Sq.nil ?_
  refine hk12 _ _ ?_
  refine Run.ret ?_
  exact J.ends (res_tmp rfl rfl) (.cons (by repeat constructor) Takes.nil) ⟨m, rfl, hm, by rw [List.take_of_length_le (by rw [List.length_map]; omega)] at hnx; exact hnx, rfl⟩

theorem nextR (F : Fr) {b r : Nat} {most : Int} {E : EntR} (hf : InR F b r most E) (hE : E.length ≤ 1000000) : Spec Try.prog 24 #[.pointer (some ⟨b, 0, none⟩)] [mapR r (ptrs E)] F (fun v S => ∃ es, es.Perm E ∧ SortedE es ∧ ∃ n ok, v = .tuple #[.int .i64 n, .bool ok] ∧ NextIs (es.map fun e => e.2.2) n ok ∧ S = [mapR r (ptrs E)]) := by
 refine Spec.intro (N := 15) (args := [.pointer (some ⟨b, 0, none⟩)]) Try.func24 rfl rfl (by simp) ?_
 refine Run.seq fun k1 hk1 => ?_
 refine Run.region ?_
 show Sq _ _ _ [0, 1] _ _ _ _
 refine Sq.quiet (i := 0) rfl (Want.none rfl) rfl (ltN rfl) (QP.assign rfl rfl).read ?_
 refine Sq.quiet (i := 1) rfl (Want.none rfl) rfl (ltN rfl) (QP.assign rfl rfl).read ?_
 refine Sq.nil ?_
 refine hk1 _ _ ?_
 refine Run.seq fun k2 hk2 => ?_
 refine Run.region ?_
 show Sq _ _ _ [0, 1, 2] _ _ _ _
 refine Sq.quiet (i := 0) rfl (Want.none rfl) rfl (ltN rfl) (QP.move rfl rfl).read ?_
 refine Sq.eff (i := 1) rfl (Want.none rfl) rfl (ltN rfl) (EF.call rfl ce35 rfl (.cons (by repeat constructor) Takes.nil) (fun F' hle hr => allQ F' (hf.mono hle) hE)) ?_
 rintro v6 _ ⟨_, ⟨es, hp, hs, rfl⟩, rfl⟩
 refine J.app ?_
 refine Sq.slCase (v := v6) (xs := es) (by repeat constructor) (fun a6 c6 hv6 hh6 => ?_)
 subst hv6
 have hyl : es.length = E.length := hp.length_eq
 refine Sq.quiet (i := 2) rfl (Want.none rfl) rfl (ltN rfl) (QP.assign rfl rfl).read ?_
 refine Sq.nil ?_
 refine hk2 _ _ ?_
 refine Run.seq fun k3 hk3 => ?_
 refine Run.seq fun k4 hk4 => ?_
 refine Run.region ?_
 show Sq _ _ _ [0, 1, 2] _ _ _ _
 refine Sq.quiet (i := 0) rfl (Want.none rfl) rfl (ltN rfl) (QP.move rfl rfl).read ?_
 refine Sq.quiet (i := 1) rfl (Want.none rfl) rfl (ltN rfl) (QP.len rfl rfl rfl Try.underlying80).read ?_
 refine Sq.quiet (i := 2) rfl (Want.none rfl) rfl (ltN rfl) (QP.eql rfl rfl rfl).read ?_
 refine J.caseD (fun c9 => ?_) (fun c9 => ?_)
 ·skip
  refine Sq.nil ?_
  refine hk4 _ _ ?_
  refine Run.cond_t rfl ?_
  refine Run.seq fun k5 hk5 => ?_
  refine Run.region ?_
  show Sq _ _ _ [0, 1] _ _ _ _
  refine Sq.quiet (i := 0) rfl (Want.none rfl) rfl (ltN rfl) (QP.assign rfl rfl).read ?_
  refine Sq.quiet (i := 1) rfl (Want.none rfl) rfl (ltN rfl) (QP.assign rfl rfl).read ?_
  refine Sq.nil ?_
  refine hk5 _ _ ?_
  refine Run.ret ?_
  exact J.ends (res_tmp2 rfl rfl rfl) (.cons (by repeat constructor) Takes.nil) ⟨es, hp, hs, 0, false, rfl, .inl ⟨by rw [List.eq_nil_of_length_eq_zero (by omega : es.length = 0)]; rfl, rfl, rfl⟩, rfl⟩
 ·skip
  refine Sq.nil ?_
  refine hk4 _ _ ?_
  refine Run.cond_f rfl ?_
  refine Run.skip ?_
  refine hk3 _ _ ?_
  refine Run.seq fun k6 hk6 => ?_
  refine Run.region ?_
  show Sq _ _ _ [0, 1, 2, 3, 4, 5, 6] _ _ _ _
  refine Sq.quiet (i := 0) rfl (Want.none rfl) rfl (ltN rfl) (QP.move rfl rfl).read ?_
  refine Sq.eff (i := 1) rfl (Want.none rfl) rfl (ltN rfl) (EF.call rfl ce47 rfl (.cons (by repeat constructor) Takes.nil) (fun F' hle hr => minfuncR F' hh6 (by omega) (by omega) (fun e he => hle _ _ (hf.row e (hp.subset he))))) ?_
  rintro _ _ ⟨_, ⟨m, rfl, hm, hnx, rfl⟩, rfl⟩
  refine J.app ?_
  refine Sq.quiet (i := 2) rfl (Want.none rfl) rfl (ltN rfl) (QP.nilCheck rfl rfl).read ?_
  refine Sq.quiet (i := 3) rfl (Want.none rfl) rfl (ltN rfl) (QP.fieldAddr rfl rfl f37_8).read ?_
  refine Sq.quiet (i := 4) rfl (Want.none rfl) rfl (ltN rfl) (QR.load1F rfl rfl g3 (hf.row m (hp.subset hm)) (Route.sub_until_ _)) ?_
  refine Sq.quiet (i := 5) rfl (Want.none rfl) rfl (ltN rfl) (QP.assign rfl rfl).read ?_
  refine Sq.quiet (i := 6) rfl (Want.none rfl) rfl (ltN rfl) (QP.assign rfl rfl).read ?_
  refine Sq.nil ?_
  refine hk6 _ _ ?_
  refine Run.ret ?_
  exact J.ends (res_tmp2 rfl rfl rfl) (.cons (by repeat constructor) Takes.nil) ⟨es, hp, hs, _, _, rfl, hnx, rfl⟩
end Slb
