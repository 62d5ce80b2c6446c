/- R4: a part of the proof that a law of this package holds for every input; no condition. -/
import Derived.Test.YtfjmefldilponaaR3
namespace Slb
open Go Go.Proofs
set_option maxRecDepth 20000
theorem fm_succ {α β : Type} (p : α → Bool) (f : α → β) {ys : List α} {i : Nat} {s : α} (h : ys[i]? = some s) : ((ys.take (i + 1)).filter p).map f = ((ys.take i).filter p).map f ++ (if p s then [f s] else []) := by
  rw [filter_succ p h, List.map_append]
  cases p s <;> simp
def expR (now : Int) (s : Route) : Bool := decide (s.until_ ≤ now) && decide (s.ref ≠ 65535)
def agedR (now : Int) (s : Route) : Route := if expR now s then { s with ref := 65535, until_ := s.until_ + s.hold } else s
def goneR (now : Int) (s : Route) : Bool := decide ((agedR now s).until_ ≤ now)
def tickG (now : Int) (s : Route) : Option Route := if goneR now s then none else some (agedR now s)
def UntilR (M : TabR) : Prop := ∀ e ∈ M, 0 ≤ e.2.until_ ∧ e.2.until_ ≤ 2305843009213693952

theorem tickT0 (F : Fr) {b : Nat} {most : Int} {M : TabR} (hM : M.length ≤ 1000000) (hk : KeyedR M) (hh0 : HoldR M) (hu : UntilR M) (now : Int) (hn0 : 0 ≤ now) (hn1 : now ≤ 2305843009213693952) : Spec Try.prog 18 #[.pointer (some ⟨b, 0, none⟩), .int .i64 now] [RTab b most M] F (fun v S => ∃ r E es va vg, vals E = M ∧ (E.map (·.1)).Nodup ∧ es.Perm E ∧ SortedE es ∧ v = .tuple #[va, vg] ∧ S = [blk b (RouteTable.enc ⟨most, some r⟩) 76, mapR r (ptrs (stepE (tickG now) E es)), rowsA Route.enc 37 (stepE (tickG now) E es), slA 37 81 Route.enc va ((es.filter fun e => expR now e.2.2).map fun e => agedR now e.2.2), slA 37 81 Route.enc vg ((es.filter fun e => goneR now e.2.2).map fun e => agedR now e.2.2)]) := by
 refine Spec.intro (N := 80) (args := [.pointer (some ⟨b, 0, none⟩), .int .i64 now]) Try.func18 rfl rfl (by simp) ?_
 refine Run.seq fun k1 hk1 => ?_
 refine Run.region ?_
 show Sq _ _ _ [0, 1] _ _ _ _
 refine J.addSl 37 81 Route.enc ?_
 refine J.addSl 37 81 Route.enc ?_
 refine Sq.quiet (i := 0) rfl (Want.none rfl) rfl (ltN rfl) (QP.assign rfl rfl).read ?_
 refine Sq.quiet (i := 1) rfl (Want.none rfl) rfl (ltN rfl) (QP.assign rfl rfl).read ?_
 refine Sq.nil ?_
 refine hk1 _ _ ?_
 refine Run.seq fun k2 hk2 => ?_
 refine Run.seq fun k3 hk3 => ?_
 refine Run.region ?_
 show Sq _ _ _ [0, 1, 2, 3] _ _ _ _
 refine Sq.quiet (i := 0) rfl (Want.none rfl) rfl (ltN rfl) (QP.move rfl rfl).read ?_
 refine Sq.eff (i := 1) rfl (Want.none rfl) rfl (ltN rfl) (EF.call rfl ce35 rfl (.cons (by repeat constructor) Takes.nil) (fun F' hle hr => allT F' hM)) ?_
 rintro v9 _ ⟨_, ⟨r, E, es, hv, hn, hp, hs, rfl⟩, rfl⟩
 refine J.app ?_
 refine Sq.slCase (v := v9) (xs := es) (by repeat constructor) (fun a9 c9 hv9 hh9 => ?_)
 subst hv9
 have hyl : es.length = E.length := hp.length_eq
 have hEl : E.length = M.length := by rw [← hv, lenR]
 refine Sq.quiet (i := 2) rfl (Want.none rfl) rfl (ltN rfl) (QP.len rfl rfl rfl Try.underlying80).read ?_
 refine Sq.quiet (i := 3) rfl (Want.none rfl) rfl (ltN rfl) (QP.move rfl rfl).read ?_
 refine Sq.nil ?_
 refine hk3 _ _ ?_
 refine Run.block ?_
 refine Run.loop4 (fun (i : Nat) (Pm : List (RouteKey × Nat)) (va : Value) (vg : Value) => i ≤ es.length ∧ Pm = ptrs (stepE (tickG now) E (es.take i))) (fun i Pm va vg => .cons 0 (.pointer (some ⟨b, 0, none⟩)) (.cons 1 (.int .i64 now) (.cons 4 (va) (.cons 5 (vg) (.cons 9 (.slice a9 es.length c9) (.cons 10 (.int .i64 es.length) (.cons 11 (.int .i64 i) (.nil)))))))) (fun i Pm va vg => [blk b (RouteTable.enc ⟨most, some r⟩) 76, mapR r Pm, rowsA Route.enc 37 (stepE (tickG now) E (es.take i)), slA 77 1 pvE (.slice a9 es.length c9) es, slA 37 81 Route.enc va (((es.take i).filter fun e => expR now e.2.2).map fun e => agedR now e.2.2), slA 37 81 Route.enc vg (((es.take i).filter fun e => goneR now e.2.2).map fun e => agedR now e.2.2)]) (fun i Pm va vg => es.length - i) (0) (ptrs E) (.slice none 0 0) (.slice none 0 0) (⟨Nat.zero_le _, rfl⟩) ?_ ?_
 ·exact fun _ j => J.envJ (J.keep (.cons (by repeat constructor) (.cons (by repeat constructor) (.cons (by repeat constructor) (.cons (by repeat constructor) (.cons (by repeat constructor) (.cons (by repeat constructor) Takes.nil)))))) j) ⟨rfl, rfl, rfl, rfl, rfl, rfl, rfl, trivial⟩
 rintro i Pm va vg ⟨hile, hPm⟩ kl4 hl4
 refine Run.seq fun k5 hk5 => ?_
 refine Run.region ?_
 show Sq _ _ _ [0] _ _ _ _
 refine Sq.quiet (i := 0) rfl (Want.none rfl) rfl (ltN rfl) (QP.lss rfl rfl rfl).read ?_
 refine J.caseD (fun c12 => ?_) (fun c12 => ?_)
 ·skip
  refine Sq.nil ?_
  refine hk5 _ _ ?_
  refine Run.seq fun k6 hk6 => ?_
  refine Run.cond_t rfl ?_
  refine Run.skip ?_
  refine hk6 _ _ ?_
  refine Run.seq fun k7 hk7 => ?_
  refine Run.block ?_
  refine Run.seq fun k8 hk8 => ?_
  refine Run.region ?_
  show Sq _ _ _ [0, 1, 2] _ _ _ _
  have hlt : i < es.length := by omega
  obtain ⟨e, hi⟩ : ∃ e, es[i]? = some e := ⟨_, List.getElem?_eq_getElem hlt⟩
  obtain ⟨b0, o0, rfl⟩ := hh9.get (by omega)
  have hlook : alook (stepE (tickG now) E (es.take i)) e.1 = some (e.2.1, e.2.2) := stepE_look hn hp hi
  have hhold := hh0 _ (mem_of_es hv hp hi)
  simp only at hhold
  refine Sq.openE (by repeat constructor) (fun _ g => rowsA_open (c := e.2.1) (s := e.2.2) hlook g) fun _ => ?_
  refine Sq.app ?_
  have hut := hu _ (mem_of_es hv hp hi)
  simp only at hut
  have hkey : e.1 = keyR e.2.2 := hk _ (mem_of_es hv hp hi)
  have hl1 : (((es.take i).filter fun e => expR now e.2.2).map fun e => agedR now e.2.2).length ≤ 1000000 ∧ (((es.take i).filter fun e => goneR now e.2.2).map fun e => agedR now e.2.2).length ≤ 1000000 := by
    rw [List.length_map, List.length_map]
    have := List.length_filter_le (fun e => expR now e.2.2) (es.take i)
    have := List.length_filter_le (fun e => goneR now e.2.2) (es.take i)
    have := List.length_take_le i es
    omega
  refine Sq.quiet (i := 0) rfl (Want.none rfl) rfl (ltN rfl) (QP.indexAddr rfl rfl rfl Try.underlying80 z77 (by first | omega | (simp <;> omega)) (by first | omega | (simp <;> omega))).read ?_
  refine Sq.quiet (i := 1) rfl (Want.none rfl) rfl (ltN rfl) (QR.loadSl1 (ev := evE) rfl rfl g77 (SlAt.own (enc := pvE) (fun _ => rfl) (by repeat constructor)) hi) ?_
  refine Sq.quiet (i := 2) rfl (Want.none rfl) rfl (ltN rfl) (QP.assign rfl rfl).read ?_
  refine Sq.nil ?_
  refine hk8 _ _ ?_
  refine Run.seq fun k9 hk9 => ?_
  refine Run.seq fun k10 hk10 => ?_
  refine Run.region ?_
  show Sq _ _ _ [0, 1, 2, 3, 4, 5, 6, 7, 8, 9, 10, 11, 12] _ _ _ _
  refine Sq.quiet (i := 0) rfl (Want.none rfl) rfl (ltN rfl) (QP.move rfl rfl).read ?_
  refine Sq.quiet (i := 1) rfl (Want.none rfl) rfl (ltN rfl) (QP.nilCheck rfl rfl).read ?_
  refine Sq.quiet (i := 2) rfl (Want.none rfl) rfl (ltN rfl) (QP.fieldAddr rfl rfl f37_8).read ?_
  refine Sq.quiet (i := 3) rfl (Want.none rfl) rfl (ltN rfl) (QR.load1 rfl rfl g3 (Route.sub_until_ _)) ?_
  refine Sq.quiet (i := 4) rfl (Want.none rfl) rfl (ltN rfl) (QP.move rfl rfl).read ?_
  refine Sq.quiet (i := 5) rfl (Want.none rfl) rfl (ltN rfl) (QP.leq rfl rfl rfl).read ?_
  refine J.caseD (fun c20 => ?_) (fun c20 => ?_)
  ·skip
   refine Sq.quiet (i := 6) rfl (Want.none rfl) rfl (ltN rfl) (QP.move rfl rfl).read ?_
   refine Sq.quiet (i := 7) rfl (Want.yes rfl rfl rfl rfl) rfl (ltN rfl) (QP.move rfl rfl).read ?_
   refine Sq.quiet (i := 8) rfl (Want.yes rfl rfl rfl rfl) rfl (ltN rfl) (QP.nilCheck rfl rfl).read ?_
   refine Sq.quiet (i := 9) rfl (Want.yes rfl rfl rfl rfl) rfl (ltN rfl) (QP.fieldAddr rfl rfl f37_5).read ?_
   refine Sq.quiet (i := 10) rfl (Want.yes rfl rfl rfl rfl) rfl (ltN rfl) (QR.load1 rfl rfl g35 (Route.sub_ref _)) ?_
   refine Sq.quiet (i := 11) rfl (Want.yes rfl rfl rfl rfl) rfl (ltN rfl) (QP.neq rfl rfl rfl).read ?_
   refine J.caseD (fun c26 => ?_) (fun c26 => ?_)
   ·skip
    refine Sq.quiet (i := 12) rfl (Want.none rfl) rfl (ltN rfl) (QP.pick_t rfl rfl rfl).read ?_
    refine Sq.nil ?_
    refine hk10 _ _ ?_
    refine Run.cond_t rfl ?_
    refine Run.seq fun k11 hk11 => ?_
    refine Run.region ?_
    show Sq _ _ _ [0, 1, 2, 3] _ _ _ _
    refine Sq.quiet (i := 0) rfl (Want.none rfl) rfl (ltN rfl) (QP.move rfl rfl).read ?_
    refine Sq.quiet (i := 1) rfl (Want.none rfl) rfl (ltN rfl) (QP.nilCheck rfl rfl).read ?_
    refine Sq.quiet (i := 2) rfl (Want.none rfl) rfl (ltN rfl) (QP.fieldAddr rfl rfl f37_5).read ?_
    refine Sq.act (i := 3) rfl (Want.none rfl) rfl (EF.store rfl rfl rfl z35 (Route.set_ref _ _) (cell_one rfl)) ?_
    rintro _ _ rfl
    generalize hs1 : ({ e.2.2 with ref := 65535 } : Route) = s1
    refine Sq.nil ?_
    refine hk11 _ _ ?_
    refine Run.seq fun k12 hk12 => ?_
    refine Run.regionD (M := [0, 1, 3, 7, 0, 16, 48, 112, 255, 511, 1023, 2047]) (q := 2047) (r := 136) (by kernel_rfl) ?_
    have hu1 : s1.until_ = e.2.2.until_ := by rw [← hs1]
    have hh1 : s1.hold = e.2.2.hold := by rw [← hs1]
    refine Dw.pure (i := 0) rfl (by kernel_rfl) (Want.none rfl) rfl (ltN rfl) (QP.move rfl rfl) ?_
    refine Dw.pure (i := 1) rfl (by kernel_rfl) (Want.none rfl) rfl (ltN rfl) (QP.nilCheck rfl rfl) ?_
    refine Dw.pure (i := 2) rfl (by kernel_rfl) (Want.none rfl) rfl (ltN rfl) (QP.fieldAddr rfl rfl f37_8) ?_
    refine Dw.read (i := 3) rfl (by kernel_rfl) (Want.none rfl) rfl (ltN rfl) (QR.load1 rfl rfl g3 (Route.sub_until_ _)) ?_
    refine Dw.pure (i := 4) rfl (by kernel_rfl) (Want.none rfl) rfl (ltN rfl) (QP.move rfl rfl) ?_
    refine Dw.pure (i := 5) rfl (by kernel_rfl) (Want.none rfl) rfl (ltN rfl) (QP.nilCheck rfl rfl) ?_
    refine Dw.pure (i := 6) rfl (by kernel_rfl) (Want.none rfl) rfl (ltN rfl) (QP.fieldAddr rfl rfl f37_9) ?_
    refine Dw.read (i := 7) rfl (by kernel_rfl) (Want.none rfl) rfl (ltN rfl) (QR.load1 rfl rfl g3 (Route.sub_hold _)) ?_
    refine Dw.pure (i := 8) rfl (by kernel_rfl) (Want.none rfl) rfl (ltN rfl) (QP.add64 rfl rfl rfl (by first | omega | (simp <;> omega)) (by first | omega | (simp <;> omega))) ?_
    refine Dw.pure (i := 9) rfl (by kernel_rfl) (Want.none rfl) rfl (ltN rfl) (QP.nilCheck rfl rfl) ?_
    refine Dw.pure (i := 10) rfl (by kernel_rfl) (Want.none rfl) rfl (ltN rfl) (QP.fieldAddr rfl rfl f37_8) ?_
    refine Dw.eff (i := 11) (by kernel_rfl) (by kernel_rfl) ?_
    refine One.act (o := _) (l := []) rfl (by kernel_rfl) (Want.none rfl) rfl (EF.store rfl rfl rfl z3 (Route.set_until_ _ _) (cell_one rfl)) (by kernel_rfl) ?_
    rintro _ _ rfl
    refine ⟨fun _ h => (by cases h), ?_⟩
    generalize hs2 : ({ s1 with until_ := s1.until_ + s1.hold } : Route) = s2
    have hkey2 : e.1 = keyR s2 := by rw [hkey, ← hs2, ← hs1]; rfl
    refine Dw.nil (by kernel_rfl) ?_
    refine hk12 _ _ ?_
    refine Run.region ?_
    show Sq _ _ _ [0, 1, 2, 3, 4, 5, 6] _ _ _ _
    refine Sq.quiet (i := 0) rfl (Want.none rfl) rfl (ltN rfl) (QP.move rfl rfl).read ?_
    refine Sq.quiet (i := 1) rfl (Want.none rfl) rfl (ltN rfl) (QP.move rfl rfl).read ?_
    refine Sq.quiet (i := 2) rfl (Want.none rfl) rfl (ltN rfl) (QP.nilCheck rfl rfl).read ?_
    refine Sq.quiet (i := 3) rfl (Want.none rfl) rfl (ltN rfl) (QR.load rfl rfl g37 (Route.enc_sub _)) ?_
    refine Sq.eff (i := 4) rfl (Want.none rfl) rfl (ltN rfl) (EF.buildSlice1 rfl Try.underlying46 z37 zero37 (by simp [Value.cells, Route.enc_len]) (by decide) rfl rfl (Route.enc_len _) (by decide)) ?_
    rintro _ _ ⟨b46, rfl, rfl⟩
    refine Sq.eff (i := 5) rfl (Want.none rfl) rfl (ltN rfl) (EF.append1 (xs := (((es.take i).filter fun e => expR now e.2.2).map fun e => agedR now e.2.2)) (s := _) el37 Route.enc_len Route.enc_cell rfl rfl rfl Try.underlying46 Try.underlying46 rfl rfl (by repeat constructor) (by repeat constructor) (by first | omega | (simp <;> omega))) ?_
    rintro sl47 _ rfl
    refine Sq.quiet (i := 6) rfl (Want.none rfl) rfl (ltN rfl) (QP.assign rfl rfl).read ?_
    refine Sq.nil ?_
    refine hk9 _ _ ?_
    refine Run.seq fun k13 hk13 => ?_
    refine Run.region ?_
    show Sq _ _ _ [0, 1, 2, 3, 4, 5] _ _ _ _
    refine Sq.quiet (i := 0) rfl (Want.none rfl) rfl (ltN rfl) (QP.move rfl rfl).read ?_
    refine Sq.quiet (i := 1) rfl (Want.none rfl) rfl (ltN rfl) (QP.nilCheck rfl rfl).read ?_
    refine Sq.quiet (i := 2) rfl (Want.none rfl) rfl (ltN rfl) (QP.fieldAddr rfl rfl f37_8).read ?_
    refine Sq.quiet (i := 3) rfl (Want.none rfl) rfl (ltN rfl) (QR.load1 rfl rfl g3 (Route.sub_until_ _)) ?_
    refine Sq.quiet (i := 4) rfl (Want.none rfl) rfl (ltN rfl) (QP.move rfl rfl).read ?_
    refine Sq.quiet (i := 5) rfl (Want.none rfl) rfl (ltN rfl) (QP.leq rfl rfl rfl).read ?_
    refine J.caseD (fun c53 => ?_) (fun c53 => ?_)
    ·skip
     refine Sq.nil ?_
     refine hk13 _ _ ?_
     refine Run.cond_t rfl ?_
     refine Run.seq fun k14 hk14 => ?_
     refine Run.region ?_
     show Sq _ _ _ [0, 1, 2, 3, 4, 5, 6] _ _ _ _
     refine Sq.quiet (i := 0) rfl (Want.none rfl) rfl (ltN rfl) (QP.move rfl rfl).read ?_
     refine Sq.quiet (i := 1) rfl (Want.none rfl) rfl (ltN rfl) (QP.move rfl rfl).read ?_
     refine Sq.quiet (i := 2) rfl (Want.none rfl) rfl (ltN rfl) (QP.nilCheck rfl rfl).read ?_
     refine Sq.quiet (i := 3) rfl (Want.none rfl) rfl (ltN rfl) (QR.load rfl rfl g37 (Route.enc_sub _)) ?_
     refine Sq.eff (i := 4) rfl (Want.none rfl) rfl (ltN rfl) (EF.buildSlice1 rfl Try.underlying46 z37 zero37 (by simp [Value.cells, Route.enc_len]) (by decide) rfl rfl (Route.enc_len _) (by decide)) ?_
     rintro _ _ ⟨b58, rfl, rfl⟩
     refine Sq.eff (i := 5) rfl (Want.none rfl) rfl (ltN rfl) (EF.append1 (xs := (((es.take i).filter fun e => goneR now e.2.2).map fun e => agedR now e.2.2)) (s := _) el37 Route.enc_len Route.enc_cell rfl rfl rfl Try.underlying46 Try.underlying46 rfl rfl (by repeat constructor) (by repeat constructor) (by first | omega | (simp <;> omega))) ?_
     rintro sl59 _ rfl
     refine Sq.quiet (i := 6) rfl (Want.none rfl) rfl (ltN rfl) (QP.assign rfl rfl).read ?_
     refine Sq.nil ?_
     refine hk14 _ _ ?_
     refine Run.regionD (M := [0, 1, 3, 7, 0, 16, 48, 112, 0, 256, 768, 1792, 0, 4096, 12288, 28672, 65520, 131071]) (q := 131071) (r := 34952) (by kernel_rfl) ?_
     refine Dw.pure (i := 0) rfl (by kernel_rfl) (Want.none rfl) rfl (ltN rfl) (QP.move rfl rfl) ?_
     refine Dw.pure (i := 1) rfl (by kernel_rfl) (Want.none rfl) rfl (ltN rfl) (QP.nilCheck rfl rfl) ?_
     refine Dw.pure (i := 2) rfl (by kernel_rfl) (Want.none rfl) rfl (ltN rfl) (QP.fieldAddr rfl rfl f76_1) ?_
     refine Dw.read (i := 3) rfl (by kernel_rfl) (Want.none rfl) rfl (ltN rfl) (QR.load1 rfl rfl g74 (RouteTable.sub_m _)) ?_
     refine Dw.pure (i := 4) rfl (by kernel_rfl) (Want.none rfl) rfl (ltN rfl) (QP.move rfl rfl) ?_
     refine Dw.pure (i := 5) rfl (by kernel_rfl) (Want.none rfl) rfl (ltN rfl) (QP.nilCheck rfl rfl) ?_
     refine Dw.pure (i := 6) rfl (by kernel_rfl) (Want.none rfl) rfl (ltN rfl) (QP.fieldAddr rfl rfl f37_0) ?_
     refine Dw.read (i := 7) rfl (by kernel_rfl) (Want.none rfl) rfl (ltN rfl) (QR.load rfl rfl g32 (Route.sub_pair _)) ?_
     refine Dw.pure (i := 8) rfl (by kernel_rfl) (Want.none rfl) rfl (ltN rfl) (QP.move rfl rfl) ?_
     refine Dw.pure (i := 9) rfl (by kernel_rfl) (Want.none rfl) rfl (ltN rfl) (QP.nilCheck rfl rfl) ?_
     refine Dw.pure (i := 10) rfl (by kernel_rfl) (Want.none rfl) rfl (ltN rfl) (QP.fieldAddr rfl rfl f37_1) ?_
     refine Dw.read (i := 11) rfl (by kernel_rfl) (Want.none rfl) rfl (ltN rfl) (QR.load1 rfl rfl g3 (Route.sub_if_ _)) ?_
     refine Dw.pure (i := 12) rfl (by kernel_rfl) (Want.none rfl) rfl (ltN rfl) (QP.move rfl rfl) ?_
     refine Dw.pure (i := 13) rfl (by kernel_rfl) (Want.none rfl) rfl (ltN rfl) (QP.nilCheck rfl rfl) ?_
     refine Dw.pure (i := 14) rfl (by kernel_rfl) (Want.none rfl) rfl (ltN rfl) (QP.fieldAddr rfl rfl f37_2) ?_
     refine Dw.read (i := 15) rfl (by kernel_rfl) (Want.none rfl) rfl (ltN rfl) (QR.load rfl rfl g28 (Route.sub_from_ _)) ?_
     refine Dw.pure (i := 16) rfl (by kernel_rfl) (Want.none rfl) rfl (ltN rfl) (QP.build (l := RouteKey.enc ⟨_, _, _⟩) rfl st79 rfl (by exact ⟨(congrArg some (Pair.enc_len _).symm), ⟨rfl, ⟨(congrArg some (Bs.len _).symm), trivial⟩⟩⟩) rfl) ?_
     refine Dw.eff (i := 17) (by kernel_rfl) (by kernel_rfl) ?_
     refine One.act (o := _) (l := []) rfl (by kernel_rfl) (Want.none rfl) rfl (EF.delete key79 rfl rfl rfl rfl Try.underlying74) (by kernel_rfl) ?_
     rintro _ _ rfl
     refine ⟨fun _ h => (by cases h), ?_⟩
     rw [show (⟨s2.pair, s2.if_, s2.from_⟩ : RouteKey) = e.1 from hkey2.symm]
     refine Dw.nil (by kernel_rfl) ?_
     refine hk7 _ _ ?_
     refine Run.region ?_
     show Sq _ _ _ [0, 1] _ _ _ _
     have hexp : expR now e.2.2 = true := by simp only [expR, c20, c26, decide_true, Bool.and_true, ne_eq, not_false_eq_true]
     have haged : agedR now e.2.2 = s2 := by unfold agedR; rw [hexp]; subst hs2 hs1; rfl
     have hgone : goneR now e.2.2 = true := by unfold goneR; rw [haged]; exact decide_eq_true c53
     have hst := step_none (g := tickG now) (E := E) hi (by unfold tickG; rw [hgone]; rfl)
     rw [← hst]
     have hx1 := fm_succ (fun e : RouteKey × (Nat × Route) => expR now e.2.2) (fun e => agedR now e.2.2) hi
     have hx2 := fm_succ (fun e : RouteKey × (Nat × Route) => goneR now e.2.2) (fun e => agedR now e.2.2) hi
     rw [hexp, haged] at hx1
     rw [hgone, haged] at hx2
     simp only [if_true, if_false, Bool.false_eq_true, List.append_nil] at hx1 hx2
     refine Sq.slEq (v := sl47) (by repeat constructor) hx1.symm ?_
     refine Sq.slEq (v := sl59) (by repeat constructor) hx2.symm ?_
     refine Sq.quiet (i := 0) rfl (Want.none rfl) rfl (ltN rfl) (QP.add64 rfl rfl rfl (by first | omega | (simp <;> omega)) (by first | omega | (simp <;> omega))).read ?_
     refine Sq.quiet (i := 1) rfl (Want.none rfl) rfl (ltN rfl) (QP.move rfl rfl).read ?_
     refine Sq.nil ?_
     exact J.envJ (J.keep (.cons (by repeat constructor) (.cons (by repeat constructor) (.cons (by repeat constructor) (.cons (by repeat constructor) (.cons (by repeat constructor) (.cons (by repeat constructor) Takes.nil)))))) (hl4 (i + 1) (adel Pm e.1) (sl47) (sl59) (⟨by omega, by rw [hst, ptrs_adel, hPm]⟩) (by omega))) ⟨rfl, rfl, rfl, rfl, rfl, rfl, rfl, trivial⟩
    ·skip
     refine Sq.nil ?_
     refine hk13 _ _ ?_
     refine Run.cond_f rfl ?_
     refine Run.skip ?_
     refine hk7 _ _ ?_
     refine Run.region ?_
     show Sq _ _ _ [0, 1] _ _ _ _
     have hexp : expR now e.2.2 = true := by simp only [expR, c20, c26, decide_true, Bool.and_true, ne_eq, not_false_eq_true]
     have haged : agedR now e.2.2 = s2 := by unfold agedR; rw [hexp]; subst hs2 hs1; rfl
     have hgone : goneR now e.2.2 = false := by unfold goneR; rw [haged]; exact decide_eq_false c53
     have hst := step_some (g := tickG now) (E := E) hi (show tickG now e.2.2 = some s2 from by unfold tickG; rw [hgone, haged]; rfl)
     refine Sq.close (A := rowsA Route.enc 37 (stepE (tickG now) E (es.take (i + 1)))) (m := [blk e.2.1 (Route.enc s2) 37, rowsA Route.enc 37 (adel (stepE (tickG now) E (es.take i)) e.1)]) (.cons (by repeat constructor) (.cons (by repeat constructor) Takes.nil)) (fun _ g => by rw [hst]; exact rowsA_close hlook g) ?_
     have hx1 := fm_succ (fun e : RouteKey × (Nat × Route) => expR now e.2.2) (fun e => agedR now e.2.2) hi
     have hx2 := fm_succ (fun e : RouteKey × (Nat × Route) => goneR now e.2.2) (fun e => agedR now e.2.2) hi
     rw [hexp, haged] at hx1
     rw [hgone, haged] at hx2
     simp only [if_true, if_false, Bool.false_eq_true, List.append_nil] at hx1 hx2
     refine Sq.slEq (v := sl47) (by repeat constructor) hx1.symm ?_
     refine Sq.slEq (v := vg) (by repeat constructor) hx2.symm ?_
     refine Sq.quiet (i := 0) rfl (Want.none rfl) rfl (ltN rfl) (QP.add64 rfl rfl rfl (by first | omega | (simp <;> omega)) (by first | omega | (simp <;> omega))).read ?_
     refine Sq.quiet (i := 1) rfl (Want.none rfl) rfl (ltN rfl) (QP.move rfl rfl).read ?_
     refine Sq.nil ?_
     exact J.envJ (J.keep (.cons (by repeat constructor) (.cons (by repeat constructor) (.cons (by repeat constructor) (.cons (by repeat constructor) (.cons (by repeat constructor) (.cons (by repeat constructor) Takes.nil)))))) (hl4 (i + 1) (Pm) (sl47) (vg) (⟨by omega, by rw [hst, ptrs_step hlook]; exact hPm⟩) (by omega))) ⟨rfl, rfl, rfl, rfl, rfl, rfl, rfl, trivial⟩
   ·skip
    refine Sq.quiet (i := 12) rfl (Want.none rfl) rfl (ltN rfl) (QP.pick_t rfl rfl rfl).read ?_
    refine Sq.nil ?_
    refine hk10 _ _ ?_
    refine Run.cond_f rfl ?_
    refine Run.skip ?_
    refine hk9 _ _ ?_
    refine Run.seq fun k15 hk15 => ?_
    refine Run.region ?_
    show Sq _ _ _ [0, 1, 2, 3, 4, 5] _ _ _ _
    refine Sq.quiet (i := 0) rfl (Want.none rfl) rfl (ltN rfl) (QP.move rfl rfl).read ?_
    refine Sq.quiet (i := 1) rfl (Want.none rfl) rfl (ltN rfl) (QP.nilCheck rfl rfl).read ?_
    refine Sq.quiet (i := 2) rfl (Want.none rfl) rfl (ltN rfl) (QP.fieldAddr rfl rfl f37_8).read ?_
    refine Sq.quiet (i := 3) rfl (Want.none rfl) rfl (ltN rfl) (QR.load1 rfl rfl g3 (Route.sub_until_ _)) ?_
    refine Sq.quiet (i := 4) rfl (Want.none rfl) rfl (ltN rfl) (QP.move rfl rfl).read ?_
    refine Sq.quiet (i := 5) rfl (Want.none rfl) rfl (ltN rfl) (QP.leq rfl rfl rfl).read ?_
    refine J.caseD (fun c53 => ?_) (fun c53 => ?_)
    ·skip
     refine Sq.nil ?_
     refine hk15 _ _ ?_
     refine Run.cond_t rfl ?_
     refine Run.seq fun k16 hk16 => ?_
     refine Run.region ?_
     show Sq _ _ _ [0, 1, 2, 3, 4, 5, 6] _ _ _ _
     refine Sq.quiet (i := 0) rfl (Want.none rfl) rfl (ltN rfl) (QP.move rfl rfl).read ?_
     refine Sq.quiet (i := 1) rfl (Want.none rfl) rfl (ltN rfl) (QP.move rfl rfl).read ?_
     refine Sq.quiet (i := 2) rfl (Want.none rfl) rfl (ltN rfl) (QP.nilCheck rfl rfl).read ?_
     refine Sq.quiet (i := 3) rfl (Want.none rfl) rfl (ltN rfl) (QR.load rfl rfl g37 (Route.enc_sub _)) ?_
     refine Sq.eff (i := 4) rfl (Want.none rfl) rfl (ltN rfl) (EF.buildSlice1 rfl Try.underlying46 z37 zero37 (by simp [Value.cells, Route.enc_len]) (by decide) rfl rfl (Route.enc_len _) (by decide)) ?_
     rintro _ _ ⟨b58, rfl, rfl⟩
     refine Sq.eff (i := 5) rfl (Want.none rfl) rfl (ltN rfl) (EF.append1 (xs := (((es.take i).filter fun e => goneR now e.2.2).map fun e => agedR now e.2.2)) (s := _) el37 Route.enc_len Route.enc_cell rfl rfl rfl Try.underlying46 Try.underlying46 rfl rfl (by repeat constructor) (by repeat constructor) (by first | omega | (simp <;> omega))) ?_
     rintro sl59 _ rfl
     refine Sq.quiet (i := 6) rfl (Want.none rfl) rfl (ltN rfl) (QP.assign rfl rfl).read ?_
     refine Sq.nil ?_
     refine hk16 _ _ ?_
     refine Run.regionD (M := [0, 1, 3, 7, 0, 16, 48, 112, 0, 256, 768, 1792, 0, 4096, 12288, 28672, 65520, 131071]) (q := 131071) (r := 34952) (by kernel_rfl) ?_
     refine Dw.pure (i := 0) rfl (by kernel_rfl) (Want.none rfl) rfl (ltN rfl) (QP.move rfl rfl) ?_
     refine Dw.pure (i := 1) rfl (by kernel_rfl) (Want.none rfl) rfl (ltN rfl) (QP.nilCheck rfl rfl) ?_
     refine Dw.pure (i := 2) rfl (by kernel_rfl) (Want.none rfl) rfl (ltN rfl) (QP.fieldAddr rfl rfl f76_1) ?_
     refine Dw.read (i := 3) rfl (by kernel_rfl) (Want.none rfl) rfl (ltN rfl) (QR.load1 rfl rfl g74 (RouteTable.sub_m _)) ?_
     refine Dw.pure (i := 4) rfl (by kernel_rfl) (Want.none rfl) rfl (ltN rfl) (QP.move rfl rfl) ?_
     refine Dw.pure (i := 5) rfl (by kernel_rfl) (Want.none rfl) rfl (ltN rfl) (QP.nilCheck rfl rfl) ?_
     refine Dw.pure (i := 6) rfl (by kernel_rfl) (Want.none rfl) rfl (ltN rfl) (QP.fieldAddr rfl rfl f37_0) ?_
     refine Dw.read (i := 7) rfl (by kernel_rfl) (Want.none rfl) rfl (ltN rfl) (QR.load rfl rfl g32 (Route.sub_pair _)) ?_
     refine Dw.pure (i := 8) rfl (by kernel_rfl) (Want.none rfl) rfl (ltN rfl) (QP.move rfl rfl) ?_
     refine Dw.pure (i := 9) rfl (by kernel_rfl) (Want.none rfl) rfl (ltN rfl) (QP.nilCheck rfl rfl) ?_
     refine Dw.pure (i := 10) rfl (by kernel_rfl) (Want.none rfl) rfl (ltN rfl) (QP.fieldAddr rfl rfl f37_1) ?_
     refine Dw.read (i := 11) rfl (by kernel_rfl) (Want.none rfl) rfl (ltN rfl) (QR.load1 rfl rfl g3 (Route.sub_if_ _)) ?_
     refine Dw.pure (i := 12) rfl (by kernel_rfl) (Want.none rfl) rfl (ltN rfl) (QP.move rfl rfl) ?_
     refine Dw.pure (i := 13) rfl (by kernel_rfl) (Want.none rfl) rfl (ltN rfl) (QP.nilCheck rfl rfl) ?_
     refine Dw.pure (i := 14) rfl (by kernel_rfl) (Want.none rfl) rfl (ltN rfl) (QP.fieldAddr rfl rfl f37_2) ?_
     refine Dw.read (i := 15) rfl (by kernel_rfl) (Want.none rfl) rfl (ltN rfl) (QR.load rfl rfl g28 (Route.sub_from_ _)) ?_
     refine Dw.pure (i := 16) rfl (by kernel_rfl) (Want.none rfl) rfl (ltN rfl) (QP.build (l := RouteKey.enc ⟨_, _, _⟩) rfl st79 rfl (by exact ⟨(congrArg some (Pair.enc_len _).symm), ⟨rfl, ⟨(congrArg some (Bs.len _).symm), trivial⟩⟩⟩) rfl) ?_
     refine Dw.eff (i := 17) (by kernel_rfl) (by kernel_rfl) ?_
     refine One.act (o := _) (l := []) rfl (by kernel_rfl) (Want.none rfl) rfl (EF.delete key79 rfl rfl rfl rfl Try.underlying74) (by kernel_rfl) ?_
     rintro _ _ rfl
     refine ⟨fun _ h => (by cases h), ?_⟩
     rw [show (⟨e.2.2.pair, e.2.2.if_, e.2.2.from_⟩ : RouteKey) = e.1 from hkey.symm]
     refine Dw.nil (by kernel_rfl) ?_
     refine hk7 _ _ ?_
     refine Run.region ?_
     show Sq _ _ _ [0, 1] _ _ _ _
     have hexp : expR now e.2.2 = false := by simp only [expR, Bool.and_eq_false_iff, decide_eq_false_iff_not]; exact .inr c26
     have haged : agedR now e.2.2 = e.2.2 := by unfold agedR; rw [hexp]; rfl
     have hgone : goneR now e.2.2 = true := by unfold goneR; rw [haged]; exact decide_eq_true c53
     have hst := step_none (g := tickG now) (E := E) hi (by unfold tickG; rw [hgone]; rfl)
     rw [← hst]
     have hx1 := fm_succ (fun e : RouteKey × (Nat × Route) => expR now e.2.2) (fun e => agedR now e.2.2) hi
     have hx2 := fm_succ (fun e : RouteKey × (Nat × Route) => goneR now e.2.2) (fun e => agedR now e.2.2) hi
     rw [hexp, haged] at hx1
     rw [hgone, haged] at hx2
     simp only [if_true, if_false, Bool.false_eq_true, List.append_nil] at hx1 hx2
     refine Sq.slEq (v := va) (by repeat constructor) hx1.symm ?_
     refine Sq.slEq (v := sl59) (by repeat constructor) hx2.symm ?_
     refine Sq.quiet (i := 0) rfl (Want.none rfl) rfl (ltN rfl) (QP.add64 rfl rfl rfl (by first | omega | (simp <;> omega)) (by first | omega | (simp <;> omega))).read ?_
     refine Sq.quiet (i := 1) rfl (Want.none rfl) rfl (ltN rfl) (QP.move rfl rfl).read ?_
     refine Sq.nil ?_
     exact J.envJ (J.keep (.cons (by repeat constructor) (.cons (by repeat constructor) (.cons (by repeat constructor) (.cons (by repeat constructor) (.cons (by repeat constructor) (.cons (by repeat constructor) Takes.nil)))))) (hl4 (i + 1) (adel Pm e.1) (va) (sl59) (⟨by omega, by rw [hst, ptrs_adel, hPm]⟩) (by omega))) ⟨rfl, rfl, rfl, rfl, rfl, rfl, rfl, trivial⟩
    ·skip
     refine Sq.nil ?_
     refine hk15 _ _ ?_
     refine Run.cond_f rfl ?_
     refine Run.skip ?_
     refine hk7 _ _ ?_
     refine Run.region ?_
     show Sq _ _ _ [0, 1] _ _ _ _
     have hexp : expR now e.2.2 = false := by simp only [expR, Bool.and_eq_false_iff, decide_eq_false_iff_not]; exact .inr c26
     have haged : agedR now e.2.2 = e.2.2 := by unfold agedR; rw [hexp]; rfl
     have hgone : goneR now e.2.2 = false := by unfold goneR; rw [haged]; exact decide_eq_false c53
     have hst := step_some (g := tickG now) (E := E) hi (show tickG now e.2.2 = some e.2.2 from by unfold tickG; rw [hgone, haged]; rfl)
     refine Sq.close (A := rowsA Route.enc 37 (stepE (tickG now) E (es.take (i + 1)))) (m := [blk e.2.1 (Route.enc e.2.2) 37, rowsA Route.enc 37 (adel (stepE (tickG now) E (es.take i)) e.1)]) (.cons (by repeat constructor) (.cons (by repeat constructor) Takes.nil)) (fun _ g => by rw [hst]; exact rowsA_close hlook g) ?_
     have hx1 := fm_succ (fun e : RouteKey × (Nat × Route) => expR now e.2.2) (fun e => agedR now e.2.2) hi
     have hx2 := fm_succ (fun e : RouteKey × (Nat × Route) => goneR now e.2.2) (fun e => agedR now e.2.2) hi
     rw [hexp, haged] at hx1
     rw [hgone, haged] at hx2
     simp only [if_true, if_false, Bool.false_eq_true, List.append_nil] at hx1 hx2
     refine Sq.slEq (v := va) (by repeat constructor) hx1.symm ?_
     refine Sq.slEq (v := vg) (by repeat constructor) hx2.symm ?_
     refine Sq.quiet (i := 0) rfl (Want.none rfl) rfl (ltN rfl) (QP.add64 rfl rfl rfl (by first | omega | (simp <;> omega)) (by first | omega | (simp <;> omega))).read ?_
     refine Sq.quiet (i := 1) rfl (Want.none rfl) rfl (ltN rfl) (QP.move rfl rfl).read ?_
     refine Sq.nil ?_
     exact J.envJ (J.keep (.cons (by repeat constructor) (.cons (by repeat constructor) (.cons (by repeat constructor) (.cons (by repeat constructor) (.cons (by repeat constructor) (.cons (by repeat constructor) Takes.nil)))))) (hl4 (i + 1) (Pm) (va) (vg) (⟨by omega, by rw [hst, ptrs_step hlook]; exact hPm⟩) (by omega))) ⟨rfl, rfl, rfl, rfl, rfl, rfl, rfl, trivial⟩
  ·skip
   refine Sq.quiet (i := 6) rfl (Want.none rfl) rfl (ltN rfl) (QP.move rfl rfl).read ?_
   refine Sq.skip (i := 7) rfl (Want.no rfl rfl rfl rfl) rfl (ltN rfl) ?_
   refine Sq.skip (i := 8) rfl (Want.no rfl rfl rfl rfl) rfl (ltN rfl) ?_
   refine Sq.skip (i := 9) rfl (Want.no rfl rfl rfl rfl) rfl (ltN rfl) ?_
   refine Sq.skip (i := 10) rfl (Want.no rfl rfl rfl rfl) rfl (ltN rfl) ?_
   refine Sq.skip (i := 11) rfl (Want.no rfl rfl rfl rfl) rfl (ltN rfl) ?_
   refine Sq.quiet (i := 12) rfl (Want.none rfl) rfl (ltN rfl) (QP.pick_f rfl rfl rfl).read ?_
   refine Sq.nil ?_
   refine hk10 _ _ ?_
   refine Run.cond_f rfl ?_
   refine Run.skip ?_
   refine hk9 _ _ ?_
   refine Run.seq fun k17 hk17 => ?_
   refine Run.region ?_
   show Sq _ _ _ [0, 1, 2, 3, 4, 5] _ _ _ _
   refine Sq.quiet (i := 0) rfl (Want.none rfl) rfl (ltN rfl) (QP.move rfl rfl).read ?_
   refine Sq.quiet (i := 1) rfl (Want.none rfl) rfl (ltN rfl) (QP.nilCheck rfl rfl).read ?_
   refine Sq.quiet (i := 2) rfl (Want.none rfl) rfl (ltN rfl) (QP.fieldAddr rfl rfl f37_8).read ?_
   refine Sq.quiet (i := 3) rfl (Want.none rfl) rfl (ltN rfl) (QR.load1 rfl rfl g3 (Route.sub_until_ _)) ?_
   refine Sq.quiet (i := 4) rfl (Want.none rfl) rfl (ltN rfl) (QP.move rfl rfl).read ?_
   refine Sq.quiet (i := 5) rfl (Want.none rfl) rfl (ltN rfl) (QP.leq rfl rfl rfl).read ?_
   refine J.caseD (fun c53 => ?_) (fun c53 => ?_)
   ·skip
    refine Sq.nil ?_
    refine hk17 _ _ ?_
    refine Run.cond_t rfl ?_
    refine Run.seq fun k18 hk18 => ?_
    refine Run.region ?_
    show Sq _ _ _ [0, 1, 2, 3, 4, 5, 6] _ _ _ _
    refine Sq.quiet (i := 0) rfl (Want.none rfl) rfl (ltN rfl) (QP.move rfl rfl).read ?_
    refine Sq.quiet (i := 1) rfl (Want.none rfl) rfl (ltN rfl) (QP.move rfl rfl).read ?_
    refine Sq.quiet (i := 2) rfl (Want.none rfl) rfl (ltN rfl) (QP.nilCheck rfl rfl).read ?_
    refine Sq.quiet (i := 3) rfl (Want.none rfl) rfl (ltN rfl) (QR.load rfl rfl g37 (Route.enc_sub _)) ?_
    refine Sq.eff (i := 4) rfl (Want.none rfl) rfl (ltN rfl) (EF.buildSlice1 rfl Try.underlying46 z37 zero37 (by simp [Value.cells, Route.enc_len]) (by decide) rfl rfl (Route.enc_len _) (by decide)) ?_
    rintro _ _ ⟨b58, rfl, rfl⟩
    refine Sq.eff (i := 5) rfl (Want.none rfl) rfl (ltN rfl) (EF.append1 (xs := (((es.take i).filter fun e => goneR now e.2.2).map fun e => agedR now e.2.2)) (s := _) el37 Route.enc_len Route.enc_cell rfl rfl rfl Try.underlying46 Try.underlying46 rfl rfl (by repeat constructor) (by repeat constructor) (by first | omega | (simp <;> omega))) ?_
    rintro sl59 _ rfl
    refine Sq.quiet (i := 6) rfl (Want.none rfl) rfl (ltN rfl) (QP.assign rfl rfl).read ?_
    refine Sq.nil ?_
    refine hk18 _ _ ?_
    refine Run.regionD (M := [0, 1, 3, 7, 0, 16, 48, 112, 0, 256, 768, 1792, 0, 4096, 12288, 28672, 65520, 131071]) (q := 131071) (r := 34952) (by kernel_rfl) ?_
    refine Dw.pure (i := 0) rfl (by kernel_rfl) (Want.none rfl) rfl (ltN rfl) (QP.move rfl rfl) ?_
    refine Dw.pure (i := 1) rfl (by kernel_rfl) (Want.none rfl) rfl (ltN rfl) (QP.nilCheck rfl rfl) ?_
    refine Dw.pure (i := 2) rfl (by kernel_rfl) (Want.none rfl) rfl (ltN rfl) (QP.fieldAddr rfl rfl f76_1) ?_
    refine Dw.read (i := 3) rfl (by kernel_rfl) (Want.none rfl) rfl (ltN rfl) (QR.load1 rfl rfl g74 (RouteTable.sub_m _)) ?_
    refine Dw.pure (i := 4) rfl (by kernel_rfl) (Want.none rfl) rfl (ltN rfl) (QP.move rfl rfl) ?_
    refine Dw.pure (i := 5) rfl (by kernel_rfl) (Want.none rfl) rfl (ltN rfl) (QP.nilCheck rfl rfl) ?_
    refine Dw.pure (i := 6) rfl (by kernel_rfl) (Want.none rfl) rfl (ltN rfl) (QP.fieldAddr rfl rfl f37_0) ?_
    refine Dw.read (i := 7) rfl (by kernel_rfl) (Want.none rfl) rfl (ltN rfl) (QR.load rfl rfl g32 (Route.sub_pair _)) ?_
    refine Dw.pure (i := 8) rfl (by kernel_rfl) (Want.none rfl) rfl (ltN rfl) (QP.move rfl rfl) ?_
    refine Dw.pure (i := 9) rfl (by kernel_rfl) (Want.none rfl) rfl (ltN rfl) (QP.nilCheck rfl rfl) ?_
    refine Dw.pure (i := 10) rfl (by kernel_rfl) (Want.none rfl) rfl (ltN rfl) (QP.fieldAddr rfl rfl f37_1) ?_
    refine Dw.read (i := 11) rfl (by kernel_rfl) (Want.none rfl) rfl (ltN rfl) (QR.load1 rfl rfl g3 (Route.sub_if_ _)) ?_
    refine Dw.pure (i := 12) rfl (by kernel_rfl) (Want.none rfl) rfl (ltN rfl) (QP.move rfl rfl) ?_
    refine Dw.pure (i := 13) rfl (by kernel_rfl) (Want.none rfl) rfl (ltN rfl) (QP.nilCheck rfl rfl) ?_
    refine Dw.pure (i := 14) rfl (by kernel_rfl) (Want.none rfl) rfl (ltN rfl) (QP.fieldAddr rfl rfl f37_2) ?_
    refine Dw.read (i := 15) rfl (by kernel_rfl) (Want.none rfl) rfl (ltN rfl) (QR.load rfl rfl g28 (Route.sub_from_ _)) ?_
    refine Dw.pure (i := 16) rfl (by kernel_rfl) (Want.none rfl) rfl (ltN rfl) (QP.build (l := RouteKey.enc ⟨_, _, _⟩) rfl st79 rfl (by exact ⟨(congrArg some (Pair.enc_len _).symm), ⟨rfl, ⟨(congrArg some (Bs.len _).symm), trivial⟩⟩⟩) rfl) ?_
    refine Dw.eff (i := 17) (by kernel_rfl) (by kernel_rfl) ?_
    refine One.act (o := _) (l := []) rfl (by kernel_rfl) (Want.none rfl) rfl (EF.delete key79 rfl rfl rfl rfl Try.underlying74) (by kernel_rfl) ?_
    rintro _ _ rfl
    refine ⟨fun _ h => (by cases h), ?_⟩
    rw [show (⟨e.2.2.pair, e.2.2.if_, e.2.2.from_⟩ : RouteKey) = e.1 from hkey.symm]
    refine Dw.nil (by kernel_rfl) ?_
    refine hk7 _ _ ?_
    refine Run.region ?_
    show Sq _ _ _ [0, 1] _ _ _ _
    have hexp : expR now e.2.2 = false := by simp only [expR, Bool.and_eq_false_iff, decide_eq_false_iff_not]; exact .inl c20
    have haged : agedR now e.2.2 = e.2.2 := by unfold agedR; rw [hexp]; rfl
    have hgone : goneR now e.2.2 = true := by unfold goneR; rw [haged]; exact decide_eq_true c53
    have hst := step_none (g := tickG now) (E := E) hi (by unfold tickG; rw [hgone]; rfl)
    rw [← hst]
    have hx1 := fm_succ (fun e : RouteKey × (Nat × Route) => expR now e.2.2) (fun e => agedR now e.2.2) hi
    have hx2 := fm_succ (fun e : RouteKey × (Nat × Route) => goneR now e.2.2) (fun e => agedR now e.2.2) hi
    rw [hexp, haged] at hx1
    rw [hgone, haged] at hx2
    simp only [if_true, if_false, Bool.false_eq_true, List.append_nil] at hx1 hx2
    refine Sq.slEq (v := va) (by repeat constructor) hx1.symm ?_
    refine Sq.slEq (v := sl59) (by repeat constructor) hx2.symm ?_
    refine Sq.quiet (i := 0) rfl (Want.none rfl) rfl (ltN rfl) (QP.add64 rfl rfl rfl (by first | omega | (simp <;> omega)) (by first | omega | (simp <;> omega))).read ?_
    refine Sq.quiet (i := 1) rfl (Want.none rfl) rfl (ltN rfl) (QP.move rfl rfl).read ?_
    refine Sq.nil ?_
    exact J.envJ (J.keep (.cons (by repeat constructor) (.cons (by repeat constructor) (.cons (by repeat constructor) (.cons (by repeat constructor) (.cons (by repeat constructor) (.cons (by repeat constructor) Takes.nil)))))) (hl4 (i + 1) (adel Pm e.1) (va) (sl59) (⟨by omega, by rw [hst, ptrs_adel, hPm]⟩) (by omega))) ⟨rfl, rfl, rfl, rfl, rfl, rfl, rfl, trivial⟩
   ·skip
    refine Sq.nil ?_
    refine hk17 _ _ ?_
    refine Run.cond_f rfl ?_
    refine Run.skip ?_
    refine hk7 _ _ ?_
    refine Run.region ?_
    show Sq _ _ _ [0, 1] _ _ _ _
    have hexp : expR now e.2.2 = false := by simp only [expR, Bool.and_eq_false_iff, decide_eq_false_iff_not]; exact .inl c20
    have haged : agedR now e.2.2 = e.2.2 := by unfold agedR; rw [hexp]; rfl
    have hgone : goneR now e.2.2 = false := by unfold goneR; rw [haged]; exact decide_eq_false c53
    have hst := step_some (g := tickG now) (E := E) hi (show tickG now e.2.2 = some e.2.2 from by unfold tickG; rw [hgone, haged]; rfl)
    refine Sq.close (A := rowsA Route.enc 37 (stepE (tickG now) E (es.take (i + 1)))) (m := [blk e.2.1 (Route.enc e.2.2) 37, rowsA Route.enc 37 (adel (stepE (tickG now) E (es.take i)) e.1)]) (.cons (by repeat constructor) (.cons (by repeat constructor) Takes.nil)) (fun _ g => by rw [hst]; exact rowsA_close hlook g) ?_
    have hx1 := fm_succ (fun e : RouteKey × (Nat × Route) => expR now e.2.2) (fun e => agedR now e.2.2) hi
    have hx2 := fm_succ (fun e : RouteKey × (Nat × Route) => goneR now e.2.2) (fun e => agedR now e.2.2) hi
    rw [hexp, haged] at hx1
    rw [hgone, haged] at hx2
    simp only [if_true, if_false, Bool.false_eq_true, List.append_nil] at hx1 hx2
    refine Sq.slEq (v := va) (by repeat constructor) hx1.symm ?_
    refine Sq.slEq (v := vg) (by repeat constructor) hx2.symm ?_
    refine Sq.quiet (i := 0) rfl (Want.none rfl) rfl (ltN rfl) (QP.add64 rfl rfl rfl (by first | omega | (simp <;> omega)) (by first | omega | (simp <;> omega))).read ?_
    refine Sq.quiet (i := 1) rfl (Want.none rfl) rfl (ltN rfl) (QP.move rfl rfl).read ?_
    refine Sq.nil ?_
    exact J.envJ (J.keep (.cons (by repeat constructor) (.cons (by repeat constructor) (.cons (by repeat constructor) (.cons (by repeat constructor) (.cons (by repeat constructor) (.cons (by repeat constructor) Takes.nil)))))) (hl4 (i + 1) (Pm) (va) (vg) (⟨by omega, by rw [hst, ptrs_step hlook]; exact hPm⟩) (by omega))) ⟨rfl, rfl, rfl, rfl, rfl, rfl, rfl, trivial⟩
 ·skip
  refine Sq.nil ?_
  refine hk5 _ _ ?_
  refine Run.seq fun k19 hk19 => ?_
  refine Run.cond_f rfl ?_
  refine Run.exit rfl ?_
  refine hk2 _ _ ?_
  refine Run.seq fun k20 hk20 => ?_
  refine Run.region ?_
  show Sq _ _ _ [0, 1, 2, 3] _ _ _ _
  refine Sq.quiet (i := 0) rfl (Want.none rfl) rfl (ltN rfl) (QP.move rfl rfl).read ?_
  refine Sq.quiet (i := 1) rfl (Want.none rfl) rfl (ltN rfl) (QP.move rfl rfl).read ?_
  refine Sq.quiet (i := 2) rfl (Want.none rfl) rfl (ltN rfl) (QP.assign rfl rfl).read ?_
  refine Sq.quiet (i := 3) rfl (Want.none rfl) rfl (ltN rfl) (QP.assign rfl rfl).read ?_
  refine Sq.nil ?_
  refine hk20 _ _ ?_
  refine Run.ret ?_
  have hty : es.take i = es := List.take_of_length_le (by omega)
  rw [hty] at hPm
  subst hPm
  rw [hty]
  exact J.ends (res_tmp2 rfl rfl rfl) (.cons (by repeat constructor) (.cons (by repeat constructor) (.cons (by repeat constructor) (.cons (by repeat constructor) (.cons (by repeat constructor) Takes.nil))))) ⟨r, E, es, va, vg, hv, hn, hp, hs, rfl, rfl⟩

def plusF (s : Route) : Int := if 65439 < s.ref then 65535 else IntKind.u16.wrap (s.ref + 96)
def recR (s : Route) : Route := { s with metric := plusF s }
def recG (s : Route) : Option Route := some (recR s)
def newM (s : Route) : Bool := decide (plusF s ≠ s.metric)

theorem plus_spec (F : Fr) (x : Route) : Spec Try.prog 14 #[.agg (Route.enc x).toArray] [] F (fun v S => v = .int .u16 (plusF x) ∧ S = []) := by
 refine Spec.intro (N := 9) (args := [.agg (Route.enc x).toArray]) Try.func14 rfl rfl (by simp) ?_
 refine Run.seq fun k1 hk1 => ?_
 refine Run.region ?_
 show Sq _ _ _ [0, 1] _ _ _ _
 refine Sq.eff (i := 0) rfl (Want.none rfl) rfl (ltN rfl) (EF.boxA rfl rfl) ?_
 rintro _ _ ⟨b1, rfl, rfl⟩
 refine Sq.quiet (i := 1) rfl (Want.none rfl) rfl (ltN rfl) (QP.assign rfl rfl).read ?_
 refine Sq.nil ?_
 refine hk1 _ _ ?_
 refine Run.seq fun k2 hk2 => ?_
 refine Run.seq fun k3 hk3 => ?_
 refine Run.region ?_
 show Sq _ _ _ [0, 1, 2] _ _ _ _
 refine Sq.quiet (i := 0) rfl (Want.none rfl) rfl (ltN rfl) (QP.fieldAddr rfl rfl f37_5).read ?_
 refine Sq.quiet (i := 1) rfl (Want.none rfl) rfl (ltN rfl) (QR.load1 rfl rfl g35 (Route.sub_ref _)) ?_
 refine Sq.quiet (i := 2) rfl (Want.none rfl) rfl (ltN rfl) (QP.gtr rfl rfl rfl).read ?_
 refine J.caseD (fun c5 => ?_) (fun c5 => ?_)
 ·skip
  refine Sq.nil ?_
  refine hk3 _ _ ?_
  refine Run.cond_t rfl ?_
  refine Run.seq fun k4 hk4 => ?_
  refine Run.region ?_
  show Sq _ _ _ [0] _ _ _ _
  refine Sq.quiet (i := 0) rfl (Want.none rfl) rfl (ltN rfl) (QP.assign rfl rfl).read ?_
  refine Sq.nil ?_
  refine hk4 _ _ ?_
  refine Run.ret ?_
  exact J.ends (res_tmp rfl rfl) Takes.nil ⟨by simp only [plusF]; rw [if_pos (by assumption)], rfl⟩
 ·skip
  refine Sq.nil ?_
  refine hk3 _ _ ?_
  refine Run.cond_f rfl ?_
  refine Run.skip ?_
  refine hk2 _ _ ?_
  refine Run.seq fun k5 hk5 => ?_
  refine Run.region ?_
  show Sq _ _ _ [0, 1, 2, 3] _ _ _ _
  refine Sq.quiet (i := 0) rfl (Want.none rfl) rfl (ltN rfl) (QP.fieldAddr rfl rfl f37_5).read ?_
  refine Sq.quiet (i := 1) rfl (Want.none rfl) rfl (ltN rfl) (QR.load1 rfl rfl g35 (Route.sub_ref _)) ?_
  refine Sq.quiet (i := 2) rfl (Want.none rfl) rfl (ltN rfl) (QP.add rfl rfl rfl).read ?_
  refine Sq.quiet (i := 3) rfl (Want.none rfl) rfl (ltN rfl) (QP.assign rfl rfl).read ?_
  refine Sq.nil ?_
  refine hk5 _ _ ?_
  refine Run.ret ?_
  exact J.ends (res_tmp rfl rfl) Takes.nil ⟨by simp only [plusF]; rw [if_neg (by assumption)], rfl⟩

theorem compactFew (F : Fr) {a : Option Addr} {c : Nat} {xs : List Pair} (hx : xs.length < 2) : Spec Try.prog 36 #[.slice a xs.length c] [slA 32 34 Pair.enc (.slice a xs.length c) xs] F (fun v S => v = .slice a xs.length c ∧ S = [slA 32 34 Pair.enc (.slice a xs.length c) xs]) := by
 refine Spec.intro (N := 61) (args := [.slice a xs.length c]) Try.func36 rfl rfl (by simp) ?_
 refine Run.seq fun k1 hk1 => ?_
 refine Run.region ?_
 show Sq _ _ _ [0] _ _ _ _
 refine Sq.quiet (i := 0) rfl (Want.none rfl) rfl (ltN rfl) (QP.assign rfl rfl).read ?_
 refine Sq.nil ?_
 refine hk1 _ _ ?_
 refine Run.seq fun k2 hk2 => ?_
 refine Run.seq fun k3 hk3 => ?_
 refine Run.region ?_
 show Sq _ _ _ [0, 1, 2] _ _ _ _
 refine Sq.quiet (i := 0) rfl (Want.none rfl) rfl (ltN rfl) (QP.move rfl rfl).read ?_
 refine Sq.quiet (i := 1) rfl (Want.none rfl) rfl (ltN rfl) (QP.len rfl rfl rfl Try.underlying43).read ?_
 refine Sq.quiet (i := 2) rfl (Want.none rfl) rfl (ltN rfl) (QP.lss rfl rfl rfl).read ?_
 refine J.decT (by omega) ?_
 refine Sq.nil ?_
 refine hk3 _ _ ?_
 refine Run.cond_t rfl ?_
 refine Run.seq fun k4 hk4 => ?_
 refine Run.region ?_
 show Sq _ _ _ [0, 1] _ _ _ _
 refine Sq.quiet (i := 0) rfl (Want.none rfl) rfl (ltN rfl) (QP.move rfl rfl).read ?_
 refine Sq.quiet (i := 1) rfl (Want.none rfl) rfl (ltN rfl) (QP.assign rfl rfl).read ?_
 refine Sq.nil ?_
 refine hk4 _ _ ?_
 refine Run.ret ?_
 exact J.ends (res_tmp rfl rfl) (.cons (by repeat constructor) Takes.nil) ⟨rfl, rfl⟩

theorem reckon_nil (F : Fr)  : Spec Try.prog 13 #[.pointer none, .func (.func 14) #[] #[]] [] F (fun v S => v = .slice none 0 0 ∧ S = []) := by
 refine Spec.intro (N := 42) (args := [.pointer none, .func (.func 14) #[] #[]]) Try.func13 rfl rfl (by simp) ?_
 refine Run.seq fun k1 hk1 => ?_
 refine Run.region ?_
 show Sq _ _ _ [0] _ _ _ _
 refine Sq.quiet (i := 0) rfl (Want.none rfl) rfl (ltN rfl) (QP.assign rfl rfl).read ?_
 refine Sq.nil ?_
 refine hk1 _ _ ?_
 refine Run.seq fun k2 hk2 => ?_
 refine Run.seq fun k3 hk3 => ?_
 refine Run.region ?_
 show Sq _ _ _ [0, 1] _ _ _ _
 refine Sq.quiet (i := 0) rfl (Want.none rfl) rfl (ltN rfl) (QP.move rfl rfl).read ?_
 refine Sq.quiet (i := 1) rfl (Want.none rfl) rfl (ltN rfl) (QP.fn_eq_nil rfl rfl rfl Try.underlying45).read ?_
 refine Sq.nil ?_
 refine hk3 _ _ ?_
 refine Run.cond_f rfl ?_
 refine Run.skip ?_
 refine hk2 _ _ ?_
 refine Run.seq fun k4 hk4 => ?_
 refine Run.seq fun k5 hk5 => ?_
 refine Run.region ?_
 show Sq _ _ _ [0, 1, 2, 3] _ _ _ _
 refine Sq.quiet (i := 0) rfl (Want.none rfl) rfl (ltN rfl) (QP.move rfl rfl).read ?_
 refine Sq.eff (i := 1) rfl (Want.none rfl) rfl (ltN rfl) (EF.call rfl ce35 rfl Takes.nil (fun F' hle hr => allQ_nil F')) ?_
 rintro _ _ ⟨_, ⟨rfl, rfl⟩, rfl⟩
 refine J.app ?_
 refine Sq.quiet (i := 2) rfl (Want.none rfl) rfl (ltN rfl) (QP.len rfl rfl rfl Try.underlying80).read ?_
 refine Sq.quiet (i := 3) rfl (Want.none rfl) rfl (ltN rfl) (QP.move rfl rfl).read ?_
 refine Sq.nil ?_
 refine hk5 _ _ ?_
 refine Run.block ?_
 refine Run.loop1 (fun (u : Unit) => True) (fun u => .cons 4 (.slice none 0 0) (.cons 12 (.int .i64 0) (.cons 13 (.int .i64 0) (.nil)))) (fun u => []) (fun u => 0) (()) (trivial) ?_ ?_
 ·exact fun _ j => J.envJ (J.keep Takes.nil j) ⟨rfl, rfl, rfl, trivial⟩
 rintro u _ kl6 hl6
 refine Run.seq fun k7 hk7 => ?_
 refine Run.region ?_
 show Sq _ _ _ [0] _ _ _ _
 refine Sq.quiet (i := 0) rfl (Want.none rfl) rfl (ltN rfl) (QP.lss rfl rfl rfl).read ?_
 refine Sq.nil ?_
 refine hk7 _ _ ?_
 refine Run.seq fun k8 hk8 => ?_
 refine Run.cond_f rfl ?_
 refine Run.exit rfl ?_
 refine hk4 _ _ ?_
 refine Run.seq fun k9 hk9 => ?_
 refine Run.region ?_
 show Sq _ _ _ [0, 1, 2] _ _ _ _
 refine Sq.addSl 32 34 Pair.enc ?_
 refine Sq.quiet (i := 0) rfl (Want.none rfl) rfl (ltN rfl) (QP.move rfl rfl).read ?_
 refine Sq.eff (i := 1) rfl (Want.none rfl) rfl (ltN rfl) (EF.call rfl ce36 rfl (.cons (by repeat constructor) Takes.nil) (fun F' hle hr => compactFew F' (xs := []) (by simp))) ?_
 rintro _ _ ⟨_, ⟨rfl, rfl⟩, rfl⟩
 refine J.app ?_
 refine Sq.quiet (i := 2) rfl (Want.none rfl) rfl (ltN rfl) (QP.assign rfl rfl).read ?_
 refine Sq.nil ?_
 refine hk9 _ _ ?_
 refine Run.ret ?_
 exact J.ends (res_tmp rfl rfl) Takes.nil ⟨rfl, rfl⟩

theorem reckon_nofn (F : Fr) (x : Value) : Spec Try.prog 13 #[x, .nilFunc] [] F (fun v S => v = .slice none 0 0 ∧ S = []) := by
 refine Spec.intro (N := 42) (args := [x, .nilFunc]) Try.func13 rfl rfl (by simp) ?_
 refine Run.seq fun k1 hk1 => ?_
 refine Run.region ?_
 show Sq _ _ _ [0] _ _ _ _
 refine Sq.quiet (i := 0) rfl (Want.none rfl) rfl (ltN rfl) (QP.assign rfl rfl).read ?_
 refine Sq.nil ?_
 refine hk1 _ _ ?_
 refine Run.seq fun k2 hk2 => ?_
 refine Run.seq fun k3 hk3 => ?_
 refine Run.region ?_
 show Sq _ _ _ [0, 1] _ _ _ _
 refine Sq.quiet (i := 0) rfl (Want.none rfl) rfl (ltN rfl) (QP.move rfl rfl).read ?_
 refine Sq.quiet (i := 1) rfl (Want.none rfl) rfl (ltN rfl) (QP.nil_eq_nil rfl rfl rfl Try.underlying45).read ?_
 refine Sq.nil ?_
 refine hk3 _ _ ?_
 refine Run.cond_t rfl ?_
 refine Run.seq fun k4 hk4 => ?_
 refine Run.region ?_
 show Sq _ _ _ [0] _ _ _ _
 refine Sq.quiet (i := 0) rfl (Want.none rfl) rfl (ltN rfl) (QP.assign rfl rfl).read ?_
 refine Sq.nil ?_
 refine hk4 _ _ ?_
 refine Run.ret ?_
 exact J.ends (res_tmp rfl rfl) Takes.nil ⟨rfl, rfl⟩

theorem reckonFew (F : Fr) {b : Nat} {most : Int} {M : TabR} (hM : M.length ≤ 1000000) (hh0 : HoldR M) (hfew : ∀ es : EntR, (vals es).Perm M → ((es.filter fun e => newM e.2.2).map fun e => e.2.2.pair).length < 2) : Spec Try.prog 13 #[.pointer (some ⟨b, 0, none⟩), .func (.func 14) #[] #[]] [RTab b most M] F (fun v S => ∃ r E es a c, vals E = M ∧ (E.map (·.1)).Nodup ∧ es.Perm E ∧ v = .slice a ((es.filter fun e => newM e.2.2).map fun e => e.2.2.pair).length c ∧ S = [blk b (RouteTable.enc ⟨most, some r⟩) 76, mapR r (ptrs (stepE recG E es)), rowsA Route.enc 37 (stepE recG E es)]) := by
 refine Spec.intro (N := 42) (args := [.pointer (some ⟨b, 0, none⟩), .func (.func 14) #[] #[]]) Try.func13 rfl rfl (by simp) ?_
 refine Run.seq fun k1 hk1 => ?_
 refine Run.region ?_
 show Sq _ _ _ [0] _ _ _ _
 refine J.addSl 32 34 Pair.enc ?_
 refine Sq.quiet (i := 0) rfl (Want.none rfl) rfl (ltN rfl) (QP.assign rfl rfl).read ?_
 refine Sq.nil ?_
 refine hk1 _ _ ?_
 refine Run.seq fun k2 hk2 => ?_
 refine Run.seq fun k3 hk3 => ?_
 refine Run.region ?_
 show Sq _ _ _ [0, 1] _ _ _ _
 refine Sq.quiet (i := 0) rfl (Want.none rfl) rfl (ltN rfl) (QP.move rfl rfl).read ?_
 refine Sq.quiet (i := 1) rfl (Want.none rfl) rfl (ltN rfl) (QP.fn_eq_nil rfl rfl rfl Try.underlying45).read ?_
 refine Sq.nil ?_
 refine hk3 _ _ ?_
 refine Run.cond_f rfl ?_
 refine Run.skip ?_
 refine hk2 _ _ ?_
 refine Run.seq fun k4 hk4 => ?_
 refine Run.seq fun k5 hk5 => ?_
 refine Run.region ?_
 show Sq _ _ _ [0, 1, 2, 3] _ _ _ _
 refine Sq.quiet (i := 0) rfl (Want.none rfl) rfl (ltN rfl) (QP.move rfl rfl).read ?_
 refine Sq.eff (i := 1) rfl (Want.none rfl) rfl (ltN rfl) (EF.call rfl ce35 rfl (.cons (by repeat constructor) Takes.nil) (fun F' hle hr => allT F' hM)) ?_
 rintro v11 _ ⟨_, ⟨r, E, es, hv, hn, hp, hs, rfl⟩, rfl⟩
 refine J.app ?_
 refine Sq.slCase (v := v11) (xs := es) (by repeat constructor) (fun a11 c11 hv11 hh11 => ?_)
 subst hv11
 have hyl : es.length = E.length := hp.length_eq
 have hEl : E.length = M.length := by rw [← hv, lenR]
 refine Sq.quiet (i := 2) rfl (Want.none rfl) rfl (ltN rfl) (QP.len rfl rfl rfl Try.underlying80).read ?_
 refine Sq.quiet (i := 3) rfl (Want.none rfl) rfl (ltN rfl) (QP.move rfl rfl).read ?_
 refine Sq.nil ?_
 refine hk5 _ _ ?_
 refine Run.block ?_
 refine Run.loop3 (fun (i : Nat) (Pm : List (RouteKey × Nat)) (va : Value) => i ≤ es.length ∧ Pm = ptrs (stepE recG E (es.take i))) (fun i Pm va => .cons 0 (.pointer (some ⟨b, 0, none⟩)) (.cons 1 (.func (.func 14) #[] #[]) (.cons 4 (va) (.cons 11 (.slice a11 es.length c11) (.cons 12 (.int .i64 es.length) (.cons 13 (.int .i64 i) (.nil))))))) (fun i Pm va => [blk b (RouteTable.enc ⟨most, some r⟩) 76, mapR r Pm, rowsA Route.enc 37 (stepE recG E (es.take i)), slA 77 1 pvE (.slice a11 es.length c11) es, slA 32 34 Pair.enc va (((es.take i).filter fun e => newM e.2.2).map fun e => e.2.2.pair)]) (fun i Pm va => es.length - i) (0) (ptrs E) (.slice none 0 0) (⟨Nat.zero_le _, rfl⟩) ?_ ?_
 ·exact fun _ j => J.envJ (J.keep (.cons (by repeat constructor) (.cons (by repeat constructor) (.cons (by repeat constructor) (.cons (by repeat constructor) (.cons (by repeat constructor) Takes.nil))))) j) ⟨rfl, rfl, rfl, rfl, rfl, rfl, trivial⟩
 rintro i Pm va ⟨hile, hPm⟩ kl6 hl6
 refine Run.seq fun k7 hk7 => ?_
 refine Run.region ?_
 show Sq _ _ _ [0] _ _ _ _
 refine Sq.quiet (i := 0) rfl (Want.none rfl) rfl (ltN rfl) (QP.lss rfl rfl rfl).read ?_
 refine J.caseD (fun c14 => ?_) (fun c14 => ?_)
 ·skip
  refine Sq.nil ?_
  refine hk7 _ _ ?_
  refine Run.seq fun k8 hk8 => ?_
  refine Run.cond_t rfl ?_
  refine Run.skip ?_
  refine hk8 _ _ ?_
  refine Run.seq fun k9 hk9 => ?_
  refine Run.block ?_
  refine Run.seq fun k10 hk10 => ?_
  refine Run.region ?_
  show Sq _ _ _ [0, 1, 2] _ _ _ _
  have hlt : i < es.length := by omega
  obtain ⟨e, hi⟩ : ∃ e, es[i]? = some e := ⟨_, List.getElem?_eq_getElem hlt⟩
  obtain ⟨b0, o0, rfl⟩ := hh11.get (by omega)
  have hlook : alook (stepE (recG) E (es.take i)) e.1 = some (e.2.1, e.2.2) := stepE_look hn hp hi
  have hhold := hh0 _ (mem_of_es hv hp hi)
  simp only at hhold
  refine Sq.openE (by repeat constructor) (fun _ g => rowsA_open (c := e.2.1) (s := e.2.2) hlook g) fun _ => ?_
  refine Sq.app ?_
  have hl1 : (((es.take i).filter fun e => newM e.2.2).map fun e => e.2.2.pair).length ≤ 1000000 := by
    rw [List.length_map]
    have := List.length_filter_le (fun e => newM e.2.2) (es.take i)
    have := List.length_take_le i es
    omega
  refine Sq.quiet (i := 0) rfl (Want.none rfl) rfl (ltN rfl) (QP.indexAddr rfl rfl rfl Try.underlying80 z77 (by first | omega | (simp <;> omega)) (by first | omega | (simp <;> omega))).read ?_
  refine Sq.quiet (i := 1) rfl (Want.none rfl) rfl (ltN rfl) (QR.loadSl1 (ev := evE) rfl rfl g77 (SlAt.own (enc := pvE) (fun _ => rfl) (by repeat constructor)) hi) ?_
  refine Sq.quiet (i := 2) rfl (Want.none rfl) rfl (ltN rfl) (QP.assign rfl rfl).read ?_
  refine Sq.nil ?_
  refine hk10 _ _ ?_
  refine Run.seq fun k11 hk11 => ?_
  refine Run.region ?_
  show Sq _ _ _ [0, 1, 2, 3, 4, 5] _ _ _ _
  refine Sq.quiet (i := 0) rfl (Want.none rfl) rfl (ltN rfl) (QP.move rfl rfl).read ?_
  refine Sq.quiet (i := 1) rfl (Want.none rfl) rfl (ltN rfl) (QP.move rfl rfl).read ?_
  refine Sq.quiet (i := 2) rfl (Want.none rfl) rfl (ltN rfl) (QP.nilCheck rfl rfl).read ?_
  refine Sq.quiet (i := 3) rfl (Want.none rfl) rfl (ltN rfl) (QR.load rfl rfl g37 (Route.enc_sub _)) ?_
  refine Sq.eff (i := 4) rfl (Want.none rfl) rfl (ltN rfl) (EF.callV rfl rfl ce14 rfl Takes.nil (fun F' hle hr => plus_spec F' e.2.2)) ?_
  rintro _ _ ⟨_, ⟨rfl, rfl⟩, rfl⟩
  refine J.app ?_
  refine Sq.quiet (i := 5) rfl (Want.none rfl) rfl (ltN rfl) (QP.assign rfl rfl).read ?_
  refine Sq.nil ?_
  refine hk11 _ _ ?_
  refine Run.seq fun k12 hk12 => ?_
  refine Run.seq fun k13 hk13 => ?_
  refine Run.region ?_
  show Sq _ _ _ [0, 1, 2, 3, 4, 5] _ _ _ _
  refine Sq.quiet (i := 0) rfl (Want.none rfl) rfl (ltN rfl) (QP.move rfl rfl).read ?_
  refine Sq.quiet (i := 1) rfl (Want.none rfl) rfl (ltN rfl) (QP.move rfl rfl).read ?_
  refine Sq.quiet (i := 2) rfl (Want.none rfl) rfl (ltN rfl) (QP.nilCheck rfl rfl).read ?_
  refine Sq.quiet (i := 3) rfl (Want.none rfl) rfl (ltN rfl) (QP.fieldAddr rfl rfl f37_6).read ?_
  refine Sq.quiet (i := 4) rfl (Want.none rfl) rfl (ltN rfl) (QR.load1 rfl rfl g35 (Route.sub_metric _)) ?_
  refine Sq.quiet (i := 5) rfl (Want.none rfl) rfl (ltN rfl) (QP.neq rfl rfl rfl).read ?_
  refine J.caseD (fun c27 => ?_) (fun c27 => ?_)
  ·skip
   refine Sq.nil ?_
   refine hk13 _ _ ?_
   refine Run.cond_t rfl ?_
   refine Run.region ?_
   show Sq _ _ _ [0, 1, 2, 3, 4, 5, 6, 7] _ _ _ _
   refine Sq.quiet (i := 0) rfl (Want.none rfl) rfl (ltN rfl) (QP.move rfl rfl).read ?_
   refine Sq.quiet (i := 1) rfl (Want.none rfl) rfl (ltN rfl) (QP.move rfl rfl).read ?_
   refine Sq.quiet (i := 2) rfl (Want.none rfl) rfl (ltN rfl) (QP.nilCheck rfl rfl).read ?_
   refine Sq.quiet (i := 3) rfl (Want.none rfl) rfl (ltN rfl) (QP.fieldAddr rfl rfl f37_0).read ?_
   refine Sq.quiet (i := 4) rfl (Want.none rfl) rfl (ltN rfl) (QR.load rfl rfl g32 (Route.sub_pair _)) ?_
   refine Sq.eff (i := 5) rfl (Want.none rfl) rfl (ltN rfl) (EF.buildSlice1 rfl Try.underlying43 z32 zero32 (by simp [Value.cells, Pair.enc_len]) (by decide) rfl rfl (Pair.enc_len _) (by decide)) ?_
   rintro _ _ ⟨b33, rfl, rfl⟩
   refine Sq.eff (i := 6) rfl (Want.none rfl) rfl (ltN rfl) (EF.append1 (xs := (((es.take i).filter fun e => newM e.2.2).map fun e => e.2.2.pair)) (s := _) el32 Pair.enc_len Pair.enc_cell rfl rfl rfl Try.underlying43 Try.underlying43 rfl rfl (by repeat constructor) (by repeat constructor) (by first | omega | (simp <;> omega))) ?_
   rintro sl34 _ rfl
   refine Sq.quiet (i := 7) rfl (Want.none rfl) rfl (ltN rfl) (QP.assign rfl rfl).read ?_
   refine Sq.nil ?_
   refine hk12 _ _ ?_
   refine Run.region ?_
   show Sq _ _ _ [0, 1, 2, 3, 4] _ _ _ _
   refine Sq.quiet (i := 0) rfl (Want.none rfl) rfl (ltN rfl) (QP.move rfl rfl).read ?_
   refine Sq.quiet (i := 1) rfl (Want.none rfl) rfl (ltN rfl) (QP.move rfl rfl).read ?_
   refine Sq.quiet (i := 2) rfl (Want.none rfl) rfl (ltN rfl) (QP.nilCheck rfl rfl).read ?_
   refine Sq.quiet (i := 3) rfl (Want.none rfl) rfl (ltN rfl) (QP.fieldAddr rfl rfl f37_6).read ?_
   refine Sq.act (i := 4) rfl (Want.none rfl) rfl (EF.store rfl rfl rfl z35 (Route.set_metric _ _) (cell_one rfl)) ?_
   rintro _ _ rfl
   generalize hs1 : ({ e.2.2 with metric := plusF e.2.2 } : Route) = s1
   refine Sq.nil ?_
   refine hk9 _ _ ?_
   refine Run.region ?_
   show Sq _ _ _ [0, 1] _ _ _ _
   have hnm : newM e.2.2 = true := decide_eq_true c27
   have hst := step_some (g := recG) (E := E) hi (show recG e.2.2 = some s1 from by unfold recG recR; rw [hs1])
   refine Sq.close (A := rowsA Route.enc 37 (stepE (recG) E (es.take (i + 1)))) (m := [blk e.2.1 (Route.enc s1) 37, rowsA Route.enc 37 (adel (stepE (recG) E (es.take i)) e.1)]) (.cons (by repeat constructor) (.cons (by repeat constructor) Takes.nil)) (fun _ g => by rw [hst]; exact rowsA_close hlook g) ?_
   have hx1 := fm_succ (fun e : RouteKey × (Nat × Route) => newM e.2.2) (fun e => e.2.2.pair) hi
   rw [hnm] at hx1
   simp only [if_true, if_false, Bool.false_eq_true, List.append_nil] at hx1
   refine Sq.slEq (v := sl34) (by repeat constructor) hx1.symm ?_
   refine Sq.quiet (i := 0) rfl (Want.none rfl) rfl (ltN rfl) (QP.add64 rfl rfl rfl (by first | omega | (simp <;> omega)) (by first | omega | (simp <;> omega))).read ?_
   refine Sq.quiet (i := 1) rfl (Want.none rfl) rfl (ltN rfl) (QP.move rfl rfl).read ?_
   refine Sq.nil ?_
   exact J.envJ (J.keep (.cons (by repeat constructor) (.cons (by repeat constructor) (.cons (by repeat constructor) (.cons (by repeat constructor) (.cons (by repeat constructor) Takes.nil))))) (hl6 (i + 1) (Pm) (sl34) (⟨by omega, by rw [hst, ptrs_step hlook]; exact hPm⟩) (by omega))) ⟨rfl, rfl, rfl, rfl, rfl, rfl, trivial⟩
  ·skip
   refine Sq.nil ?_
   refine hk13 _ _ ?_
   refine Run.cond_f rfl ?_
   refine Run.skip ?_
   refine hk12 _ _ ?_
   refine Run.region ?_
   show Sq _ _ _ [0, 1, 2, 3, 4] _ _ _ _
   refine Sq.quiet (i := 0) rfl (Want.none rfl) rfl (ltN rfl) (QP.move rfl rfl).read ?_
   refine Sq.quiet (i := 1) rfl (Want.none rfl) rfl (ltN rfl) (QP.move rfl rfl).read ?_
   refine Sq.quiet (i := 2) rfl (Want.none rfl) rfl (ltN rfl) (QP.nilCheck rfl rfl).read ?_
   refine Sq.quiet (i := 3) rfl (Want.none rfl) rfl (ltN rfl) (QP.fieldAddr rfl rfl f37_6).read ?_
   refine Sq.act (i := 4) rfl (Want.none rfl) rfl (EF.store rfl rfl rfl z35 (Route.set_metric _ _) (cell_one rfl)) ?_
   rintro _ _ rfl
   generalize hs1 : ({ e.2.2 with metric := plusF e.2.2 } : Route) = s1
   refine Sq.nil ?_
   refine hk9 _ _ ?_
   refine Run.region ?_
   show Sq _ _ _ [0, 1] _ _ _ _
   have hnm : newM e.2.2 = false := decide_eq_false c27
   have hst := step_some (g := recG) (E := E) hi (show recG e.2.2 = some s1 from by unfold recG recR; rw [hs1])
   refine Sq.close (A := rowsA Route.enc 37 (stepE (recG) E (es.take (i + 1)))) (m := [blk e.2.1 (Route.enc s1) 37, rowsA Route.enc 37 (adel (stepE (recG) E (es.take i)) e.1)]) (.cons (by repeat constructor) (.cons (by repeat constructor) Takes.nil)) (fun _ g => by rw [hst]; exact rowsA_close hlook g) ?_
   have hx1 := fm_succ (fun e : RouteKey × (Nat × Route) => newM e.2.2) (fun e => e.2.2.pair) hi
   rw [hnm] at hx1
   simp only [if_true, if_false, Bool.false_eq_true, List.append_nil] at hx1
   refine Sq.slEq (v := va) (by repeat constructor) hx1.symm ?_
   refine Sq.quiet (i := 0) rfl (Want.none rfl) rfl (ltN rfl) (QP.add64 rfl rfl rfl (by first | omega | (simp <;> omega)) (by first | omega | (simp <;> omega))).read ?_
   refine Sq.quiet (i := 1) rfl (Want.none rfl) rfl (ltN rfl) (QP.move rfl rfl).read ?_
   refine Sq.nil ?_
   exact J.envJ (J.keep (.cons (by repeat constructor) (.cons (by repeat constructor) (.cons (by repeat constructor) (.cons (by repeat constructor) (.cons (by repeat constructor) Takes.nil))))) (hl6 (i + 1) (Pm) (va) (⟨by omega, by rw [hst, ptrs_step hlook]; exact hPm⟩) (by omega))) ⟨rfl, rfl, rfl, rfl, rfl, rfl, trivial⟩
 ·skip
  refine Sq.nil ?_
  refine hk7 _ _ ?_
  refine Run.seq fun k14 hk14 => ?_
  refine Run.cond_f rfl ?_
  refine Run.exit rfl ?_
  refine hk4 _ _ ?_
  refine Run.seq fun k15 hk15 => ?_
  refine Run.region ?_
  show Sq _ _ _ [0, 1, 2] _ _ _ _
  have hty : es.take i = es := List.take_of_length_le (by omega)
  rw [hty] at hPm
  subst hPm
  rw [hty]
  refine Sq.slCase (v := va) (xs := (es.filter fun e => newM e.2.2).map fun e => e.2.2.pair) (by repeat constructor) (fun av cv hva hhv => ?_)
  subst hva
  refine Sq.quiet (i := 0) rfl (Want.none rfl) rfl (ltN rfl) (QP.move rfl rfl).read ?_
  refine Sq.eff (i := 1) rfl (Want.none rfl) rfl (ltN rfl) (EF.call rfl ce36 rfl (.cons (by repeat constructor) Takes.nil) (fun F' hle hr => compactFew F' (xs := ((es.filter fun e => newM e.2.2).map fun e => e.2.2.pair)) (hfew es (by rw [← hv]; exact hp.map _)))) ?_
  rintro _ _ ⟨_, ⟨rfl, rfl⟩, rfl⟩
  refine J.app ?_
  refine Sq.quiet (i := 2) rfl (Want.none rfl) rfl (ltN rfl) (QP.assign rfl rfl).read ?_
  refine Sq.nil ?_
  refine hk15 _ _ ?_
  refine Run.ret ?_
  exact J.ends (res_tmp rfl rfl) (.cons (by repeat constructor) (.cons (by repeat constructor) (.cons (by repeat constructor) Takes.nil))) ⟨r, E, es, _, _, hv, hn, hp, rfl, rfl⟩
end Slb
