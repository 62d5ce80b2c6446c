/- R19: a part of the proof that a law of this package holds for every input; no condition. -/
import Derived.Test.YtfjmefldilponaaR18
namespace Slb
open Go Go.Proofs
set_option maxRecDepth 20000
theorem filterMap_succ {α β : Type} (g : α → Option β) {ys : List α} {i : Nat} {s : α} (h : ys[i]? = some s) : (ys.take (i + 1)).filterMap g = (ys.take i).filterMap g ++ (g s).toList := by
  rw [List.take_add_one, h, List.filterMap_append]
  cases hg : g s <;> simp [hg]
theorem in_succ {xs : List (Bs 16)} {k : Nat} {u f : Bs 16} (h : xs[k]? = some u) : decide (f ∈ xs.take (k + 1)) = (decide (f ∈ xs.take k) || decide (u = f)) := by
  rw [List.take_add_one, h, Bool.eq_iff_iff]
  simp only [decide_eq_true_eq, Bool.or_eq_true, List.mem_append, Option.toList_some, List.mem_singleton]
  constructor
  · rintro (h | h); exact .inl h; exact .inr h.symm
  · rintro (h | h); exact .inl h; exact .inr h.symm

theorem rtick_spec (F : Fr) {b : Nat} {most : Int} {a : Option Addr} {c : Nat} {L : List Route} (hh : SlH a c L) (hL : L.length ≤ 1000000) (hh0 : ∀ x ∈ L, 1 ≤ x.hold ∧ x.hold ≤ 2147483648) (hu : ∀ x ∈ L, 0 ≤ x.until_ ∧ x.until_ ≤ 2305843009213693952) (now : Int) (hn0 : 0 ≤ now) (hn1 : now ≤ 2305843009213693952) : Spec Try.prog 44 #[.pointer (some ⟨b, 0, none⟩), .int .i64 now] [blk b (Ref16Table.enc ⟨most, ⟨a, L.length, c⟩⟩) 57, slA 37 81 Route.enc (.slice a L.length c) L] F (fun v S => ∃ a2 c2 va vg, SlH a2 c2 (L.filterMap (tickG now)) ∧ v = .tuple #[va, vg] ∧ S = [blk b (Ref16Table.enc ⟨most, ⟨a2, (L.filterMap (tickG now)).length, c2⟩⟩) 57, slA 37 81 Route.enc (.slice a2 (L.filterMap (tickG now)).length c2) (L.filterMap (tickG now)), slA 37 81 Route.enc va ((L.filter (expR now)).map (agedR now)), slA 37 81 Route.enc vg ((L.filter (goneR now)).map (agedR now))]) := by
 refine Spec.intro (N := 70) (args := [.pointer (some ⟨b, 0, none⟩), .int .i64 now]) Try.func44 rfl rfl (by simp) ?_
 refine Run.seq fun k1 hk1 => ?_
 refine Run.region ?_
 show Sq _ _ _ [0, 1] _ _ _ _
 refine J.addSl 37 81 Route.enc ?_
 refine J.addSl 37 81 Route.enc ?_
 refine J.addSl 37 81 Route.enc ?_
 refine Sq.quiet (i := 0) rfl (Want.none rfl) rfl (ltN rfl) (QP.assign rfl rfl).read ?_
 refine Sq.quiet (i := 1) rfl (Want.none rfl) rfl (ltN rfl) (QP.assign rfl rfl).read ?_
 refine Sq.nil ?_
 refine hk1 _ _ ?_
 refine Run.seq fun k2 hk2 => ?_
 refine Run.region ?_
 show Sq _ _ _ [0, 1, 2] _ _ _ _
 refine Sq.quiet (i := 0) rfl (Want.none rfl) rfl (ltN rfl) (QP.assign rfl rfl).read ?_
 refine Sq.quiet (i := 1) rfl (Want.none rfl) rfl (ltN rfl) (QP.assign rfl rfl).read ?_
 refine Sq.quiet (i := 2) rfl (Want.none rfl) rfl (ltN rfl) (QP.assign rfl rfl).read ?_
 refine Sq.nil ?_
 refine hk2 _ _ ?_
 refine Run.seq fun k3 hk3 => ?_
 refine Run.seq fun k4 hk4 => ?_
 refine Run.region ?_
 show Sq _ _ _ [0] _ _ _ _
 refine Sq.quiet (i := 0) rfl (Want.none rfl) rfl (ltN rfl) (QP.assign rfl rfl).read ?_
 refine Sq.nil ?_
 refine hk4 _ _ ?_
 refine Run.block ?_
 refine Run.loop4 (fun (i : Nat) (vl : Value) (va : Value) (vg : Value) => i ≤ L.length) (fun i vl va vg => .cons 0 (.pointer (some ⟨b, 0, none⟩)) (.cons 1 (.int .i64 now) (.cons 6 (vl) (.cons 7 (va) (.cons 8 (vg) (.cons 9 (.int .i64 i) (.nil))))))) (fun i vl va vg => [blk b (Ref16Table.enc ⟨most, ⟨a, L.length, c⟩⟩) 57, slA 37 81 Route.enc (.slice a L.length c) L, slA 37 81 Route.enc vl ((L.take i).filterMap (tickG now)), slA 37 81 Route.enc va (((L.take i).filter (expR now)).map (agedR now)), slA 37 81 Route.enc vg (((L.take i).filter (goneR now)).map (agedR now))]) (fun i vl va vg => L.length - i) (0) (.slice none 0 0) (.slice none 0 0) (.slice none 0 0) (Nat.zero_le _) ?_ ?_
 ·exact fun _ j => J.envJ (J.keep (.cons (by repeat constructor) (.cons (by repeat constructor) (.cons (by repeat constructor) (.cons (by repeat constructor) (.cons (by repeat constructor) Takes.nil))))) j) ⟨rfl, rfl, rfl, rfl, rfl, rfl, trivial⟩
 rintro i vl va vg hile kl5 hl5
 refine Run.seq fun k6 hk6 => ?_
 refine Run.seq fun k7 hk7 => ?_
 refine Run.region ?_
 show Sq _ _ _ [0, 1, 2, 3, 4, 5, 6] _ _ _ _
 refine Sq.quiet (i := 0) rfl (Want.none rfl) rfl (ltN rfl) (QP.move rfl rfl).read ?_
 refine Sq.quiet (i := 1) rfl (Want.none rfl) rfl (ltN rfl) (QP.move rfl rfl).read ?_
 refine Sq.quiet (i := 2) rfl (Want.none rfl) rfl (ltN rfl) (QP.nilCheck rfl rfl).read ?_
 refine Sq.quiet (i := 3) rfl (Want.none rfl) rfl (ltN rfl) (QP.fieldAddr rfl rfl f57_1).read ?_
 refine Sq.quiet (i := 4) rfl (Want.none rfl) rfl (ltN rfl) (QR.load1 (v := .slice _ L.length _) rfl rfl g46 (Ref16Table.sub_l _)) ?_
 refine Sq.quiet (i := 5) rfl (Want.none rfl) rfl (ltN rfl) (QP.len rfl rfl rfl Try.underlying46).read ?_
 refine Sq.quiet (i := 6) rfl (Want.none rfl) rfl (ltN rfl) (QP.lss rfl rfl rfl).read ?_
 refine J.caseD (fun c17 => ?_) (fun c17 => ?_)
 ·skip
  refine Sq.nil ?_
  refine hk7 _ _ ?_
  refine Run.cond_t rfl ?_
  refine Run.skip ?_
  refine hk6 _ _ ?_
  refine Run.seq fun k8 hk8 => ?_
  refine Run.block ?_
  refine Run.seq fun k9 hk9 => ?_
  refine Run.region ?_
  show Sq _ _ _ [0, 1, 2, 3, 4, 5, 6, 7, 8] _ _ _ _
  have hlt : i < L.length := by omega
  obtain ⟨x, hi⟩ : ∃ x, L[i]? = some x := ⟨_, List.getElem?_eq_getElem hlt⟩
  obtain ⟨b0, o0, rfl⟩ := hh.get (by omega)
  have hhold := hh0 x (List.mem_of_getElem? hi)
  have hut := hu x (List.mem_of_getElem? hi)
  have hll : ((L.take i).filterMap (tickG now)).length ≤ 1000000 ∧ (((L.take i).filter (expR now)).map (agedR now)).length ≤ 1000000 ∧ (((L.take i).filter (goneR now)).map (agedR now)).length ≤ 1000000 := by
    have h1 := List.length_take_le i L
    have h2 := List.length_filter_le (expR now) (L.take i)
    have h3 := List.length_filter_le (goneR now) (L.take i)
    have h4 := List.length_filterMap_le (tickG now) (L.take i)
    simp only [List.length_map]
    omega
  refine Sq.quiet (i := 0) rfl (Want.none rfl) rfl (ltN rfl) (QP.move rfl rfl).read ?_
  refine Sq.quiet (i := 1) rfl (Want.none rfl) rfl (ltN rfl) (QP.nilCheck rfl rfl).read ?_
  refine Sq.quiet (i := 2) rfl (Want.none rfl) rfl (ltN rfl) (QP.fieldAddr rfl rfl f57_1).read ?_
  refine Sq.quiet (i := 3) rfl (Want.none rfl) rfl (ltN rfl) (QR.load1 (v := .slice _ L.length _) rfl rfl g46 (Ref16Table.sub_l _)) ?_
  refine Sq.quiet (i := 4) rfl (Want.none rfl) rfl (ltN rfl) (QP.move rfl rfl).read ?_
  refine Sq.quiet (i := 5) rfl (Want.none rfl) rfl (ltN rfl) (QP.indexAddr rfl rfl rfl Try.underlying46 z37 (by first | omega | (simp <;> omega)) (by first | omega | (simp <;> omega))).read ?_
  refine Sq.quiet (i := 6) rfl (Want.none rfl) rfl (ltN rfl) (QR.loadSl rfl rfl g37 Route.enc_len (SlAt.own Route.enc_len (by repeat constructor)) hi) ?_
  refine Sq.eff (i := 7) rfl (Want.none rfl) rfl (ltN rfl) (EF.allocA (l := Route.enc Route.zero) rfl zero37) ?_
  rintro _ _ ⟨b10, rfl, rfl⟩
  refine Sq.act (i := 8) rfl (Want.none rfl) rfl (EF.storeA rfl rfl rfl z37 (SetL.all (Route.enc_len _) (Route.enc_len _)) (Route.enc_cell _)) ?_
  rintro _ _ rfl
  refine Sq.nil ?_
  refine hk9 _ _ ?_
  refine Run.seq fun k10 hk10 => ?_
  refine Run.seq fun k11 hk11 => ?_
  refine Run.region ?_
  show Sq _ _ _ [0, 1, 2, 3, 4, 5, 6, 7, 8] _ _ _ _
  refine Sq.quiet (i := 0) rfl (Want.none rfl) rfl (ltN rfl) (QP.fieldAddr rfl rfl f37_8).read ?_
  refine Sq.quiet (i := 1) rfl (Want.none rfl) rfl (ltN rfl) (QR.load1 rfl rfl g3 (Route.sub_until_ _)) ?_
  refine Sq.quiet (i := 2) rfl (Want.none rfl) rfl (ltN rfl) (QP.move rfl rfl).read ?_
  refine Sq.quiet (i := 3) rfl (Want.none rfl) rfl (ltN rfl) (QP.leq rfl rfl rfl).read ?_
  refine J.caseD (fun c30 => ?_) (fun c30 => ?_)
  ·skip
   refine Sq.quiet (i := 4) rfl (Want.none rfl) rfl (ltN rfl) (QP.move rfl rfl).read ?_
   refine Sq.quiet (i := 5) rfl (Want.yes rfl rfl rfl rfl) rfl (ltN rfl) (QP.fieldAddr rfl rfl f37_5).read ?_
   refine Sq.quiet (i := 6) rfl (Want.yes rfl rfl rfl rfl) rfl (ltN rfl) (QR.load1 rfl rfl g35 (Route.sub_ref _)) ?_
   refine Sq.quiet (i := 7) rfl (Want.yes rfl rfl rfl rfl) rfl (ltN rfl) (QP.neq rfl rfl rfl).read ?_
   refine J.caseD (fun c34 => ?_) (fun c34 => ?_)
   ·skip
    refine Sq.quiet (i := 8) rfl (Want.none rfl) rfl (ltN rfl) (QP.pick_t rfl rfl rfl).read ?_
    refine Sq.nil ?_
    refine hk11 _ _ ?_
    refine Run.cond_t rfl ?_
    refine Run.seq fun k12 hk12 => ?_
    refine Run.region ?_
    show Sq _ _ _ [0, 1] _ _ _ _
    refine Sq.quiet (i := 0) rfl (Want.none rfl) rfl (ltN rfl) (QP.fieldAddr rfl rfl f37_5).read ?_
    refine Sq.act (i := 1) rfl (Want.none rfl) rfl (EF.store rfl rfl rfl z35 (Route.set_ref _ _) (cell_one rfl)) ?_
    rintro _ _ rfl
    generalize hs1 : ({ x with ref := 65535 } : Route) = s1
    have hu1 : s1.until_ = x.until_ := by rw [← hs1]
    have hho1 : s1.hold = x.hold := by rw [← hs1]
    refine Sq.nil ?_
    refine hk12 _ _ ?_
    refine Run.seq fun k13 hk13 => ?_
    refine Run.region ?_
    show Sq _ _ _ [0, 1, 2, 3, 4, 5, 6] _ _ _ _
    refine Sq.quiet (i := 0) rfl (Want.none rfl) rfl (ltN rfl) (QP.fieldAddr rfl rfl f37_8).read ?_
    refine Sq.quiet (i := 1) rfl (Want.none rfl) rfl (ltN rfl) (QR.load1 rfl rfl g3 (Route.sub_until_ _)) ?_
    refine Sq.quiet (i := 2) rfl (Want.none rfl) rfl (ltN rfl) (QP.fieldAddr rfl rfl f37_9).read ?_
    refine Sq.quiet (i := 3) rfl (Want.none rfl) rfl (ltN rfl) (QR.load1 rfl rfl g3 (Route.sub_hold _)) ?_
    refine Sq.quiet (i := 4) rfl (Want.none rfl) rfl (ltN rfl) (QP.add64 rfl rfl rfl (by first | omega | (simp <;> omega)) (by first | omega | (simp <;> omega))).read ?_
    refine Sq.quiet (i := 5) rfl (Want.none rfl) rfl (ltN rfl) (QP.fieldAddr rfl rfl f37_8).read ?_
    refine Sq.act (i := 6) rfl (Want.none rfl) rfl (EF.store rfl rfl rfl z3 (Route.set_until_ _ _) (cell_one rfl)) ?_
    rintro _ _ rfl
    generalize hs2 : ({ s1 with until_ := s1.until_ + s1.hold } : Route) = s2
    refine Sq.nil ?_
    refine hk13 _ _ ?_
    refine Run.region ?_
    show Sq _ _ _ [0, 1, 2, 3, 4] _ _ _ _
    refine Sq.quiet (i := 0) rfl (Want.none rfl) rfl (ltN rfl) (QP.move rfl rfl).read ?_
    refine Sq.quiet (i := 1) rfl (Want.none rfl) rfl (ltN rfl) (QR.load rfl rfl g37 (Route.enc_sub _)) ?_
    refine Sq.eff (i := 2) rfl (Want.none rfl) rfl (ltN rfl) (EF.buildSlice1 rfl Try.underlying46 z37 zero37 (by simp [Value.cells, Route.enc_len]) (by decide) rfl rfl (Route.enc_len _) (by decide)) ?_
    rintro _ _ ⟨b45, rfl, rfl⟩
    refine Sq.eff (i := 3) rfl (Want.none rfl) rfl (ltN rfl) (EF.append1 (xs := (((L.take i).filter (expR now)).map (agedR now))) (s := s2) el37 Route.enc_len Route.enc_cell rfl rfl rfl Try.underlying46 Try.underlying46 rfl rfl (by repeat constructor) (by repeat constructor) (by first | omega | (simp <;> omega))) ?_
    rintro sl46 _ rfl
    refine Sq.quiet (i := 4) rfl (Want.none rfl) rfl (ltN rfl) (QP.assign rfl rfl).read ?_
    refine Sq.nil ?_
    refine hk10 _ _ ?_
    refine Run.seq fun k14 hk14 => ?_
    refine Run.region ?_
    show Sq _ _ _ [0, 1, 2, 3, 4, 5, 6, 7, 8] _ _ _ _
    refine Sq.quiet (i := 0) rfl (Want.none rfl) rfl (ltN rfl) (QP.fieldAddr rfl rfl f37_8).read ?_
    refine Sq.quiet (i := 1) rfl (Want.none rfl) rfl (ltN rfl) (QR.load1 rfl rfl g3 (Route.sub_until_ _)) ?_
    refine Sq.quiet (i := 2) rfl (Want.none rfl) rfl (ltN rfl) (QP.move rfl rfl).read ?_
    refine Sq.quiet (i := 3) rfl (Want.none rfl) rfl (ltN rfl) (QP.leq rfl rfl rfl).read ?_
    refine J.caseD (fun c50 => ?_) (fun c50 => ?_)
    ·skip
     refine Sq.quiet (i := 4) rfl (Want.none rfl) rfl (ltN rfl) (QP.move rfl rfl).read ?_
     refine Sq.quiet (i := 5) rfl (Want.yes rfl rfl rfl rfl) rfl (ltN rfl) (QP.fieldAddr rfl rfl f37_5).read ?_
     refine Sq.quiet (i := 6) rfl (Want.yes rfl rfl rfl rfl) rfl (ltN rfl) (QR.load1 rfl rfl g35 (Route.sub_ref _)) ?_
     refine Sq.quiet (i := 7) rfl (Want.yes rfl rfl rfl rfl) rfl (ltN rfl) (QP.eql rfl rfl rfl).read ?_
     refine J.caseD (fun c54 => ?_) (fun c54 => ?_)
     ·skip
      refine Sq.quiet (i := 8) rfl (Want.none rfl) rfl (ltN rfl) (QP.pick_t rfl rfl rfl).read ?_
      refine Sq.nil ?_
      refine hk14 _ _ ?_
      refine Run.cond_t rfl ?_
      refine Run.region ?_
      show Sq _ _ _ [0, 1, 2, 3, 4] _ _ _ _
      refine Sq.quiet (i := 0) rfl (Want.none rfl) rfl (ltN rfl) (QP.move rfl rfl).read ?_
      refine Sq.quiet (i := 1) rfl (Want.none rfl) rfl (ltN rfl) (QR.load rfl rfl g37 (Route.enc_sub _)) ?_
      refine Sq.eff (i := 2) rfl (Want.none rfl) rfl (ltN rfl) (EF.buildSlice1 rfl Try.underlying46 z37 zero37 (by simp [Value.cells, Route.enc_len]) (by decide) rfl rfl (Route.enc_len _) (by decide)) ?_
      rintro _ _ ⟨b58, rfl, rfl⟩
      refine Sq.eff (i := 3) rfl (Want.none rfl) rfl (ltN rfl) (EF.append1 (xs := (((L.take i).filter (goneR now)).map (agedR now))) (s := s2) el37 Route.enc_len Route.enc_cell rfl rfl rfl Try.underlying46 Try.underlying46 rfl rfl (by repeat constructor) (by repeat constructor) (by first | omega | (simp <;> omega))) ?_
      rintro sl59 _ rfl
      refine Sq.quiet (i := 4) rfl (Want.none rfl) rfl (ltN rfl) (QP.assign rfl rfl).read ?_
      refine Sq.nil ?_
      refine hk8 _ _ ?_
      refine Run.region ?_
      show Sq _ _ _ [0, 1, 2] _ _ _ _
      have hexp : expR now x = true := by simp only [expR, c30, c34, decide_true, Bool.and_true, ne_eq, not_false_eq_true]
      have haged : agedR now x = s2 := by unfold agedR; rw [hexp]; subst hs2 hs1; rfl
      have hgone : goneR now x = true := by unfold goneR; rw [haged]; exact decide_eq_true c50
      have hx1 := fm_succ (expR now) (agedR now) hi
      have hx2 := fm_succ (goneR now) (agedR now) hi
      have hx3 := filterMap_succ (tickG now) hi
      have htk : (tickG now x).toList = [] := by unfold tickG; rw [hgone]; rfl
      rw [hexp, haged] at hx1
      rw [hgone, haged] at hx2
      rw [htk] at hx3
      simp only [if_true, if_false, Bool.false_eq_true, List.append_nil] at hx1 hx2 hx3
      refine Sq.slEq (v := sl46) (by repeat constructor) hx1.symm ?_
      refine Sq.slEq (v := sl59) (by repeat constructor) hx2.symm ?_
      refine Sq.slEq (v := vl) (by repeat constructor) hx3.symm ?_
      refine Sq.quiet (i := 0) rfl (Want.none rfl) rfl (ltN rfl) (QP.move rfl rfl).read ?_
      refine Sq.quiet (i := 1) rfl (Want.none rfl) rfl (ltN rfl) (QP.add64 rfl rfl rfl (by first | omega | (simp <;> omega)) (by first | omega | (simp <;> omega))).read ?_
      refine Sq.quiet (i := 2) rfl (Want.none rfl) rfl (ltN rfl) (QP.assign rfl rfl).read ?_
      refine Sq.nil ?_
      exact J.envJ (J.keep (.cons (by repeat constructor) (.cons (by repeat constructor) (.cons (by repeat constructor) (.cons (by repeat constructor) (.cons (by repeat constructor) Takes.nil))))) (hl5 (i + 1) (vl) (sl46) (sl59) (by omega) (by omega))) ⟨rfl, rfl, rfl, rfl, rfl, rfl, trivial⟩
     ·skip
      refine Sq.quiet (i := 8) rfl (Want.none rfl) rfl (ltN rfl) (QP.pick_t rfl rfl rfl).read ?_
      refine Sq.nil ?_
      refine hk14 _ _ ?_
      refine Run.cond_f rfl ?_
      refine Run.region ?_
      show Sq _ _ _ [0, 1, 2, 3, 4] _ _ _ _
      exact absurd (by rw [← hs2, ← hs1]) c54
    ·skip
     refine Sq.quiet (i := 4) rfl (Want.none rfl) rfl (ltN rfl) (QP.move rfl rfl).read ?_
     refine Sq.skip (i := 5) rfl (Want.no rfl rfl rfl rfl) rfl (ltN rfl) ?_
     refine Sq.skip (i := 6) rfl (Want.no rfl rfl rfl rfl) rfl (ltN rfl) ?_
     refine Sq.skip (i := 7) rfl (Want.no rfl rfl rfl rfl) rfl (ltN rfl) ?_
     refine Sq.quiet (i := 8) rfl (Want.none rfl) rfl (ltN rfl) (QP.pick_f rfl rfl rfl).read ?_
     refine Sq.nil ?_
     refine hk14 _ _ ?_
     refine Run.cond_f rfl ?_
     refine Run.region ?_
     show Sq _ _ _ [0, 1, 2, 3, 4] _ _ _ _
     refine Sq.quiet (i := 0) rfl (Want.none rfl) rfl (ltN rfl) (QP.move rfl rfl).read ?_
     refine Sq.quiet (i := 1) rfl (Want.none rfl) rfl (ltN rfl) (QR.load rfl rfl g37 (Route.enc_sub _)) ?_
     refine Sq.eff (i := 2) rfl (Want.none rfl) rfl (ltN rfl) (EF.buildSlice1 rfl Try.underlying46 z37 zero37 (by simp [Value.cells, Route.enc_len]) (by decide) rfl rfl (Route.enc_len _) (by decide)) ?_
     rintro _ _ ⟨b62, rfl, rfl⟩
     refine Sq.eff (i := 3) rfl (Want.none rfl) rfl (ltN rfl) (EF.append1 (xs := ((L.take i).filterMap (tickG now))) (s := s2) el37 Route.enc_len Route.enc_cell rfl rfl rfl Try.underlying46 Try.underlying46 rfl rfl (by repeat constructor) (by repeat constructor) (by first | omega | (simp <;> omega))) ?_
     rintro sl63 _ rfl
     refine Sq.quiet (i := 4) rfl (Want.none rfl) rfl (ltN rfl) (QP.assign rfl rfl).read ?_
     refine Sq.nil ?_
     refine hk8 _ _ ?_
     refine Run.region ?_
     show Sq _ _ _ [0, 1, 2] _ _ _ _
     have hexp : expR now x = true := by simp only [expR, c30, c34, decide_true, Bool.and_true, ne_eq, not_false_eq_true]
     have haged : agedR now x = s2 := by unfold agedR; rw [hexp]; subst hs2 hs1; rfl
     have hgone : goneR now x = false := by unfold goneR; rw [haged]; exact decide_eq_false c50
     have hx1 := fm_succ (expR now) (agedR now) hi
     have hx2 := fm_succ (goneR now) (agedR now) hi
     have hx3 := filterMap_succ (tickG now) hi
     have htk : (tickG now x).toList = [s2] := by unfold tickG; rw [hgone]; rw [haged]; rfl
     rw [hexp, haged] at hx1
     rw [hgone, haged] at hx2
     rw [htk] at hx3
     simp only [if_true, if_false, Bool.false_eq_true, List.append_nil] at hx1 hx2 hx3
     refine Sq.slEq (v := sl46) (by repeat constructor) hx1.symm ?_
     refine Sq.slEq (v := vg) (by repeat constructor) hx2.symm ?_
     refine Sq.slEq (v := sl63) (by repeat constructor) hx3.symm ?_
     refine Sq.quiet (i := 0) rfl (Want.none rfl) rfl (ltN rfl) (QP.move rfl rfl).read ?_
     refine Sq.quiet (i := 1) rfl (Want.none rfl) rfl (ltN rfl) (QP.add64 rfl rfl rfl (by first | omega | (simp <;> omega)) (by first | omega | (simp <;> omega))).read ?_
     refine Sq.quiet (i := 2) rfl (Want.none rfl) rfl (ltN rfl) (QP.assign rfl rfl).read ?_
     refine Sq.nil ?_
     exact J.envJ (J.keep (.cons (by repeat constructor) (.cons (by repeat constructor) (.cons (by repeat constructor) (.cons (by repeat constructor) (.cons (by repeat constructor) Takes.nil))))) (hl5 (i + 1) (sl63) (sl46) (vg) (by omega) (by omega))) ⟨rfl, rfl, rfl, rfl, rfl, rfl, trivial⟩
   ·skip
    refine Sq.quiet (i := 8) rfl (Want.none rfl) rfl (ltN rfl) (QP.pick_t rfl rfl rfl).read ?_
    refine Sq.nil ?_
    refine hk11 _ _ ?_
    refine Run.cond_f rfl ?_
    refine Run.skip ?_
    refine hk10 _ _ ?_
    refine Run.seq fun k15 hk15 => ?_
    refine Run.region ?_
    show Sq _ _ _ [0, 1, 2, 3, 4, 5, 6, 7, 8] _ _ _ _
    refine Sq.quiet (i := 0) rfl (Want.none rfl) rfl (ltN rfl) (QP.fieldAddr rfl rfl f37_8).read ?_
    refine Sq.quiet (i := 1) rfl (Want.none rfl) rfl (ltN rfl) (QR.load1 rfl rfl g3 (Route.sub_until_ _)) ?_
    refine Sq.quiet (i := 2) rfl (Want.none rfl) rfl (ltN rfl) (QP.move rfl rfl).read ?_
    refine Sq.quiet (i := 3) rfl (Want.none rfl) rfl (ltN rfl) (QP.leq rfl rfl rfl).read ?_
    refine J.caseD (fun c50 => ?_) (fun c50 => ?_)
    ·skip
     refine Sq.quiet (i := 4) rfl (Want.none rfl) rfl (ltN rfl) (QP.move rfl rfl).read ?_
     refine Sq.quiet (i := 5) rfl (Want.yes rfl rfl rfl rfl) rfl (ltN rfl) (QP.fieldAddr rfl rfl f37_5).read ?_
     refine Sq.quiet (i := 6) rfl (Want.yes rfl rfl rfl rfl) rfl (ltN rfl) (QR.load1 rfl rfl g35 (Route.sub_ref _)) ?_
     refine Sq.quiet (i := 7) rfl (Want.yes rfl rfl rfl rfl) rfl (ltN rfl) (QP.eql rfl rfl rfl).read ?_
     refine J.caseD (fun c54 => ?_) (fun c54 => ?_)
     ·skip
      refine Sq.quiet (i := 8) rfl (Want.none rfl) rfl (ltN rfl) (QP.pick_t rfl rfl rfl).read ?_
      refine Sq.nil ?_
      refine hk15 _ _ ?_
      refine Run.cond_t rfl ?_
      refine Run.region ?_
      show Sq _ _ _ [0, 1, 2, 3, 4] _ _ _ _
      refine Sq.quiet (i := 0) rfl (Want.none rfl) rfl (ltN rfl) (QP.move rfl rfl).read ?_
      refine Sq.quiet (i := 1) rfl (Want.none rfl) rfl (ltN rfl) (QR.load rfl rfl g37 (Route.enc_sub _)) ?_
      refine Sq.eff (i := 2) rfl (Want.none rfl) rfl (ltN rfl) (EF.buildSlice1 rfl Try.underlying46 z37 zero37 (by simp [Value.cells, Route.enc_len]) (by decide) rfl rfl (Route.enc_len _) (by decide)) ?_
      rintro _ _ ⟨b58, rfl, rfl⟩
      refine Sq.eff (i := 3) rfl (Want.none rfl) rfl (ltN rfl) (EF.append1 (xs := (((L.take i).filter (goneR now)).map (agedR now))) (s := x) el37 Route.enc_len Route.enc_cell rfl rfl rfl Try.underlying46 Try.underlying46 rfl rfl (by repeat constructor) (by repeat constructor) (by first | omega | (simp <;> omega))) ?_
      rintro sl59 _ rfl
      refine Sq.quiet (i := 4) rfl (Want.none rfl) rfl (ltN rfl) (QP.assign rfl rfl).read ?_
      refine Sq.nil ?_
      refine hk8 _ _ ?_
      refine Run.region ?_
      show Sq _ _ _ [0, 1, 2] _ _ _ _
      have hexp : expR now x = false := by simp only [expR, Bool.and_eq_false_iff, decide_eq_false_iff_not]; exact .inr c34
      have haged : agedR now x = x := by unfold agedR; rw [hexp]; rfl
      have hgone : goneR now x = true := by unfold goneR; rw [haged]; exact decide_eq_true c50
      have hx1 := fm_succ (expR now) (agedR now) hi
      have hx2 := fm_succ (goneR now) (agedR now) hi
      have hx3 := filterMap_succ (tickG now) hi
      have htk : (tickG now x).toList = [] := by unfold tickG; rw [hgone]; rfl
      rw [hexp, haged] at hx1
      rw [hgone, haged] at hx2
      rw [htk] at hx3
      simp only [if_true, if_false, Bool.false_eq_true, List.append_nil] at hx1 hx2 hx3
      refine Sq.slEq (v := va) (by repeat constructor) hx1.symm ?_
      refine Sq.slEq (v := sl59) (by repeat constructor) hx2.symm ?_
      refine Sq.slEq (v := vl) (by repeat constructor) hx3.symm ?_
      refine Sq.quiet (i := 0) rfl (Want.none rfl) rfl (ltN rfl) (QP.move rfl rfl).read ?_
      refine Sq.quiet (i := 1) rfl (Want.none rfl) rfl (ltN rfl) (QP.add64 rfl rfl rfl (by first | omega | (simp <;> omega)) (by first | omega | (simp <;> omega))).read ?_
      refine Sq.quiet (i := 2) rfl (Want.none rfl) rfl (ltN rfl) (QP.assign rfl rfl).read ?_
      refine Sq.nil ?_
      exact J.envJ (J.keep (.cons (by repeat constructor) (.cons (by repeat constructor) (.cons (by repeat constructor) (.cons (by repeat constructor) (.cons (by repeat constructor) Takes.nil))))) (hl5 (i + 1) (vl) (va) (sl59) (by omega) (by omega))) ⟨rfl, rfl, rfl, rfl, rfl, rfl, trivial⟩
     ·skip
      refine Sq.quiet (i := 8) rfl (Want.none rfl) rfl (ltN rfl) (QP.pick_t rfl rfl rfl).read ?_
      refine Sq.nil ?_
      refine hk15 _ _ ?_
      refine Run.cond_f rfl ?_
      refine Run.region ?_
      show Sq _ _ _ [0, 1, 2, 3, 4] _ _ _ _
      exact absurd c54 c34
    ·skip
     refine Sq.quiet (i := 4) rfl (Want.none rfl) rfl (ltN rfl) (QP.move rfl rfl).read ?_
     refine Sq.skip (i := 5) rfl (Want.no rfl rfl rfl rfl) rfl (ltN rfl) ?_
     refine Sq.skip (i := 6) rfl (Want.no rfl rfl rfl rfl) rfl (ltN rfl) ?_
     refine Sq.skip (i := 7) rfl (Want.no rfl rfl rfl rfl) rfl (ltN rfl) ?_
     refine Sq.quiet (i := 8) rfl (Want.none rfl) rfl (ltN rfl) (QP.pick_f rfl rfl rfl).read ?_
     refine Sq.nil ?_
     refine hk15 _ _ ?_
     refine Run.cond_f rfl ?_
     refine Run.region ?_
     show Sq _ _ _ [0, 1, 2, 3, 4] _ _ _ _
     refine Sq.quiet (i := 0) rfl (Want.none rfl) rfl (ltN rfl) (QP.move rfl rfl).read ?_
     refine Sq.quiet (i := 1) rfl (Want.none rfl) rfl (ltN rfl) (QR.load rfl rfl g37 (Route.enc_sub _)) ?_
     refine Sq.eff (i := 2) rfl (Want.none rfl) rfl (ltN rfl) (EF.buildSlice1 rfl Try.underlying46 z37 zero37 (by simp [Value.cells, Route.enc_len]) (by decide) rfl rfl (Route.enc_len _) (by decide)) ?_
     rintro _ _ ⟨b62, rfl, rfl⟩
     refine Sq.eff (i := 3) rfl (Want.none rfl) rfl (ltN rfl) (EF.append1 (xs := ((L.take i).filterMap (tickG now))) (s := x) el37 Route.enc_len Route.enc_cell rfl rfl rfl Try.underlying46 Try.underlying46 rfl rfl (by repeat constructor) (by repeat constructor) (by first | omega | (simp <;> omega))) ?_
     rintro sl63 _ rfl
     refine Sq.quiet (i := 4) rfl (Want.none rfl) rfl (ltN rfl) (QP.assign rfl rfl).read ?_
     refine Sq.nil ?_
     refine hk8 _ _ ?_
     refine Run.region ?_
     show Sq _ _ _ [0, 1, 2] _ _ _ _
     have hexp : expR now x = false := by simp only [expR, Bool.and_eq_false_iff, decide_eq_false_iff_not]; exact .inr c34
     have haged : agedR now x = x := by unfold agedR; rw [hexp]; rfl
     have hgone : goneR now x = false := by unfold goneR; rw [haged]; exact decide_eq_false c50
     have hx1 := fm_succ (expR now) (agedR now) hi
     have hx2 := fm_succ (goneR now) (agedR now) hi
     have hx3 := filterMap_succ (tickG now) hi
     have htk : (tickG now x).toList = [x] := by unfold tickG; rw [hgone]; rw [haged]; rfl
     rw [hexp, haged] at hx1
     rw [hgone, haged] at hx2
     rw [htk] at hx3
     simp only [if_true, if_false, Bool.false_eq_true, List.append_nil] at hx1 hx2 hx3
     refine Sq.slEq (v := va) (by repeat constructor) hx1.symm ?_
     refine Sq.slEq (v := vg) (by repeat constructor) hx2.symm ?_
     refine Sq.slEq (v := sl63) (by repeat constructor) hx3.symm ?_
     refine Sq.quiet (i := 0) rfl (Want.none rfl) rfl (ltN rfl) (QP.move rfl rfl).read ?_
     refine Sq.quiet (i := 1) rfl (Want.none rfl) rfl (ltN rfl) (QP.add64 rfl rfl rfl (by first | omega | (simp <;> omega)) (by first | omega | (simp <;> omega))).read ?_
     refine Sq.quiet (i := 2) rfl (Want.none rfl) rfl (ltN rfl) (QP.assign rfl rfl).read ?_
     refine Sq.nil ?_
     exact J.envJ (J.keep (.cons (by repeat constructor) (.cons (by repeat constructor) (.cons (by repeat constructor) (.cons (by repeat constructor) (.cons (by repeat constructor) Takes.nil))))) (hl5 (i + 1) (sl63) (va) (vg) (by omega) (by omega))) ⟨rfl, rfl, rfl, rfl, rfl, rfl, trivial⟩
  ·skip
   refine Sq.quiet (i := 4) rfl (Want.none rfl) rfl (ltN rfl) (QP.move rfl rfl).read ?_
   refine Sq.skip (i := 5) rfl (Want.no rfl rfl rfl rfl) rfl (ltN rfl) ?_
   refine Sq.skip (i := 6) rfl (Want.no rfl rfl rfl rfl) rfl (ltN rfl) ?_
   refine Sq.skip (i := 7) rfl (Want.no rfl rfl rfl rfl) rfl (ltN rfl) ?_
   refine Sq.quiet (i := 8) rfl (Want.none rfl) rfl (ltN rfl) (QP.pick_f rfl rfl rfl).read ?_
   refine Sq.nil ?_
   refine hk11 _ _ ?_
   refine Run.cond_f rfl ?_
   refine Run.skip ?_
   refine hk10 _ _ ?_
   refine Run.seq fun k16 hk16 => ?_
   refine Run.region ?_
   show Sq _ _ _ [0, 1, 2, 3, 4, 5, 6, 7, 8] _ _ _ _
   refine Sq.quiet (i := 0) rfl (Want.none rfl) rfl (ltN rfl) (QP.fieldAddr rfl rfl f37_8).read ?_
   refine Sq.quiet (i := 1) rfl (Want.none rfl) rfl (ltN rfl) (QR.load1 rfl rfl g3 (Route.sub_until_ _)) ?_
   refine Sq.quiet (i := 2) rfl (Want.none rfl) rfl (ltN rfl) (QP.move rfl rfl).read ?_
   refine Sq.quiet (i := 3) rfl (Want.none rfl) rfl (ltN rfl) (QP.leq rfl rfl rfl).read ?_
   refine J.caseD (fun c50 => ?_) (fun c50 => ?_)
   ·skip
    refine Sq.quiet (i := 4) rfl (Want.none rfl) rfl (ltN rfl) (QP.move rfl rfl).read ?_
    refine Sq.quiet (i := 5) rfl (Want.yes rfl rfl rfl rfl) rfl (ltN rfl) (QP.fieldAddr rfl rfl f37_5).read ?_
    refine Sq.quiet (i := 6) rfl (Want.yes rfl rfl rfl rfl) rfl (ltN rfl) (QR.load1 rfl rfl g35 (Route.sub_ref _)) ?_
    refine Sq.quiet (i := 7) rfl (Want.yes rfl rfl rfl rfl) rfl (ltN rfl) (QP.eql rfl rfl rfl).read ?_
    refine J.caseD (fun c54 => ?_) (fun c54 => ?_)
    ·skip
     refine Sq.quiet (i := 8) rfl (Want.none rfl) rfl (ltN rfl) (QP.pick_t rfl rfl rfl).read ?_
     refine Sq.nil ?_
     refine hk16 _ _ ?_
     refine Run.cond_t rfl ?_
     refine Run.region ?_
     show Sq _ _ _ [0, 1, 2, 3, 4] _ _ _ _
     exact absurd c50 c30
    ·skip
     refine Sq.quiet (i := 8) rfl (Want.none rfl) rfl (ltN rfl) (QP.pick_t rfl rfl rfl).read ?_
     refine Sq.nil ?_
     refine hk16 _ _ ?_
     refine Run.cond_f rfl ?_
     refine Run.region ?_
     show Sq _ _ _ [0, 1, 2, 3, 4] _ _ _ _
     exact absurd c50 c30
   ·skip
    refine Sq.quiet (i := 4) rfl (Want.none rfl) rfl (ltN rfl) (QP.move rfl rfl).read ?_
    refine Sq.skip (i := 5) rfl (Want.no rfl rfl rfl rfl) rfl (ltN rfl) ?_
    refine Sq.skip (i := 6) rfl (Want.no rfl rfl rfl rfl) rfl (ltN rfl) ?_
    refine Sq.skip (i := 7) rfl (Want.no rfl rfl rfl rfl) rfl (ltN rfl) ?_
    refine Sq.quiet (i := 8) rfl (Want.none rfl) rfl (ltN rfl) (QP.pick_f rfl rfl rfl).read ?_
    refine Sq.nil ?_
    refine hk16 _ _ ?_
    refine Run.cond_f rfl ?_
    refine Run.region ?_
    show Sq _ _ _ [0, 1, 2, 3, 4] _ _ _ _
    refine Sq.quiet (i := 0) rfl (Want.none rfl) rfl (ltN rfl) (QP.move rfl rfl).read ?_
    refine Sq.quiet (i := 1) rfl (Want.none rfl) rfl (ltN rfl) (QR.load rfl rfl g37 (Route.enc_sub _)) ?_
    refine Sq.eff (i := 2) rfl (Want.none rfl) rfl (ltN rfl) (EF.buildSlice1 rfl Try.underlying46 z37 zero37 (by simp [Value.cells, Route.enc_len]) (by decide) rfl rfl (Route.enc_len _) (by decide)) ?_
    rintro _ _ ⟨b62, rfl, rfl⟩
    refine Sq.eff (i := 3) rfl (Want.none rfl) rfl (ltN rfl) (EF.append1 (xs := ((L.take i).filterMap (tickG now))) (s := x) el37 Route.enc_len Route.enc_cell rfl rfl rfl Try.underlying46 Try.underlying46 rfl rfl (by repeat constructor) (by repeat constructor) (by first | omega | (simp <;> omega))) ?_
    rintro sl63 _ rfl
    refine Sq.quiet (i := 4) rfl (Want.none rfl) rfl (ltN rfl) (QP.assign rfl rfl).read ?_
    refine Sq.nil ?_
    refine hk8 _ _ ?_
    refine Run.region ?_
    show Sq _ _ _ [0, 1, 2] _ _ _ _
    have hexp : expR now x = false := by simp only [expR, Bool.and_eq_false_iff, decide_eq_false_iff_not]; exact .inl c30
    have haged : agedR now x = x := by unfold agedR; rw [hexp]; rfl
    have hgone : goneR now x = false := by unfold goneR; rw [haged]; exact decide_eq_false c50
    have hx1 := fm_succ (expR now) (agedR now) hi
    have hx2 := fm_succ (goneR now) (agedR now) hi
    have hx3 := filterMap_succ (tickG now) hi
    have htk : (tickG now x).toList = [x] := by unfold tickG; rw [hgone]; rw [haged]; rfl
    rw [hexp, haged] at hx1
    rw [hgone, haged] at hx2
    rw [htk] at hx3
    simp only [if_true, if_false, Bool.false_eq_true, List.append_nil] at hx1 hx2 hx3
    refine Sq.slEq (v := va) (by repeat constructor) hx1.symm ?_
    refine Sq.slEq (v := vg) (by repeat constructor) hx2.symm ?_
    refine Sq.slEq (v := sl63) (by repeat constructor) hx3.symm ?_
    refine Sq.quiet (i := 0) rfl (Want.none rfl) rfl (ltN rfl) (QP.move rfl rfl).read ?_
    refine Sq.quiet (i := 1) rfl (Want.none rfl) rfl (ltN rfl) (QP.add64 rfl rfl rfl (by first | omega | (simp <;> omega)) (by first | omega | (simp <;> omega))).read ?_
    refine Sq.quiet (i := 2) rfl (Want.none rfl) rfl (ltN rfl) (QP.assign rfl rfl).read ?_
    refine Sq.nil ?_
    exact J.envJ (J.keep (.cons (by repeat constructor) (.cons (by repeat constructor) (.cons (by repeat constructor) (.cons (by repeat constructor) (.cons (by repeat constructor) Takes.nil))))) (hl5 (i + 1) (sl63) (va) (vg) (by omega) (by omega))) ⟨rfl, rfl, rfl, rfl, rfl, rfl, trivial⟩
 ·skip
  refine Sq.nil ?_
  refine hk7 _ _ ?_
  refine Run.cond_f rfl ?_
  refine Run.exit rfl ?_
  refine hk3 _ _ ?_
  refine Run.seq fun k17 hk17 => ?_
  refine Run.region ?_
  show Sq _ _ _ [0, 1, 2, 3, 4] _ _ _ _
  have hil : i = L.length := by omega
  subst hil
  rw [List.take_length]
  refine Sq.slCase (v := vl) (xs := (L.filterMap (tickG now))) (by repeat constructor) (fun av cv hv hhv => ?_)
  subst hv
  refine Sq.quiet (i := 0) rfl (Want.none rfl) rfl (ltN rfl) (QP.move rfl rfl).read ?_
  refine Sq.quiet (i := 1) rfl (Want.none rfl) rfl (ltN rfl) (QP.move rfl rfl).read ?_
  refine Sq.quiet (i := 2) rfl (Want.none rfl) rfl (ltN rfl) (QP.nilCheck rfl rfl).read ?_
  refine Sq.quiet (i := 3) rfl (Want.none rfl) rfl (ltN rfl) (QP.fieldAddr rfl rfl f57_1).read ?_
  refine Sq.act (i := 4) rfl (Want.none rfl) rfl (EF.store rfl rfl rfl z46 (Ref16Table.set_l _ ⟨av, _, cv⟩) (cell_one rfl)) ?_
  rintro _ _ rfl
  refine Sq.nil ?_
  refine hk17 _ _ ?_
  refine Run.seq fun k18 hk18 => ?_
  refine Run.region ?_
  show Sq _ _ _ [0, 1, 2, 3] _ _ _ _
  refine Sq.quiet (i := 0) rfl (Want.none rfl) rfl (ltN rfl) (QP.move rfl rfl).read ?_
  refine Sq.quiet (i := 1) rfl (Want.none rfl) rfl (ltN rfl) (QP.move rfl rfl).read ?_
  refine Sq.quiet (i := 2) rfl (Want.none rfl) rfl (ltN rfl) (QP.assign rfl rfl).read ?_
  refine Sq.quiet (i := 3) rfl (Want.none rfl) rfl (ltN rfl) (QP.assign rfl rfl).read ?_
  refine Sq.nil ?_
  refine hk18 _ _ ?_
  refine Run.ret ?_
  exact J.ends (res_tmp2 rfl rfl rfl) (.cons (by repeat constructor) (.cons (by repeat constructor) (.cons (by repeat constructor) (.cons (by repeat constructor) Takes.nil)))) ⟨_, _, va, vg, hhv, rfl, rfl⟩

theorem rdrop_spec (F : Fr) {b : Nat} {most : Int} {a : Option Addr} {c : Nat} {L : List Route} (hh : SlH a c L) (hL : L.length ≤ 1000000) (j : Int) {ax : Option Addr} {xs : List (Bs 16)} {cx : Nat} (hlen : xs.length ≤ 4294967296) (ha : ArgSl F ax 16 Bs.enc xs) : Spec Try.prog 45 #[.pointer (some ⟨b, 0, none⟩), .int .i64 j, .slice ax xs.length cx] [blk b (Ref16Table.enc ⟨most, ⟨a, L.length, c⟩⟩) 57, slA 37 81 Route.enc (.slice a L.length c) L] F (fun v S => ∃ a2 c2, SlH a2 c2 (L.filter fun s => !dropP j xs s) ∧ S = [blk b (Ref16Table.enc ⟨most, ⟨a2, (L.filter fun s => !dropP j xs s).length, c2⟩⟩) 57, slA 37 81 Route.enc (.slice a2 (L.filter fun s => !dropP j xs s).length c2) (L.filter fun s => !dropP j xs s), slA 37 81 Route.enc v (L.filter (dropP j xs))]) := by
 refine Spec.intro (N := 84) (args := [.pointer (some ⟨b, 0, none⟩), .int .i64 j, .slice ax xs.length cx]) Try.func45 rfl rfl (by simp) ?_
 refine Run.seq fun k1 hk1 => ?_
 refine Run.region ?_
 show Sq _ _ _ [0] _ _ _ _
 refine J.addSl 37 81 Route.enc ?_
 refine J.addSl 37 81 Route.enc ?_
 refine Sq.quiet (i := 0) rfl (Want.none rfl) rfl (ltN rfl) (QP.assign rfl rfl).read ?_
 refine Sq.nil ?_
 refine hk1 _ _ ?_
 refine Run.seq fun k2 hk2 => ?_
 refine Run.region ?_
 show Sq _ _ _ [0, 1] _ _ _ _
 refine Sq.quiet (i := 0) rfl (Want.none rfl) rfl (ltN rfl) (QP.assign rfl rfl).read ?_
 refine Sq.quiet (i := 1) rfl (Want.none rfl) rfl (ltN rfl) (QP.assign rfl rfl).read ?_
 refine Sq.nil ?_
 refine hk2 _ _ ?_
 refine Run.seq fun k3 hk3 => ?_
 refine Run.seq fun k4 hk4 => ?_
 refine Run.region ?_
 show Sq _ _ _ [0] _ _ _ _
 refine Sq.quiet (i := 0) rfl (Want.none rfl) rfl (ltN rfl) (QP.assign rfl rfl).read ?_
 refine Sq.nil ?_
 refine hk4 _ _ ?_
 refine Run.block ?_
 refine Run.loop3 (fun (i : Nat) (vl : Value) (vg : Value) => i ≤ L.length) (fun i vl vg => .cons 0 (.pointer (some ⟨b, 0, none⟩)) (.cons 1 (.int .i64 j) (.cons 2 (.slice ax xs.length cx) (.cons 7 (vl) (.cons 8 (vg) (.cons 9 (.int .i64 i) (.nil))))))) (fun i vl vg => [blk b (Ref16Table.enc ⟨most, ⟨a, L.length, c⟩⟩) 57, slA 37 81 Route.enc (.slice a L.length c) L, slA 37 81 Route.enc vl ((L.take i).filter fun s => !dropP j xs s), slA 37 81 Route.enc vg ((L.take i).filter (dropP j xs))]) (fun i vl vg => L.length - i) (0) (.slice none 0 0) (.slice none 0 0) (Nat.zero_le _) ?_ ?_
 ·exact fun _ j => J.envJ (J.keep (.cons (by repeat constructor) (.cons (by repeat constructor) (.cons (by repeat constructor) (.cons (by repeat constructor) Takes.nil)))) j) ⟨rfl, rfl, rfl, rfl, rfl, rfl, trivial⟩
 rintro i vl vg hile kl5 hl5
 refine Run.seq fun k6 hk6 => ?_
 refine Run.seq fun k7 hk7 => ?_
 refine Run.region ?_
 show Sq _ _ _ [0, 1, 2, 3, 4, 5, 6] _ _ _ _
 refine Sq.quiet (i := 0) rfl (Want.none rfl) rfl (ltN rfl) (QP.move rfl rfl).read ?_
 refine Sq.quiet (i := 1) rfl (Want.none rfl) rfl (ltN rfl) (QP.move rfl rfl).read ?_
 refine Sq.quiet (i := 2) rfl (Want.none rfl) rfl (ltN rfl) (QP.nilCheck rfl rfl).read ?_
 refine Sq.quiet (i := 3) rfl (Want.none rfl) rfl (ltN rfl) (QP.fieldAddr rfl rfl f57_1).read ?_
 refine Sq.quiet (i := 4) rfl (Want.none rfl) rfl (ltN rfl) (QR.load1 (v := .slice _ L.length _) rfl rfl g46 (Ref16Table.sub_l _)) ?_
 refine Sq.quiet (i := 5) rfl (Want.none rfl) rfl (ltN rfl) (QP.len rfl rfl rfl Try.underlying46).read ?_
 refine Sq.quiet (i := 6) rfl (Want.none rfl) rfl (ltN rfl) (QP.lss rfl rfl rfl).read ?_
 refine J.caseD (fun c18 => ?_) (fun c18 => ?_)
 ·skip
  refine Sq.nil ?_
  refine hk7 _ _ ?_
  refine Run.cond_t rfl ?_
  refine Run.skip ?_
  refine hk6 _ _ ?_
  refine Run.seq fun k8 hk8 => ?_
  refine Run.block ?_
  refine Run.seq fun k9 hk9 => ?_
  refine Run.region ?_
  show Sq _ _ _ [0, 1, 2, 3] _ _ _ _
  have hlt : i < L.length := by omega
  obtain ⟨x, hi⟩ : ∃ x, L[i]? = some x := ⟨_, List.getElem?_eq_getElem hlt⟩
  obtain ⟨b0, o0, rfl⟩ := hh.get (by omega)
  have hll : ((L.take i).filter fun s => !dropP j xs s).length ≤ 1000000 ∧ ((L.take i).filter (dropP j xs)).length ≤ 1000000 := by
    have h1 := List.length_take_le i L
    have h2 := List.length_filter_le (fun s => !dropP j xs s) (L.take i)
    have h3 := List.length_filter_le (dropP j xs) (L.take i)
    omega
  refine Sq.quiet (i := 0) rfl (Want.none rfl) rfl (ltN rfl) (QP.move rfl rfl).read ?_
  refine Sq.quiet (i := 1) rfl (Want.none rfl) rfl (ltN rfl) (QP.len rfl rfl rfl Try.underlying89).read ?_
  refine Sq.quiet (i := 2) rfl (Want.none rfl) rfl (ltN rfl) (QP.eql rfl rfl rfl).read ?_
  refine J.caseD (fun c23 => ?_) (fun c23 => ?_)
  ·skip
   refine Sq.quiet (i := 3) rfl (Want.none rfl) rfl (ltN rfl) (QP.assign rfl rfl).read ?_
   refine Sq.nil ?_
   refine hk9 _ _ ?_
   refine Run.seq fun k10 hk10 => ?_
   refine Run.seq fun k11 hk11 => ?_
   refine Run.region ?_
   show Sq _ _ _ [0] _ _ _ _
   refine Sq.quiet (i := 0) rfl (Want.none rfl) rfl (ltN rfl) (QP.assign rfl rfl).read ?_
   refine Sq.nil ?_
   refine hk11 _ _ ?_
   refine Run.block ?_
   refine Run.loop2 (fun (k : Nat) (inb : Bool) => k ≤ xs.length ∧ inb = (decide (xs.length = 0) || decide (x.from_ ∈ xs.take k))) (fun k inb => .cons 0 (.pointer (some ⟨b, 0, none⟩)) (.cons 1 (.int .i64 j) (.cons 2 (.slice ax xs.length cx) (.cons 7 (vl) (.cons 8 (vg) (.cons 9 (.int .i64 i) (.cons 10 (.bool inb) (.cons 11 (.int .i64 k) (.nil))))))))) (fun k inb => [blk b (Ref16Table.enc ⟨most, ⟨some ⟨b0, o0, none⟩, L.length, c⟩⟩) 57, slA 37 81 Route.enc (.slice (some ⟨b0, o0, none⟩) L.length c) L, slA 37 81 Route.enc vl ((L.take i).filter fun s => !dropP j xs s), slA 37 81 Route.enc vg ((L.take i).filter (dropP j xs))]) (fun k inb => xs.length - k) (0) (true) (⟨Nat.zero_le _, by rw [decide_eq_true (by omega : xs.length = 0)]; rfl⟩) ?_ ?_
   ·exact fun _ j => J.envJ (J.keep (.cons (by repeat constructor) (.cons (by repeat constructor) (.cons (by repeat constructor) (.cons (by repeat constructor) Takes.nil)))) j) ⟨rfl, rfl, rfl, rfl, rfl, rfl, rfl, rfl, trivial⟩
   rintro k inb ⟨hkle, hin⟩ kl12 hl12
   refine Run.seq fun k13 hk13 => ?_
   refine Run.seq fun k14 hk14 => ?_
   refine Run.region ?_
   show Sq _ _ _ [0, 1, 2, 3] _ _ _ _
   refine Sq.quiet (i := 0) rfl (Want.none rfl) rfl (ltN rfl) (QP.move rfl rfl).read ?_
   refine Sq.quiet (i := 1) rfl (Want.none rfl) rfl (ltN rfl) (QP.move rfl rfl).read ?_
   refine Sq.quiet (i := 2) rfl (Want.none rfl) rfl (ltN rfl) (QP.len rfl rfl rfl Try.underlying89).read ?_
   refine Sq.quiet (i := 3) rfl (Want.none rfl) rfl (ltN rfl) (QP.lss rfl rfl rfl).read ?_
   refine J.caseD (fun c27 => ?_) (fun c27 => ?_)
   ·skip
    refine Sq.nil ?_
    refine hk14 _ _ ?_
    refine Run.cond_t rfl ?_
    refine Run.skip ?_
    refine hk13 _ _ ?_
    refine Run.seq fun k15 hk15 => ?_
    refine Run.block ?_
    refine Run.regionD (M := [0, 1, 3, 3, 15, 31, 3, 67, 195, 451, 3, 1987, 4035, 8131, 16383, 32767, 65535]) (q := 65535) (r := 8736) (by kernel_rfl) ?_
    have hltk : k < xs.length := by omega
    obtain ⟨u, hu⟩ : ∃ u, xs[k]? = some u := ⟨_, List.getElem?_eq_getElem hltk⟩
    obtain ⟨b1, o1, rfl, hs0⟩ := ha.get (by omega)
    refine Dw.pure (i := 0) rfl (by kernel_rfl) (Want.none rfl) rfl (ltN rfl) (QP.move rfl rfl) ?_
    refine J.caseB (fun c30 => ?_) (fun c30 => ?_)
    ·skip
     refine Dw.pure (i := 1) rfl (by kernel_rfl) (Want.none rfl) rfl (ltN rfl) (QP.move rfl rfl) ?_
     refine Dw.skip (i := 2) rfl (by kernel_rfl) (Want.no rfl rfl rfl rfl) rfl (ltN rfl) ?_
     refine Dw.skip (i := 3) rfl (by kernel_rfl) (Want.no rfl rfl rfl rfl) rfl (ltN rfl) ?_
     refine Dw.skip (i := 4) rfl (by kernel_rfl) (Want.no rfl rfl rfl rfl) rfl (ltN rfl) ?_
     refine Dw.skip (i := 5) rfl (by kernel_rfl) (Want.no rfl rfl rfl rfl) rfl (ltN rfl) ?_
     refine Dw.skip (i := 6) rfl (by kernel_rfl) (Want.no rfl rfl rfl rfl) rfl (ltN rfl) ?_
     refine Dw.skip (i := 7) rfl (by kernel_rfl) (Want.no rfl rfl rfl rfl) rfl (ltN rfl) ?_
     refine Dw.skip (i := 8) rfl (by kernel_rfl) (Want.no rfl rfl rfl rfl) rfl (ltN rfl) ?_
     refine Dw.skip (i := 9) rfl (by kernel_rfl) (Want.no rfl rfl rfl rfl) rfl (ltN rfl) ?_
     refine Dw.skip (i := 10) rfl (by kernel_rfl) (Want.no rfl rfl rfl rfl) rfl (ltN rfl) ?_
     refine Dw.skip (i := 11) rfl (by kernel_rfl) (Want.no rfl rfl rfl rfl) rfl (ltN rfl) ?_
     refine Dw.skip (i := 12) rfl (by kernel_rfl) (Want.no rfl rfl rfl rfl) rfl (ltN rfl) ?_
     refine Dw.skip (i := 13) rfl (by kernel_rfl) (Want.no rfl rfl rfl rfl) rfl (ltN rfl) ?_
     refine Dw.skip (i := 14) rfl (by kernel_rfl) (Want.no rfl rfl rfl rfl) rfl (ltN rfl) ?_
     refine Dw.pure (i := 15) rfl (by kernel_rfl) (Want.none rfl) rfl (ltN rfl) (QP.pick_t rfl rfl rfl) ?_
     refine Dw.eff (i := 16) (by kernel_rfl) (by kernel_rfl) ?_
     refine One.mk (o := _) (l := []) rfl (by kernel_rfl) (Want.none rfl) rfl (ltN rfl) ((QP.assign rfl rfl).eff) (by kernel_rfl) ?_
     rintro _ _ ⟨rfl, rfl⟩
     refine ⟨fun _ h => (by cases h), ?_⟩
     refine Dw.nil (by kernel_rfl) ?_
     refine hk15 _ _ ?_
     refine Run.region ?_
     show Sq _ _ _ [0, 1, 2] _ _ _ _
     refine Sq.quiet (i := 0) rfl (Want.none rfl) rfl (ltN rfl) (QP.move rfl rfl).read ?_
     refine Sq.quiet (i := 1) rfl (Want.none rfl) rfl (ltN rfl) (QP.add64 rfl rfl rfl (by first | omega | (simp <;> omega)) (by first | omega | (simp <;> omega))).read ?_
     refine Sq.quiet (i := 2) rfl (Want.none rfl) rfl (ltN rfl) (QP.assign rfl rfl).read ?_
     refine Sq.nil ?_
     exact J.envJ (J.keep (.cons (by repeat constructor) (.cons (by repeat constructor) (.cons (by repeat constructor) (.cons (by repeat constructor) Takes.nil)))) (hl12 (k + 1) (true) (⟨by omega, by rw [in_succ hu]; rw [c30] at hin; rw [← Bool.or_assoc, ← hin]; rfl⟩) (by omega))) ⟨rfl, rfl, rfl, rfl, rfl, rfl, rfl, rfl, trivial⟩
    ·skip
     refine Dw.pure (i := 1) rfl (by kernel_rfl) (Want.none rfl) rfl (ltN rfl) (QP.move rfl rfl) ?_
     refine Dw.pure (i := 2) rfl (by kernel_rfl) (Want.yes rfl rfl rfl rfl) rfl (ltN rfl) (QP.move rfl rfl) ?_
     refine Dw.pure (i := 3) rfl (by kernel_rfl) (Want.yes rfl rfl rfl rfl) rfl (ltN rfl) (QP.move rfl rfl) ?_
     refine Dw.pure (i := 4) rfl (by kernel_rfl) (Want.yes rfl rfl rfl rfl) rfl (ltN rfl) (QP.indexAddr rfl rfl rfl Try.underlying89 z28 (by first | omega | (simp <;> omega)) (by first | omega | (simp <;> omega))) ?_
     refine Dw.read (i := 5) rfl (by kernel_rfl) (Want.yes rfl rfl rfl rfl) rfl (ltN rfl) (QR.loadSl rfl rfl g28 Bs.len (hs0 _) hu) ?_
     refine Dw.pure (i := 6) rfl (by kernel_rfl) (Want.yes rfl rfl rfl rfl) rfl (ltN rfl) (QP.move rfl rfl) ?_
     refine Dw.pure (i := 7) rfl (by kernel_rfl) (Want.yes rfl rfl rfl rfl) rfl (ltN rfl) (QP.nilCheck rfl rfl) ?_
     refine Dw.pure (i := 8) rfl (by kernel_rfl) (Want.yes rfl rfl rfl rfl) rfl (ltN rfl) (QP.fieldAddr rfl rfl f57_1) ?_
     refine Dw.read (i := 9) rfl (by kernel_rfl) (Want.yes rfl rfl rfl rfl) rfl (ltN rfl) (QR.load1 (v := .slice _ L.length _) rfl rfl g46 (Ref16Table.sub_l _)) ?_
     refine Dw.pure (i := 10) rfl (by kernel_rfl) (Want.yes rfl rfl rfl rfl) rfl (ltN rfl) (QP.move rfl rfl) ?_
     refine Dw.pure (i := 11) rfl (by kernel_rfl) (Want.yes rfl rfl rfl rfl) rfl (ltN rfl) (QP.indexAddr rfl rfl rfl Try.underlying46 z37 (by first | omega | (simp <;> omega)) (by first | omega | (simp <;> omega))) ?_
     refine Dw.pure (i := 12) rfl (by kernel_rfl) (Want.yes rfl rfl rfl rfl) rfl (ltN rfl) (QP.fieldAddr rfl rfl f37_2) ?_
     refine Dw.read (i := 13) rfl (by kernel_rfl) (Want.yes rfl rfl rfl rfl) rfl (ltN rfl) (QR.loadSlF rfl rfl g28 Route.enc_len (SlAt.own Route.enc_len (by repeat constructor)) hi (Route.sub_from_ _)) ?_
     refine Dw.pure (i := 14) rfl (by kernel_rfl) (Want.yes rfl rfl rfl rfl) rfl (ltN rfl) (QP.eql_agg eq28 rfl rfl rfl) ?_
     refine J.caseD (fun c44 => ?_) (fun c44 => ?_)
     ·skip
      refine Dw.pure (i := 15) rfl (by kernel_rfl) (Want.none rfl) rfl (ltN rfl) (QP.pick_f rfl rfl rfl) ?_
      refine Dw.eff (i := 16) (by kernel_rfl) (by kernel_rfl) ?_
      refine One.mk (o := _) (l := []) rfl (by kernel_rfl) (Want.none rfl) rfl (ltN rfl) ((QP.assign rfl rfl).eff) (by kernel_rfl) ?_
      rintro _ _ ⟨rfl, rfl⟩
      refine ⟨fun _ h => (by cases h), ?_⟩
      refine Dw.nil (by kernel_rfl) ?_
      refine hk15 _ _ ?_
      refine Run.region ?_
      show Sq _ _ _ [0, 1, 2] _ _ _ _
      refine Sq.quiet (i := 0) rfl (Want.none rfl) rfl (ltN rfl) (QP.move rfl rfl).read ?_
      refine Sq.quiet (i := 1) rfl (Want.none rfl) rfl (ltN rfl) (QP.add64 rfl rfl rfl (by first | omega | (simp <;> omega)) (by first | omega | (simp <;> omega))).read ?_
      refine Sq.quiet (i := 2) rfl (Want.none rfl) rfl (ltN rfl) (QP.assign rfl rfl).read ?_
      refine Sq.nil ?_
      exact J.envJ (J.keep (.cons (by repeat constructor) (.cons (by repeat constructor) (.cons (by repeat constructor) (.cons (by repeat constructor) Takes.nil)))) (hl12 (k + 1) (true) (⟨by omega, by rw [in_succ hu]; rw [c30] at hin; rw [← Bool.or_assoc, ← hin]; simp [c44]⟩) (by omega))) ⟨rfl, rfl, rfl, rfl, rfl, rfl, rfl, rfl, trivial⟩
     ·skip
      refine Dw.pure (i := 15) rfl (by kernel_rfl) (Want.none rfl) rfl (ltN rfl) (QP.pick_f rfl rfl rfl) ?_
      refine Dw.eff (i := 16) (by kernel_rfl) (by kernel_rfl) ?_
      refine One.mk (o := _) (l := []) rfl (by kernel_rfl) (Want.none rfl) rfl (ltN rfl) ((QP.assign rfl rfl).eff) (by kernel_rfl) ?_
      rintro _ _ ⟨rfl, rfl⟩
      refine ⟨fun _ h => (by cases h), ?_⟩
      refine Dw.nil (by kernel_rfl) ?_
      refine hk15 _ _ ?_
      refine Run.region ?_
      show Sq _ _ _ [0, 1, 2] _ _ _ _
      refine Sq.quiet (i := 0) rfl (Want.none rfl) rfl (ltN rfl) (QP.move rfl rfl).read ?_
      refine Sq.quiet (i := 1) rfl (Want.none rfl) rfl (ltN rfl) (QP.add64 rfl rfl rfl (by first | omega | (simp <;> omega)) (by first | omega | (simp <;> omega))).read ?_
      refine Sq.quiet (i := 2) rfl (Want.none rfl) rfl (ltN rfl) (QP.assign rfl rfl).read ?_
      refine Sq.nil ?_
      exact J.envJ (J.keep (.cons (by repeat constructor) (.cons (by repeat constructor) (.cons (by repeat constructor) (.cons (by repeat constructor) Takes.nil)))) (hl12 (k + 1) (false) (⟨by omega, by rw [in_succ hu]; rw [c30] at hin; rw [← Bool.or_assoc, ← hin]; simp [c44]⟩) (by omega))) ⟨rfl, rfl, rfl, rfl, rfl, rfl, rfl, rfl, trivial⟩
   ·skip
    refine Sq.nil ?_
    refine hk14 _ _ ?_
    refine Run.cond_f rfl ?_
    refine Run.exit rfl ?_
    refine hk10 _ _ ?_
    refine Run.seq fun k16 hk16 => ?_
    refine Run.region ?_
    show Sq _ _ _ [0, 1, 2, 3, 4, 5, 6, 7, 8, 9, 10, 11, 12] _ _ _ _
    rw [List.take_of_length_le (show xs.length ≤ k by omega)] at hin
    refine Sq.quiet (i := 0) rfl (Want.none rfl) rfl (ltN rfl) (QP.move rfl rfl).read ?_
    refine Sq.quiet (i := 1) rfl (Want.none rfl) rfl (ltN rfl) (QP.nilCheck rfl rfl).read ?_
    refine Sq.quiet (i := 2) rfl (Want.none rfl) rfl (ltN rfl) (QP.fieldAddr rfl rfl f57_1).read ?_
    refine Sq.quiet (i := 3) rfl (Want.none rfl) rfl (ltN rfl) (QR.load1 (v := .slice _ L.length _) rfl rfl g46 (Ref16Table.sub_l _)) ?_
    refine Sq.quiet (i := 4) rfl (Want.none rfl) rfl (ltN rfl) (QP.move rfl rfl).read ?_
    refine Sq.quiet (i := 5) rfl (Want.none rfl) rfl (ltN rfl) (QP.indexAddr rfl rfl rfl Try.underlying46 z37 (by first | omega | (simp <;> omega)) (by first | omega | (simp <;> omega))).read ?_
    refine Sq.quiet (i := 6) rfl (Want.none rfl) rfl (ltN rfl) (QP.fieldAddr rfl rfl f37_1).read ?_
    refine Sq.quiet (i := 7) rfl (Want.none rfl) rfl (ltN rfl) (QR.loadSlF1 rfl rfl g3 Route.enc_len (SlAt.own Route.enc_len (by repeat constructor)) hi (Route.sub_if_ _)) ?_
    refine Sq.quiet (i := 8) rfl (Want.none rfl) rfl (ltN rfl) (QP.move rfl rfl).read ?_
    refine Sq.quiet (i := 9) rfl (Want.none rfl) rfl (ltN rfl) (QP.eql rfl rfl rfl).read ?_
    refine J.caseD (fun c55 => ?_) (fun c55 => ?_)
    ·skip
     refine Sq.quiet (i := 10) rfl (Want.none rfl) rfl (ltN rfl) (QP.move rfl rfl).read ?_
     refine Sq.quiet (i := 11) rfl (Want.yes rfl rfl rfl rfl) rfl (ltN rfl) (QP.move rfl rfl).read ?_
     refine J.caseB (fun c57 => ?_) (fun c57 => ?_)
     ·skip
      refine Sq.quiet (i := 12) rfl (Want.none rfl) rfl (ltN rfl) (QP.pick_t rfl rfl rfl).read ?_
      refine Sq.nil ?_
      refine hk16 _ _ ?_
      refine Run.cond_t rfl ?_
      refine Run.region ?_
      show Sq _ _ _ [0, 1, 2, 3, 4, 5, 6, 7, 8, 9, 10] _ _ _ _
      refine Sq.quiet (i := 0) rfl (Want.none rfl) rfl (ltN rfl) (QP.move rfl rfl).read ?_
      refine Sq.quiet (i := 1) rfl (Want.none rfl) rfl (ltN rfl) (QP.move rfl rfl).read ?_
      refine Sq.quiet (i := 2) rfl (Want.none rfl) rfl (ltN rfl) (QP.nilCheck rfl rfl).read ?_
      refine Sq.quiet (i := 3) rfl (Want.none rfl) rfl (ltN rfl) (QP.fieldAddr rfl rfl f57_1).read ?_
      refine Sq.quiet (i := 4) rfl (Want.none rfl) rfl (ltN rfl) (QR.load1 (v := .slice _ L.length _) rfl rfl g46 (Ref16Table.sub_l _)) ?_
      refine Sq.quiet (i := 5) rfl (Want.none rfl) rfl (ltN rfl) (QP.move rfl rfl).read ?_
      refine Sq.quiet (i := 6) rfl (Want.none rfl) rfl (ltN rfl) (QP.indexAddr rfl rfl rfl Try.underlying46 z37 (by first | omega | (simp <;> omega)) (by first | omega | (simp <;> omega))).read ?_
      refine Sq.quiet (i := 7) rfl (Want.none rfl) rfl (ltN rfl) (QR.loadSl rfl rfl g37 Route.enc_len (SlAt.own Route.enc_len (by repeat constructor)) hi) ?_
      refine Sq.eff (i := 8) rfl (Want.none rfl) rfl (ltN rfl) (EF.buildSlice1 rfl Try.underlying46 z37 zero37 (by simp [Value.cells, Route.enc_len]) (by decide) rfl rfl (Route.enc_len _) (by decide)) ?_
      rintro _ _ ⟨b67, rfl, rfl⟩
      refine Sq.eff (i := 9) rfl (Want.none rfl) rfl (ltN rfl) (EF.append1 (xs := ((L.take i).filter (dropP j xs))) (s := x) el37 Route.enc_len Route.enc_cell rfl rfl rfl Try.underlying46 Try.underlying46 rfl rfl (by repeat constructor) (by repeat constructor) (by first | omega | (simp <;> omega))) ?_
      rintro sl68 _ rfl
      refine Sq.quiet (i := 10) rfl (Want.none rfl) rfl (ltN rfl) (QP.assign rfl rfl).read ?_
      refine Sq.nil ?_
      refine hk8 _ _ ?_
      refine Run.region ?_
      show Sq _ _ _ [0, 1, 2] _ _ _ _
      have hd : dropP j xs x = true := by simp_all [dropP]
      have hx1 := filter_succ (fun s => !dropP j xs s) hi
      have hx2 := filter_succ (dropP j xs) hi
      rw [hd] at hx1 hx2
      simp only [Bool.not_true, Bool.not_false, if_true, if_false, Bool.false_eq_true, List.append_nil] at hx1 hx2
      refine Sq.slEq (v := vl) (by repeat constructor) hx1.symm ?_
      refine Sq.slEq (v := sl68) (by repeat constructor) hx2.symm ?_
      refine Sq.quiet (i := 0) rfl (Want.none rfl) rfl (ltN rfl) (QP.move rfl rfl).read ?_
      refine Sq.quiet (i := 1) rfl (Want.none rfl) rfl (ltN rfl) (QP.add64 rfl rfl rfl (by first | omega | (simp <;> omega)) (by first | omega | (simp <;> omega))).read ?_
      refine Sq.quiet (i := 2) rfl (Want.none rfl) rfl (ltN rfl) (QP.assign rfl rfl).read ?_
      refine Sq.nil ?_
      exact J.envJ (J.keep (.cons (by repeat constructor) (.cons (by repeat constructor) (.cons (by repeat constructor) (.cons (by repeat constructor) Takes.nil)))) (hl5 (i + 1) (vl) (sl68) (by omega) (by omega))) ⟨rfl, rfl, rfl, rfl, rfl, rfl, trivial⟩
     ·skip
      refine Sq.quiet (i := 12) rfl (Want.none rfl) rfl (ltN rfl) (QP.pick_t rfl rfl rfl).read ?_
      refine Sq.nil ?_
      refine hk16 _ _ ?_
      refine Run.cond_f rfl ?_
      refine Run.region ?_
      show Sq _ _ _ [0, 1, 2, 3, 4, 5, 6, 7, 8, 9, 10] _ _ _ _
      refine Sq.quiet (i := 0) rfl (Want.none rfl) rfl (ltN rfl) (QP.move rfl rfl).read ?_
      refine Sq.quiet (i := 1) rfl (Want.none rfl) rfl (ltN rfl) (QP.move rfl rfl).read ?_
      refine Sq.quiet (i := 2) rfl (Want.none rfl) rfl (ltN rfl) (QP.nilCheck rfl rfl).read ?_
      refine Sq.quiet (i := 3) rfl (Want.none rfl) rfl (ltN rfl) (QP.fieldAddr rfl rfl f57_1).read ?_
      refine Sq.quiet (i := 4) rfl (Want.none rfl) rfl (ltN rfl) (QR.load1 (v := .slice _ L.length _) rfl rfl g46 (Ref16Table.sub_l _)) ?_
      refine Sq.quiet (i := 5) rfl (Want.none rfl) rfl (ltN rfl) (QP.move rfl rfl).read ?_
      refine Sq.quiet (i := 6) rfl (Want.none rfl) rfl (ltN rfl) (QP.indexAddr rfl rfl rfl Try.underlying46 z37 (by first | omega | (simp <;> omega)) (by first | omega | (simp <;> omega))).read ?_
      refine Sq.quiet (i := 7) rfl (Want.none rfl) rfl (ltN rfl) (QR.loadSl rfl rfl g37 Route.enc_len (SlAt.own Route.enc_len (by repeat constructor)) hi) ?_
      refine Sq.eff (i := 8) rfl (Want.none rfl) rfl (ltN rfl) (EF.buildSlice1 rfl Try.underlying46 z37 zero37 (by simp [Value.cells, Route.enc_len]) (by decide) rfl rfl (Route.enc_len _) (by decide)) ?_
      rintro _ _ ⟨b77, rfl, rfl⟩
      refine Sq.eff (i := 9) rfl (Want.none rfl) rfl (ltN rfl) (EF.append1 (xs := ((L.take i).filter fun s => !dropP j xs s)) (s := x) el37 Route.enc_len Route.enc_cell rfl rfl rfl Try.underlying46 Try.underlying46 rfl rfl (by repeat constructor) (by repeat constructor) (by first | omega | (simp <;> omega))) ?_
      rintro sl78 _ rfl
      refine Sq.quiet (i := 10) rfl (Want.none rfl) rfl (ltN rfl) (QP.assign rfl rfl).read ?_
      refine Sq.nil ?_
      refine hk8 _ _ ?_
      refine Run.region ?_
      show Sq _ _ _ [0, 1, 2] _ _ _ _
      have hd : dropP j xs x = false := by simp_all [dropP]
      have hx1 := filter_succ (fun s => !dropP j xs s) hi
      have hx2 := filter_succ (dropP j xs) hi
      rw [hd] at hx1 hx2
      simp only [Bool.not_true, Bool.not_false, if_true, if_false, Bool.false_eq_true, List.append_nil] at hx1 hx2
      refine Sq.slEq (v := sl78) (by repeat constructor) hx1.symm ?_
      refine Sq.slEq (v := vg) (by repeat constructor) hx2.symm ?_
      refine Sq.quiet (i := 0) rfl (Want.none rfl) rfl (ltN rfl) (QP.move rfl rfl).read ?_
      refine Sq.quiet (i := 1) rfl (Want.none rfl) rfl (ltN rfl) (QP.add64 rfl rfl rfl (by first | omega | (simp <;> omega)) (by first | omega | (simp <;> omega))).read ?_
      refine Sq.quiet (i := 2) rfl (Want.none rfl) rfl (ltN rfl) (QP.assign rfl rfl).read ?_
      refine Sq.nil ?_
      exact J.envJ (J.keep (.cons (by repeat constructor) (.cons (by repeat constructor) (.cons (by repeat constructor) (.cons (by repeat constructor) Takes.nil)))) (hl5 (i + 1) (sl78) (vg) (by omega) (by omega))) ⟨rfl, rfl, rfl, rfl, rfl, rfl, trivial⟩
    ·skip
     refine Sq.quiet (i := 10) rfl (Want.none rfl) rfl (ltN rfl) (QP.move rfl rfl).read ?_
     refine Sq.skip (i := 11) rfl (Want.no rfl rfl rfl rfl) rfl (ltN rfl) ?_
     refine Sq.quiet (i := 12) rfl (Want.none rfl) rfl (ltN rfl) (QP.pick_f rfl rfl rfl).read ?_
     refine Sq.nil ?_
     refine hk16 _ _ ?_
     refine Run.cond_f rfl ?_
     refine Run.region ?_
     show Sq _ _ _ [0, 1, 2, 3, 4, 5, 6, 7, 8, 9, 10] _ _ _ _
     refine Sq.quiet (i := 0) rfl (Want.none rfl) rfl (ltN rfl) (QP.move rfl rfl).read ?_
     refine Sq.quiet (i := 1) rfl (Want.none rfl) rfl (ltN rfl) (QP.move rfl rfl).read ?_
     refine Sq.quiet (i := 2) rfl (Want.none rfl) rfl (ltN rfl) (QP.nilCheck rfl rfl).read ?_
     refine Sq.quiet (i := 3) rfl (Want.none rfl) rfl (ltN rfl) (QP.fieldAddr rfl rfl f57_1).read ?_
     refine Sq.quiet (i := 4) rfl (Want.none rfl) rfl (ltN rfl) (QR.load1 (v := .slice _ L.length _) rfl rfl g46 (Ref16Table.sub_l _)) ?_
     refine Sq.quiet (i := 5) rfl (Want.none rfl) rfl (ltN rfl) (QP.move rfl rfl).read ?_
     refine Sq.quiet (i := 6) rfl (Want.none rfl) rfl (ltN rfl) (QP.indexAddr rfl rfl rfl Try.underlying46 z37 (by first | omega | (simp <;> omega)) (by first | omega | (simp <;> omega))).read ?_
     refine Sq.quiet (i := 7) rfl (Want.none rfl) rfl (ltN rfl) (QR.loadSl rfl rfl g37 Route.enc_len (SlAt.own Route.enc_len (by repeat constructor)) hi) ?_
     refine Sq.eff (i := 8) rfl (Want.none rfl) rfl (ltN rfl) (EF.buildSlice1 rfl Try.underlying46 z37 zero37 (by simp [Value.cells, Route.enc_len]) (by decide) rfl rfl (Route.enc_len _) (by decide)) ?_
     rintro _ _ ⟨b77, rfl, rfl⟩
     refine Sq.eff (i := 9) rfl (Want.none rfl) rfl (ltN rfl) (EF.append1 (xs := ((L.take i).filter fun s => !dropP j xs s)) (s := x) el37 Route.enc_len Route.enc_cell rfl rfl rfl Try.underlying46 Try.underlying46 rfl rfl (by repeat constructor) (by repeat constructor) (by first | omega | (simp <;> omega))) ?_
     rintro sl78 _ rfl
     refine Sq.quiet (i := 10) rfl (Want.none rfl) rfl (ltN rfl) (QP.assign rfl rfl).read ?_
     refine Sq.nil ?_
     refine hk8 _ _ ?_
     refine Run.region ?_
     show Sq _ _ _ [0, 1, 2] _ _ _ _
     have hd : dropP j xs x = false := by simp_all [dropP]
     have hx1 := filter_succ (fun s => !dropP j xs s) hi
     have hx2 := filter_succ (dropP j xs) hi
     rw [hd] at hx1 hx2
     simp only [Bool.not_true, Bool.not_false, if_true, if_false, Bool.false_eq_true, List.append_nil] at hx1 hx2
     refine Sq.slEq (v := sl78) (by repeat constructor) hx1.symm ?_
     refine Sq.slEq (v := vg) (by repeat constructor) hx2.symm ?_
     refine Sq.quiet (i := 0) rfl (Want.none rfl) rfl (ltN rfl) (QP.move rfl rfl).read ?_
     refine Sq.quiet (i := 1) rfl (Want.none rfl) rfl (ltN rfl) (QP.add64 rfl rfl rfl (by first | omega | (simp <;> omega)) (by first | omega | (simp <;> omega))).read ?_
     refine Sq.quiet (i := 2) rfl (Want.none rfl) rfl (ltN rfl) (QP.assign rfl rfl).read ?_
     refine Sq.nil ?_
     exact J.envJ (J.keep (.cons (by repeat constructor) (.cons (by repeat constructor) (.cons (by repeat constructor) (.cons (by repeat constructor) Takes.nil)))) (hl5 (i + 1) (sl78) (vg) (by omega) (by omega))) ⟨rfl, rfl, rfl, rfl, rfl, rfl, trivial⟩
  ·skip
   refine Sq.quiet (i := 3) rfl (Want.none rfl) rfl (ltN rfl) (QP.assign rfl rfl).read ?_
   refine Sq.nil ?_
   refine hk9 _ _ ?_
   refine Run.seq fun k17 hk17 => ?_
   refine Run.seq fun k18 hk18 => ?_
   refine Run.region ?_
   show Sq _ _ _ [0] _ _ _ _
   refine Sq.quiet (i := 0) rfl (Want.none rfl) rfl (ltN rfl) (QP.assign rfl rfl).read ?_
   refine Sq.nil ?_
   refine hk18 _ _ ?_
   refine Run.block ?_
   refine Run.loop2 (fun (k : Nat) (inb : Bool) => k ≤ xs.length ∧ inb = (decide (xs.length = 0) || decide (x.from_ ∈ xs.take k))) (fun k inb => .cons 0 (.pointer (some ⟨b, 0, none⟩)) (.cons 1 (.int .i64 j) (.cons 2 (.slice ax xs.length cx) (.cons 7 (vl) (.cons 8 (vg) (.cons 9 (.int .i64 i) (.cons 10 (.bool inb) (.cons 11 (.int .i64 k) (.nil))))))))) (fun k inb => [blk b (Ref16Table.enc ⟨most, ⟨some ⟨b0, o0, none⟩, L.length, c⟩⟩) 57, slA 37 81 Route.enc (.slice (some ⟨b0, o0, none⟩) L.length c) L, slA 37 81 Route.enc vl ((L.take i).filter fun s => !dropP j xs s), slA 37 81 Route.enc vg ((L.take i).filter (dropP j xs))]) (fun k inb => xs.length - k) (0) (false) (⟨Nat.zero_le _, by rw [decide_eq_false (by omega : ¬ xs.length = 0)]; simp⟩) ?_ ?_
   ·exact fun _ j => J.envJ (J.keep (.cons (by repeat constructor) (.cons (by repeat constructor) (.cons (by repeat constructor) (.cons (by repeat constructor) Takes.nil)))) j) ⟨rfl, rfl, rfl, rfl, rfl, rfl, rfl, rfl, trivial⟩
   rintro k inb ⟨hkle, hin⟩ kl19 hl19
   refine Run.seq fun k20 hk20 => ?_
   refine Run.seq fun k21 hk21 => ?_
   refine Run.region ?_
   show Sq _ _ _ [0, 1, 2, 3] _ _ _ _
   refine Sq.quiet (i := 0) rfl (Want.none rfl) rfl (ltN rfl) (QP.move rfl rfl).read ?_
   refine Sq.quiet (i := 1) rfl (Want.none rfl) rfl (ltN rfl) (QP.move rfl rfl).read ?_
   refine Sq.quiet (i := 2) rfl (Want.none rfl) rfl (ltN rfl) (QP.len rfl rfl rfl Try.underlying89).read ?_
   refine Sq.quiet (i := 3) rfl (Want.none rfl) rfl (ltN rfl) (QP.lss rfl rfl rfl).read ?_
   refine J.caseD (fun c27 => ?_) (fun c27 => ?_)
   ·skip
    refine Sq.nil ?_
    refine hk21 _ _ ?_
    refine Run.cond_t rfl ?_
    refine Run.skip ?_
    refine hk20 _ _ ?_
    refine Run.seq fun k22 hk22 => ?_
    refine Run.block ?_
    refine Run.regionD (M := [0, 1, 3, 3, 15, 31, 3, 67, 195, 451, 3, 1987, 4035, 8131, 16383, 32767, 65535]) (q := 65535) (r := 8736) (by kernel_rfl) ?_
    have hltk : k < xs.length := by omega
    obtain ⟨u, hu⟩ : ∃ u, xs[k]? = some u := ⟨_, List.getElem?_eq_getElem hltk⟩
    obtain ⟨b1, o1, rfl, hs0⟩ := ha.get (by omega)
    refine Dw.pure (i := 0) rfl (by kernel_rfl) (Want.none rfl) rfl (ltN rfl) (QP.move rfl rfl) ?_
    refine J.caseB (fun c30 => ?_) (fun c30 => ?_)
    ·skip
     refine Dw.pure (i := 1) rfl (by kernel_rfl) (Want.none rfl) rfl (ltN rfl) (QP.move rfl rfl) ?_
     refine Dw.skip (i := 2) rfl (by kernel_rfl) (Want.no rfl rfl rfl rfl) rfl (ltN rfl) ?_
     refine Dw.skip (i := 3) rfl (by kernel_rfl) (Want.no rfl rfl rfl rfl) rfl (ltN rfl) ?_
     refine Dw.skip (i := 4) rfl (by kernel_rfl) (Want.no rfl rfl rfl rfl) rfl (ltN rfl) ?_
     refine Dw.skip (i := 5) rfl (by kernel_rfl) (Want.no rfl rfl rfl rfl) rfl (ltN rfl) ?_
     refine Dw.skip (i := 6) rfl (by kernel_rfl) (Want.no rfl rfl rfl rfl) rfl (ltN rfl) ?_
     refine Dw.skip (i := 7) rfl (by kernel_rfl) (Want.no rfl rfl rfl rfl) rfl (ltN rfl) ?_
     refine Dw.skip (i := 8) rfl (by kernel_rfl) (Want.no rfl rfl rfl rfl) rfl (ltN rfl) ?_
     refine Dw.skip (i := 9) rfl (by kernel_rfl) (Want.no rfl rfl rfl rfl) rfl (ltN rfl) ?_
     refine Dw.skip (i := 10) rfl (by kernel_rfl) (Want.no rfl rfl rfl rfl) rfl (ltN rfl) ?_
     refine Dw.skip (i := 11) rfl (by kernel_rfl) (Want.no rfl rfl rfl rfl) rfl (ltN rfl) ?_
     refine Dw.skip (i := 12) rfl (by kernel_rfl) (Want.no rfl rfl rfl rfl) rfl (ltN rfl) ?_
     refine Dw.skip (i := 13) rfl (by kernel_rfl) (Want.no rfl rfl rfl rfl) rfl (ltN rfl) ?_
     refine Dw.skip (i := 14) rfl (by kernel_rfl) (Want.no rfl rfl rfl rfl) rfl (ltN rfl) ?_
     refine Dw.pure (i := 15) rfl (by kernel_rfl) (Want.none rfl) rfl (ltN rfl) (QP.pick_t rfl rfl rfl) ?_
     refine Dw.eff (i := 16) (by kernel_rfl) (by kernel_rfl) ?_
     refine One.mk (o := _) (l := []) rfl (by kernel_rfl) (Want.none rfl) rfl (ltN rfl) ((QP.assign rfl rfl).eff) (by kernel_rfl) ?_
     rintro _ _ ⟨rfl, rfl⟩
     refine ⟨fun _ h => (by cases h), ?_⟩
     refine Dw.nil (by kernel_rfl) ?_
     refine hk22 _ _ ?_
     refine Run.region ?_
     show Sq _ _ _ [0, 1, 2] _ _ _ _
     refine Sq.quiet (i := 0) rfl (Want.none rfl) rfl (ltN rfl) (QP.move rfl rfl).read ?_
     refine Sq.quiet (i := 1) rfl (Want.none rfl) rfl (ltN rfl) (QP.add64 rfl rfl rfl (by first | omega | (simp <;> omega)) (by first | omega | (simp <;> omega))).read ?_
     refine Sq.quiet (i := 2) rfl (Want.none rfl) rfl (ltN rfl) (QP.assign rfl rfl).read ?_
     refine Sq.nil ?_
     exact J.envJ (J.keep (.cons (by repeat constructor) (.cons (by repeat constructor) (.cons (by repeat constructor) (.cons (by repeat constructor) Takes.nil)))) (hl19 (k + 1) (true) (⟨by omega, by rw [in_succ hu]; rw [c30] at hin; rw [← Bool.or_assoc, ← hin]; rfl⟩) (by omega))) ⟨rfl, rfl, rfl, rfl, rfl, rfl, rfl, rfl, trivial⟩
    ·skip
     refine Dw.pure (i := 1) rfl (by kernel_rfl) (Want.none rfl) rfl (ltN rfl) (QP.move rfl rfl) ?_
     refine Dw.pure (i := 2) rfl (by kernel_rfl) (Want.yes rfl rfl rfl rfl) rfl (ltN rfl) (QP.move rfl rfl) ?_
     refine Dw.pure (i := 3) rfl (by kernel_rfl) (Want.yes rfl rfl rfl rfl) rfl (ltN rfl) (QP.move rfl rfl) ?_
     refine Dw.pure (i := 4) rfl (by kernel_rfl) (Want.yes rfl rfl rfl rfl) rfl (ltN rfl) (QP.indexAddr rfl rfl rfl Try.underlying89 z28 (by first | omega | (simp <;> omega)) (by first | omega | (simp <;> omega))) ?_
     refine Dw.read (i := 5) rfl (by kernel_rfl) (Want.yes rfl rfl rfl rfl) rfl (ltN rfl) (QR.loadSl rfl rfl g28 Bs.len (hs0 _) hu) ?_
     refine Dw.pure (i := 6) rfl (by kernel_rfl) (Want.yes rfl rfl rfl rfl) rfl (ltN rfl) (QP.move rfl rfl) ?_
     refine Dw.pure (i := 7) rfl (by kernel_rfl) (Want.yes rfl rfl rfl rfl) rfl (ltN rfl) (QP.nilCheck rfl rfl) ?_
     refine Dw.pure (i := 8) rfl (by kernel_rfl) (Want.yes rfl rfl rfl rfl) rfl (ltN rfl) (QP.fieldAddr rfl rfl f57_1) ?_
     refine Dw.read (i := 9) rfl (by kernel_rfl) (Want.yes rfl rfl rfl rfl) rfl (ltN rfl) (QR.load1 (v := .slice _ L.length _) rfl rfl g46 (Ref16Table.sub_l _)) ?_
     refine Dw.pure (i := 10) rfl (by kernel_rfl) (Want.yes rfl rfl rfl rfl) rfl (ltN rfl) (QP.move rfl rfl) ?_
     refine Dw.pure (i := 11) rfl (by kernel_rfl) (Want.yes rfl rfl rfl rfl) rfl (ltN rfl) (QP.indexAddr rfl rfl rfl Try.underlying46 z37 (by first | omega | (simp <;> omega)) (by first | omega | (simp <;> omega))) ?_
     refine Dw.pure (i := 12) rfl (by kernel_rfl) (Want.yes rfl rfl rfl rfl) rfl (ltN rfl) (QP.fieldAddr rfl rfl f37_2) ?_
     refine Dw.read (i := 13) rfl (by kernel_rfl) (Want.yes rfl rfl rfl rfl) rfl (ltN rfl) (QR.loadSlF rfl rfl g28 Route.enc_len (SlAt.own Route.enc_len (by repeat constructor)) hi (Route.sub_from_ _)) ?_
     refine Dw.pure (i := 14) rfl (by kernel_rfl) (Want.yes rfl rfl rfl rfl) rfl (ltN rfl) (QP.eql_agg eq28 rfl rfl rfl) ?_
     refine J.caseD (fun c44 => ?_) (fun c44 => ?_)
     ·skip
      refine Dw.pure (i := 15) rfl (by kernel_rfl) (Want.none rfl) rfl (ltN rfl) (QP.pick_f rfl rfl rfl) ?_
      refine Dw.eff (i := 16) (by kernel_rfl) (by kernel_rfl) ?_
      refine One.mk (o := _) (l := []) rfl (by kernel_rfl) (Want.none rfl) rfl (ltN rfl) ((QP.assign rfl rfl).eff) (by kernel_rfl) ?_
      rintro _ _ ⟨rfl, rfl⟩
      refine ⟨fun _ h => (by cases h), ?_⟩
      refine Dw.nil (by kernel_rfl) ?_
      refine hk22 _ _ ?_
      refine Run.region ?_
      show Sq _ _ _ [0, 1, 2] _ _ _ _
      refine Sq.quiet (i := 0) rfl (Want.none rfl) rfl (ltN rfl) (QP.move rfl rfl).read ?_
      refine Sq.quiet (i := 1) rfl (Want.none rfl) rfl (ltN rfl) (QP.add64 rfl rfl rfl (by first | omega | (simp <;> omega)) (by first | omega | (simp <;> omega))).read ?_
      refine Sq.quiet (i := 2) rfl (Want.none rfl) rfl (ltN rfl) (QP.assign rfl rfl).read ?_
      refine Sq.nil ?_
      exact J.envJ (J.keep (.cons (by repeat constructor) (.cons (by repeat constructor) (.cons (by repeat constructor) (.cons (by repeat constructor) Takes.nil)))) (hl19 (k + 1) (true) (⟨by omega, by rw [in_succ hu]; rw [c30] at hin; rw [← Bool.or_assoc, ← hin]; simp [c44]⟩) (by omega))) ⟨rfl, rfl, rfl, rfl, rfl, rfl, rfl, rfl, trivial⟩
     ·skip
      refine Dw.pure (i := 15) rfl (by kernel_rfl) (Want.none rfl) rfl (ltN rfl) (QP.pick_f rfl rfl rfl) ?_
      refine Dw.eff (i := 16) (by kernel_rfl) (by kernel_rfl) ?_
      refine One.mk (o := _) (l := []) rfl (by kernel_rfl) (Want.none rfl) rfl (ltN rfl) ((QP.assign rfl rfl).eff) (by kernel_rfl) ?_
      rintro _ _ ⟨rfl, rfl⟩
      refine ⟨fun _ h => (by cases h), ?_⟩
      refine Dw.nil (by kernel_rfl) ?_
      refine hk22 _ _ ?_
      refine Run.region ?_
      show Sq _ _ _ [0, 1, 2] _ _ _ _
      refine Sq.quiet (i := 0) rfl (Want.none rfl) rfl (ltN rfl) (QP.move rfl rfl).read ?_
      refine Sq.quiet (i := 1) rfl (Want.none rfl) rfl (ltN rfl) (QP.add64 rfl rfl rfl (by first | omega | (simp <;> omega)) (by first | omega | (simp <;> omega))).read ?_
      refine Sq.quiet (i := 2) rfl (Want.none rfl) rfl (ltN rfl) (QP.assign rfl rfl).read ?_
      refine Sq.nil ?_
      exact J.envJ (J.keep (.cons (by repeat constructor) (.cons (by repeat constructor) (.cons (by repeat constructor) (.cons (by repeat constructor) Takes.nil)))) (hl19 (k + 1) (false) (⟨by omega, by rw [in_succ hu]; rw [c30] at hin; rw [← Bool.or_assoc, ← hin]; simp [c44]⟩) (by omega))) ⟨rfl, rfl, rfl, rfl, rfl, rfl, rfl, rfl, trivial⟩
   ·skip
    refine Sq.nil ?_
    refine hk21 _ _ ?_
    refine Run.cond_f rfl ?_
    refine Run.exit rfl ?_
    refine hk17 _ _ ?_
    refine Run.seq fun k23 hk23 => ?_
    refine Run.region ?_
    show Sq _ _ _ [0, 1, 2, 3, 4, 5, 6, 7, 8, 9, 10, 11, 12] _ _ _ _
    rw [List.take_of_length_le (show xs.length ≤ k by omega)] at hin
    refine Sq.quiet (i := 0) rfl (Want.none rfl) rfl (ltN rfl) (QP.move rfl rfl).read ?_
    refine Sq.quiet (i := 1) rfl (Want.none rfl) rfl (ltN rfl) (QP.nilCheck rfl rfl).read ?_
    refine Sq.quiet (i := 2) rfl (Want.none rfl) rfl (ltN rfl) (QP.fieldAddr rfl rfl f57_1).read ?_
    refine Sq.quiet (i := 3) rfl (Want.none rfl) rfl (ltN rfl) (QR.load1 (v := .slice _ L.length _) rfl rfl g46 (Ref16Table.sub_l _)) ?_
    refine Sq.quiet (i := 4) rfl (Want.none rfl) rfl (ltN rfl) (QP.move rfl rfl).read ?_
    refine Sq.quiet (i := 5) rfl (Want.none rfl) rfl (ltN rfl) (QP.indexAddr rfl rfl rfl Try.underlying46 z37 (by first | omega | (simp <;> omega)) (by first | omega | (simp <;> omega))).read ?_
    refine Sq.quiet (i := 6) rfl (Want.none rfl) rfl (ltN rfl) (QP.fieldAddr rfl rfl f37_1).read ?_
    refine Sq.quiet (i := 7) rfl (Want.none rfl) rfl (ltN rfl) (QR.loadSlF1 rfl rfl g3 Route.enc_len (SlAt.own Route.enc_len (by repeat constructor)) hi (Route.sub_if_ _)) ?_
    refine Sq.quiet (i := 8) rfl (Want.none rfl) rfl (ltN rfl) (QP.move rfl rfl).read ?_
    refine Sq.quiet (i := 9) rfl (Want.none rfl) rfl (ltN rfl) (QP.eql rfl rfl rfl).read ?_
    refine J.caseD (fun c55 => ?_) (fun c55 => ?_)
    ·skip
     refine Sq.quiet (i := 10) rfl (Want.none rfl) rfl (ltN rfl) (QP.move rfl rfl).read ?_
     refine Sq.quiet (i := 11) rfl (Want.yes rfl rfl rfl rfl) rfl (ltN rfl) (QP.move rfl rfl).read ?_
     refine J.caseB (fun c57 => ?_) (fun c57 => ?_)
     ·skip
      refine Sq.quiet (i := 12) rfl (Want.none rfl) rfl (ltN rfl) (QP.pick_t rfl rfl rfl).read ?_
      refine Sq.nil ?_
      refine hk23 _ _ ?_
      refine Run.cond_t rfl ?_
      refine Run.region ?_
      show Sq _ _ _ [0, 1, 2, 3, 4, 5, 6, 7, 8, 9, 10] _ _ _ _
      refine Sq.quiet (i := 0) rfl (Want.none rfl) rfl (ltN rfl) (QP.move rfl rfl).read ?_
      refine Sq.quiet (i := 1) rfl (Want.none rfl) rfl (ltN rfl) (QP.move rfl rfl).read ?_
      refine Sq.quiet (i := 2) rfl (Want.none rfl) rfl (ltN rfl) (QP.nilCheck rfl rfl).read ?_
      refine Sq.quiet (i := 3) rfl (Want.none rfl) rfl (ltN rfl) (QP.fieldAddr rfl rfl f57_1).read ?_
      refine Sq.quiet (i := 4) rfl (Want.none rfl) rfl (ltN rfl) (QR.load1 (v := .slice _ L.length _) rfl rfl g46 (Ref16Table.sub_l _)) ?_
      refine Sq.quiet (i := 5) rfl (Want.none rfl) rfl (ltN rfl) (QP.move rfl rfl).read ?_
      refine Sq.quiet (i := 6) rfl (Want.none rfl) rfl (ltN rfl) (QP.indexAddr rfl rfl rfl Try.underlying46 z37 (by first | omega | (simp <;> omega)) (by first | omega | (simp <;> omega))).read ?_
      refine Sq.quiet (i := 7) rfl (Want.none rfl) rfl (ltN rfl) (QR.loadSl rfl rfl g37 Route.enc_len (SlAt.own Route.enc_len (by repeat constructor)) hi) ?_
      refine Sq.eff (i := 8) rfl (Want.none rfl) rfl (ltN rfl) (EF.buildSlice1 rfl Try.underlying46 z37 zero37 (by simp [Value.cells, Route.enc_len]) (by decide) rfl rfl (Route.enc_len _) (by decide)) ?_
      rintro _ _ ⟨b67, rfl, rfl⟩
      refine Sq.eff (i := 9) rfl (Want.none rfl) rfl (ltN rfl) (EF.append1 (xs := ((L.take i).filter (dropP j xs))) (s := x) el37 Route.enc_len Route.enc_cell rfl rfl rfl Try.underlying46 Try.underlying46 rfl rfl (by repeat constructor) (by repeat constructor) (by first | omega | (simp <;> omega))) ?_
      rintro sl68 _ rfl
      refine Sq.quiet (i := 10) rfl (Want.none rfl) rfl (ltN rfl) (QP.assign rfl rfl).read ?_
      refine Sq.nil ?_
      refine hk8 _ _ ?_
      refine Run.region ?_
      show Sq _ _ _ [0, 1, 2] _ _ _ _
      have hd : dropP j xs x = true := by simp_all [dropP]
      have hx1 := filter_succ (fun s => !dropP j xs s) hi
      have hx2 := filter_succ (dropP j xs) hi
      rw [hd] at hx1 hx2
      simp only [Bool.not_true, Bool.not_false, if_true, if_false, Bool.false_eq_true, List.append_nil] at hx1 hx2
      refine Sq.slEq (v := vl) (by repeat constructor) hx1.symm ?_
      refine Sq.slEq (v := sl68) (by repeat constructor) hx2.symm ?_
      refine Sq.quiet (i := 0) rfl (Want.none rfl) rfl (ltN rfl) (QP.move rfl rfl).read ?_
      refine Sq.quiet (i := 1) rfl (Want.none rfl) rfl (ltN rfl) (QP.add64 rfl rfl rfl (by first | omega | (simp <;> omega)) (by first | omega | (simp <;> omega))).read ?_
      refine Sq.quiet (i := 2) rfl (Want.none rfl) rfl (ltN rfl) (QP.assign rfl rfl).read ?_
      refine Sq.nil ?_
      exact J.envJ (J.keep (.cons (by repeat constructor) (.cons (by repeat constructor) (.cons (by repeat constructor) (.cons (by repeat constructor) Takes.nil)))) (hl5 (i + 1) (vl) (sl68) (by omega) (by omega))) ⟨rfl, rfl, rfl, rfl, rfl, rfl, trivial⟩
     ·skip
      refine Sq.quiet (i := 12) rfl (Want.none rfl) rfl (ltN rfl) (QP.pick_t rfl rfl rfl).read ?_
      refine Sq.nil ?_
      refine hk23 _ _ ?_
      refine Run.cond_f rfl ?_
      refine Run.region ?_
      show Sq _ _ _ [0, 1, 2, 3, 4, 5, 6, 7, 8, 9, 10] _ _ _ _
      refine Sq.quiet (i := 0) rfl (Want.none rfl) rfl (ltN rfl) (QP.move rfl rfl).read ?_
      refine Sq.quiet (i := 1) rfl (Want.none rfl) rfl (ltN rfl) (QP.move rfl rfl).read ?_
      refine Sq.quiet (i := 2) rfl (Want.none rfl) rfl (ltN rfl) (QP.nilCheck rfl rfl).read ?_
      refine Sq.quiet (i := 3) rfl (Want.none rfl) rfl (ltN rfl) (QP.fieldAddr rfl rfl f57_1).read ?_
      refine Sq.quiet (i := 4) rfl (Want.none rfl) rfl (ltN rfl) (QR.load1 (v := .slice _ L.length _) rfl rfl g46 (Ref16Table.sub_l _)) ?_
      refine Sq.quiet (i := 5) rfl (Want.none rfl) rfl (ltN rfl) (QP.move rfl rfl).read ?_
      refine Sq.quiet (i := 6) rfl (Want.none rfl) rfl (ltN rfl) (QP.indexAddr rfl rfl rfl Try.underlying46 z37 (by first | omega | (simp <;> omega)) (by first | omega | (simp <;> omega))).read ?_
      refine Sq.quiet (i := 7) rfl (Want.none rfl) rfl (ltN rfl) (QR.loadSl rfl rfl g37 Route.enc_len (SlAt.own Route.enc_len (by repeat constructor)) hi) ?_
      refine Sq.eff (i := 8) rfl (Want.none rfl) rfl (ltN rfl) (EF.buildSlice1 rfl Try.underlying46 z37 zero37 (by simp [Value.cells, Route.enc_len]) (by decide) rfl rfl (Route.enc_len _) (by decide)) ?_
      rintro _ _ ⟨b77, rfl, rfl⟩
      refine Sq.eff (i := 9) rfl (Want.none rfl) rfl (ltN rfl) (EF.append1 (xs := ((L.take i).filter fun s => !dropP j xs s)) (s := x) el37 Route.enc_len Route.enc_cell rfl rfl rfl Try.underlying46 Try.underlying46 rfl rfl (by repeat constructor) (by repeat constructor) (by first | omega | (simp <;> omega))) ?_
      rintro sl78 _ rfl
      refine Sq.quiet (i := 10) rfl (Want.none rfl) rfl (ltN rfl) (QP.assign rfl rfl).read ?_
      refine Sq.nil ?_
      refine hk8 _ _ ?_
      refine Run.region ?_
      show Sq _ _ _ [0, 1, 2] _ _ _ _
      have hd : dropP j xs x = false := by simp_all [dropP]
      have hx1 := filter_succ (fun s => !dropP j xs s) hi
      have hx2 := filter_succ (dropP j xs) hi
      rw [hd] at hx1 hx2
      simp only [Bool.not_true, Bool.not_false, if_true, if_false, Bool.false_eq_true, List.append_nil] at hx1 hx2
      refine Sq.slEq (v := sl78) (by repeat constructor) hx1.symm ?_
      refine Sq.slEq (v := vg) (by repeat constructor) hx2.symm ?_
      refine Sq.quiet (i := 0) rfl (Want.none rfl) rfl (ltN rfl) (QP.move rfl rfl).read ?_
      refine Sq.quiet (i := 1) rfl (Want.none rfl) rfl (ltN rfl) (QP.add64 rfl rfl rfl (by first | omega | (simp <;> omega)) (by first | omega | (simp <;> omega))).read ?_
      refine Sq.quiet (i := 2) rfl (Want.none rfl) rfl (ltN rfl) (QP.assign rfl rfl).read ?_
      refine Sq.nil ?_
      exact J.envJ (J.keep (.cons (by repeat constructor) (.cons (by repeat constructor) (.cons (by repeat constructor) (.cons (by repeat constructor) Takes.nil)))) (hl5 (i + 1) (sl78) (vg) (by omega) (by omega))) ⟨rfl, rfl, rfl, rfl, rfl, rfl, trivial⟩
    ·skip
     refine Sq.quiet (i := 10) rfl (Want.none rfl) rfl (ltN rfl) (QP.move rfl rfl).read ?_
     refine Sq.skip (i := 11) rfl (Want.no rfl rfl rfl rfl) rfl (ltN rfl) ?_
     refine Sq.quiet (i := 12) rfl (Want.none rfl) rfl (ltN rfl) (QP.pick_f rfl rfl rfl).read ?_
     refine Sq.nil ?_
     refine hk23 _ _ ?_
     refine Run.cond_f rfl ?_
     refine Run.region ?_
     show Sq _ _ _ [0, 1, 2, 3, 4, 5, 6, 7, 8, 9, 10] _ _ _ _
     refine Sq.quiet (i := 0) rfl (Want.none rfl) rfl (ltN rfl) (QP.move rfl rfl).read ?_
     refine Sq.quiet (i := 1) rfl (Want.none rfl) rfl (ltN rfl) (QP.move rfl rfl).read ?_
     refine Sq.quiet (i := 2) rfl (Want.none rfl) rfl (ltN rfl) (QP.nilCheck rfl rfl).read ?_
     refine Sq.quiet (i := 3) rfl (Want.none rfl) rfl (ltN rfl) (QP.fieldAddr rfl rfl f57_1).read ?_
     refine Sq.quiet (i := 4) rfl (Want.none rfl) rfl (ltN rfl) (QR.load1 (v := .slice _ L.length _) rfl rfl g46 (Ref16Table.sub_l _)) ?_
     refine Sq.quiet (i := 5) rfl (Want.none rfl) rfl (ltN rfl) (QP.move rfl rfl).read ?_
     refine Sq.quiet (i := 6) rfl (Want.none rfl) rfl (ltN rfl) (QP.indexAddr rfl rfl rfl Try.underlying46 z37 (by first | omega | (simp <;> omega)) (by first | omega | (simp <;> omega))).read ?_
     refine Sq.quiet (i := 7) rfl (Want.none rfl) rfl (ltN rfl) (QR.loadSl rfl rfl g37 Route.enc_len (SlAt.own Route.enc_len (by repeat constructor)) hi) ?_
     refine Sq.eff (i := 8) rfl (Want.none rfl) rfl (ltN rfl) (EF.buildSlice1 rfl Try.underlying46 z37 zero37 (by simp [Value.cells, Route.enc_len]) (by decide) rfl rfl (Route.enc_len _) (by decide)) ?_
     rintro _ _ ⟨b77, rfl, rfl⟩
     refine Sq.eff (i := 9) rfl (Want.none rfl) rfl (ltN rfl) (EF.append1 (xs := ((L.take i).filter fun s => !dropP j xs s)) (s := x) el37 Route.enc_len Route.enc_cell rfl rfl rfl Try.underlying46 Try.underlying46 rfl rfl (by repeat constructor) (by repeat constructor) (by first | omega | (simp <;> omega))) ?_
     rintro sl78 _ rfl
     refine Sq.quiet (i := 10) rfl (Want.none rfl) rfl (ltN rfl) (QP.assign rfl rfl).read ?_
     refine Sq.nil ?_
     refine hk8 _ _ ?_
     refine Run.region ?_
     show Sq _ _ _ [0, 1, 2] _ _ _ _
     have hd : dropP j xs x = false := by simp_all [dropP]
     have hx1 := filter_succ (fun s => !dropP j xs s) hi
     have hx2 := filter_succ (dropP j xs) hi
     rw [hd] at hx1 hx2
     simp only [Bool.not_true, Bool.not_false, if_true, if_false, Bool.false_eq_true, List.append_nil] at hx1 hx2
     refine Sq.slEq (v := sl78) (by repeat constructor) hx1.symm ?_
     refine Sq.slEq (v := vg) (by repeat constructor) hx2.symm ?_
     refine Sq.quiet (i := 0) rfl (Want.none rfl) rfl (ltN rfl) (QP.move rfl rfl).read ?_
     refine Sq.quiet (i := 1) rfl (Want.none rfl) rfl (ltN rfl) (QP.add64 rfl rfl rfl (by first | omega | (simp <;> omega)) (by first | omega | (simp <;> omega))).read ?_
     refine Sq.quiet (i := 2) rfl (Want.none rfl) rfl (ltN rfl) (QP.assign rfl rfl).read ?_
     refine Sq.nil ?_
     exact J.envJ (J.keep (.cons (by repeat constructor) (.cons (by repeat constructor) (.cons (by repeat constructor) (.cons (by repeat constructor) Takes.nil)))) (hl5 (i + 1) (sl78) (vg) (by omega) (by omega))) ⟨rfl, rfl, rfl, rfl, rfl, rfl, trivial⟩
 ·skip
  refine Sq.nil ?_
  refine hk7 _ _ ?_
  refine Run.cond_f rfl ?_
  refine Run.exit rfl ?_
  refine hk3 _ _ ?_
  refine Run.seq fun k24 hk24 => ?_
  refine Run.region ?_
  show Sq _ _ _ [0, 1, 2, 3, 4] _ _ _ _
  have hil : i = L.length := by omega
  subst hil
  rw [List.take_length]
  refine Sq.slCase (v := vl) (xs := (L.filter fun s => !dropP j xs s)) (by repeat constructor) (fun av cv hv hhv => ?_)
  subst hv
  refine Sq.quiet (i := 0) rfl (Want.none rfl) rfl (ltN rfl) (QP.move rfl rfl).read ?_
  refine Sq.quiet (i := 1) rfl (Want.none rfl) rfl (ltN rfl) (QP.move rfl rfl).read ?_
  refine Sq.quiet (i := 2) rfl (Want.none rfl) rfl (ltN rfl) (QP.nilCheck rfl rfl).read ?_
  refine Sq.quiet (i := 3) rfl (Want.none rfl) rfl (ltN rfl) (QP.fieldAddr rfl rfl f57_1).read ?_
  refine Sq.act (i := 4) rfl (Want.none rfl) rfl (EF.store rfl rfl rfl z46 (Ref16Table.set_l _ ⟨av, _, cv⟩) (cell_one rfl)) ?_
  rintro _ _ rfl
  refine Sq.nil ?_
  refine hk24 _ _ ?_
  refine Run.seq fun k25 hk25 => ?_
  refine Run.region ?_
  show Sq _ _ _ [0, 1] _ _ _ _
  refine Sq.quiet (i := 0) rfl (Want.none rfl) rfl (ltN rfl) (QP.move rfl rfl).read ?_
  refine Sq.quiet (i := 1) rfl (Want.none rfl) rfl (ltN rfl) (QP.assign rfl rfl).read ?_
  refine Sq.nil ?_
  refine hk25 _ _ ?_
  refine Run.ret ?_
  exact J.ends (res_tmp rfl rfl) (.cons (by repeat constructor) (.cons (by repeat constructor) (.cons (by repeat constructor) Takes.nil))) ⟨_, _, hhv, rfl⟩

theorem before_all {L : List Route} (hs : L.Pairwise fun a b => cmpRoute a b < 0) {j : Nat} {x nw : Route} (h0 : 0 < j) (hi : L[Int.toNat ((j : Int) - 1)]? = some x) (hx : ¬ 0 < cmpRoute x nw) (hne : keyR x ≠ keyR nw) : ∀ y ∈ L.take j, cmpRoute y nw < 0 := by
  have hxn : cmpRoute x nw < 0 := by
    have h1 : cmpRoute x nw ≠ 0 := fun h => hne ((keyCmpR.zero _ _).1 h)
    omega
  have hj : Int.toNat ((j : Int) - 1) = j - 1 := by omega
  rw [hj] at hi
  have hlt : j - 1 < L.length := (List.getElem?_eq_some_iff.1 hi).1
  have hL : L.take j = L.take (j - 1) ++ [x] := by
    have h1 : L.take (j - 1 + 1) = _ := List.take_add_one (l := L) (i := j - 1)
    rw [show j - 1 + 1 = j by omega, hi] at h1
    exact h1
  intro y hy
  have hs2 := hs.sublist (List.take_sublist j L)
  rw [hL] at hy hs2
  rcases List.mem_append.1 hy with hy | hy
  · rw [List.pairwise_append] at hs2
    exact keyCmpR.tr _ _ _ (hs2.2.2 y hy x (by simp)) hxn
  · simp at hy; subst hy; exact hxn
theorem behind_more {L : List Route} {j : Nat} {x nw : Route} (h0 : 0 < j) (hi : L[Int.toNat ((j : Int) - 1)]? = some x) (hx : 0 < cmpRoute x nw) (h : ∀ y ∈ L.drop j, 0 < cmpRoute y nw) : ∀ y ∈ L.drop (j - 1), 0 < cmpRoute y nw := by
  have hj : Int.toNat ((j : Int) - 1) = j - 1 := by omega
  rw [hj] at hi
  have hlt : j - 1 < L.length := (List.getElem?_eq_some_iff.1 hi).1
  intro y hy
  rw [List.drop_eq_getElem_cons hlt, show j - 1 + 1 = j by omega] at hy
  rcases List.mem_cons.1 hy with rfl | hy
  · have : L[j - 1] = x := (List.getElem?_eq_some_iff.1 hi).2
    rw [this]; exact hx
  · exact h y hy

/-- What the document's table becomes where a route is told. -/
def RTell (most : Int) (L : List Route) (now : Int) (x : Route) (ok : Bool) (a e : Int) (L' : List Route) : Prop :=
  (∃ (i : Nat) (s : Route), L[i]? = some s ∧ keyR s = keyR x ∧ a = (tellOld now s x ok).1 ∧ e = (tellOld now s x ok).2.1 ∧ L' = L.set i (tellOld now s x ok).2.2) ∨
  ((x.hold < 1 ∨ 2147483648 < x.hold) ∧ a = 0 ∧ e = 2 ∧ L' = L) ∨
  ((∀ s ∈ L, keyR s ≠ keyR x) ∧ a = (tellNew L.length most x ok).1 ∧ e = (tellNew L.length most x ok).2.1 ∧
    (((tellNew L.length most x ok).2.2 = false ∧ L' = L) ∨
     ((tellNew L.length most x ok).2.2 = true ∧ ∃ j, j ≤ L.length ∧ (∀ y ∈ L.take j, cmpRoute y (newR now x) < 0) ∧ (∀ y ∈ L.drop j, 0 < cmpRoute y (newR now x)) ∧ L' = L.take j ++ newR now x :: L.drop j)))
theorem cut_all {L : List Route} {j : Nat} (hj : j ≤ L.length) (n : Route) : (([] ++ (L.take j).drop 0) ++ [n]) ++ (L.take L.length).drop j = L.take j ++ n :: L.drop j := by simp
theorem rt_setR {b : Nat} {most : Int} {a : Option Addr} {c : Nat} {L : List Route} (i : Nat) (x : Route) : [blk b (Ref16Table.enc ⟨most, ⟨a, L.length, c⟩⟩) 57, slA 37 81 Route.enc (.slice a L.length c) (L.set i x)] = [blk b (Ref16Table.enc ⟨most, ⟨a, (L.set i x).length, c⟩⟩) 57, slA 37 81 Route.enc (.slice a (L.set i x).length c) (L.set i x)] := by rw [List.length_set]
theorem set_selfR {L : List Route} {i : Nat} {s : Route} (h : L[i]? = some s) : L.set i s = L := by
  have hi : i < L.length := (List.getElem?_eq_some_iff.1 h).1
  have hx : L[i] = s := (List.getElem?_eq_some_iff.1 h).2
  conv => lhs; rw [← hx]
  exact List.set_getElem_self hi

theorem idx_uniqR {L : List Route} (hs : L.Pairwise fun a b => cmpRoute a b < 0) {i j : Nat} {s t : Route} (hi : L[i]? = some s) (hj : L[j]? = some t) (hk : keyR s = keyR t) : i = j := by
  obtain ⟨h1, rfl⟩ := List.getElem?_eq_some_iff.1 hi
  obtain ⟨h2, rfl⟩ := List.getElem?_eq_some_iff.1 hj
  have hp := List.pairwise_iff_getElem.1 hs
  have z1 := (keyCmpR.zero _ _).2 hk
  have z2 := (keyCmpR.zero _ _).2 hk.symm
  rcases Nat.lt_trichotomy i j with h | h | h
  · have := hp i j h1 h2 h; omega
  · exact h
  · have := hp j i h2 h1 h; omega

theorem rtell_hold (F : Fr) {b : Nat} {most : Int} {a : Option Addr} {c : Nat} {L : List Route} (hh : SlH a c L) (hL : L.length ≤ 1000000) (hs : L.Pairwise fun a b => cmpRoute a b < 0) (hh0 : ∀ x ∈ L, 1 ≤ x.hold ∧ x.hold ≤ 2147483648) (now : Int) (hn0 : 0 ≤ now) (hn1 : now ≤ 2305843009213693952) (x : Route) (ok : Bool) (hbad : x.hold < 1 ∨ 2147483648 < x.hold)  : Spec Try.prog 39 #[.pointer (some ⟨b, 0, none⟩), .int .i64 now, .agg (Route.enc x).toArray, .bool ok] [blk b (Ref16Table.enc ⟨most, ⟨a, L.length, c⟩⟩) 57, slA 37 81 Route.enc (.slice a L.length c) L] F (fun v S => ∃ a2 c2, ∃ L2 : List Route, SlH a2 c2 L2 ∧ ∃ ta te, v = .tuple #[.int .i64 ta, .int .i64 te] ∧ RTell most L now x ok ta te L2 ∧ S = [blk b (Ref16Table.enc ⟨most, ⟨a2, L2.length, c2⟩⟩) 57, slA 37 81 Route.enc (.slice a2 L2.length c2) L2]) := by
 have hcle := hh.le
 refine Spec.intro (N := 173) (args := [.pointer (some ⟨b, 0, none⟩), .int .i64 now, .agg (Route.enc x).toArray, .bool ok]) Try.func39 rfl rfl (by simp) ?_
 refine Run.seq fun k1 hk1 => ?_
 refine Run.region ?_
 show Sq _ _ _ [0, 1, 2] _ _ _ _
 refine Sq.eff (i := 0) rfl (Want.none rfl) rfl (ltN rfl) (EF.boxA rfl rfl) ?_
 rintro _ _ ⟨b6, rfl, rfl⟩
 refine Sq.quiet (i := 1) rfl (Want.none rfl) rfl (ltN rfl) (QP.assign rfl rfl).read ?_
 refine Sq.quiet (i := 2) rfl (Want.none rfl) rfl (ltN rfl) (QP.assign rfl rfl).read ?_
 refine Sq.nil ?_
 refine hk1 _ _ ?_
 refine Run.seq fun k2 hk2 => ?_
 refine Run.seq fun k3 hk3 => ?_
 refine Run.region ?_
 show Sq _ _ _ [0, 1, 2, 3, 4, 5, 6, 7] _ _ _ _
 refine Sq.quiet (i := 0) rfl (Want.none rfl) rfl (ltN rfl) (QP.fieldAddr rfl rfl f37_9).read ?_
 refine Sq.quiet (i := 1) rfl (Want.none rfl) rfl (ltN rfl) (QR.load1 rfl rfl g3 (Route.sub_hold _)) ?_
 refine Sq.quiet (i := 2) rfl (Want.none rfl) rfl (ltN rfl) (QP.lss rfl rfl rfl).read ?_
 refine J.caseD (fun c15 => ?_) (fun c15 => ?_)
 ·skip
  refine Sq.quiet (i := 3) rfl (Want.none rfl) rfl (ltN rfl) (QP.move rfl rfl).read ?_
  refine Sq.skip (i := 4) rfl (Want.no rfl rfl rfl rfl) rfl (ltN rfl) ?_
  refine Sq.skip (i := 5) rfl (Want.no rfl rfl rfl rfl) rfl (ltN rfl) ?_
  refine Sq.skip (i := 6) rfl (Want.no rfl rfl rfl rfl) rfl (ltN rfl) ?_
  refine Sq.quiet (i := 7) rfl (Want.none rfl) rfl (ltN rfl) (QP.pick_t rfl rfl rfl).read ?_
  refine Sq.nil ?_
  refine hk3 _ _ ?_
  refine Run.cond_t rfl ?_
  refine Run.seq fun k4 hk4 => ?_
  refine Run.region ?_
  show Sq _ _ _ [0, 1] _ _ _ _
  refine Sq.quiet (i := 0) rfl (Want.none rfl) rfl (ltN rfl) (QP.assign rfl rfl).read ?_
  refine Sq.quiet (i := 1) rfl (Want.none rfl) rfl (ltN rfl) (QP.assign rfl rfl).read ?_
  refine Sq.nil ?_
  refine hk4 _ _ ?_
  refine Run.ret ?_
  exact J.ends (res_tmp2 rfl rfl rfl) (.cons (by repeat constructor) (.cons (by repeat constructor) Takes.nil)) ⟨_, _, _, hh, 0, 2, rfl, .inr (.inl ⟨hbad, rfl, rfl, rfl⟩), rfl⟩
 ·skip
  refine Sq.quiet (i := 3) rfl (Want.none rfl) rfl (ltN rfl) (QP.move rfl rfl).read ?_
  refine Sq.quiet (i := 4) rfl (Want.yes rfl rfl rfl rfl) rfl (ltN rfl) (QP.fieldAddr rfl rfl f37_9).read ?_
  refine Sq.quiet (i := 5) rfl (Want.yes rfl rfl rfl rfl) rfl (ltN rfl) (QR.load1 rfl rfl g3 (Route.sub_hold _)) ?_
  refine Sq.quiet (i := 6) rfl (Want.yes rfl rfl rfl rfl) rfl (ltN rfl) (QP.gtr rfl rfl rfl).read ?_
  refine J.decT (by omega) ?_
  refine Sq.quiet (i := 7) rfl (Want.none rfl) rfl (ltN rfl) (QP.pick_f rfl rfl rfl).read ?_
  refine Sq.nil ?_
  refine hk3 _ _ ?_
  refine Run.cond_t rfl ?_
  refine Run.seq fun k5 hk5 => ?_
  refine Run.region ?_
  show Sq _ _ _ [0, 1] _ _ _ _
  refine Sq.quiet (i := 0) rfl (Want.none rfl) rfl (ltN rfl) (QP.assign rfl rfl).read ?_
  refine Sq.quiet (i := 1) rfl (Want.none rfl) rfl (ltN rfl) (QP.assign rfl rfl).read ?_
  refine Sq.nil ?_
  refine hk5 _ _ ?_
  refine Run.ret ?_
  exact J.ends (res_tmp2 rfl rfl rfl) (.cons (by repeat constructor) (.cons (by repeat constructor) Takes.nil)) ⟨_, _, _, hh, 0, 2, rfl, .inr (.inl ⟨hbad, rfl, rfl, rfl⟩), rfl⟩

theorem rtell_ign1 (F : Fr) {b : Nat} {most : Int} {a : Option Addr} {c : Nat} {L : List Route} (hh : SlH a c L) (hL : L.length ≤ 1000000) (hs : L.Pairwise fun a b => cmpRoute a b < 0) (hh0 : ∀ x ∈ L, 1 ≤ x.hold ∧ x.hold ≤ 2147483648) (now : Int) (hn0 : 0 ≤ now) (hn1 : now ≤ 2305843009213693952) (x : Route) (ok : Bool) (hbnd : 1 ≤ x.hold ∧ x.hold ≤ 2147483648) (hno : ∀ s ∈ L, keyR s ≠ keyR x) (c34 : x.ref = 65535)  : Spec Try.prog 39 #[.pointer (some ⟨b, 0, none⟩), .int .i64 now, .agg (Route.enc x).toArray, .bool ok] [blk b (Ref16Table.enc ⟨most, ⟨a, L.length, c⟩⟩) 57, slA 37 81 Route.enc (.slice a L.length c) L] F (fun v S => ∃ a2 c2, ∃ L2 : List Route, SlH a2 c2 L2 ∧ ∃ ta te, v = .tuple #[.int .i64 ta, .int .i64 te] ∧ RTell most L now x ok ta te L2 ∧ S = [blk b (Ref16Table.enc ⟨most, ⟨a2, L2.length, c2⟩⟩) 57, slA 37 81 Route.enc (.slice a2 L2.length c2) L2]) := by
 have hcle := hh.le
 refine Spec.intro (N := 173) (args := [.pointer (some ⟨b, 0, none⟩), .int .i64 now, .agg (Route.enc x).toArray, .bool ok]) Try.func39 rfl rfl (by simp) ?_
 refine Run.seq fun k1 hk1 => ?_
 refine Run.region ?_
 show Sq _ _ _ [0, 1, 2] _ _ _ _
 refine Sq.eff (i := 0) rfl (Want.none rfl) rfl (ltN rfl) (EF.boxA rfl rfl) ?_
 rintro _ _ ⟨b6, rfl, rfl⟩
 refine Sq.quiet (i := 1) rfl (Want.none rfl) rfl (ltN rfl) (QP.assign rfl rfl).read ?_
 refine Sq.quiet (i := 2) rfl (Want.none rfl) rfl (ltN rfl) (QP.assign rfl rfl).read ?_
 refine Sq.nil ?_
 refine hk1 _ _ ?_
 refine Run.seq fun k2 hk2 => ?_
 refine Run.seq fun k3 hk3 => ?_
 refine Run.region ?_
 show Sq _ _ _ [0, 1, 2, 3, 4, 5, 6, 7] _ _ _ _
 refine Sq.quiet (i := 0) rfl (Want.none rfl) rfl (ltN rfl) (QP.fieldAddr rfl rfl f37_9).read ?_
 refine Sq.quiet (i := 1) rfl (Want.none rfl) rfl (ltN rfl) (QR.load1 rfl rfl g3 (Route.sub_hold _)) ?_
 refine Sq.quiet (i := 2) rfl (Want.none rfl) rfl (ltN rfl) (QP.lss rfl rfl rfl).read ?_
 refine J.decF (by omega) ?_
 refine Sq.quiet (i := 3) rfl (Want.none rfl) rfl (ltN rfl) (QP.move rfl rfl).read ?_
 refine Sq.quiet (i := 4) rfl (Want.yes rfl rfl rfl rfl) rfl (ltN rfl) (QP.fieldAddr rfl rfl f37_9).read ?_
 refine Sq.quiet (i := 5) rfl (Want.yes rfl rfl rfl rfl) rfl (ltN rfl) (QR.load1 rfl rfl g3 (Route.sub_hold _)) ?_
 refine Sq.quiet (i := 6) rfl (Want.yes rfl rfl rfl rfl) rfl (ltN rfl) (QP.gtr rfl rfl rfl).read ?_
 refine J.decF (by omega) ?_
 refine Sq.quiet (i := 7) rfl (Want.none rfl) rfl (ltN rfl) (QP.pick_f rfl rfl rfl).read ?_
 refine Sq.nil ?_
 refine hk3 _ _ ?_
 refine Run.cond_f rfl ?_
 refine Run.skip ?_
 refine hk2 _ _ ?_
 refine Run.seq fun k4 hk4 => ?_
 refine Run.region ?_
 show Sq _ _ _ [0, 1, 2, 3, 4, 5, 6, 7, 8] _ _ _ _
 refine Sq.quiet (i := 0) rfl (Want.none rfl) rfl (ltN rfl) (QP.move rfl rfl).read ?_
 refine Sq.quiet (i := 1) rfl (Want.none rfl) rfl (ltN rfl) (QP.fieldAddr rfl rfl f37_0).read ?_
 refine Sq.quiet (i := 2) rfl (Want.none rfl) rfl (ltN rfl) (QR.load rfl rfl g32 (Route.sub_pair _)) ?_
 refine Sq.quiet (i := 3) rfl (Want.none rfl) rfl (ltN rfl) (QP.fieldAddr rfl rfl f37_1).read ?_
 refine Sq.quiet (i := 4) rfl (Want.none rfl) rfl (ltN rfl) (QR.load1 rfl rfl g3 (Route.sub_if_ _)) ?_
 refine Sq.quiet (i := 5) rfl (Want.none rfl) rfl (ltN rfl) (QP.fieldAddr rfl rfl f37_2).read ?_
 refine Sq.quiet (i := 6) rfl (Want.none rfl) rfl (ltN rfl) (QR.load rfl rfl g28 (Route.sub_from_ _)) ?_
 refine Sq.eff (i := 7) rfl (Want.none rfl) rfl (ltN rfl) (EF.call rfl ce21 rfl (.cons (by repeat constructor) (.cons (by repeat constructor) Takes.nil)) (fun F' hle hr => rfind_spec F' hh hL x.pair x.if_ x.from_)) ?_
 rintro _ _ ⟨_, ⟨rfl, n28, rfl, hfind⟩, rfl⟩
 refine J.app ?_
 refine Sq.quiet (i := 8) rfl (Want.none rfl) rfl (ltN rfl) (QP.assign rfl rfl).read ?_
 refine Sq.nil ?_
 refine hk4 _ _ ?_
 refine Run.seq fun k5 hk5 => ?_
 refine Run.seq fun k6 hk6 => ?_
 refine Run.region ?_
 show Sq _ _ _ [0, 1] _ _ _ _
 refine Sq.quiet (i := 0) rfl (Want.none rfl) rfl (ltN rfl) (QP.move rfl rfl).read ?_
 refine Sq.quiet (i := 1) rfl (Want.none rfl) rfl (ltN rfl) (QP.lss rfl rfl rfl).read ?_
 refine J.decT (by rcases hfind with ⟨h1, _⟩ | ⟨i, s, h1, h2, h3⟩ <;> first | omega | exact absurd h3 (hno s (List.mem_of_getElem? h2))) ?_
 refine Sq.nil ?_
 refine hk6 _ _ ?_
 refine Run.cond_t rfl ?_
 refine Run.seq fun k7 hk7 => ?_
 refine Run.block ?_
 refine Run.seq fun k8 hk8 => ?_
 refine Run.region ?_
 show Sq _ _ _ [0, 1, 2, 3, 4, 5, 6, 7] _ _ _ _
 refine Sq.quiet (i := 0) rfl (Want.none rfl) rfl (ltN rfl) (QP.fieldAddr rfl rfl f37_5).read ?_
 refine Sq.quiet (i := 1) rfl (Want.none rfl) rfl (ltN rfl) (QR.load1 rfl rfl g35 (Route.sub_ref _)) ?_
 refine Sq.quiet (i := 2) rfl (Want.none rfl) rfl (ltN rfl) (QP.eql rfl rfl rfl).read ?_
 refine J.decT (c34) ?_
 refine Sq.quiet (i := 3) rfl (Want.none rfl) rfl (ltN rfl) (QP.move rfl rfl).read ?_
 refine Sq.skip (i := 4) rfl (Want.no rfl rfl rfl rfl) rfl (ltN rfl) ?_
 refine Sq.skip (i := 5) rfl (Want.no rfl rfl rfl rfl) rfl (ltN rfl) ?_
 refine Sq.quiet (i := 6) rfl (Want.none rfl) rfl (ltN rfl) (QP.pick_t rfl rfl rfl).read ?_
 refine Sq.quiet (i := 7) rfl (Want.none rfl) rfl (ltN rfl) (QP.assign rfl rfl).read ?_
 refine Sq.nil ?_
 refine hk8 _ _ ?_
 refine Run.cond_t rfl ?_
 refine Run.seq fun k9 hk9 => ?_
 refine Run.region ?_
 show Sq _ _ _ [0, 1] _ _ _ _
 have htn : tellNew L.length most x ok = (3, 0, false) := by unfold tellNew; rw [if_neg (show ¬ (x.hold < 1 ∨ 2147483648 < x.hold) from by omega), if_pos (show x.ref = 65535 ∨ ok = false from .inl c34)]
 refine Sq.quiet (i := 0) rfl (Want.none rfl) rfl (ltN rfl) (QP.assign rfl rfl).read ?_
 refine Sq.quiet (i := 1) rfl (Want.none rfl) rfl (ltN rfl) (QP.assign rfl rfl).read ?_
 refine Sq.nil ?_
 refine hk9 _ _ ?_
 refine Run.ret ?_
 exact J.ends (res_tmp2 rfl rfl rfl) (.cons (by repeat constructor) (.cons (by repeat constructor) Takes.nil)) ⟨_, _, _, hh, 3, 0, rfl, .inr (.inr ⟨hno, by rw [htn], by rw [htn], .inl ⟨by rw [htn], rfl⟩⟩), rfl⟩

theorem rtell_ign2 (F : Fr) {b : Nat} {most : Int} {a : Option Addr} {c : Nat} {L : List Route} (hh : SlH a c L) (hL : L.length ≤ 1000000) (hs : L.Pairwise fun a b => cmpRoute a b < 0) (hh0 : ∀ x ∈ L, 1 ≤ x.hold ∧ x.hold ≤ 2147483648) (now : Int) (hn0 : 0 ≤ now) (hn1 : now ≤ 2305843009213693952) (x : Route) (ok : Bool) (hbnd : 1 ≤ x.hold ∧ x.hold ≤ 2147483648) (hno : ∀ s ∈ L, keyR s ≠ keyR x) (c34 : ¬ x.ref = 65535) (c36 : ok = false)  : Spec Try.prog 39 #[.pointer (some ⟨b, 0, none⟩), .int .i64 now, .agg (Route.enc x).toArray, .bool ok] [blk b (Ref16Table.enc ⟨most, ⟨a, L.length, c⟩⟩) 57, slA 37 81 Route.enc (.slice a L.length c) L] F (fun v S => ∃ a2 c2, ∃ L2 : List Route, SlH a2 c2 L2 ∧ ∃ ta te, v = .tuple #[.int .i64 ta, .int .i64 te] ∧ RTell most L now x ok ta te L2 ∧ S = [blk b (Ref16Table.enc ⟨most, ⟨a2, L2.length, c2⟩⟩) 57, slA 37 81 Route.enc (.slice a2 L2.length c2) L2]) := by
 have hcle := hh.le
 refine Spec.intro (N := 173) (args := [.pointer (some ⟨b, 0, none⟩), .int .i64 now, .agg (Route.enc x).toArray, .bool ok]) Try.func39 rfl rfl (by simp) ?_
 refine Run.seq fun k1 hk1 => ?_
 refine Run.region ?_
 show Sq _ _ _ [0, 1, 2] _ _ _ _
 refine Sq.eff (i := 0) rfl (Want.none rfl) rfl (ltN rfl) (EF.boxA rfl rfl) ?_
 rintro _ _ ⟨b6, rfl, rfl⟩
 refine Sq.quiet (i := 1) rfl (Want.none rfl) rfl (ltN rfl) (QP.assign rfl rfl).read ?_
 refine Sq.quiet (i := 2) rfl (Want.none rfl) rfl (ltN rfl) (QP.assign rfl rfl).read ?_
 refine Sq.nil ?_
 refine hk1 _ _ ?_
 refine Run.seq fun k2 hk2 => ?_
 refine Run.seq fun k3 hk3 => ?_
 refine Run.region ?_
 show Sq _ _ _ [0, 1, 2, 3, 4, 5, 6, 7] _ _ _ _
 refine Sq.quiet (i := 0) rfl (Want.none rfl) rfl (ltN rfl) (QP.fieldAddr rfl rfl f37_9).read ?_
 refine Sq.quiet (i := 1) rfl (Want.none rfl) rfl (ltN rfl) (QR.load1 rfl rfl g3 (Route.sub_hold _)) ?_
 refine Sq.quiet (i := 2) rfl (Want.none rfl) rfl (ltN rfl) (QP.lss rfl rfl rfl).read ?_
 refine J.decF (by omega) ?_
 refine Sq.quiet (i := 3) rfl (Want.none rfl) rfl (ltN rfl) (QP.move rfl rfl).read ?_
 refine Sq.quiet (i := 4) rfl (Want.yes rfl rfl rfl rfl) rfl (ltN rfl) (QP.fieldAddr rfl rfl f37_9).read ?_
 refine Sq.quiet (i := 5) rfl (Want.yes rfl rfl rfl rfl) rfl (ltN rfl) (QR.load1 rfl rfl g3 (Route.sub_hold _)) ?_
 refine Sq.quiet (i := 6) rfl (Want.yes rfl rfl rfl rfl) rfl (ltN rfl) (QP.gtr rfl rfl rfl).read ?_
 refine J.decF (by omega) ?_
 refine Sq.quiet (i := 7) rfl (Want.none rfl) rfl (ltN rfl) (QP.pick_f rfl rfl rfl).read ?_
 refine Sq.nil ?_
 refine hk3 _ _ ?_
 refine Run.cond_f rfl ?_
 refine Run.skip ?_
 refine hk2 _ _ ?_
 refine Run.seq fun k4 hk4 => ?_
 refine Run.region ?_
 show Sq _ _ _ [0, 1, 2, 3, 4, 5, 6, 7, 8] _ _ _ _
 refine Sq.quiet (i := 0) rfl (Want.none rfl) rfl (ltN rfl) (QP.move rfl rfl).read ?_
 refine Sq.quiet (i := 1) rfl (Want.none rfl) rfl (ltN rfl) (QP.fieldAddr rfl rfl f37_0).read ?_
 refine Sq.quiet (i := 2) rfl (Want.none rfl) rfl (ltN rfl) (QR.load rfl rfl g32 (Route.sub_pair _)) ?_
 refine Sq.quiet (i := 3) rfl (Want.none rfl) rfl (ltN rfl) (QP.fieldAddr rfl rfl f37_1).read ?_
 refine Sq.quiet (i := 4) rfl (Want.none rfl) rfl (ltN rfl) (QR.load1 rfl rfl g3 (Route.sub_if_ _)) ?_
 refine Sq.quiet (i := 5) rfl (Want.none rfl) rfl (ltN rfl) (QP.fieldAddr rfl rfl f37_2).read ?_
 refine Sq.quiet (i := 6) rfl (Want.none rfl) rfl (ltN rfl) (QR.load rfl rfl g28 (Route.sub_from_ _)) ?_
 refine Sq.eff (i := 7) rfl (Want.none rfl) rfl (ltN rfl) (EF.call rfl ce21 rfl (.cons (by repeat constructor) (.cons (by repeat constructor) Takes.nil)) (fun F' hle hr => rfind_spec F' hh hL x.pair x.if_ x.from_)) ?_
 rintro _ _ ⟨_, ⟨rfl, n28, rfl, hfind⟩, rfl⟩
 refine J.app ?_
 refine Sq.quiet (i := 8) rfl (Want.none rfl) rfl (ltN rfl) (QP.assign rfl rfl).read ?_
 refine Sq.nil ?_
 refine hk4 _ _ ?_
 refine Run.seq fun k5 hk5 => ?_
 refine Run.seq fun k6 hk6 => ?_
 refine Run.region ?_
 show Sq _ _ _ [0, 1] _ _ _ _
 refine Sq.quiet (i := 0) rfl (Want.none rfl) rfl (ltN rfl) (QP.move rfl rfl).read ?_
 refine Sq.quiet (i := 1) rfl (Want.none rfl) rfl (ltN rfl) (QP.lss rfl rfl rfl).read ?_
 refine J.decT (by rcases hfind with ⟨h1, _⟩ | ⟨i, s, h1, h2, h3⟩ <;> first | omega | exact absurd h3 (hno s (List.mem_of_getElem? h2))) ?_
 refine Sq.nil ?_
 refine hk6 _ _ ?_
 refine Run.cond_t rfl ?_
 refine Run.seq fun k7 hk7 => ?_
 refine Run.block ?_
 refine Run.seq fun k8 hk8 => ?_
 refine Run.region ?_
 show Sq _ _ _ [0, 1, 2, 3, 4, 5, 6, 7] _ _ _ _
 refine Sq.quiet (i := 0) rfl (Want.none rfl) rfl (ltN rfl) (QP.fieldAddr rfl rfl f37_5).read ?_
 refine Sq.quiet (i := 1) rfl (Want.none rfl) rfl (ltN rfl) (QR.load1 rfl rfl g35 (Route.sub_ref _)) ?_
 refine Sq.quiet (i := 2) rfl (Want.none rfl) rfl (ltN rfl) (QP.eql rfl rfl rfl).read ?_
 refine J.decF (c34) ?_
 refine Sq.quiet (i := 3) rfl (Want.none rfl) rfl (ltN rfl) (QP.move rfl rfl).read ?_
 refine Sq.quiet (i := 4) rfl (Want.yes rfl rfl rfl rfl) rfl (ltN rfl) (QP.move rfl rfl).read ?_
 refine J.boolF (c36) ?_
 refine Sq.quiet (i := 5) rfl (Want.yes rfl rfl rfl rfl) rfl (ltN rfl) (QP.not rfl rfl).read ?_
 refine Sq.quiet (i := 6) rfl (Want.none rfl) rfl (ltN rfl) (QP.pick_f rfl rfl rfl).read ?_
 refine Sq.quiet (i := 7) rfl (Want.none rfl) rfl (ltN rfl) (QP.assign rfl rfl).read ?_
 refine Sq.nil ?_
 refine hk8 _ _ ?_
 refine Run.cond_t rfl ?_
 refine Run.seq fun k9 hk9 => ?_
 refine Run.region ?_
 show Sq _ _ _ [0, 1] _ _ _ _
 have htn : tellNew L.length most x ok = (3, 0, false) := by unfold tellNew; rw [if_neg (show ¬ (x.hold < 1 ∨ 2147483648 < x.hold) from by omega), if_pos (show x.ref = 65535 ∨ ok = false from .inr (by simpa using c36))]
 refine Sq.quiet (i := 0) rfl (Want.none rfl) rfl (ltN rfl) (QP.assign rfl rfl).read ?_
 refine Sq.quiet (i := 1) rfl (Want.none rfl) rfl (ltN rfl) (QP.assign rfl rfl).read ?_
 refine Sq.nil ?_
 refine hk9 _ _ ?_
 refine Run.ret ?_
 exact J.ends (res_tmp2 rfl rfl rfl) (.cons (by repeat constructor) (.cons (by repeat constructor) Takes.nil)) ⟨_, _, _, hh, 3, 0, rfl, .inr (.inr ⟨hno, by rw [htn], by rw [htn], .inl ⟨by rw [htn], rfl⟩⟩), rfl⟩

theorem rtell_full (F : Fr) {b : Nat} {most : Int} {a : Option Addr} {c : Nat} {L : List Route} (hh : SlH a c L) (hL : L.length ≤ 1000000) (hs : L.Pairwise fun a b => cmpRoute a b < 0) (hh0 : ∀ x ∈ L, 1 ≤ x.hold ∧ x.hold ≤ 2147483648) (now : Int) (hn0 : 0 ≤ now) (hn1 : now ≤ 2305843009213693952) (x : Route) (ok : Bool) (hbnd : 1 ≤ x.hold ∧ x.hold ≤ 2147483648) (hno : ∀ s ∈ L, keyR s ≠ keyR x) (c34 : ¬ x.ref = 65535) (c36 : ok = true) (c49 : (L.length : Int) ≥ most)  : Spec Try.prog 39 #[.pointer (some ⟨b, 0, none⟩), .int .i64 now, .agg (Route.enc x).toArray, .bool ok] [blk b (Ref16Table.enc ⟨most, ⟨a, L.length, c⟩⟩) 57, slA 37 81 Route.enc (.slice a L.length c) L] F (fun v S => ∃ a2 c2, ∃ L2 : List Route, SlH a2 c2 L2 ∧ ∃ ta te, v = .tuple #[.int .i64 ta, .int .i64 te] ∧ RTell most L now x ok ta te L2 ∧ S = [blk b (Ref16Table.enc ⟨most, ⟨a2, L2.length, c2⟩⟩) 57, slA 37 81 Route.enc (.slice a2 L2.length c2) L2]) := by
 have hcle := hh.le
 refine Spec.intro (N := 173) (args := [.pointer (some ⟨b, 0, none⟩), .int .i64 now, .agg (Route.enc x).toArray, .bool ok]) Try.func39 rfl rfl (by simp) ?_
 refine Run.seq fun k1 hk1 => ?_
 refine Run.region ?_
 show Sq _ _ _ [0, 1, 2] _ _ _ _
 refine Sq.eff (i := 0) rfl (Want.none rfl) rfl (ltN rfl) (EF.boxA rfl rfl) ?_
 rintro _ _ ⟨b6, rfl, rfl⟩
 refine Sq.quiet (i := 1) rfl (Want.none rfl) rfl (ltN rfl) (QP.assign rfl rfl).read ?_
 refine Sq.quiet (i := 2) rfl (Want.none rfl) rfl (ltN rfl) (QP.assign rfl rfl).read ?_
 refine Sq.nil ?_
 refine hk1 _ _ ?_
 refine Run.seq fun k2 hk2 => ?_
 refine Run.seq fun k3 hk3 => ?_
 refine Run.region ?_
 show Sq _ _ _ [0, 1, 2, 3, 4, 5, 6, 7] _ _ _ _
 refine Sq.quiet (i := 0) rfl (Want.none rfl) rfl (ltN rfl) (QP.fieldAddr rfl rfl f37_9).read ?_
 refine Sq.quiet (i := 1) rfl (Want.none rfl) rfl (ltN rfl) (QR.load1 rfl rfl g3 (Route.sub_hold _)) ?_
 refine Sq.quiet (i := 2) rfl (Want.none rfl) rfl (ltN rfl) (QP.lss rfl rfl rfl).read ?_
 refine J.decF (by omega) ?_
 refine Sq.quiet (i := 3) rfl (Want.none rfl) rfl (ltN rfl) (QP.move rfl rfl).read ?_
 refine Sq.quiet (i := 4) rfl (Want.yes rfl rfl rfl rfl) rfl (ltN rfl) (QP.fieldAddr rfl rfl f37_9).read ?_
 refine Sq.quiet (i := 5) rfl (Want.yes rfl rfl rfl rfl) rfl (ltN rfl) (QR.load1 rfl rfl g3 (Route.sub_hold _)) ?_
 refine Sq.quiet (i := 6) rfl (Want.yes rfl rfl rfl rfl) rfl (ltN rfl) (QP.gtr rfl rfl rfl).read ?_
 refine J.decF (by omega) ?_
 refine Sq.quiet (i := 7) rfl (Want.none rfl) rfl (ltN rfl) (QP.pick_f rfl rfl rfl).read ?_
 refine Sq.nil ?_
 refine hk3 _ _ ?_
 refine Run.cond_f rfl ?_
 refine Run.skip ?_
 refine hk2 _ _ ?_
 refine Run.seq fun k4 hk4 => ?_
 refine Run.region ?_
 show Sq _ _ _ [0, 1, 2, 3, 4, 5, 6, 7, 8] _ _ _ _
 refine Sq.quiet (i := 0) rfl (Want.none rfl) rfl (ltN rfl) (QP.move rfl rfl).read ?_
 refine Sq.quiet (i := 1) rfl (Want.none rfl) rfl (ltN rfl) (QP.fieldAddr rfl rfl f37_0).read ?_
 refine Sq.quiet (i := 2) rfl (Want.none rfl) rfl (ltN rfl) (QR.load rfl rfl g32 (Route.sub_pair _)) ?_
 refine Sq.quiet (i := 3) rfl (Want.none rfl) rfl (ltN rfl) (QP.fieldAddr rfl rfl f37_1).read ?_
 refine Sq.quiet (i := 4) rfl (Want.none rfl) rfl (ltN rfl) (QR.load1 rfl rfl g3 (Route.sub_if_ _)) ?_
 refine Sq.quiet (i := 5) rfl (Want.none rfl) rfl (ltN rfl) (QP.fieldAddr rfl rfl f37_2).read ?_
 refine Sq.quiet (i := 6) rfl (Want.none rfl) rfl (ltN rfl) (QR.load rfl rfl g28 (Route.sub_from_ _)) ?_
 refine Sq.eff (i := 7) rfl (Want.none rfl) rfl (ltN rfl) (EF.call rfl ce21 rfl (.cons (by repeat constructor) (.cons (by repeat constructor) Takes.nil)) (fun F' hle hr => rfind_spec F' hh hL x.pair x.if_ x.from_)) ?_
 rintro _ _ ⟨_, ⟨rfl, n28, rfl, hfind⟩, rfl⟩
 refine J.app ?_
 refine Sq.quiet (i := 8) rfl (Want.none rfl) rfl (ltN rfl) (QP.assign rfl rfl).read ?_
 refine Sq.nil ?_
 refine hk4 _ _ ?_
 refine Run.seq fun k5 hk5 => ?_
 refine Run.seq fun k6 hk6 => ?_
 refine Run.region ?_
 show Sq _ _ _ [0, 1] _ _ _ _
 refine Sq.quiet (i := 0) rfl (Want.none rfl) rfl (ltN rfl) (QP.move rfl rfl).read ?_
 refine Sq.quiet (i := 1) rfl (Want.none rfl) rfl (ltN rfl) (QP.lss rfl rfl rfl).read ?_
 refine J.decT (by rcases hfind with ⟨h1, _⟩ | ⟨i, s, h1, h2, h3⟩ <;> first | omega | exact absurd h3 (hno s (List.mem_of_getElem? h2))) ?_
 refine Sq.nil ?_
 refine hk6 _ _ ?_
 refine Run.cond_t rfl ?_
 refine Run.seq fun k7 hk7 => ?_
 refine Run.block ?_
 refine Run.seq fun k8 hk8 => ?_
 refine Run.region ?_
 show Sq _ _ _ [0, 1, 2, 3, 4, 5, 6, 7] _ _ _ _
 refine Sq.quiet (i := 0) rfl (Want.none rfl) rfl (ltN rfl) (QP.fieldAddr rfl rfl f37_5).read ?_
 refine Sq.quiet (i := 1) rfl (Want.none rfl) rfl (ltN rfl) (QR.load1 rfl rfl g35 (Route.sub_ref _)) ?_
 refine Sq.quiet (i := 2) rfl (Want.none rfl) rfl (ltN rfl) (QP.eql rfl rfl rfl).read ?_
 refine J.decF (c34) ?_
 refine Sq.quiet (i := 3) rfl (Want.none rfl) rfl (ltN rfl) (QP.move rfl rfl).read ?_
 refine Sq.quiet (i := 4) rfl (Want.yes rfl rfl rfl rfl) rfl (ltN rfl) (QP.move rfl rfl).read ?_
 refine J.boolT (c36) ?_
 refine Sq.quiet (i := 5) rfl (Want.yes rfl rfl rfl rfl) rfl (ltN rfl) (QP.not rfl rfl).read ?_
 refine Sq.quiet (i := 6) rfl (Want.none rfl) rfl (ltN rfl) (QP.pick_f rfl rfl rfl).read ?_
 refine Sq.quiet (i := 7) rfl (Want.none rfl) rfl (ltN rfl) (QP.assign rfl rfl).read ?_
 refine Sq.nil ?_
 refine hk8 _ _ ?_
 refine Run.cond_f rfl ?_
 refine Run.seq fun k9 hk9 => ?_
 refine Run.regionD (M := [0, 1, 3, 7, 15, 0, 32, 96, 224, 511, 1023]) (q := 1023) (r := 264) (by kernel_rfl) ?_
 refine Dw.pure (i := 0) rfl (by kernel_rfl) (Want.none rfl) rfl (ltN rfl) (QP.move rfl rfl) ?_
 refine Dw.pure (i := 1) rfl (by kernel_rfl) (Want.none rfl) rfl (ltN rfl) (QP.nilCheck rfl rfl) ?_
 refine Dw.pure (i := 2) rfl (by kernel_rfl) (Want.none rfl) rfl (ltN rfl) (QP.fieldAddr rfl rfl f57_1) ?_
 refine Dw.read (i := 3) rfl (by kernel_rfl) (Want.none rfl) rfl (ltN rfl) (QR.load1 (v := .slice _ L.length _) rfl rfl g46 (Ref16Table.sub_l _)) ?_
 refine Dw.pure (i := 4) rfl (by kernel_rfl) (Want.none rfl) rfl (ltN rfl) (QP.len rfl rfl rfl Try.underlying46) ?_
 refine Dw.pure (i := 5) rfl (by kernel_rfl) (Want.none rfl) rfl (ltN rfl) (QP.move rfl rfl) ?_
 refine Dw.pure (i := 6) rfl (by kernel_rfl) (Want.none rfl) rfl (ltN rfl) (QP.nilCheck rfl rfl) ?_
 refine Dw.pure (i := 7) rfl (by kernel_rfl) (Want.none rfl) rfl (ltN rfl) (QP.fieldAddr rfl rfl f57_0) ?_
 refine Dw.read (i := 8) rfl (by kernel_rfl) (Want.none rfl) rfl (ltN rfl) (QR.load1 rfl rfl g3 (Ref16Table.sub_most _)) ?_
 refine Dw.pure (i := 9) rfl (by kernel_rfl) (Want.none rfl) rfl (ltN rfl) (QP.geq rfl rfl rfl) ?_
 refine J.decT (c49) ?_
 refine Dw.eff (i := 10) (by kernel_rfl) (by kernel_rfl) ?_
 refine One.mk (o := _) (l := []) rfl (by kernel_rfl) (Want.none rfl) rfl (ltN rfl) ((QP.assign rfl rfl).eff) (by kernel_rfl) ?_
 rintro _ _ ⟨rfl, rfl⟩
 refine ⟨fun _ h => (by cases h), ?_⟩
 refine Dw.nil (by kernel_rfl) ?_
 refine hk9 _ _ ?_
 refine Run.cond_t rfl ?_
 refine Run.seq fun k10 hk10 => ?_
 refine Run.region ?_
 show Sq _ _ _ [0, 1] _ _ _ _
 have htn : tellNew L.length most x ok = (0, 6, false) := by unfold tellNew; rw [if_neg (show ¬ (x.hold < 1 ∨ 2147483648 < x.hold) from by omega), if_neg (show ¬ (x.ref = 65535 ∨ ok = false) from fun h => h.elim c34 (fun h2 => by rw [c36] at h2; cases h2)), if_pos c49]
 refine Sq.quiet (i := 0) rfl (Want.none rfl) rfl (ltN rfl) (QP.assign rfl rfl).read ?_
 refine Sq.quiet (i := 1) rfl (Want.none rfl) rfl (ltN rfl) (QP.assign rfl rfl).read ?_
 refine Sq.nil ?_
 refine hk10 _ _ ?_
 refine Run.ret ?_
 exact J.ends (res_tmp2 rfl rfl rfl) (.cons (by repeat constructor) (.cons (by repeat constructor) Takes.nil)) ⟨_, _, _, hh, 0, 6, rfl, .inr (.inr ⟨hno, by rw [htn], by rw [htn], .inl ⟨by rw [htn], rfl⟩⟩), rfl⟩

theorem rtell_ins (F : Fr) {b : Nat} {most : Int} {a : Option Addr} {c : Nat} {L : List Route} (hh : SlH a c L) (hL : L.length ≤ 1000000) (hs : L.Pairwise fun a b => cmpRoute a b < 0) (hh0 : ∀ x ∈ L, 1 ≤ x.hold ∧ x.hold ≤ 2147483648) (now : Int) (hn0 : 0 ≤ now) (hn1 : now ≤ 2305843009213693952) (x : Route) (ok : Bool) (hbnd : 1 ≤ x.hold ∧ x.hold ≤ 2147483648) (hno : ∀ s ∈ L, keyR s ≠ keyR x) (c34 : ¬ x.ref = 65535) (c36 : ok = true) (c49 : ¬ (L.length : Int) ≥ most)  : Spec Try.prog 39 #[.pointer (some ⟨b, 0, none⟩), .int .i64 now, .agg (Route.enc x).toArray, .bool ok] [blk b (Ref16Table.enc ⟨most, ⟨a, L.length, c⟩⟩) 57, slA 37 81 Route.enc (.slice a L.length c) L] F (fun v S => ∃ a2 c2, ∃ L2 : List Route, SlH a2 c2 L2 ∧ ∃ ta te, v = .tuple #[.int .i64 ta, .int .i64 te] ∧ RTell most L now x ok ta te L2 ∧ S = [blk b (Ref16Table.enc ⟨most, ⟨a2, L2.length, c2⟩⟩) 57, slA 37 81 Route.enc (.slice a2 L2.length c2) L2]) := by
 have hcle := hh.le
 refine Spec.intro (N := 173) (args := [.pointer (some ⟨b, 0, none⟩), .int .i64 now, .agg (Route.enc x).toArray, .bool ok]) Try.func39 rfl rfl (by simp) ?_
 refine Run.seq fun k1 hk1 => ?_
 refine Run.region ?_
 show Sq _ _ _ [0, 1, 2] _ _ _ _
 refine Sq.eff (i := 0) rfl (Want.none rfl) rfl (ltN rfl) (EF.boxA rfl rfl) ?_
 rintro _ _ ⟨b6, rfl, rfl⟩
 refine Sq.quiet (i := 1) rfl (Want.none rfl) rfl (ltN rfl) (QP.assign rfl rfl).read ?_
 refine Sq.quiet (i := 2) rfl (Want.none rfl) rfl (ltN rfl) (QP.assign rfl rfl).read ?_
 refine Sq.nil ?_
 refine hk1 _ _ ?_
 refine Run.seq fun k2 hk2 => ?_
 refine Run.seq fun k3 hk3 => ?_
 refine Run.region ?_
 show Sq _ _ _ [0, 1, 2, 3, 4, 5, 6, 7] _ _ _ _
 refine Sq.quiet (i := 0) rfl (Want.none rfl) rfl (ltN rfl) (QP.fieldAddr rfl rfl f37_9).read ?_
 refine Sq.quiet (i := 1) rfl (Want.none rfl) rfl (ltN rfl) (QR.load1 rfl rfl g3 (Route.sub_hold _)) ?_
 refine Sq.quiet (i := 2) rfl (Want.none rfl) rfl (ltN rfl) (QP.lss rfl rfl rfl).read ?_
 refine J.decF (by omega) ?_
 refine Sq.quiet (i := 3) rfl (Want.none rfl) rfl (ltN rfl) (QP.move rfl rfl).read ?_
 refine Sq.quiet (i := 4) rfl (Want.yes rfl rfl rfl rfl) rfl (ltN rfl) (QP.fieldAddr rfl rfl f37_9).read ?_
 refine Sq.quiet (i := 5) rfl (Want.yes rfl rfl rfl rfl) rfl (ltN rfl) (QR.load1 rfl rfl g3 (Route.sub_hold _)) ?_
 refine Sq.quiet (i := 6) rfl (Want.yes rfl rfl rfl rfl) rfl (ltN rfl) (QP.gtr rfl rfl rfl).read ?_
 refine J.decF (by omega) ?_
 refine Sq.quiet (i := 7) rfl (Want.none rfl) rfl (ltN rfl) (QP.pick_f rfl rfl rfl).read ?_
 refine Sq.nil ?_
 refine hk3 _ _ ?_
 refine Run.cond_f rfl ?_
 refine Run.skip ?_
 refine hk2 _ _ ?_
 refine Run.seq fun k4 hk4 => ?_
 refine Run.region ?_
 show Sq _ _ _ [0, 1, 2, 3, 4, 5, 6, 7, 8] _ _ _ _
 refine Sq.quiet (i := 0) rfl (Want.none rfl) rfl (ltN rfl) (QP.move rfl rfl).read ?_
 refine Sq.quiet (i := 1) rfl (Want.none rfl) rfl (ltN rfl) (QP.fieldAddr rfl rfl f37_0).read ?_
 refine Sq.quiet (i := 2) rfl (Want.none rfl) rfl (ltN rfl) (QR.load rfl rfl g32 (Route.sub_pair _)) ?_
 refine Sq.quiet (i := 3) rfl (Want.none rfl) rfl (ltN rfl) (QP.fieldAddr rfl rfl f37_1).read ?_
 refine Sq.quiet (i := 4) rfl (Want.none rfl) rfl (ltN rfl) (QR.load1 rfl rfl g3 (Route.sub_if_ _)) ?_
 refine Sq.quiet (i := 5) rfl (Want.none rfl) rfl (ltN rfl) (QP.fieldAddr rfl rfl f37_2).read ?_
 refine Sq.quiet (i := 6) rfl (Want.none rfl) rfl (ltN rfl) (QR.load rfl rfl g28 (Route.sub_from_ _)) ?_
 refine Sq.eff (i := 7) rfl (Want.none rfl) rfl (ltN rfl) (EF.call rfl ce21 rfl (.cons (by repeat constructor) (.cons (by repeat constructor) Takes.nil)) (fun F' hle hr => rfind_spec F' hh hL x.pair x.if_ x.from_)) ?_
 rintro _ _ ⟨_, ⟨rfl, n28, rfl, hfind⟩, rfl⟩
 refine J.app ?_
 refine Sq.quiet (i := 8) rfl (Want.none rfl) rfl (ltN rfl) (QP.assign rfl rfl).read ?_
 refine Sq.nil ?_
 refine hk4 _ _ ?_
 refine Run.seq fun k5 hk5 => ?_
 refine Run.seq fun k6 hk6 => ?_
 refine Run.region ?_
 show Sq _ _ _ [0, 1] _ _ _ _
 refine Sq.quiet (i := 0) rfl (Want.none rfl) rfl (ltN rfl) (QP.move rfl rfl).read ?_
 refine Sq.quiet (i := 1) rfl (Want.none rfl) rfl (ltN rfl) (QP.lss rfl rfl rfl).read ?_
 refine J.decT (by rcases hfind with ⟨h1, _⟩ | ⟨i, s, h1, h2, h3⟩ <;> first | omega | exact absurd h3 (hno s (List.mem_of_getElem? h2))) ?_
 refine Sq.nil ?_
 refine hk6 _ _ ?_
 refine Run.cond_t rfl ?_
 refine Run.seq fun k7 hk7 => ?_
 refine Run.block ?_
 refine Run.seq fun k8 hk8 => ?_
 refine Run.region ?_
 show Sq _ _ _ [0, 1, 2, 3, 4, 5, 6, 7] _ _ _ _
 refine Sq.quiet (i := 0) rfl (Want.none rfl) rfl (ltN rfl) (QP.fieldAddr rfl rfl f37_5).read ?_
 refine Sq.quiet (i := 1) rfl (Want.none rfl) rfl (ltN rfl) (QR.load1 rfl rfl g35 (Route.sub_ref _)) ?_
 refine Sq.quiet (i := 2) rfl (Want.none rfl) rfl (ltN rfl) (QP.eql rfl rfl rfl).read ?_
 refine J.decF (c34) ?_
 refine Sq.quiet (i := 3) rfl (Want.none rfl) rfl (ltN rfl) (QP.move rfl rfl).read ?_
 refine Sq.quiet (i := 4) rfl (Want.yes rfl rfl rfl rfl) rfl (ltN rfl) (QP.move rfl rfl).read ?_
 refine J.boolT (c36) ?_
 refine Sq.quiet (i := 5) rfl (Want.yes rfl rfl rfl rfl) rfl (ltN rfl) (QP.not rfl rfl).read ?_
 refine Sq.quiet (i := 6) rfl (Want.none rfl) rfl (ltN rfl) (QP.pick_f rfl rfl rfl).read ?_
 refine Sq.quiet (i := 7) rfl (Want.none rfl) rfl (ltN rfl) (QP.assign rfl rfl).read ?_
 refine Sq.nil ?_
 refine hk8 _ _ ?_
 refine Run.cond_f rfl ?_
 refine Run.seq fun k9 hk9 => ?_
 refine Run.regionD (M := [0, 1, 3, 7, 15, 0, 32, 96, 224, 511, 1023]) (q := 1023) (r := 264) (by kernel_rfl) ?_
 refine Dw.pure (i := 0) rfl (by kernel_rfl) (Want.none rfl) rfl (ltN rfl) (QP.move rfl rfl) ?_
 refine Dw.pure (i := 1) rfl (by kernel_rfl) (Want.none rfl) rfl (ltN rfl) (QP.nilCheck rfl rfl) ?_
 refine Dw.pure (i := 2) rfl (by kernel_rfl) (Want.none rfl) rfl (ltN rfl) (QP.fieldAddr rfl rfl f57_1) ?_
 refine Dw.read (i := 3) rfl (by kernel_rfl) (Want.none rfl) rfl (ltN rfl) (QR.load1 (v := .slice _ L.length _) rfl rfl g46 (Ref16Table.sub_l _)) ?_
 refine Dw.pure (i := 4) rfl (by kernel_rfl) (Want.none rfl) rfl (ltN rfl) (QP.len rfl rfl rfl Try.underlying46) ?_
 refine Dw.pure (i := 5) rfl (by kernel_rfl) (Want.none rfl) rfl (ltN rfl) (QP.move rfl rfl) ?_
 refine Dw.pure (i := 6) rfl (by kernel_rfl) (Want.none rfl) rfl (ltN rfl) (QP.nilCheck rfl rfl) ?_
 refine Dw.pure (i := 7) rfl (by kernel_rfl) (Want.none rfl) rfl (ltN rfl) (QP.fieldAddr rfl rfl f57_0) ?_
 refine Dw.read (i := 8) rfl (by kernel_rfl) (Want.none rfl) rfl (ltN rfl) (QR.load1 rfl rfl g3 (Ref16Table.sub_most _)) ?_
 refine Dw.pure (i := 9) rfl (by kernel_rfl) (Want.none rfl) rfl (ltN rfl) (QP.geq rfl rfl rfl) ?_
 refine J.decF (c49) ?_
 refine Dw.eff (i := 10) (by kernel_rfl) (by kernel_rfl) ?_
 refine One.mk (o := _) (l := []) rfl (by kernel_rfl) (Want.none rfl) rfl (ltN rfl) ((QP.assign rfl rfl).eff) (by kernel_rfl) ?_
 rintro _ _ ⟨rfl, rfl⟩
 refine ⟨fun _ h => (by cases h), ?_⟩
 refine Dw.nil (by kernel_rfl) ?_
 refine hk9 _ _ ?_
 refine Run.cond_f rfl ?_
 refine Run.skip ?_
 refine hk7 _ _ ?_
 refine Run.seq fun k10 hk10 => ?_
 refine Run.region ?_
 show Sq _ _ _ [0, 1, 2, 3, 4, 5, 6, 7, 8, 9, 10, 11, 12, 13, 14, 15, 16, 17, 18, 19, 20, 21, 22] _ _ _ _
 have htn : tellNew L.length most x ok = (1, 0, true) := by unfold tellNew; rw [if_neg (show ¬ (x.hold < 1 ∨ 2147483648 < x.hold) from by omega), if_neg (show ¬ (x.ref = 65535 ∨ ok = false) from fun h => h.elim c34 (fun h2 => by rw [c36] at h2; cases h2)), if_neg c49]
 refine Sq.quiet (i := 0) rfl (Want.none rfl) rfl (ltN rfl) (QP.fieldAddr rfl rfl f37_0).read ?_
 refine Sq.quiet (i := 1) rfl (Want.none rfl) rfl (ltN rfl) (QR.load rfl rfl g32 (Route.sub_pair _)) ?_
 refine Sq.quiet (i := 2) rfl (Want.none rfl) rfl (ltN rfl) (QP.fieldAddr rfl rfl f37_1).read ?_
 refine Sq.quiet (i := 3) rfl (Want.none rfl) rfl (ltN rfl) (QR.load1 rfl rfl g3 (Route.sub_if_ _)) ?_
 refine Sq.quiet (i := 4) rfl (Want.none rfl) rfl (ltN rfl) (QP.fieldAddr rfl rfl f37_2).read ?_
 refine Sq.quiet (i := 5) rfl (Want.none rfl) rfl (ltN rfl) (QR.load rfl rfl g28 (Route.sub_from_ _)) ?_
 refine Sq.quiet (i := 6) rfl (Want.none rfl) rfl (ltN rfl) (QP.fieldAddr rfl rfl f37_3).read ?_
 refine Sq.quiet (i := 7) rfl (Want.none rfl) rfl (ltN rfl) (QR.load rfl rfl g34 (Route.sub_id_ _)) ?_
 refine Sq.quiet (i := 8) rfl (Want.none rfl) rfl (ltN rfl) (QP.fieldAddr rfl rfl f37_4).read ?_
 refine Sq.quiet (i := 9) rfl (Want.none rfl) rfl (ltN rfl) (QR.load1 rfl rfl g35 (Route.sub_seqno _)) ?_
 refine Sq.quiet (i := 10) rfl (Want.none rfl) rfl (ltN rfl) (QP.fieldAddr rfl rfl f37_5).read ?_
 refine Sq.quiet (i := 11) rfl (Want.none rfl) rfl (ltN rfl) (QR.load1 rfl rfl g35 (Route.sub_ref _)) ?_
 refine Sq.quiet (i := 12) rfl (Want.none rfl) rfl (ltN rfl) (QP.fieldAddr rfl rfl f37_7).read ?_
 refine Sq.quiet (i := 13) rfl (Want.none rfl) rfl (ltN rfl) (QR.load rfl rfl g28 (Route.sub_hop _)) ?_
 refine Sq.quiet (i := 14) rfl (Want.none rfl) rfl (ltN rfl) (QP.move rfl rfl).read ?_
 refine Sq.quiet (i := 15) rfl (Want.none rfl) rfl (ltN rfl) (QP.fieldAddr rfl rfl f37_9).read ?_
 refine Sq.quiet (i := 16) rfl (Want.none rfl) rfl (ltN rfl) (QR.load1 rfl rfl g3 (Route.sub_hold _)) ?_
 refine Sq.quiet (i := 17) rfl (Want.none rfl) rfl (ltN rfl) (QP.add64 rfl rfl rfl (by first | omega | (simp <;> omega)) (by first | omega | (simp <;> omega))).read ?_
 refine Sq.quiet (i := 18) rfl (Want.none rfl) rfl (ltN rfl) (QP.fieldAddr rfl rfl f37_9).read ?_
 refine Sq.quiet (i := 19) rfl (Want.none rfl) rfl (ltN rfl) (QR.load1 rfl rfl g3 (Route.sub_hold _)) ?_
 refine Sq.quiet (i := 20) rfl (Want.none rfl) rfl (ltN rfl) (QP.build (l := Route.enc ⟨((x).pair), _, ((x).from_), ((x).id_), ((x).seqno), ((x).ref), (65535), ((x).hop), _, ((x).hold), false⟩) rfl st37 rfl (by exact ⟨(congrArg some (Pair.enc_len _).symm), ⟨rfl, ⟨(congrArg some (Bs.len _).symm), ⟨(congrArg some (Bs.len _).symm), ⟨rfl, ⟨rfl, ⟨rfl, ⟨(congrArg some (Bs.len _).symm), ⟨rfl, ⟨rfl, trivial⟩⟩⟩⟩⟩⟩⟩⟩⟩⟩) rfl).read ?_
 refine Sq.eff (i := 21) rfl (Want.none rfl) rfl (ltN rfl) (EF.allocA (l := Route.enc Route.zero) rfl zero37) ?_
 rintro _ _ ⟨b11, rfl, rfl⟩
 refine Sq.act (i := 22) rfl (Want.none rfl) rfl (EF.storeA rfl rfl rfl z37 (SetL.all (Route.enc_len _) (Route.enc_len _)) (Route.enc_cell _)) ?_
 rintro _ _ rfl
 rw [show (⟨x.pair, x.if_, x.from_, x.id_, x.seqno, x.ref, 65535, x.hop, now + x.hold, x.hold, false⟩ : Route) = newR now x from rfl]
 refine Sq.nil ?_
 refine hk10 _ _ ?_
 refine Run.seq fun k11 hk11 => ?_
 refine Run.region ?_
 show Sq _ _ _ [0, 1, 2, 3, 4, 5] _ _ _ _
 refine Sq.quiet (i := 0) rfl (Want.none rfl) rfl (ltN rfl) (QP.move rfl rfl).read ?_
 refine Sq.quiet (i := 1) rfl (Want.none rfl) rfl (ltN rfl) (QP.nilCheck rfl rfl).read ?_
 refine Sq.quiet (i := 2) rfl (Want.none rfl) rfl (ltN rfl) (QP.fieldAddr rfl rfl f57_1).read ?_
 refine Sq.quiet (i := 3) rfl (Want.none rfl) rfl (ltN rfl) (QR.load1 (v := .slice _ L.length _) rfl rfl g46 (Ref16Table.sub_l _)) ?_
 refine Sq.quiet (i := 4) rfl (Want.none rfl) rfl (ltN rfl) (QP.len rfl rfl rfl Try.underlying46).read ?_
 refine Sq.quiet (i := 5) rfl (Want.none rfl) rfl (ltN rfl) (QP.assign rfl rfl).read ?_
 refine Sq.nil ?_
 refine hk11 _ _ ?_
 refine Run.seq fun k12 hk12 => ?_
 refine Run.block ?_
 refine Run.loop1 (fun (j : Nat) => j ≤ L.length ∧ ∀ y ∈ L.drop j, 0 < cmpRoute y (newR now x)) (fun j => .cons 0 (.pointer (some ⟨b, 0, none⟩)) (.cons 10 (.int .i64 j) (.cons 11 (.pointer (some ⟨b11, 0, none⟩)) (.nil)))) (fun j => [blk b (Ref16Table.enc ⟨most, ⟨a, L.length, c⟩⟩) 57, slA 37 81 Route.enc (.slice a L.length c) L, blk b11 (Route.enc (newR now x)) 37]) (fun j => j) (L.length) (⟨Nat.le_refl _, by simp⟩) ?_ ?_
 ·exact fun _ j => J.envJ (J.keep (.cons (by repeat constructor) (.cons (by repeat constructor) (.cons (by repeat constructor) Takes.nil))) j) ⟨rfl, rfl, rfl, trivial⟩
 rintro j ⟨hjl, haft⟩ kl13 hl13
 refine Run.seq fun k14 hk14 => ?_
 refine Run.seq fun k15 hk15 => ?_
 refine Run.regionD (M := [0, 1, 3, 7, 7, 23, 55, 119, 7, 263, 1015, 2039, 4095, 8191]) (q := 12287) (r := 2184) (by kernel_rfl) ?_
 refine Dw.pure (i := 0) rfl (by kernel_rfl) (Want.none rfl) rfl (ltN rfl) (QP.move rfl rfl) ?_
 refine Dw.pure (i := 1) rfl (by kernel_rfl) (Want.none rfl) rfl (ltN rfl) (QP.gtr rfl rfl rfl) ?_
 refine J.caseD (fun c77 => ?_) (fun c77 => ?_)
 ·skip
  refine Dw.pure (i := 2) rfl (by kernel_rfl) (Want.none rfl) rfl (ltN rfl) (QP.move rfl rfl) ?_
  refine Dw.read (i := 3) rfl (by kernel_rfl) (Want.yes rfl rfl rfl rfl) rfl (ltN rfl) (QR.load rfl rfl g37 (Route.enc_sub _)) ?_
  refine Dw.pure (i := 4) rfl (by kernel_rfl) (Want.yes rfl rfl rfl rfl) rfl (ltN rfl) (QP.move rfl rfl) ?_
  refine Dw.pure (i := 5) rfl (by kernel_rfl) (Want.yes rfl rfl rfl rfl) rfl (ltN rfl) (QP.nilCheck rfl rfl) ?_
  refine Dw.pure (i := 6) rfl (by kernel_rfl) (Want.yes rfl rfl rfl rfl) rfl (ltN rfl) (QP.fieldAddr rfl rfl f57_1) ?_
  refine Dw.read (i := 7) rfl (by kernel_rfl) (Want.yes rfl rfl rfl rfl) rfl (ltN rfl) (QR.load1 (v := .slice _ L.length _) rfl rfl g46 (Ref16Table.sub_l _)) ?_
  obtain ⟨y, hi⟩ : ∃ y, L[Int.toNat ((j : Int) - 1)]? = some y := ⟨_, List.getElem?_eq_getElem (by omega)⟩
  obtain ⟨b0, o0, rfl⟩ := hh.get (by omega)
  refine Dw.pure (i := 8) rfl (by kernel_rfl) (Want.yes rfl rfl rfl rfl) rfl (ltN rfl) (QP.move rfl rfl) ?_
  refine Dw.pure (i := 9) rfl (by kernel_rfl) (Want.yes rfl rfl rfl rfl) rfl (ltN rfl) (QP.sub64 rfl rfl rfl (by first | omega | (simp <;> omega)) (by first | omega | (simp <;> omega))) ?_
  refine Dw.pure (i := 10) rfl (by kernel_rfl) (Want.yes rfl rfl rfl rfl) rfl (ltN rfl) (QP.indexAddr rfl rfl rfl Try.underlying46 z37 (by first | omega | (simp <;> omega)) (by first | omega | (simp <;> omega))) ?_
  refine Dw.read (i := 11) rfl (by kernel_rfl) (Want.yes rfl rfl rfl rfl) rfl (ltN rfl) (QR.loadSl rfl rfl g37 Route.enc_len (SlAt.own Route.enc_len (by repeat constructor)) hi) ?_
  refine Dw.eff (i := 12) (by kernel_rfl) (by kernel_rfl) ?_
  refine One.mk (o := _) (l := []) rfl (by kernel_rfl) (Want.yes rfl rfl rfl rfl) rfl (ltN rfl) (EF.call rfl ce59 rfl Takes.nil (fun F' hle hr => ahead_spec F' (newR now x) y)) (by kernel_rfl) ?_
  rintro _ _ ⟨_, ⟨rfl, rfl⟩, rfl⟩
  refine ⟨fun _ h => (by cases h), ?_⟩
  refine J.app ?_
  refine J.caseB (fun c88 => ?_) (fun c88 => ?_)
  ·skip
   refine Dw.pure (i := 13) rfl (by kernel_rfl) (Want.none rfl) rfl (ltN rfl) (QP.pick_t rfl rfl rfl) ?_
   refine Dw.nil (by kernel_rfl) ?_
   refine hk15 _ _ ?_
   refine Run.cond_t rfl ?_
   refine Run.skip ?_
   refine hk14 _ _ ?_
   refine Run.block ?_
   refine Run.region ?_
   show Sq _ _ _ [0, 1, 2] _ _ _ _
   refine Sq.quiet (i := 0) rfl (Want.none rfl) rfl (ltN rfl) (QP.move rfl rfl).read ?_
   refine Sq.quiet (i := 1) rfl (Want.none rfl) rfl (ltN rfl) (QP.sub64 rfl rfl rfl (by first | omega | (simp <;> omega)) (by first | omega | (simp <;> omega))).read ?_
   refine Sq.quiet (i := 2) rfl (Want.none rfl) rfl (ltN rfl) (QP.assign rfl rfl).read ?_
   refine Sq.nil ?_
   exact J.envJ (J.keep (.cons (by repeat constructor) (.cons (by repeat constructor) (.cons (by repeat constructor) Takes.nil))) (hl13 (j - 1) (⟨by omega, behind_more (by omega) hi ((keyCmpR.neg (newR now x) y).1 (by simpa using c88)) haft⟩) (by omega))) ⟨rfl, (congrArg (fun n => some (Value.int .i64 n)) (show _ = _ by omega)), rfl, trivial⟩
  ·skip
   refine Dw.pure (i := 13) rfl (by kernel_rfl) (Want.none rfl) rfl (ltN rfl) (QP.pick_t rfl rfl rfl) ?_
   refine Dw.nil (by kernel_rfl) ?_
   refine hk15 _ _ ?_
   refine Run.cond_f rfl ?_
   refine Run.exit rfl ?_
   refine hk12 _ _ ?_
   refine Run.seq fun k16 hk16 => ?_
   refine Run.regionD (M := [0, 0, 0, 4, 12, 28, 0, 124, 254, 0, 512, 2046, 0, 4096, 12288, 28672, 0, 126976, 262142, 524287, 1048575, 2097151]) (q := 1831677) (r := 33312) (by kernel_rfl) ?_
   have hbef : ∀ y ∈ L.take j, cmpRoute y (newR now x) < 0 := before_all hs (by omega) hi (fun hc => absurd ((keyCmpR.neg (newR now x) y).2 hc) (by simpa using c88)) (fun hc => hno y (List.mem_of_getElem? hi) hc)
   refine Dw.pure (i := 0) rfl (by kernel_rfl) (Want.none rfl) rfl (ltN rfl) (QP.move rfl rfl) ?_
   refine Dw.pure (i := 2) rfl (by kernel_rfl) (Want.none rfl) rfl (ltN rfl) (QP.move rfl rfl) ?_
   refine Dw.pure (i := 3) rfl (by kernel_rfl) (Want.none rfl) rfl (ltN rfl) (QP.nilCheck rfl rfl) ?_
   refine Dw.pure (i := 4) rfl (by kernel_rfl) (Want.none rfl) rfl (ltN rfl) (QP.fieldAddr rfl rfl f57_1) ?_
   refine Dw.read (i := 5) rfl (by kernel_rfl) (Want.none rfl) rfl (ltN rfl) (QR.load1 (v := .slice _ L.length _) rfl rfl g46 (Ref16Table.sub_l _)) ?_
   refine Dw.pure (i := 6) rfl (by kernel_rfl) (Want.none rfl) rfl (ltN rfl) (QP.move rfl rfl) ?_
   refine Dw.pure (i := 7) rfl (by kernel_rfl) (Want.none rfl) rfl (ltN rfl) (QP.sliceHi rfl rfl rfl Try.underlying46 z37 (by first | omega | (simp <;> omega)) (by first | omega | (simp <;> omega))) ?_
   refine Dw.read (i := 9) rfl (by kernel_rfl) (Want.none rfl) rfl (ltN rfl) (QR.load rfl rfl g37 (Route.enc_sub _)) ?_
   refine Dw.pure (i := 12) rfl (by kernel_rfl) (Want.none rfl) rfl (ltN rfl) (QP.move rfl rfl) ?_
   refine Dw.pure (i := 13) rfl (by kernel_rfl) (Want.none rfl) rfl (ltN rfl) (QP.nilCheck rfl rfl) ?_
   refine Dw.pure (i := 14) rfl (by kernel_rfl) (Want.none rfl) rfl (ltN rfl) (QP.fieldAddr rfl rfl f57_1) ?_
   refine Dw.read (i := 15) rfl (by kernel_rfl) (Want.none rfl) rfl (ltN rfl) (QR.load1 (v := .slice _ L.length _) rfl rfl g46 (Ref16Table.sub_l _)) ?_
   refine Dw.pure (i := 16) rfl (by kernel_rfl) (Want.none rfl) rfl (ltN rfl) (QP.move rfl rfl) ?_
   refine Dw.pure (i := 17) rfl (by kernel_rfl) (Want.none rfl) rfl (ltN rfl) (QP.sliceLo rfl rfl rfl Try.underlying46 z37 (by first | omega | (simp <;> omega)) (by first | omega | (simp <;> omega))) ?_
   refine Dw.effs (l := [1, 10]) (by kernel_rfl) (by kernel_rfl) ?_
   rw [List.forall_mem_cons, List.forall_mem_cons]
   refine ⟨?_, ?_, fun _ h => (by cases h)⟩
   ·skip
    refine One.mk (o := _) (l := [15, 9, 5]) rfl (by kernel_rfl) (Want.none rfl) rfl (ltN rfl) (EF.buildSlice0 (enc := Route.enc) rfl Try.underlying46 z37 zero37 (by simp [Value.cells, Route.enc_len]) (by decide)) (by kernel_rfl) ?_
    rintro _ _ ⟨b93, rfl, rfl⟩
    refine ⟨?_, ?_⟩
    ·rw [List.forall_mem_cons, List.forall_mem_cons, List.forall_mem_cons]
     refine ⟨?_, ?_, ?_, fun _ h => (by cases h)⟩
     ·exact Look.mk rfl rfl rfl (QR.load1 (v := .slice _ L.length _) rfl rfl g46 (Ref16Table.sub_l _))
     ·exact Look.mk rfl rfl rfl (QR.load rfl rfl g37 (Route.enc_sub _))
     ·exact Look.mk rfl rfl rfl (QR.load1 (v := .slice _ L.length _) rfl rfl g46 (Ref16Table.sub_l _))
    refine ?_
    refine Dw.effs (l := [8, 10]) (by kernel_rfl) (by kernel_rfl) ?_
    rw [List.forall_mem_cons, List.forall_mem_cons]
    refine ⟨?_, ?_, fun _ h => (by cases h)⟩
    ·skip
     refine One.mk (o := _) (l := [15, 9]) rfl (by kernel_rfl) (Want.none rfl) rfl (ltN rfl) (EF.append (xs := []) (ys := ((L.take j).drop 0)) el37 Route.enc_len Route.enc_cell rfl rfl rfl Try.underlying46 Try.underlying46 rfl rfl (by repeat constructor) (RowsAt.cutOwn (i := 0) (j := j) Route.enc_len hh (by repeat constructor) (by omega) (by omega)) (by first | omega | (simp <;> omega))) (by kernel_rfl) ?_
     rintro sl100 _ rfl
     refine ⟨?_, ?_⟩
     ·rw [List.forall_mem_cons, List.forall_mem_cons]
      refine ⟨?_, ?_, fun _ h => (by cases h)⟩
      ·exact Look.mk rfl rfl rfl (QR.load1 (v := .slice _ L.length _) rfl rfl g46 (Ref16Table.sub_l _))
      ·exact Look.mk rfl rfl rfl (QR.load rfl rfl g37 (Route.enc_sub _))
     refine ?_
     refine Dw.slCase (v := sl100) (by repeat constructor) (fun a100 c100 hv100 hh100 => ?_)
     subst hv100
     refine Dw.eff (i := 10) (by kernel_rfl) (by kernel_rfl) ?_
     refine One.mk (o := _) (l := [15, 5]) rfl (by kernel_rfl) (Want.none rfl) rfl (ltN rfl) (EF.buildSlice1 rfl Try.underlying46 z37 zero37 (by simp [Value.cells, Route.enc_len]) (by decide) rfl rfl (Route.enc_len _) (by decide)) (by kernel_rfl) ?_
     rintro _ _ ⟨b102, rfl, rfl⟩
     refine ⟨?_, ?_⟩
     ·rw [List.forall_mem_cons, List.forall_mem_cons]
      refine ⟨?_, ?_, fun _ h => (by cases h)⟩
      ·exact Look.mk rfl rfl rfl (QR.load1 (v := .slice _ L.length _) rfl rfl g46 (Ref16Table.sub_l _))
      ·exact Look.mk rfl rfl rfl (QR.load1 (v := .slice _ L.length _) rfl rfl g46 (Ref16Table.sub_l _))
     refine ?_
     refine Dw.eff (i := 11) (by kernel_rfl) (by kernel_rfl) ?_
     refine One.mk (o := _) (l := [15]) rfl (by kernel_rfl) (Want.none rfl) rfl (ltN rfl) (EF.append1 (xs := _) (s := (newR now x)) el37 Route.enc_len Route.enc_cell rfl rfl rfl Try.underlying46 Try.underlying46 rfl rfl (by repeat constructor) (by repeat constructor) (by first | omega | (simp <;> omega))) (by kernel_rfl) ?_
     rintro sl103 _ rfl
     refine ⟨?_, ?_⟩
     ·rw [List.forall_mem_cons]
      refine ⟨?_, fun _ h => (by cases h)⟩
      ·exact Look.mk rfl rfl rfl (QR.load1 (v := .slice _ L.length _) rfl rfl g46 (Ref16Table.sub_l _))
     refine ?_
     refine Dw.slCase (v := sl103) (by repeat constructor) (fun a103 c103 hv103 hh103 => ?_)
     subst hv103
     refine Dw.eff (i := 18) (by kernel_rfl) (by kernel_rfl) ?_
     refine One.mk (o := _) (l := []) rfl (by kernel_rfl) (Want.none rfl) rfl (ltN rfl) (EF.append (xs := _) (ys := ((L.take L.length).drop j)) el37 Route.enc_len Route.enc_cell rfl rfl rfl Try.underlying46 Try.underlying46 rfl rfl (by repeat constructor) (RowsAt.cutOwn (i := j) (j := L.length) Route.enc_len hh (by repeat constructor) (by omega) (by omega)) (by first | omega | (simp <;> omega))) (by kernel_rfl) ?_
     rintro sl110 _ rfl
     refine ⟨fun _ h => (by cases h), ?_⟩
     refine Dw.slCase (v := sl110) (by repeat constructor) (fun a110 c110 hv110 hh110 => ?_)
     subst hv110
     refine Dw.pure (i := 19) rfl (by kernel_rfl) (Want.none rfl) rfl (ltN rfl) (QP.nilCheck rfl rfl) ?_
     refine Dw.pure (i := 20) rfl (by kernel_rfl) (Want.none rfl) rfl (ltN rfl) (QP.fieldAddr rfl rfl f57_1) ?_
     refine Dw.eff (i := 21) (by kernel_rfl) (by kernel_rfl) ?_
     refine One.act (o := _) (l := []) rfl (by kernel_rfl) (Want.none rfl) rfl (EF.store rfl rfl rfl z46 (Ref16Table.set_l _ ⟨a110, _, c110⟩) (cell_one rfl)) (by kernel_rfl) ?_
     rintro _ _ rfl
     refine ⟨fun _ h => (by cases h), ?_⟩
     refine Dw.nil (by kernel_rfl) ?_
     refine hk16 _ _ ?_
     refine Run.seq fun k17 hk17 => ?_
     refine Run.region ?_
     show Sq _ _ _ [0, 1] _ _ _ _
     refine Sq.quiet (i := 0) rfl (Want.none rfl) rfl (ltN rfl) (QP.assign rfl rfl).read ?_
     refine Sq.quiet (i := 1) rfl (Want.none rfl) rfl (ltN rfl) (QP.assign rfl rfl).read ?_
     refine Sq.nil ?_
     refine hk17 _ _ ?_
     refine Run.ret ?_
     exact J.ends (res_tmp2 rfl rfl rfl) (.cons (by repeat constructor) (.cons (by repeat constructor) Takes.nil)) ⟨_, _, _, hh110, 1, 0, rfl, .inr (.inr ⟨hno, by rw [htn], by rw [htn], .inr ⟨by rw [htn], j, hjl, hbef, haft, cut_all hjl _⟩⟩), rfl⟩
    ·skip
     refine One.mk (o := _) (l := [15, 5]) rfl (by kernel_rfl) (Want.none rfl) rfl (ltN rfl) (EF.buildSlice1 rfl Try.underlying46 z37 zero37 (by simp [Value.cells, Route.enc_len]) (by decide) rfl rfl (Route.enc_len _) (by decide)) (by kernel_rfl) ?_
     rintro _ _ ⟨b102, rfl, rfl⟩
     refine ⟨?_, ?_⟩
     ·rw [List.forall_mem_cons, List.forall_mem_cons]
      refine ⟨?_, ?_, fun _ h => (by cases h)⟩
      ·exact Look.mk rfl rfl rfl (QR.load1 (v := .slice _ L.length _) rfl rfl g46 (Ref16Table.sub_l _))
      ·exact Look.mk rfl rfl rfl (QR.load1 (v := .slice _ L.length _) rfl rfl g46 (Ref16Table.sub_l _))
     refine ?_
     refine Dw.eff (i := 8) (by kernel_rfl) (by kernel_rfl) ?_
     refine One.mk (o := _) (l := [15, 9]) rfl (by kernel_rfl) (Want.none rfl) rfl (ltN rfl) (EF.append (xs := []) (ys := ((L.take j).drop 0)) el37 Route.enc_len Route.enc_cell rfl rfl rfl Try.underlying46 Try.underlying46 rfl rfl (by repeat constructor) (RowsAt.cutOwn (i := 0) (j := j) Route.enc_len hh (by repeat constructor) (by omega) (by omega)) (by first | omega | (simp <;> omega))) (by kernel_rfl) ?_
     rintro sl100 _ rfl
     refine ⟨?_, ?_⟩
     ·rw [List.forall_mem_cons, List.forall_mem_cons]
      refine ⟨?_, ?_, fun _ h => (by cases h)⟩
      ·exact Look.mk rfl rfl rfl (QR.load1 (v := .slice _ L.length _) rfl rfl g46 (Ref16Table.sub_l _))
      ·exact Look.mk rfl rfl rfl (QR.load rfl rfl g37 (Route.enc_sub _))
     refine ?_
     refine Dw.slCase (v := sl100) (by repeat constructor) (fun a100 c100 hv100 hh100 => ?_)
     subst hv100
     refine Dw.eff (i := 11) (by kernel_rfl) (by kernel_rfl) ?_
     refine One.mk (o := _) (l := [15]) rfl (by kernel_rfl) (Want.none rfl) rfl (ltN rfl) (EF.append1 (xs := _) (s := (newR now x)) el37 Route.enc_len Route.enc_cell rfl rfl rfl Try.underlying46 Try.underlying46 rfl rfl (by repeat constructor) (by repeat constructor) (by first | omega | (simp <;> omega))) (by kernel_rfl) ?_
     rintro sl103 _ rfl
     refine ⟨?_, ?_⟩
     ·rw [List.forall_mem_cons]
      refine ⟨?_, fun _ h => (by cases h)⟩
      ·exact Look.mk rfl rfl rfl (QR.load1 (v := .slice _ L.length _) rfl rfl g46 (Ref16Table.sub_l _))
     refine ?_
     refine Dw.slCase (v := sl103) (by repeat constructor) (fun a103 c103 hv103 hh103 => ?_)
     subst hv103
     refine Dw.eff (i := 18) (by kernel_rfl) (by kernel_rfl) ?_
     refine One.mk (o := _) (l := []) rfl (by kernel_rfl) (Want.none rfl) rfl (ltN rfl) (EF.append (xs := _) (ys := ((L.take L.length).drop j)) el37 Route.enc_len Route.enc_cell rfl rfl rfl Try.underlying46 Try.underlying46 rfl rfl (by repeat constructor) (RowsAt.cutOwn (i := j) (j := L.length) Route.enc_len hh (by repeat constructor) (by omega) (by omega)) (by first | omega | (simp <;> omega))) (by kernel_rfl) ?_
     rintro sl110 _ rfl
     refine ⟨fun _ h => (by cases h), ?_⟩
     refine Dw.slCase (v := sl110) (by repeat constructor) (fun a110 c110 hv110 hh110 => ?_)
     subst hv110
     refine Dw.pure (i := 19) rfl (by kernel_rfl) (Want.none rfl) rfl (ltN rfl) (QP.nilCheck rfl rfl) ?_
     refine Dw.pure (i := 20) rfl (by kernel_rfl) (Want.none rfl) rfl (ltN rfl) (QP.fieldAddr rfl rfl f57_1) ?_
     refine Dw.eff (i := 21) (by kernel_rfl) (by kernel_rfl) ?_
     refine One.act (o := _) (l := []) rfl (by kernel_rfl) (Want.none rfl) rfl (EF.store rfl rfl rfl z46 (Ref16Table.set_l _ ⟨a110, _, c110⟩) (cell_one rfl)) (by kernel_rfl) ?_
     rintro _ _ rfl
     refine ⟨fun _ h => (by cases h), ?_⟩
     refine Dw.nil (by kernel_rfl) ?_
     refine hk16 _ _ ?_
     refine Run.seq fun k18 hk18 => ?_
     refine Run.region ?_
     show Sq _ _ _ [0, 1] _ _ _ _
     refine Sq.quiet (i := 0) rfl (Want.none rfl) rfl (ltN rfl) (QP.assign rfl rfl).read ?_
     refine Sq.quiet (i := 1) rfl (Want.none rfl) rfl (ltN rfl) (QP.assign rfl rfl).read ?_
     refine Sq.nil ?_
     refine hk18 _ _ ?_
     refine Run.ret ?_
     exact J.ends (res_tmp2 rfl rfl rfl) (.cons (by repeat constructor) (.cons (by repeat constructor) Takes.nil)) ⟨_, _, _, hh110, 1, 0, rfl, .inr (.inr ⟨hno, by rw [htn], by rw [htn], .inr ⟨by rw [htn], j, hjl, hbef, haft, cut_all hjl _⟩⟩), rfl⟩
   ·skip
    refine One.mk (o := _) (l := [15, 5]) rfl (by kernel_rfl) (Want.none rfl) rfl (ltN rfl) (EF.buildSlice1 rfl Try.underlying46 z37 zero37 (by simp [Value.cells, Route.enc_len]) (by decide) rfl rfl (Route.enc_len _) (by decide)) (by kernel_rfl) ?_
    rintro _ _ ⟨b102, rfl, rfl⟩
    refine ⟨?_, ?_⟩
    ·rw [List.forall_mem_cons, List.forall_mem_cons]
     refine ⟨?_, ?_, fun _ h => (by cases h)⟩
     ·exact Look.mk rfl rfl rfl (QR.load1 (v := .slice _ L.length _) rfl rfl g46 (Ref16Table.sub_l _))
     ·exact Look.mk rfl rfl rfl (QR.load1 (v := .slice _ L.length _) rfl rfl g46 (Ref16Table.sub_l _))
    refine ?_
    refine Dw.eff (i := 1) (by kernel_rfl) (by kernel_rfl) ?_
    refine One.mk (o := _) (l := [15, 9, 5]) rfl (by kernel_rfl) (Want.none rfl) rfl (ltN rfl) (EF.buildSlice0 (enc := Route.enc) rfl Try.underlying46 z37 zero37 (by simp [Value.cells, Route.enc_len]) (by decide)) (by kernel_rfl) ?_
    rintro _ _ ⟨b93, rfl, rfl⟩
    refine ⟨?_, ?_⟩
    ·rw [List.forall_mem_cons, List.forall_mem_cons, List.forall_mem_cons]
     refine ⟨?_, ?_, ?_, fun _ h => (by cases h)⟩
     ·exact Look.mk rfl rfl rfl (QR.load1 (v := .slice _ L.length _) rfl rfl g46 (Ref16Table.sub_l _))
     ·exact Look.mk rfl rfl rfl (QR.load rfl rfl g37 (Route.enc_sub _))
     ·exact Look.mk rfl rfl rfl (QR.load1 (v := .slice _ L.length _) rfl rfl g46 (Ref16Table.sub_l _))
    refine ?_
    refine Dw.eff (i := 8) (by kernel_rfl) (by kernel_rfl) ?_
    refine One.mk (o := _) (l := [15, 9]) rfl (by kernel_rfl) (Want.none rfl) rfl (ltN rfl) (EF.append (xs := []) (ys := ((L.take j).drop 0)) el37 Route.enc_len Route.enc_cell rfl rfl rfl Try.underlying46 Try.underlying46 rfl rfl (by repeat constructor) (RowsAt.cutOwn (i := 0) (j := j) Route.enc_len hh (by repeat constructor) (by omega) (by omega)) (by first | omega | (simp <;> omega))) (by kernel_rfl) ?_
    rintro sl100 _ rfl
    refine ⟨?_, ?_⟩
    ·rw [List.forall_mem_cons, List.forall_mem_cons]
     refine ⟨?_, ?_, fun _ h => (by cases h)⟩
     ·exact Look.mk rfl rfl rfl (QR.load1 (v := .slice _ L.length _) rfl rfl g46 (Ref16Table.sub_l _))
     ·exact Look.mk rfl rfl rfl (QR.load rfl rfl g37 (Route.enc_sub _))
    refine ?_
    refine Dw.slCase (v := sl100) (by repeat constructor) (fun a100 c100 hv100 hh100 => ?_)
    subst hv100
    refine Dw.eff (i := 11) (by kernel_rfl) (by kernel_rfl) ?_
    refine One.mk (o := _) (l := [15]) rfl (by kernel_rfl) (Want.none rfl) rfl (ltN rfl) (EF.append1 (xs := _) (s := (newR now x)) el37 Route.enc_len Route.enc_cell rfl rfl rfl Try.underlying46 Try.underlying46 rfl rfl (by repeat constructor) (by repeat constructor) (by first | omega | (simp <;> omega))) (by kernel_rfl) ?_
    rintro sl103 _ rfl
    refine ⟨?_, ?_⟩
    ·rw [List.forall_mem_cons]
     refine ⟨?_, fun _ h => (by cases h)⟩
     ·exact Look.mk rfl rfl rfl (QR.load1 (v := .slice _ L.length _) rfl rfl g46 (Ref16Table.sub_l _))
    refine ?_
    refine Dw.slCase (v := sl103) (by repeat constructor) (fun a103 c103 hv103 hh103 => ?_)
    subst hv103
    refine Dw.eff (i := 18) (by kernel_rfl) (by kernel_rfl) ?_
    refine One.mk (o := _) (l := []) rfl (by kernel_rfl) (Want.none rfl) rfl (ltN rfl) (EF.append (xs := _) (ys := ((L.take L.length).drop j)) el37 Route.enc_len Route.enc_cell rfl rfl rfl Try.underlying46 Try.underlying46 rfl rfl (by repeat constructor) (RowsAt.cutOwn (i := j) (j := L.length) Route.enc_len hh (by repeat constructor) (by omega) (by omega)) (by first | omega | (simp <;> omega))) (by kernel_rfl) ?_
    rintro sl110 _ rfl
    refine ⟨fun _ h => (by cases h), ?_⟩
    refine Dw.slCase (v := sl110) (by repeat constructor) (fun a110 c110 hv110 hh110 => ?_)
    subst hv110
    refine Dw.pure (i := 19) rfl (by kernel_rfl) (Want.none rfl) rfl (ltN rfl) (QP.nilCheck rfl rfl) ?_
    refine Dw.pure (i := 20) rfl (by kernel_rfl) (Want.none rfl) rfl (ltN rfl) (QP.fieldAddr rfl rfl f57_1) ?_
    refine Dw.eff (i := 21) (by kernel_rfl) (by kernel_rfl) ?_
    refine One.act (o := _) (l := []) rfl (by kernel_rfl) (Want.none rfl) rfl (EF.store rfl rfl rfl z46 (Ref16Table.set_l _ ⟨a110, _, c110⟩) (cell_one rfl)) (by kernel_rfl) ?_
    rintro _ _ rfl
    refine ⟨fun _ h => (by cases h), ?_⟩
    refine Dw.nil (by kernel_rfl) ?_
    refine hk16 _ _ ?_
    refine Run.seq fun k19 hk19 => ?_
    refine Run.region ?_
    show Sq _ _ _ [0, 1] _ _ _ _
    refine Sq.quiet (i := 0) rfl (Want.none rfl) rfl (ltN rfl) (QP.assign rfl rfl).read ?_
    refine Sq.quiet (i := 1) rfl (Want.none rfl) rfl (ltN rfl) (QP.assign rfl rfl).read ?_
    refine Sq.nil ?_
    refine hk19 _ _ ?_
    refine Run.ret ?_
    exact J.ends (res_tmp2 rfl rfl rfl) (.cons (by repeat constructor) (.cons (by repeat constructor) Takes.nil)) ⟨_, _, _, hh110, 1, 0, rfl, .inr (.inr ⟨hno, by rw [htn], by rw [htn], .inr ⟨by rw [htn], j, hjl, hbef, haft, cut_all hjl _⟩⟩), rfl⟩
 ·skip
  refine Dw.pure (i := 2) rfl (by kernel_rfl) (Want.none rfl) rfl (ltN rfl) (QP.move rfl rfl) ?_
  refine Dw.skip (i := 3) rfl (by kernel_rfl) (Want.no rfl rfl rfl rfl) rfl (ltN rfl) ?_
  refine Dw.skip (i := 4) rfl (by kernel_rfl) (Want.no rfl rfl rfl rfl) rfl (ltN rfl) ?_
  refine Dw.skip (i := 5) rfl (by kernel_rfl) (Want.no rfl rfl rfl rfl) rfl (ltN rfl) ?_
  refine Dw.skip (i := 6) rfl (by kernel_rfl) (Want.no rfl rfl rfl rfl) rfl (ltN rfl) ?_
  refine Dw.skip (i := 7) rfl (by kernel_rfl) (Want.no rfl rfl rfl rfl) rfl (ltN rfl) ?_
  refine Dw.skip (i := 8) rfl (by kernel_rfl) (Want.no rfl rfl rfl rfl) rfl (ltN rfl) ?_
  refine Dw.skip (i := 9) rfl (by kernel_rfl) (Want.no rfl rfl rfl rfl) rfl (ltN rfl) ?_
  refine Dw.skip (i := 10) rfl (by kernel_rfl) (Want.no rfl rfl rfl rfl) rfl (ltN rfl) ?_
  refine Dw.skip (i := 11) rfl (by kernel_rfl) (Want.no rfl rfl rfl rfl) rfl (ltN rfl) ?_
  refine Dw.eff (i := 12) (by kernel_rfl) (by kernel_rfl) ?_
  refine One.skipD (o := _) rfl (by kernel_rfl) (Want.no rfl rfl rfl rfl) rfl (ltN rfl) ?_
  refine Dw.pure (i := 13) rfl (by kernel_rfl) (Want.none rfl) rfl (ltN rfl) (QP.pick_f rfl rfl rfl) ?_
  refine Dw.nil (by kernel_rfl) ?_
  refine hk15 _ _ ?_
  refine Run.cond_f rfl ?_
  refine Run.exit rfl ?_
  refine hk12 _ _ ?_
  refine Run.seq fun k20 hk20 => ?_
  refine Run.regionD (M := [0, 0, 0, 4, 12, 28, 0, 124, 254, 0, 512, 2046, 0, 4096, 12288, 28672, 0, 126976, 262142, 524287, 1048575, 2097151]) (q := 1831677) (r := 33312) (by kernel_rfl) ?_
  have hbef : ∀ y ∈ L.take j, cmpRoute y (newR now x) < 0 := by rw [show j = 0 by omega]; simp
  refine Dw.pure (i := 0) rfl (by kernel_rfl) (Want.none rfl) rfl (ltN rfl) (QP.move rfl rfl) ?_
  refine Dw.pure (i := 2) rfl (by kernel_rfl) (Want.none rfl) rfl (ltN rfl) (QP.move rfl rfl) ?_
  refine Dw.pure (i := 3) rfl (by kernel_rfl) (Want.none rfl) rfl (ltN rfl) (QP.nilCheck rfl rfl) ?_
  refine Dw.pure (i := 4) rfl (by kernel_rfl) (Want.none rfl) rfl (ltN rfl) (QP.fieldAddr rfl rfl f57_1) ?_
  refine Dw.read (i := 5) rfl (by kernel_rfl) (Want.none rfl) rfl (ltN rfl) (QR.load1 (v := .slice _ L.length _) rfl rfl g46 (Ref16Table.sub_l _)) ?_
  refine Dw.pure (i := 6) rfl (by kernel_rfl) (Want.none rfl) rfl (ltN rfl) (QP.move rfl rfl) ?_
  refine Dw.pure (i := 7) rfl (by kernel_rfl) (Want.none rfl) rfl (ltN rfl) (QP.sliceHi rfl rfl rfl Try.underlying46 z37 (by first | omega | (simp <;> omega)) (by first | omega | (simp <;> omega))) ?_
  refine Dw.read (i := 9) rfl (by kernel_rfl) (Want.none rfl) rfl (ltN rfl) (QR.load rfl rfl g37 (Route.enc_sub _)) ?_
  refine Dw.pure (i := 12) rfl (by kernel_rfl) (Want.none rfl) rfl (ltN rfl) (QP.move rfl rfl) ?_
  refine Dw.pure (i := 13) rfl (by kernel_rfl) (Want.none rfl) rfl (ltN rfl) (QP.nilCheck rfl rfl) ?_
  refine Dw.pure (i := 14) rfl (by kernel_rfl) (Want.none rfl) rfl (ltN rfl) (QP.fieldAddr rfl rfl f57_1) ?_
  refine Dw.read (i := 15) rfl (by kernel_rfl) (Want.none rfl) rfl (ltN rfl) (QR.load1 (v := .slice _ L.length _) rfl rfl g46 (Ref16Table.sub_l _)) ?_
  refine Dw.pure (i := 16) rfl (by kernel_rfl) (Want.none rfl) rfl (ltN rfl) (QP.move rfl rfl) ?_
  refine Dw.pure (i := 17) rfl (by kernel_rfl) (Want.none rfl) rfl (ltN rfl) (QP.sliceLo rfl rfl rfl Try.underlying46 z37 (by first | omega | (simp <;> omega)) (by first | omega | (simp <;> omega))) ?_
  refine Dw.effs (l := [1, 10]) (by kernel_rfl) (by kernel_rfl) ?_
  rw [List.forall_mem_cons, List.forall_mem_cons]
  refine ⟨?_, ?_, fun _ h => (by cases h)⟩
  ·skip
   refine One.mk (o := _) (l := [15, 9, 5]) rfl (by kernel_rfl) (Want.none rfl) rfl (ltN rfl) (EF.buildSlice0 (enc := Route.enc) rfl Try.underlying46 z37 zero37 (by simp [Value.cells, Route.enc_len]) (by decide)) (by kernel_rfl) ?_
   rintro _ _ ⟨b93, rfl, rfl⟩
   refine ⟨?_, ?_⟩
   ·rw [List.forall_mem_cons, List.forall_mem_cons, List.forall_mem_cons]
    refine ⟨?_, ?_, ?_, fun _ h => (by cases h)⟩
    ·exact Look.mk rfl rfl rfl (QR.load1 (v := .slice _ L.length _) rfl rfl g46 (Ref16Table.sub_l _))
    ·exact Look.mk rfl rfl rfl (QR.load rfl rfl g37 (Route.enc_sub _))
    ·exact Look.mk rfl rfl rfl (QR.load1 (v := .slice _ L.length _) rfl rfl g46 (Ref16Table.sub_l _))
   refine ?_
   refine Dw.effs (l := [8, 10]) (by kernel_rfl) (by kernel_rfl) ?_
   rw [List.forall_mem_cons, List.forall_mem_cons]
   refine ⟨?_, ?_, fun _ h => (by cases h)⟩
   ·skip
    refine One.mk (o := _) (l := [15, 9]) rfl (by kernel_rfl) (Want.none rfl) rfl (ltN rfl) (EF.append (xs := []) (ys := ((L.take j).drop 0)) el37 Route.enc_len Route.enc_cell rfl rfl rfl Try.underlying46 Try.underlying46 rfl rfl (by repeat constructor) (RowsAt.cutOwn (i := 0) (j := j) Route.enc_len hh (by repeat constructor) (by omega) (by omega)) (by first | omega | (simp <;> omega))) (by kernel_rfl) ?_
    rintro sl100 _ rfl
    refine ⟨?_, ?_⟩
    ·rw [List.forall_mem_cons, List.forall_mem_cons]
     refine ⟨?_, ?_, fun _ h => (by cases h)⟩
     ·exact Look.mk rfl rfl rfl (QR.load1 (v := .slice _ L.length _) rfl rfl g46 (Ref16Table.sub_l _))
     ·exact Look.mk rfl rfl rfl (QR.load rfl rfl g37 (Route.enc_sub _))
    refine ?_
    refine Dw.slCase (v := sl100) (by repeat constructor) (fun a100 c100 hv100 hh100 => ?_)
    subst hv100
    refine Dw.eff (i := 10) (by kernel_rfl) (by kernel_rfl) ?_
    refine One.mk (o := _) (l := [15, 5]) rfl (by kernel_rfl) (Want.none rfl) rfl (ltN rfl) (EF.buildSlice1 rfl Try.underlying46 z37 zero37 (by simp [Value.cells, Route.enc_len]) (by decide) rfl rfl (Route.enc_len _) (by decide)) (by kernel_rfl) ?_
    rintro _ _ ⟨b102, rfl, rfl⟩
    refine ⟨?_, ?_⟩
    ·rw [List.forall_mem_cons, List.forall_mem_cons]
     refine ⟨?_, ?_, fun _ h => (by cases h)⟩
     ·exact Look.mk rfl rfl rfl (QR.load1 (v := .slice _ L.length _) rfl rfl g46 (Ref16Table.sub_l _))
     ·exact Look.mk rfl rfl rfl (QR.load1 (v := .slice _ L.length _) rfl rfl g46 (Ref16Table.sub_l _))
    refine ?_
    refine Dw.eff (i := 11) (by kernel_rfl) (by kernel_rfl) ?_
    refine One.mk (o := _) (l := [15]) rfl (by kernel_rfl) (Want.none rfl) rfl (ltN rfl) (EF.append1 (xs := _) (s := (newR now x)) el37 Route.enc_len Route.enc_cell rfl rfl rfl Try.underlying46 Try.underlying46 rfl rfl (by repeat constructor) (by repeat constructor) (by first | omega | (simp <;> omega))) (by kernel_rfl) ?_
    rintro sl103 _ rfl
    refine ⟨?_, ?_⟩
    ·rw [List.forall_mem_cons]
     refine ⟨?_, fun _ h => (by cases h)⟩
     ·exact Look.mk rfl rfl rfl (QR.load1 (v := .slice _ L.length _) rfl rfl g46 (Ref16Table.sub_l _))
    refine ?_
    refine Dw.slCase (v := sl103) (by repeat constructor) (fun a103 c103 hv103 hh103 => ?_)
    subst hv103
    refine Dw.eff (i := 18) (by kernel_rfl) (by kernel_rfl) ?_
    refine One.mk (o := _) (l := []) rfl (by kernel_rfl) (Want.none rfl) rfl (ltN rfl) (EF.append (xs := _) (ys := ((L.take L.length).drop j)) el37 Route.enc_len Route.enc_cell rfl rfl rfl Try.underlying46 Try.underlying46 rfl rfl (by repeat constructor) (RowsAt.cutOwn (i := j) (j := L.length) Route.enc_len hh (by repeat constructor) (by omega) (by omega)) (by first | omega | (simp <;> omega))) (by kernel_rfl) ?_
    rintro sl110 _ rfl
    refine ⟨fun _ h => (by cases h), ?_⟩
    refine Dw.slCase (v := sl110) (by repeat constructor) (fun a110 c110 hv110 hh110 => ?_)
    subst hv110
    refine Dw.pure (i := 19) rfl (by kernel_rfl) (Want.none rfl) rfl (ltN rfl) (QP.nilCheck rfl rfl) ?_
    refine Dw.pure (i := 20) rfl (by kernel_rfl) (Want.none rfl) rfl (ltN rfl) (QP.fieldAddr rfl rfl f57_1) ?_
    refine Dw.eff (i := 21) (by kernel_rfl) (by kernel_rfl) ?_
    refine One.act (o := _) (l := []) rfl (by kernel_rfl) (Want.none rfl) rfl (EF.store rfl rfl rfl z46 (Ref16Table.set_l _ ⟨a110, _, c110⟩) (cell_one rfl)) (by kernel_rfl) ?_
    rintro _ _ rfl
    refine ⟨fun _ h => (by cases h), ?_⟩
    refine Dw.nil (by kernel_rfl) ?_
    refine hk20 _ _ ?_
    refine Run.seq fun k21 hk21 => ?_
    refine Run.region ?_
    show Sq _ _ _ [0, 1] _ _ _ _
    refine Sq.quiet (i := 0) rfl (Want.none rfl) rfl (ltN rfl) (QP.assign rfl rfl).read ?_
    refine Sq.quiet (i := 1) rfl (Want.none rfl) rfl (ltN rfl) (QP.assign rfl rfl).read ?_
    refine Sq.nil ?_
    refine hk21 _ _ ?_
    refine Run.ret ?_
    exact J.ends (res_tmp2 rfl rfl rfl) (.cons (by repeat constructor) (.cons (by repeat constructor) Takes.nil)) ⟨_, _, _, hh110, 1, 0, rfl, .inr (.inr ⟨hno, by rw [htn], by rw [htn], .inr ⟨by rw [htn], j, hjl, hbef, haft, cut_all hjl _⟩⟩), rfl⟩
   ·skip
    refine One.mk (o := _) (l := [15, 5]) rfl (by kernel_rfl) (Want.none rfl) rfl (ltN rfl) (EF.buildSlice1 rfl Try.underlying46 z37 zero37 (by simp [Value.cells, Route.enc_len]) (by decide) rfl rfl (Route.enc_len _) (by decide)) (by kernel_rfl) ?_
    rintro _ _ ⟨b102, rfl, rfl⟩
    refine ⟨?_, ?_⟩
    ·rw [List.forall_mem_cons, List.forall_mem_cons]
     refine ⟨?_, ?_, fun _ h => (by cases h)⟩
     ·exact Look.mk rfl rfl rfl (QR.load1 (v := .slice _ L.length _) rfl rfl g46 (Ref16Table.sub_l _))
     ·exact Look.mk rfl rfl rfl (QR.load1 (v := .slice _ L.length _) rfl rfl g46 (Ref16Table.sub_l _))
    refine ?_
    refine Dw.eff (i := 8) (by kernel_rfl) (by kernel_rfl) ?_
    refine One.mk (o := _) (l := [15, 9]) rfl (by kernel_rfl) (Want.none rfl) rfl (ltN rfl) (EF.append (xs := []) (ys := ((L.take j).drop 0)) el37 Route.enc_len Route.enc_cell rfl rfl rfl Try.underlying46 Try.underlying46 rfl rfl (by repeat constructor) (RowsAt.cutOwn (i := 0) (j := j) Route.enc_len hh (by repeat constructor) (by omega) (by omega)) (by first | omega | (simp <;> omega))) (by kernel_rfl) ?_
    rintro sl100 _ rfl
    refine ⟨?_, ?_⟩
    ·rw [List.forall_mem_cons, List.forall_mem_cons]
     refine ⟨?_, ?_, fun _ h => (by cases h)⟩
     ·exact Look.mk rfl rfl rfl (QR.load1 (v := .slice _ L.length _) rfl rfl g46 (Ref16Table.sub_l _))
     ·exact Look.mk rfl rfl rfl (QR.load rfl rfl g37 (Route.enc_sub _))
    refine ?_
    refine Dw.slCase (v := sl100) (by repeat constructor) (fun a100 c100 hv100 hh100 => ?_)
    subst hv100
    refine Dw.eff (i := 11) (by kernel_rfl) (by kernel_rfl) ?_
    refine One.mk (o := _) (l := [15]) rfl (by kernel_rfl) (Want.none rfl) rfl (ltN rfl) (EF.append1 (xs := _) (s := (newR now x)) el37 Route.enc_len Route.enc_cell rfl rfl rfl Try.underlying46 Try.underlying46 rfl rfl (by repeat constructor) (by repeat constructor) (by first | omega | (simp <;> omega))) (by kernel_rfl) ?_
    rintro sl103 _ rfl
    refine ⟨?_, ?_⟩
    ·rw [List.forall_mem_cons]
     refine ⟨?_, fun _ h => (by cases h)⟩
     ·exact Look.mk rfl rfl rfl (QR.load1 (v := .slice _ L.length _) rfl rfl g46 (Ref16Table.sub_l _))
    refine ?_
    refine Dw.slCase (v := sl103) (by repeat constructor) (fun a103 c103 hv103 hh103 => ?_)
    subst hv103
    refine Dw.eff (i := 18) (by kernel_rfl) (by kernel_rfl) ?_
    refine One.mk (o := _) (l := []) rfl (by kernel_rfl) (Want.none rfl) rfl (ltN rfl) (EF.append (xs := _) (ys := ((L.take L.length).drop j)) el37 Route.enc_len Route.enc_cell rfl rfl rfl Try.underlying46 Try.underlying46 rfl rfl (by repeat constructor) (RowsAt.cutOwn (i := j) (j := L.length) Route.enc_len hh (by repeat constructor) (by omega) (by omega)) (by first | omega | (simp <;> omega))) (by kernel_rfl) ?_
    rintro sl110 _ rfl
    refine ⟨fun _ h => (by cases h), ?_⟩
    refine Dw.slCase (v := sl110) (by repeat constructor) (fun a110 c110 hv110 hh110 => ?_)
    subst hv110
    refine Dw.pure (i := 19) rfl (by kernel_rfl) (Want.none rfl) rfl (ltN rfl) (QP.nilCheck rfl rfl) ?_
    refine Dw.pure (i := 20) rfl (by kernel_rfl) (Want.none rfl) rfl (ltN rfl) (QP.fieldAddr rfl rfl f57_1) ?_
    refine Dw.eff (i := 21) (by kernel_rfl) (by kernel_rfl) ?_
    refine One.act (o := _) (l := []) rfl (by kernel_rfl) (Want.none rfl) rfl (EF.store rfl rfl rfl z46 (Ref16Table.set_l _ ⟨a110, _, c110⟩) (cell_one rfl)) (by kernel_rfl) ?_
    rintro _ _ rfl
    refine ⟨fun _ h => (by cases h), ?_⟩
    refine Dw.nil (by kernel_rfl) ?_
    refine hk20 _ _ ?_
    refine Run.seq fun k22 hk22 => ?_
    refine Run.region ?_
    show Sq _ _ _ [0, 1] _ _ _ _
    refine Sq.quiet (i := 0) rfl (Want.none rfl) rfl (ltN rfl) (QP.assign rfl rfl).read ?_
    refine Sq.quiet (i := 1) rfl (Want.none rfl) rfl (ltN rfl) (QP.assign rfl rfl).read ?_
    refine Sq.nil ?_
    refine hk22 _ _ ?_
    refine Run.ret ?_
    exact J.ends (res_tmp2 rfl rfl rfl) (.cons (by repeat constructor) (.cons (by repeat constructor) Takes.nil)) ⟨_, _, _, hh110, 1, 0, rfl, .inr (.inr ⟨hno, by rw [htn], by rw [htn], .inr ⟨by rw [htn], j, hjl, hbef, haft, cut_all hjl _⟩⟩), rfl⟩
  ·skip
   refine One.mk (o := _) (l := [15, 5]) rfl (by kernel_rfl) (Want.none rfl) rfl (ltN rfl) (EF.buildSlice1 rfl Try.underlying46 z37 zero37 (by simp [Value.cells, Route.enc_len]) (by decide) rfl rfl (Route.enc_len _) (by decide)) (by kernel_rfl) ?_
   rintro _ _ ⟨b102, rfl, rfl⟩
   refine ⟨?_, ?_⟩
   ·rw [List.forall_mem_cons, List.forall_mem_cons]
    refine ⟨?_, ?_, fun _ h => (by cases h)⟩
    ·exact Look.mk rfl rfl rfl (QR.load1 (v := .slice _ L.length _) rfl rfl g46 (Ref16Table.sub_l _))
    ·exact Look.mk rfl rfl rfl (QR.load1 (v := .slice _ L.length _) rfl rfl g46 (Ref16Table.sub_l _))
   refine ?_
   refine Dw.eff (i := 1) (by kernel_rfl) (by kernel_rfl) ?_
   refine One.mk (o := _) (l := [15, 9, 5]) rfl (by kernel_rfl) (Want.none rfl) rfl (ltN rfl) (EF.buildSlice0 (enc := Route.enc) rfl Try.underlying46 z37 zero37 (by simp [Value.cells, Route.enc_len]) (by decide)) (by kernel_rfl) ?_
   rintro _ _ ⟨b93, rfl, rfl⟩
   refine ⟨?_, ?_⟩
   ·rw [List.forall_mem_cons, List.forall_mem_cons, List.forall_mem_cons]
    refine ⟨?_, ?_, ?_, fun _ h => (by cases h)⟩
    ·exact Look.mk rfl rfl rfl (QR.load1 (v := .slice _ L.length _) rfl rfl g46 (Ref16Table.sub_l _))
    ·exact Look.mk rfl rfl rfl (QR.load rfl rfl g37 (Route.enc_sub _))
    ·exact Look.mk rfl rfl rfl (QR.load1 (v := .slice _ L.length _) rfl rfl g46 (Ref16Table.sub_l _))
   refine ?_
   refine Dw.eff (i := 8) (by kernel_rfl) (by kernel_rfl) ?_
   refine One.mk (o := _) (l := [15, 9]) rfl (by kernel_rfl) (Want.none rfl) rfl (ltN rfl) (EF.append (xs := []) (ys := ((L.take j).drop 0)) el37 Route.enc_len Route.enc_cell rfl rfl rfl Try.underlying46 Try.underlying46 rfl rfl (by repeat constructor) (RowsAt.cutOwn (i := 0) (j := j) Route.enc_len hh (by repeat constructor) (by omega) (by omega)) (by first | omega | (simp <;> omega))) (by kernel_rfl) ?_
   rintro sl100 _ rfl
   refine ⟨?_, ?_⟩
   ·rw [List.forall_mem_cons, List.forall_mem_cons]
    refine ⟨?_, ?_, fun _ h => (by cases h)⟩
    ·exact Look.mk rfl rfl rfl (QR.load1 (v := .slice _ L.length _) rfl rfl g46 (Ref16Table.sub_l _))
    ·exact Look.mk rfl rfl rfl (QR.load rfl rfl g37 (Route.enc_sub _))
   refine ?_
   refine Dw.slCase (v := sl100) (by repeat constructor) (fun a100 c100 hv100 hh100 => ?_)
   subst hv100
   refine Dw.eff (i := 11) (by kernel_rfl) (by kernel_rfl) ?_
   refine One.mk (o := _) (l := [15]) rfl (by kernel_rfl) (Want.none rfl) rfl (ltN rfl) (EF.append1 (xs := _) (s := (newR now x)) el37 Route.enc_len Route.enc_cell rfl rfl rfl Try.underlying46 Try.underlying46 rfl rfl (by repeat constructor) (by repeat constructor) (by first | omega | (simp <;> omega))) (by kernel_rfl) ?_
   rintro sl103 _ rfl
   refine ⟨?_, ?_⟩
   ·rw [List.forall_mem_cons]
    refine ⟨?_, fun _ h => (by cases h)⟩
    ·exact Look.mk rfl rfl rfl (QR.load1 (v := .slice _ L.length _) rfl rfl g46 (Ref16Table.sub_l _))
   refine ?_
   refine Dw.slCase (v := sl103) (by repeat constructor) (fun a103 c103 hv103 hh103 => ?_)
   subst hv103
   refine Dw.eff (i := 18) (by kernel_rfl) (by kernel_rfl) ?_
   refine One.mk (o := _) (l := []) rfl (by kernel_rfl) (Want.none rfl) rfl (ltN rfl) (EF.append (xs := _) (ys := ((L.take L.length).drop j)) el37 Route.enc_len Route.enc_cell rfl rfl rfl Try.underlying46 Try.underlying46 rfl rfl (by repeat constructor) (RowsAt.cutOwn (i := j) (j := L.length) Route.enc_len hh (by repeat constructor) (by omega) (by omega)) (by first | omega | (simp <;> omega))) (by kernel_rfl) ?_
   rintro sl110 _ rfl
   refine ⟨fun _ h => (by cases h), ?_⟩
   refine Dw.slCase (v := sl110) (by repeat constructor) (fun a110 c110 hv110 hh110 => ?_)
   subst hv110
   refine Dw.pure (i := 19) rfl (by kernel_rfl) (Want.none rfl) rfl (ltN rfl) (QP.nilCheck rfl rfl) ?_
   refine Dw.pure (i := 20) rfl (by kernel_rfl) (Want.none rfl) rfl (ltN rfl) (QP.fieldAddr rfl rfl f57_1) ?_
   refine Dw.eff (i := 21) (by kernel_rfl) (by kernel_rfl) ?_
   refine One.act (o := _) (l := []) rfl (by kernel_rfl) (Want.none rfl) rfl (EF.store rfl rfl rfl z46 (Ref16Table.set_l _ ⟨a110, _, c110⟩) (cell_one rfl)) (by kernel_rfl) ?_
   rintro _ _ rfl
   refine ⟨fun _ h => (by cases h), ?_⟩
   refine Dw.nil (by kernel_rfl) ?_
   refine hk20 _ _ ?_
   refine Run.seq fun k23 hk23 => ?_
   refine Run.region ?_
   show Sq _ _ _ [0, 1] _ _ _ _
   refine Sq.quiet (i := 0) rfl (Want.none rfl) rfl (ltN rfl) (QP.assign rfl rfl).read ?_
   refine Sq.quiet (i := 1) rfl (Want.none rfl) rfl (ltN rfl) (QP.assign rfl rfl).read ?_
   refine Sq.nil ?_
   refine hk23 _ _ ?_
   refine Run.ret ?_
   exact J.ends (res_tmp2 rfl rfl rfl) (.cons (by repeat constructor) (.cons (by repeat constructor) Takes.nil)) ⟨_, _, _, hh110, 1, 0, rfl, .inr (.inr ⟨hno, by rw [htn], by rw [htn], .inr ⟨by rw [htn], j, hjl, hbef, haft, cut_all hjl _⟩⟩), rfl⟩

theorem rtell_same (F : Fr) {b : Nat} {most : Int} {a : Option Addr} {c : Nat} {L : List Route} (hh : SlH a c L) (hL : L.length ≤ 1000000) (hs : L.Pairwise fun a b => cmpRoute a b < 0) (hh0 : ∀ x ∈ L, 1 ≤ x.hold ∧ x.hold ≤ 2147483648) (now : Int) (hn0 : 0 ≤ now) (hn1 : now ≤ 2305843009213693952) (x : Route) (ok : Bool) (hbnd : 1 ≤ x.hold ∧ x.hold ≤ 2147483648) {i : Nat} {s : Route} (hsi : L[i]? = some s) (hks : keyR s = keyR x) (c122 : s.selected = true) (c124 : ok = false) (c134 : s.id_ = x.id_)  : Spec Try.prog 39 #[.pointer (some ⟨b, 0, none⟩), .int .i64 now, .agg (Route.enc x).toArray, .bool ok] [blk b (Ref16Table.enc ⟨most, ⟨a, L.length, c⟩⟩) 57, slA 37 81 Route.enc (.slice a L.length c) L] F (fun v S => ∃ a2 c2, ∃ L2 : List Route, SlH a2 c2 L2 ∧ ∃ ta te, v = .tuple #[.int .i64 ta, .int .i64 te] ∧ RTell most L now x ok ta te L2 ∧ S = [blk b (Ref16Table.enc ⟨most, ⟨a2, L2.length, c2⟩⟩) 57, slA 37 81 Route.enc (.slice a2 L2.length c2) L2]) := by
 have hcle := hh.le
 refine Spec.intro (N := 173) (args := [.pointer (some ⟨b, 0, none⟩), .int .i64 now, .agg (Route.enc x).toArray, .bool ok]) Try.func39 rfl rfl (by simp) ?_
 refine Run.seq fun k1 hk1 => ?_
 refine Run.region ?_
 show Sq _ _ _ [0, 1, 2] _ _ _ _
 refine Sq.eff (i := 0) rfl (Want.none rfl) rfl (ltN rfl) (EF.boxA rfl rfl) ?_
 rintro _ _ ⟨b6, rfl, rfl⟩
 refine Sq.quiet (i := 1) rfl (Want.none rfl) rfl (ltN rfl) (QP.assign rfl rfl).read ?_
 refine Sq.quiet (i := 2) rfl (Want.none rfl) rfl (ltN rfl) (QP.assign rfl rfl).read ?_
 refine Sq.nil ?_
 refine hk1 _ _ ?_
 refine Run.seq fun k2 hk2 => ?_
 refine Run.seq fun k3 hk3 => ?_
 refine Run.region ?_
 show Sq _ _ _ [0, 1, 2, 3, 4, 5, 6, 7] _ _ _ _
 refine Sq.quiet (i := 0) rfl (Want.none rfl) rfl (ltN rfl) (QP.fieldAddr rfl rfl f37_9).read ?_
 refine Sq.quiet (i := 1) rfl (Want.none rfl) rfl (ltN rfl) (QR.load1 rfl rfl g3 (Route.sub_hold _)) ?_
 refine Sq.quiet (i := 2) rfl (Want.none rfl) rfl (ltN rfl) (QP.lss rfl rfl rfl).read ?_
 refine J.decF (by omega) ?_
 refine Sq.quiet (i := 3) rfl (Want.none rfl) rfl (ltN rfl) (QP.move rfl rfl).read ?_
 refine Sq.quiet (i := 4) rfl (Want.yes rfl rfl rfl rfl) rfl (ltN rfl) (QP.fieldAddr rfl rfl f37_9).read ?_
 refine Sq.quiet (i := 5) rfl (Want.yes rfl rfl rfl rfl) rfl (ltN rfl) (QR.load1 rfl rfl g3 (Route.sub_hold _)) ?_
 refine Sq.quiet (i := 6) rfl (Want.yes rfl rfl rfl rfl) rfl (ltN rfl) (QP.gtr rfl rfl rfl).read ?_
 refine J.decF (by omega) ?_
 refine Sq.quiet (i := 7) rfl (Want.none rfl) rfl (ltN rfl) (QP.pick_f rfl rfl rfl).read ?_
 refine Sq.nil ?_
 refine hk3 _ _ ?_
 refine Run.cond_f rfl ?_
 refine Run.skip ?_
 refine hk2 _ _ ?_
 refine Run.seq fun k4 hk4 => ?_
 refine Run.region ?_
 show Sq _ _ _ [0, 1, 2, 3, 4, 5, 6, 7, 8] _ _ _ _
 refine Sq.quiet (i := 0) rfl (Want.none rfl) rfl (ltN rfl) (QP.move rfl rfl).read ?_
 refine Sq.quiet (i := 1) rfl (Want.none rfl) rfl (ltN rfl) (QP.fieldAddr rfl rfl f37_0).read ?_
 refine Sq.quiet (i := 2) rfl (Want.none rfl) rfl (ltN rfl) (QR.load rfl rfl g32 (Route.sub_pair _)) ?_
 refine Sq.quiet (i := 3) rfl (Want.none rfl) rfl (ltN rfl) (QP.fieldAddr rfl rfl f37_1).read ?_
 refine Sq.quiet (i := 4) rfl (Want.none rfl) rfl (ltN rfl) (QR.load1 rfl rfl g3 (Route.sub_if_ _)) ?_
 refine Sq.quiet (i := 5) rfl (Want.none rfl) rfl (ltN rfl) (QP.fieldAddr rfl rfl f37_2).read ?_
 refine Sq.quiet (i := 6) rfl (Want.none rfl) rfl (ltN rfl) (QR.load rfl rfl g28 (Route.sub_from_ _)) ?_
 refine Sq.eff (i := 7) rfl (Want.none rfl) rfl (ltN rfl) (EF.call rfl ce21 rfl (.cons (by repeat constructor) (.cons (by repeat constructor) Takes.nil)) (fun F' hle hr => rfind_spec F' hh hL x.pair x.if_ x.from_)) ?_
 rintro _ _ ⟨_, ⟨rfl, n28, rfl, hfind⟩, rfl⟩
 refine J.app ?_
 refine Sq.quiet (i := 8) rfl (Want.none rfl) rfl (ltN rfl) (QP.assign rfl rfl).read ?_
 refine Sq.nil ?_
 refine hk4 _ _ ?_
 refine Run.seq fun k5 hk5 => ?_
 refine Run.seq fun k6 hk6 => ?_
 refine Run.region ?_
 show Sq _ _ _ [0, 1] _ _ _ _
 refine Sq.quiet (i := 0) rfl (Want.none rfl) rfl (ltN rfl) (QP.move rfl rfl).read ?_
 refine Sq.quiet (i := 1) rfl (Want.none rfl) rfl (ltN rfl) (QP.lss rfl rfl rfl).read ?_
 refine J.decF (by rcases hfind with ⟨_, h2⟩ | ⟨i2, s2, h1, h2, h3⟩ <;> first | omega | exact absurd hks (h2 s (List.mem_of_getElem? hsi))) ?_
 refine Sq.nil ?_
 refine hk6 _ _ ?_
 refine Run.cond_f rfl ?_
 refine Run.skip ?_
 refine hk5 _ _ ?_
 refine Run.seq fun k7 hk7 => ?_
 refine Run.region ?_
 show Sq _ _ _ [0, 1, 2, 3, 4, 5, 6] _ _ _ _
 obtain rfl : n28 = (i : Int) := by
   rcases hfind with ⟨_, h2⟩ | ⟨i2, s2, h1, h2, h3⟩
   · exact absurd hks (h2 s (List.mem_of_getElem? hsi))
   · rw [h1, idx_uniqR hs h2 hsi (h3.trans hks.symm)]
 have hlt : i < L.length := (List.getElem?_eq_some_iff.1 hsi).1
 obtain ⟨b0, o0, rfl⟩ := hh.get (by omega)
 have hhold := hh0 s (List.mem_of_getElem? hsi)
 refine Sq.quiet (i := 0) rfl (Want.none rfl) rfl (ltN rfl) (QP.move rfl rfl).read ?_
 refine Sq.quiet (i := 1) rfl (Want.none rfl) rfl (ltN rfl) (QP.nilCheck rfl rfl).read ?_
 refine Sq.quiet (i := 2) rfl (Want.none rfl) rfl (ltN rfl) (QP.fieldAddr rfl rfl f57_1).read ?_
 refine Sq.quiet (i := 3) rfl (Want.none rfl) rfl (ltN rfl) (QR.load1 (v := .slice _ L.length _) rfl rfl g46 (Ref16Table.sub_l _)) ?_
 refine Sq.quiet (i := 4) rfl (Want.none rfl) rfl (ltN rfl) (QP.move rfl rfl).read ?_
 refine Sq.quiet (i := 5) rfl (Want.none rfl) rfl (ltN rfl) (QP.indexAddr rfl rfl rfl Try.underlying46 z37 (by first | omega | (simp <;> omega)) (by first | omega | (simp <;> omega))).read ?_
 refine Sq.quiet (i := 6) rfl (Want.none rfl) rfl (ltN rfl) (QP.assign rfl rfl).read ?_
 refine Sq.nil ?_
 refine hk7 _ _ ?_
 refine Run.seq fun k8 hk8 => ?_
 refine Run.seq fun k9 hk9 => ?_
 refine Run.regionD (M := [0, 1, 3, 7, 15, 31, 63, 127, 255, 511, 1023, 2047, 4095, 511, 8703, 32767, 65535]) (q := 131071) (r := 20488) (by kernel_rfl) ?_
 refine Dw.pure (i := 0) rfl (by kernel_rfl) (Want.none rfl) rfl (ltN rfl) (QP.move rfl rfl) ?_
 refine Dw.pure (i := 1) rfl (by kernel_rfl) (Want.none rfl) rfl (ltN rfl) (QP.nilCheck rfl rfl) ?_
 refine Dw.pure (i := 2) rfl (by kernel_rfl) (Want.none rfl) rfl (ltN rfl) (QP.fieldAddr rfl rfl f37_10) ?_
 refine Dw.read (i := 3) rfl (by kernel_rfl) (Want.none rfl) rfl (ltN rfl) (QR.loadSlF1 rfl rfl g4 Route.enc_len (SlAt.own Route.enc_len (by repeat constructor)) hsi (Route.sub_selected _)) ?_
 refine J.boolT (c122) ?_
 refine Dw.pure (i := 4) rfl (by kernel_rfl) (Want.none rfl) rfl (ltN rfl) (QP.move rfl rfl) ?_
 refine Dw.pure (i := 5) rfl (by kernel_rfl) (Want.yes rfl rfl rfl rfl) rfl (ltN rfl) (QP.move rfl rfl) ?_
 refine J.boolF (c124) ?_
 refine Dw.pure (i := 6) rfl (by kernel_rfl) (Want.yes rfl rfl rfl rfl) rfl (ltN rfl) (QP.not rfl rfl) ?_
 refine Dw.pure (i := 7) rfl (by kernel_rfl) (Want.none rfl) rfl (ltN rfl) (QP.pick_t rfl rfl rfl) ?_
 refine Dw.pure (i := 8) rfl (by kernel_rfl) (Want.none rfl) rfl (ltN rfl) (QP.move rfl rfl) ?_
 refine Dw.pure (i := 9) rfl (by kernel_rfl) (Want.yes rfl rfl rfl rfl) rfl (ltN rfl) (QP.move rfl rfl) ?_
 refine Dw.pure (i := 10) rfl (by kernel_rfl) (Want.yes rfl rfl rfl rfl) rfl (ltN rfl) (QP.nilCheck rfl rfl) ?_
 refine Dw.pure (i := 11) rfl (by kernel_rfl) (Want.yes rfl rfl rfl rfl) rfl (ltN rfl) (QP.fieldAddr rfl rfl f37_3) ?_
 refine Dw.read (i := 12) rfl (by kernel_rfl) (Want.yes rfl rfl rfl rfl) rfl (ltN rfl) (QR.loadSlF rfl rfl g34 Route.enc_len (SlAt.own Route.enc_len (by repeat constructor)) hsi (Route.sub_id_ _)) ?_
 refine Dw.pure (i := 13) rfl (by kernel_rfl) (Want.yes rfl rfl rfl rfl) rfl (ltN rfl) (QP.fieldAddr rfl rfl f37_3) ?_
 refine Dw.read (i := 14) rfl (by kernel_rfl) (Want.yes rfl rfl rfl rfl) rfl (ltN rfl) (QR.load rfl rfl g34 (Route.sub_id_ _)) ?_
 refine Dw.pure (i := 15) rfl (by kernel_rfl) (Want.yes rfl rfl rfl rfl) rfl (ltN rfl) (QP.eql_agg eq34 rfl rfl rfl) ?_
 refine J.decT (c134) ?_
 refine Dw.pure (i := 16) rfl (by kernel_rfl) (Want.none rfl) rfl (ltN rfl) (QP.pick_t rfl rfl rfl) ?_
 refine Dw.nil (by kernel_rfl) ?_
 refine hk9 _ _ ?_
 refine Run.cond_t rfl ?_
 refine Run.seq fun k10 hk10 => ?_
 refine Run.region ?_
 show Sq _ _ _ [0, 1] _ _ _ _
 have hto : tellOld now s x ok = (3, 0, s) := by unfold tellOld; rw [if_neg (show ¬ (x.hold < 1 ∨ 2147483648 < x.hold) from by omega), if_pos ⟨c122, c124, c134⟩]
 refine Sq.quiet (i := 0) rfl (Want.none rfl) rfl (ltN rfl) (QP.assign rfl rfl).read ?_
 refine Sq.quiet (i := 1) rfl (Want.none rfl) rfl (ltN rfl) (QP.assign rfl rfl).read ?_
 refine Sq.nil ?_
 refine hk10 _ _ ?_
 refine Run.ret ?_
 exact J.ends (res_tmp2 rfl rfl rfl) (.cons (by repeat constructor) (.cons (by repeat constructor) Takes.nil)) ⟨_, _, _, hh, 3, 0, rfl, .inl ⟨i, s, hsi, hks, by rw [hto], by rw [hto], by rw [hto, set_selfR hsi]⟩, rfl⟩

theorem rtell_upa (F : Fr) {b : Nat} {most : Int} {a : Option Addr} {c : Nat} {L : List Route} (hh : SlH a c L) (hL : L.length ≤ 1000000) (hs : L.Pairwise fun a b => cmpRoute a b < 0) (hh0 : ∀ x ∈ L, 1 ≤ x.hold ∧ x.hold ≤ 2147483648) (now : Int) (hn0 : 0 ≤ now) (hn1 : now ≤ 2305843009213693952) (x : Route) (ok : Bool) (hbnd : 1 ≤ x.hold ∧ x.hold ≤ 2147483648) {i : Nat} {s : Route} (hsi : L[i]? = some s) (hks : keyR s = keyR x) (c122 : s.selected = false) (c143 : x.ref ≠ 65535)  : Spec Try.prog 39 #[.pointer (some ⟨b, 0, none⟩), .int .i64 now, .agg (Route.enc x).toArray, .bool ok] [blk b (Ref16Table.enc ⟨most, ⟨a, L.length, c⟩⟩) 57, slA 37 81 Route.enc (.slice a L.length c) L] F (fun v S => ∃ a2 c2, ∃ L2 : List Route, SlH a2 c2 L2 ∧ ∃ ta te, v = .tuple #[.int .i64 ta, .int .i64 te] ∧ RTell most L now x ok ta te L2 ∧ S = [blk b (Ref16Table.enc ⟨most, ⟨a2, L2.length, c2⟩⟩) 57, slA 37 81 Route.enc (.slice a2 L2.length c2) L2]) := by
 have hcle := hh.le
 refine Spec.intro (N := 173) (args := [.pointer (some ⟨b, 0, none⟩), .int .i64 now, .agg (Route.enc x).toArray, .bool ok]) Try.func39 rfl rfl (by simp) ?_
 refine Run.seq fun k1 hk1 => ?_
 refine Run.region ?_
 show Sq _ _ _ [0, 1, 2] _ _ _ _
 refine Sq.eff (i := 0) rfl (Want.none rfl) rfl (ltN rfl) (EF.boxA rfl rfl) ?_
 rintro _ _ ⟨b6, rfl, rfl⟩
 refine Sq.quiet (i := 1) rfl (Want.none rfl) rfl (ltN rfl) (QP.assign rfl rfl).read ?_
 refine Sq.quiet (i := 2) rfl (Want.none rfl) rfl (ltN rfl) (QP.assign rfl rfl).read ?_
 refine Sq.nil ?_
 refine hk1 _ _ ?_
 refine Run.seq fun k2 hk2 => ?_
 refine Run.seq fun k3 hk3 => ?_
 refine Run.region ?_
 show Sq _ _ _ [0, 1, 2, 3, 4, 5, 6, 7] _ _ _ _
 refine Sq.quiet (i := 0) rfl (Want.none rfl) rfl (ltN rfl) (QP.fieldAddr rfl rfl f37_9).read ?_
 refine Sq.quiet (i := 1) rfl (Want.none rfl) rfl (ltN rfl) (QR.load1 rfl rfl g3 (Route.sub_hold _)) ?_
 refine Sq.quiet (i := 2) rfl (Want.none rfl) rfl (ltN rfl) (QP.lss rfl rfl rfl).read ?_
 refine J.decF (by omega) ?_
 refine Sq.quiet (i := 3) rfl (Want.none rfl) rfl (ltN rfl) (QP.move rfl rfl).read ?_
 refine Sq.quiet (i := 4) rfl (Want.yes rfl rfl rfl rfl) rfl (ltN rfl) (QP.fieldAddr rfl rfl f37_9).read ?_
 refine Sq.quiet (i := 5) rfl (Want.yes rfl rfl rfl rfl) rfl (ltN rfl) (QR.load1 rfl rfl g3 (Route.sub_hold _)) ?_
 refine Sq.quiet (i := 6) rfl (Want.yes rfl rfl rfl rfl) rfl (ltN rfl) (QP.gtr rfl rfl rfl).read ?_
 refine J.decF (by omega) ?_
 refine Sq.quiet (i := 7) rfl (Want.none rfl) rfl (ltN rfl) (QP.pick_f rfl rfl rfl).read ?_
 refine Sq.nil ?_
 refine hk3 _ _ ?_
 refine Run.cond_f rfl ?_
 refine Run.skip ?_
 refine hk2 _ _ ?_
 refine Run.seq fun k4 hk4 => ?_
 refine Run.region ?_
 show Sq _ _ _ [0, 1, 2, 3, 4, 5, 6, 7, 8] _ _ _ _
 refine Sq.quiet (i := 0) rfl (Want.none rfl) rfl (ltN rfl) (QP.move rfl rfl).read ?_
 refine Sq.quiet (i := 1) rfl (Want.none rfl) rfl (ltN rfl) (QP.fieldAddr rfl rfl f37_0).read ?_
 refine Sq.quiet (i := 2) rfl (Want.none rfl) rfl (ltN rfl) (QR.load rfl rfl g32 (Route.sub_pair _)) ?_
 refine Sq.quiet (i := 3) rfl (Want.none rfl) rfl (ltN rfl) (QP.fieldAddr rfl rfl f37_1).read ?_
 refine Sq.quiet (i := 4) rfl (Want.none rfl) rfl (ltN rfl) (QR.load1 rfl rfl g3 (Route.sub_if_ _)) ?_
 refine Sq.quiet (i := 5) rfl (Want.none rfl) rfl (ltN rfl) (QP.fieldAddr rfl rfl f37_2).read ?_
 refine Sq.quiet (i := 6) rfl (Want.none rfl) rfl (ltN rfl) (QR.load rfl rfl g28 (Route.sub_from_ _)) ?_
 refine Sq.eff (i := 7) rfl (Want.none rfl) rfl (ltN rfl) (EF.call rfl ce21 rfl (.cons (by repeat constructor) (.cons (by repeat constructor) Takes.nil)) (fun F' hle hr => rfind_spec F' hh hL x.pair x.if_ x.from_)) ?_
 rintro _ _ ⟨_, ⟨rfl, n28, rfl, hfind⟩, rfl⟩
 refine J.app ?_
 refine Sq.quiet (i := 8) rfl (Want.none rfl) rfl (ltN rfl) (QP.assign rfl rfl).read ?_
 refine Sq.nil ?_
 refine hk4 _ _ ?_
 refine Run.seq fun k5 hk5 => ?_
 refine Run.seq fun k6 hk6 => ?_
 refine Run.region ?_
 show Sq _ _ _ [0, 1] _ _ _ _
 refine Sq.quiet (i := 0) rfl (Want.none rfl) rfl (ltN rfl) (QP.move rfl rfl).read ?_
 refine Sq.quiet (i := 1) rfl (Want.none rfl) rfl (ltN rfl) (QP.lss rfl rfl rfl).read ?_
 refine J.decF (by rcases hfind with ⟨_, h2⟩ | ⟨i2, s2, h1, h2, h3⟩ <;> first | omega | exact absurd hks (h2 s (List.mem_of_getElem? hsi))) ?_
 refine Sq.nil ?_
 refine hk6 _ _ ?_
 refine Run.cond_f rfl ?_
 refine Run.skip ?_
 refine hk5 _ _ ?_
 refine Run.seq fun k7 hk7 => ?_
 refine Run.region ?_
 show Sq _ _ _ [0, 1, 2, 3, 4, 5, 6] _ _ _ _
 obtain rfl : n28 = (i : Int) := by
   rcases hfind with ⟨_, h2⟩ | ⟨i2, s2, h1, h2, h3⟩
   · exact absurd hks (h2 s (List.mem_of_getElem? hsi))
   · rw [h1, idx_uniqR hs h2 hsi (h3.trans hks.symm)]
 have hlt : i < L.length := (List.getElem?_eq_some_iff.1 hsi).1
 obtain ⟨b0, o0, rfl⟩ := hh.get (by omega)
 have hhold := hh0 s (List.mem_of_getElem? hsi)
 refine Sq.quiet (i := 0) rfl (Want.none rfl) rfl (ltN rfl) (QP.move rfl rfl).read ?_
 refine Sq.quiet (i := 1) rfl (Want.none rfl) rfl (ltN rfl) (QP.nilCheck rfl rfl).read ?_
 refine Sq.quiet (i := 2) rfl (Want.none rfl) rfl (ltN rfl) (QP.fieldAddr rfl rfl f57_1).read ?_
 refine Sq.quiet (i := 3) rfl (Want.none rfl) rfl (ltN rfl) (QR.load1 (v := .slice _ L.length _) rfl rfl g46 (Ref16Table.sub_l _)) ?_
 refine Sq.quiet (i := 4) rfl (Want.none rfl) rfl (ltN rfl) (QP.move rfl rfl).read ?_
 refine Sq.quiet (i := 5) rfl (Want.none rfl) rfl (ltN rfl) (QP.indexAddr rfl rfl rfl Try.underlying46 z37 (by first | omega | (simp <;> omega)) (by first | omega | (simp <;> omega))).read ?_
 refine Sq.quiet (i := 6) rfl (Want.none rfl) rfl (ltN rfl) (QP.assign rfl rfl).read ?_
 refine Sq.nil ?_
 refine hk7 _ _ ?_
 refine Run.seq fun k8 hk8 => ?_
 refine Run.seq fun k9 hk9 => ?_
 refine Run.regionD (M := [0, 1, 3, 7, 15, 31, 63, 127, 255, 511, 1023, 2047, 4095, 511, 8703, 32767, 65535]) (q := 131071) (r := 20488) (by kernel_rfl) ?_
 refine Dw.pure (i := 0) rfl (by kernel_rfl) (Want.none rfl) rfl (ltN rfl) (QP.move rfl rfl) ?_
 refine Dw.pure (i := 1) rfl (by kernel_rfl) (Want.none rfl) rfl (ltN rfl) (QP.nilCheck rfl rfl) ?_
 refine Dw.pure (i := 2) rfl (by kernel_rfl) (Want.none rfl) rfl (ltN rfl) (QP.fieldAddr rfl rfl f37_10) ?_
 refine Dw.read (i := 3) rfl (by kernel_rfl) (Want.none rfl) rfl (ltN rfl) (QR.loadSlF1 rfl rfl g4 Route.enc_len (SlAt.own Route.enc_len (by repeat constructor)) hsi (Route.sub_selected _)) ?_
 refine J.boolF (c122) ?_
 refine Dw.pure (i := 4) rfl (by kernel_rfl) (Want.none rfl) rfl (ltN rfl) (QP.move rfl rfl) ?_
 refine Dw.skip (i := 5) rfl (by kernel_rfl) (Want.no rfl rfl rfl rfl) rfl (ltN rfl) ?_
 refine Dw.skip (i := 6) rfl (by kernel_rfl) (Want.no rfl rfl rfl rfl) rfl (ltN rfl) ?_
 refine Dw.pure (i := 7) rfl (by kernel_rfl) (Want.none rfl) rfl (ltN rfl) (QP.pick_f rfl rfl rfl) ?_
 refine Dw.pure (i := 8) rfl (by kernel_rfl) (Want.none rfl) rfl (ltN rfl) (QP.move rfl rfl) ?_
 refine Dw.skip (i := 9) rfl (by kernel_rfl) (Want.no rfl rfl rfl rfl) rfl (ltN rfl) ?_
 refine Dw.skip (i := 10) rfl (by kernel_rfl) (Want.no rfl rfl rfl rfl) rfl (ltN rfl) ?_
 refine Dw.skip (i := 11) rfl (by kernel_rfl) (Want.no rfl rfl rfl rfl) rfl (ltN rfl) ?_
 refine Dw.skip (i := 12) rfl (by kernel_rfl) (Want.no rfl rfl rfl rfl) rfl (ltN rfl) ?_
 refine Dw.skip (i := 13) rfl (by kernel_rfl) (Want.no rfl rfl rfl rfl) rfl (ltN rfl) ?_
 refine Dw.skip (i := 14) rfl (by kernel_rfl) (Want.no rfl rfl rfl rfl) rfl (ltN rfl) ?_
 refine Dw.skip (i := 15) rfl (by kernel_rfl) (Want.no rfl rfl rfl rfl) rfl (ltN rfl) ?_
 refine Dw.pure (i := 16) rfl (by kernel_rfl) (Want.none rfl) rfl (ltN rfl) (QP.pick_f rfl rfl rfl) ?_
 refine Dw.nil (by kernel_rfl) ?_
 refine hk9 _ _ ?_
 refine Run.cond_f rfl ?_
 refine Run.skip ?_
 refine hk8 _ _ ?_
 refine Run.seq fun k10 hk10 => ?_
 refine Run.region ?_
 show Sq _ _ _ [0, 1, 2, 3, 4, 5] _ _ _ _
 have hign : ¬ (s.selected = true ∧ ok = false ∧ s.id_ = x.id_) := fun h => absurd h.1 (by rw [c122]; decide)
 refine Sq.quiet (i := 0) rfl (Want.none rfl) rfl (ltN rfl) (QP.move rfl rfl).read ?_
 refine Sq.quiet (i := 1) rfl (Want.none rfl) rfl (ltN rfl) (QP.fieldAddr rfl rfl f37_5).read ?_
 refine Sq.quiet (i := 2) rfl (Want.none rfl) rfl (ltN rfl) (QR.load1 rfl rfl g35 (Route.sub_ref _)) ?_
 refine Sq.quiet (i := 3) rfl (Want.none rfl) rfl (ltN rfl) (QP.nilCheck rfl rfl).read ?_
 refine Sq.quiet (i := 4) rfl (Want.none rfl) rfl (ltN rfl) (QP.fieldAddr rfl rfl f37_5).read ?_
 refine Sq.act (i := 5) rfl (Want.none rfl) rfl (EF.storeSlF (enc := Route.enc) rfl rfl rfl z35 (by repeat constructor) Route.enc_len (by first | omega | (simp <;> omega)) (fun y hy => by cases hy.symm.trans hsi; exact (Route.set_ref _ (x).ref)) (cell_one rfl)) ?_
 rintro _ _ rfl
 generalize he1 : ({ s with ref := x.ref } : Route) = s1
 have hq1 : (L.set i s1)[i]? = some s1 := set_get (by omega)
 have hql1 : (L.set i s1).length = L.length := List.length_set
 have hho1 : s1.hold = s.hold := by rw [← he1]
 refine Sq.nil ?_
 refine hk10 _ _ ?_
 refine Run.seq fun k11 hk11 => ?_
 refine Run.seq fun k12 hk12 => ?_
 refine Run.region ?_
 show Sq _ _ _ [0, 1, 2] _ _ _ _
 refine Sq.quiet (i := 0) rfl (Want.none rfl) rfl (ltN rfl) (QP.fieldAddr rfl rfl f37_5).read ?_
 refine Sq.quiet (i := 1) rfl (Want.none rfl) rfl (ltN rfl) (QR.load1 rfl rfl g35 (Route.sub_ref _)) ?_
 refine Sq.quiet (i := 2) rfl (Want.none rfl) rfl (ltN rfl) (QP.neq rfl rfl rfl).read ?_
 refine J.decT (c143) ?_
 refine Sq.nil ?_
 refine hk12 _ _ ?_
 refine Run.cond_t rfl ?_
 refine Run.seq fun k13 hk13 => ?_
 refine Run.region ?_
 show Sq _ _ _ [0, 1, 2, 3, 4, 5] _ _ _ _
 refine Sq.quiet (i := 0) rfl (Want.none rfl) rfl (ltN rfl) (QP.move rfl rfl).read ?_
 refine Sq.quiet (i := 1) rfl (Want.none rfl) rfl (ltN rfl) (QP.fieldAddr rfl rfl f37_3).read ?_
 refine Sq.quiet (i := 2) rfl (Want.none rfl) rfl (ltN rfl) (QR.load rfl rfl g34 (Route.sub_id_ _)) ?_
 refine Sq.quiet (i := 3) rfl (Want.none rfl) rfl (ltN rfl) (QP.nilCheck rfl rfl).read ?_
 refine Sq.quiet (i := 4) rfl (Want.none rfl) rfl (ltN rfl) (QP.fieldAddr rfl rfl f37_3).read ?_
 refine Sq.act (i := 5) rfl (Want.none rfl) rfl (EF.storeSlF (enc := Route.enc) rfl rfl rfl z34 (by repeat constructor) Route.enc_len (by first | omega | (simp <;> omega)) (fun y hy => by cases hy.symm.trans hq1; exact (Route.set_id_ _ (x).id_)) (Bs.cell _)) ?_
 rintro _ _ rfl
 rw [List.set_set]
 generalize he2 : ({ s1 with id_ := x.id_ } : Route) = s2
 have hq2 : (L.set i s2)[i]? = some s2 := set_get (by omega)
 have hql2 : (L.set i s2).length = L.length := List.length_set
 have hho2 : s2.hold = s1.hold := by rw [← he2]
 refine Sq.nil ?_
 refine hk13 _ _ ?_
 refine Run.seq fun k14 hk14 => ?_
 refine Run.region ?_
 show Sq _ _ _ [0, 1, 2, 3, 4, 5] _ _ _ _
 refine Sq.quiet (i := 0) rfl (Want.none rfl) rfl (ltN rfl) (QP.move rfl rfl).read ?_
 refine Sq.quiet (i := 1) rfl (Want.none rfl) rfl (ltN rfl) (QP.fieldAddr rfl rfl f37_4).read ?_
 refine Sq.quiet (i := 2) rfl (Want.none rfl) rfl (ltN rfl) (QR.load1 rfl rfl g35 (Route.sub_seqno _)) ?_
 refine Sq.quiet (i := 3) rfl (Want.none rfl) rfl (ltN rfl) (QP.nilCheck rfl rfl).read ?_
 refine Sq.quiet (i := 4) rfl (Want.none rfl) rfl (ltN rfl) (QP.fieldAddr rfl rfl f37_4).read ?_
 refine Sq.act (i := 5) rfl (Want.none rfl) rfl (EF.storeSlF (enc := Route.enc) rfl rfl rfl z35 (by repeat constructor) Route.enc_len (by first | omega | (simp <;> omega)) (fun y hy => by cases hy.symm.trans hq2; exact (Route.set_seqno _ (x).seqno)) (cell_one rfl)) ?_
 rintro _ _ rfl
 rw [List.set_set]
 generalize he3 : ({ s2 with seqno := x.seqno } : Route) = s3
 have hq3 : (L.set i s3)[i]? = some s3 := set_get (by omega)
 have hql3 : (L.set i s3).length = L.length := List.length_set
 have hho3 : s3.hold = s2.hold := by rw [← he3]
 refine Sq.nil ?_
 refine hk14 _ _ ?_
 refine Run.seq fun k15 hk15 => ?_
 refine Run.region ?_
 show Sq _ _ _ [0, 1, 2, 3, 4, 5] _ _ _ _
 refine Sq.quiet (i := 0) rfl (Want.none rfl) rfl (ltN rfl) (QP.move rfl rfl).read ?_
 refine Sq.quiet (i := 1) rfl (Want.none rfl) rfl (ltN rfl) (QP.fieldAddr rfl rfl f37_7).read ?_
 refine Sq.quiet (i := 2) rfl (Want.none rfl) rfl (ltN rfl) (QR.load rfl rfl g28 (Route.sub_hop _)) ?_
 refine Sq.quiet (i := 3) rfl (Want.none rfl) rfl (ltN rfl) (QP.nilCheck rfl rfl).read ?_
 refine Sq.quiet (i := 4) rfl (Want.none rfl) rfl (ltN rfl) (QP.fieldAddr rfl rfl f37_7).read ?_
 refine Sq.act (i := 5) rfl (Want.none rfl) rfl (EF.storeSlF (enc := Route.enc) rfl rfl rfl z28 (by repeat constructor) Route.enc_len (by first | omega | (simp <;> omega)) (fun y hy => by cases hy.symm.trans hq3; exact (Route.set_hop _ (x).hop)) (Bs.cell _)) ?_
 rintro _ _ rfl
 rw [List.set_set]
 generalize he4 : ({ s3 with hop := x.hop } : Route) = s4
 have hq4 : (L.set i s4)[i]? = some s4 := set_get (by omega)
 have hql4 : (L.set i s4).length = L.length := List.length_set
 have hho4 : s4.hold = s3.hold := by rw [← he4]
 refine Sq.nil ?_
 refine hk15 _ _ ?_
 refine Run.region ?_
 show Sq _ _ _ [0, 1, 2, 3, 4, 5] _ _ _ _
 refine Sq.quiet (i := 0) rfl (Want.none rfl) rfl (ltN rfl) (QP.move rfl rfl).read ?_
 refine Sq.quiet (i := 1) rfl (Want.none rfl) rfl (ltN rfl) (QP.fieldAddr rfl rfl f37_9).read ?_
 refine Sq.quiet (i := 2) rfl (Want.none rfl) rfl (ltN rfl) (QR.load1 rfl rfl g3 (Route.sub_hold _)) ?_
 refine Sq.quiet (i := 3) rfl (Want.none rfl) rfl (ltN rfl) (QP.nilCheck rfl rfl).read ?_
 refine Sq.quiet (i := 4) rfl (Want.none rfl) rfl (ltN rfl) (QP.fieldAddr rfl rfl f37_9).read ?_
 refine Sq.act (i := 5) rfl (Want.none rfl) rfl (EF.storeSlF (enc := Route.enc) rfl rfl rfl z3 (by repeat constructor) Route.enc_len (by first | omega | (simp <;> omega)) (fun y hy => by cases hy.symm.trans hq4; exact (Route.set_hold _ (x).hold)) (cell_one rfl)) ?_
 rintro _ _ rfl
 rw [List.set_set]
 generalize he5 : ({ s4 with hold := x.hold } : Route) = s5
 have hq5 : (L.set i s5)[i]? = some s5 := set_get (by omega)
 have hql5 : (L.set i s5).length = L.length := List.length_set
 have hho5 : s5.hold = x.hold := by rw [← he5]
 refine Sq.nil ?_
 refine hk11 _ _ ?_
 refine Run.seq fun k16 hk16 => ?_
 refine Run.region ?_
 show Sq _ _ _ [0, 1, 2, 3, 4, 5, 6, 7, 8, 9] _ _ _ _
 refine Sq.quiet (i := 0) rfl (Want.none rfl) rfl (ltN rfl) (QP.move rfl rfl).read ?_
 refine Sq.quiet (i := 1) rfl (Want.none rfl) rfl (ltN rfl) (QP.move rfl rfl).read ?_
 refine Sq.quiet (i := 2) rfl (Want.none rfl) rfl (ltN rfl) (QP.move rfl rfl).read ?_
 refine Sq.quiet (i := 3) rfl (Want.none rfl) rfl (ltN rfl) (QP.nilCheck rfl rfl).read ?_
 refine Sq.quiet (i := 4) rfl (Want.none rfl) rfl (ltN rfl) (QP.fieldAddr rfl rfl f37_9).read ?_
 refine Sq.quiet (i := 5) rfl (Want.none rfl) rfl (ltN rfl) (QR.loadSlF1 rfl rfl g3 Route.enc_len (SlAt.own Route.enc_len (by repeat constructor)) hq5 (Route.sub_hold _)) ?_
 refine Sq.quiet (i := 6) rfl (Want.none rfl) rfl (ltN rfl) (QP.add64 rfl rfl rfl (by first | omega | (simp <;> omega)) (by first | omega | (simp <;> omega))).read ?_
 refine Sq.quiet (i := 7) rfl (Want.none rfl) rfl (ltN rfl) (QP.nilCheck rfl rfl).read ?_
 refine Sq.quiet (i := 8) rfl (Want.none rfl) rfl (ltN rfl) (QP.fieldAddr rfl rfl f37_8).read ?_
 refine Sq.act (i := 9) rfl (Want.none rfl) rfl (EF.storeSlF (enc := Route.enc) rfl rfl rfl z3 (by repeat constructor) Route.enc_len (by first | omega | (simp <;> omega)) (fun y hy => by cases hy.symm.trans hq5; exact (Route.set_until_ _ _)) (cell_one rfl)) ?_
 rintro _ _ rfl
 refine Sq.nil ?_
 refine hk16 _ _ ?_
 refine Run.seq fun k17 hk17 => ?_
 refine Run.region ?_
 show Sq _ _ _ [0, 1] _ _ _ _
 rw [List.set_set]
 have hto : tellOld now s x ok = (2, 0, { s5 with until_ := now + s5.hold }) := by
   unfold tellOld; rw [if_neg (show ¬ (x.hold < 1 ∨ 2147483648 < x.hold) from by omega), if_neg hign]
   rw [if_neg c143]; subst he5 he4 he3 he2 he1; rfl
 have hh2 : SlH (some ⟨b0, o0, none⟩) c (L.set i { s5 with until_ := now + s5.hold }) := hh.of_len List.length_set
 refine Sq.quiet (i := 0) rfl (Want.none rfl) rfl (ltN rfl) (QP.assign rfl rfl).read ?_
 refine Sq.quiet (i := 1) rfl (Want.none rfl) rfl (ltN rfl) (QP.assign rfl rfl).read ?_
 refine Sq.nil ?_
 refine hk17 _ _ ?_
 refine Run.ret ?_
 exact J.ends (res_tmp2 rfl rfl rfl) (.cons (by repeat constructor) (.cons (by repeat constructor) Takes.nil)) ⟨_, _, _, hh2, 2, 0, rfl, .inl ⟨i, s, hsi, hks, by rw [hto], by rw [hto], by rw [hto]⟩, rt_setR i _⟩

theorem rtell_rea (F : Fr) {b : Nat} {most : Int} {a : Option Addr} {c : Nat} {L : List Route} (hh : SlH a c L) (hL : L.length ≤ 1000000) (hs : L.Pairwise fun a b => cmpRoute a b < 0) (hh0 : ∀ x ∈ L, 1 ≤ x.hold ∧ x.hold ≤ 2147483648) (now : Int) (hn0 : 0 ≤ now) (hn1 : now ≤ 2305843009213693952) (x : Route) (ok : Bool) (hbnd : 1 ≤ x.hold ∧ x.hold ≤ 2147483648) {i : Nat} {s : Route} (hsi : L[i]? = some s) (hks : keyR s = keyR x) (c122 : s.selected = false) (c143 : ¬ x.ref ≠ 65535)  : Spec Try.prog 39 #[.pointer (some ⟨b, 0, none⟩), .int .i64 now, .agg (Route.enc x).toArray, .bool ok] [blk b (Ref16Table.enc ⟨most, ⟨a, L.length, c⟩⟩) 57, slA 37 81 Route.enc (.slice a L.length c) L] F (fun v S => ∃ a2 c2, ∃ L2 : List Route, SlH a2 c2 L2 ∧ ∃ ta te, v = .tuple #[.int .i64 ta, .int .i64 te] ∧ RTell most L now x ok ta te L2 ∧ S = [blk b (Ref16Table.enc ⟨most, ⟨a2, L2.length, c2⟩⟩) 57, slA 37 81 Route.enc (.slice a2 L2.length c2) L2]) := by
 have hcle := hh.le
 refine Spec.intro (N := 173) (args := [.pointer (some ⟨b, 0, none⟩), .int .i64 now, .agg (Route.enc x).toArray, .bool ok]) Try.func39 rfl rfl (by simp) ?_
 refine Run.seq fun k1 hk1 => ?_
 refine Run.region ?_
 show Sq _ _ _ [0, 1, 2] _ _ _ _
 refine Sq.eff (i := 0) rfl (Want.none rfl) rfl (ltN rfl) (EF.boxA rfl rfl) ?_
 rintro _ _ ⟨b6, rfl, rfl⟩
 refine Sq.quiet (i := 1) rfl (Want.none rfl) rfl (ltN rfl) (QP.assign rfl rfl).read ?_
 refine Sq.quiet (i := 2) rfl (Want.none rfl) rfl (ltN rfl) (QP.assign rfl rfl).read ?_
 refine Sq.nil ?_
 refine hk1 _ _ ?_
 refine Run.seq fun k2 hk2 => ?_
 refine Run.seq fun k3 hk3 => ?_
 refine Run.region ?_
 show Sq _ _ _ [0, 1, 2, 3, 4, 5, 6, 7] _ _ _ _
 refine Sq.quiet (i := 0) rfl (Want.none rfl) rfl (ltN rfl) (QP.fieldAddr rfl rfl f37_9).read ?_
 refine Sq.quiet (i := 1) rfl (Want.none rfl) rfl (ltN rfl) (QR.load1 rfl rfl g3 (Route.sub_hold _)) ?_
 refine Sq.quiet (i := 2) rfl (Want.none rfl) rfl (ltN rfl) (QP.lss rfl rfl rfl).read ?_
 refine J.decF (by omega) ?_
 refine Sq.quiet (i := 3) rfl (Want.none rfl) rfl (ltN rfl) (QP.move rfl rfl).read ?_
 refine Sq.quiet (i := 4) rfl (Want.yes rfl rfl rfl rfl) rfl (ltN rfl) (QP.fieldAddr rfl rfl f37_9).read ?_
 refine Sq.quiet (i := 5) rfl (Want.yes rfl rfl rfl rfl) rfl (ltN rfl) (QR.load1 rfl rfl g3 (Route.sub_hold _)) ?_
 refine Sq.quiet (i := 6) rfl (Want.yes rfl rfl rfl rfl) rfl (ltN rfl) (QP.gtr rfl rfl rfl).read ?_
 refine J.decF (by omega) ?_
 refine Sq.quiet (i := 7) rfl (Want.none rfl) rfl (ltN rfl) (QP.pick_f rfl rfl rfl).read ?_
 refine Sq.nil ?_
 refine hk3 _ _ ?_
 refine Run.cond_f rfl ?_
 refine Run.skip ?_
 refine hk2 _ _ ?_
 refine Run.seq fun k4 hk4 => ?_
 refine Run.region ?_
 show Sq _ _ _ [0, 1, 2, 3, 4, 5, 6, 7, 8] _ _ _ _
 refine Sq.quiet (i := 0) rfl (Want.none rfl) rfl (ltN rfl) (QP.move rfl rfl).read ?_
 refine Sq.quiet (i := 1) rfl (Want.none rfl) rfl (ltN rfl) (QP.fieldAddr rfl rfl f37_0).read ?_
 refine Sq.quiet (i := 2) rfl (Want.none rfl) rfl (ltN rfl) (QR.load rfl rfl g32 (Route.sub_pair _)) ?_
 refine Sq.quiet (i := 3) rfl (Want.none rfl) rfl (ltN rfl) (QP.fieldAddr rfl rfl f37_1).read ?_
 refine Sq.quiet (i := 4) rfl (Want.none rfl) rfl (ltN rfl) (QR.load1 rfl rfl g3 (Route.sub_if_ _)) ?_
 refine Sq.quiet (i := 5) rfl (Want.none rfl) rfl (ltN rfl) (QP.fieldAddr rfl rfl f37_2).read ?_
 refine Sq.quiet (i := 6) rfl (Want.none rfl) rfl (ltN rfl) (QR.load rfl rfl g28 (Route.sub_from_ _)) ?_
 refine Sq.eff (i := 7) rfl (Want.none rfl) rfl (ltN rfl) (EF.call rfl ce21 rfl (.cons (by repeat constructor) (.cons (by repeat constructor) Takes.nil)) (fun F' hle hr => rfind_spec F' hh hL x.pair x.if_ x.from_)) ?_
 rintro _ _ ⟨_, ⟨rfl, n28, rfl, hfind⟩, rfl⟩
 refine J.app ?_
 refine Sq.quiet (i := 8) rfl (Want.none rfl) rfl (ltN rfl) (QP.assign rfl rfl).read ?_
 refine Sq.nil ?_
 refine hk4 _ _ ?_
 refine Run.seq fun k5 hk5 => ?_
 refine Run.seq fun k6 hk6 => ?_
 refine Run.region ?_
 show Sq _ _ _ [0, 1] _ _ _ _
 refine Sq.quiet (i := 0) rfl (Want.none rfl) rfl (ltN rfl) (QP.move rfl rfl).read ?_
 refine Sq.quiet (i := 1) rfl (Want.none rfl) rfl (ltN rfl) (QP.lss rfl rfl rfl).read ?_
 refine J.decF (by rcases hfind with ⟨_, h2⟩ | ⟨i2, s2, h1, h2, h3⟩ <;> first | omega | exact absurd hks (h2 s (List.mem_of_getElem? hsi))) ?_
 refine Sq.nil ?_
 refine hk6 _ _ ?_
 refine Run.cond_f rfl ?_
 refine Run.skip ?_
 refine hk5 _ _ ?_
 refine Run.seq fun k7 hk7 => ?_
 refine Run.region ?_
 show Sq _ _ _ [0, 1, 2, 3, 4, 5, 6] _ _ _ _
 obtain rfl : n28 = (i : Int) := by
   rcases hfind with ⟨_, h2⟩ | ⟨i2, s2, h1, h2, h3⟩
   · exact absurd hks (h2 s (List.mem_of_getElem? hsi))
   · rw [h1, idx_uniqR hs h2 hsi (h3.trans hks.symm)]
 have hlt : i < L.length := (List.getElem?_eq_some_iff.1 hsi).1
 obtain ⟨b0, o0, rfl⟩ := hh.get (by omega)
 have hhold := hh0 s (List.mem_of_getElem? hsi)
 refine Sq.quiet (i := 0) rfl (Want.none rfl) rfl (ltN rfl) (QP.move rfl rfl).read ?_
 refine Sq.quiet (i := 1) rfl (Want.none rfl) rfl (ltN rfl) (QP.nilCheck rfl rfl).read ?_
 refine Sq.quiet (i := 2) rfl (Want.none rfl) rfl (ltN rfl) (QP.fieldAddr rfl rfl f57_1).read ?_
 refine Sq.quiet (i := 3) rfl (Want.none rfl) rfl (ltN rfl) (QR.load1 (v := .slice _ L.length _) rfl rfl g46 (Ref16Table.sub_l _)) ?_
 refine Sq.quiet (i := 4) rfl (Want.none rfl) rfl (ltN rfl) (QP.move rfl rfl).read ?_
 refine Sq.quiet (i := 5) rfl (Want.none rfl) rfl (ltN rfl) (QP.indexAddr rfl rfl rfl Try.underlying46 z37 (by first | omega | (simp <;> omega)) (by first | omega | (simp <;> omega))).read ?_
 refine Sq.quiet (i := 6) rfl (Want.none rfl) rfl (ltN rfl) (QP.assign rfl rfl).read ?_
 refine Sq.nil ?_
 refine hk7 _ _ ?_
 refine Run.seq fun k8 hk8 => ?_
 refine Run.seq fun k9 hk9 => ?_
 refine Run.regionD (M := [0, 1, 3, 7, 15, 31, 63, 127, 255, 511, 1023, 2047, 4095, 511, 8703, 32767, 65535]) (q := 131071) (r := 20488) (by kernel_rfl) ?_
 refine Dw.pure (i := 0) rfl (by kernel_rfl) (Want.none rfl) rfl (ltN rfl) (QP.move rfl rfl) ?_
 refine Dw.pure (i := 1) rfl (by kernel_rfl) (Want.none rfl) rfl (ltN rfl) (QP.nilCheck rfl rfl) ?_
 refine Dw.pure (i := 2) rfl (by kernel_rfl) (Want.none rfl) rfl (ltN rfl) (QP.fieldAddr rfl rfl f37_10) ?_
 refine Dw.read (i := 3) rfl (by kernel_rfl) (Want.none rfl) rfl (ltN rfl) (QR.loadSlF1 rfl rfl g4 Route.enc_len (SlAt.own Route.enc_len (by repeat constructor)) hsi (Route.sub_selected _)) ?_
 refine J.boolF (c122) ?_
 refine Dw.pure (i := 4) rfl (by kernel_rfl) (Want.none rfl) rfl (ltN rfl) (QP.move rfl rfl) ?_
 refine Dw.skip (i := 5) rfl (by kernel_rfl) (Want.no rfl rfl rfl rfl) rfl (ltN rfl) ?_
 refine Dw.skip (i := 6) rfl (by kernel_rfl) (Want.no rfl rfl rfl rfl) rfl (ltN rfl) ?_
 refine Dw.pure (i := 7) rfl (by kernel_rfl) (Want.none rfl) rfl (ltN rfl) (QP.pick_f rfl rfl rfl) ?_
 refine Dw.pure (i := 8) rfl (by kernel_rfl) (Want.none rfl) rfl (ltN rfl) (QP.move rfl rfl) ?_
 refine Dw.skip (i := 9) rfl (by kernel_rfl) (Want.no rfl rfl rfl rfl) rfl (ltN rfl) ?_
 refine Dw.skip (i := 10) rfl (by kernel_rfl) (Want.no rfl rfl rfl rfl) rfl (ltN rfl) ?_
 refine Dw.skip (i := 11) rfl (by kernel_rfl) (Want.no rfl rfl rfl rfl) rfl (ltN rfl) ?_
 refine Dw.skip (i := 12) rfl (by kernel_rfl) (Want.no rfl rfl rfl rfl) rfl (ltN rfl) ?_
 refine Dw.skip (i := 13) rfl (by kernel_rfl) (Want.no rfl rfl rfl rfl) rfl (ltN rfl) ?_
 refine Dw.skip (i := 14) rfl (by kernel_rfl) (Want.no rfl rfl rfl rfl) rfl (ltN rfl) ?_
 refine Dw.skip (i := 15) rfl (by kernel_rfl) (Want.no rfl rfl rfl rfl) rfl (ltN rfl) ?_
 refine Dw.pure (i := 16) rfl (by kernel_rfl) (Want.none rfl) rfl (ltN rfl) (QP.pick_f rfl rfl rfl) ?_
 refine Dw.nil (by kernel_rfl) ?_
 refine hk9 _ _ ?_
 refine Run.cond_f rfl ?_
 refine Run.skip ?_
 refine hk8 _ _ ?_
 refine Run.seq fun k10 hk10 => ?_
 refine Run.region ?_
 show Sq _ _ _ [0, 1, 2, 3, 4, 5] _ _ _ _
 have hign : ¬ (s.selected = true ∧ ok = false ∧ s.id_ = x.id_) := fun h => absurd h.1 (by rw [c122]; decide)
 refine Sq.quiet (i := 0) rfl (Want.none rfl) rfl (ltN rfl) (QP.move rfl rfl).read ?_
 refine Sq.quiet (i := 1) rfl (Want.none rfl) rfl (ltN rfl) (QP.fieldAddr rfl rfl f37_5).read ?_
 refine Sq.quiet (i := 2) rfl (Want.none rfl) rfl (ltN rfl) (QR.load1 rfl rfl g35 (Route.sub_ref _)) ?_
 refine Sq.quiet (i := 3) rfl (Want.none rfl) rfl (ltN rfl) (QP.nilCheck rfl rfl).read ?_
 refine Sq.quiet (i := 4) rfl (Want.none rfl) rfl (ltN rfl) (QP.fieldAddr rfl rfl f37_5).read ?_
 refine Sq.act (i := 5) rfl (Want.none rfl) rfl (EF.storeSlF (enc := Route.enc) rfl rfl rfl z35 (by repeat constructor) Route.enc_len (by first | omega | (simp <;> omega)) (fun y hy => by cases hy.symm.trans hsi; exact (Route.set_ref _ (x).ref)) (cell_one rfl)) ?_
 rintro _ _ rfl
 generalize he1 : ({ s with ref := x.ref } : Route) = s1
 have hq1 : (L.set i s1)[i]? = some s1 := set_get (by omega)
 have hql1 : (L.set i s1).length = L.length := List.length_set
 have hho1 : s1.hold = s.hold := by rw [← he1]
 refine Sq.nil ?_
 refine hk10 _ _ ?_
 refine Run.seq fun k11 hk11 => ?_
 refine Run.seq fun k12 hk12 => ?_
 refine Run.region ?_
 show Sq _ _ _ [0, 1, 2] _ _ _ _
 refine Sq.quiet (i := 0) rfl (Want.none rfl) rfl (ltN rfl) (QP.fieldAddr rfl rfl f37_5).read ?_
 refine Sq.quiet (i := 1) rfl (Want.none rfl) rfl (ltN rfl) (QR.load1 rfl rfl g35 (Route.sub_ref _)) ?_
 refine Sq.quiet (i := 2) rfl (Want.none rfl) rfl (ltN rfl) (QP.neq rfl rfl rfl).read ?_
 refine J.decF (c143) ?_
 refine Sq.nil ?_
 refine hk12 _ _ ?_
 refine Run.cond_f rfl ?_
 refine Run.skip ?_
 refine hk11 _ _ ?_
 refine Run.seq fun k13 hk13 => ?_
 refine Run.region ?_
 show Sq _ _ _ [0, 1, 2, 3, 4, 5, 6, 7, 8, 9] _ _ _ _
 refine Sq.quiet (i := 0) rfl (Want.none rfl) rfl (ltN rfl) (QP.move rfl rfl).read ?_
 refine Sq.quiet (i := 1) rfl (Want.none rfl) rfl (ltN rfl) (QP.move rfl rfl).read ?_
 refine Sq.quiet (i := 2) rfl (Want.none rfl) rfl (ltN rfl) (QP.move rfl rfl).read ?_
 refine Sq.quiet (i := 3) rfl (Want.none rfl) rfl (ltN rfl) (QP.nilCheck rfl rfl).read ?_
 refine Sq.quiet (i := 4) rfl (Want.none rfl) rfl (ltN rfl) (QP.fieldAddr rfl rfl f37_9).read ?_
 refine Sq.quiet (i := 5) rfl (Want.none rfl) rfl (ltN rfl) (QR.loadSlF1 rfl rfl g3 Route.enc_len (SlAt.own Route.enc_len (by repeat constructor)) hq1 (Route.sub_hold _)) ?_
 refine Sq.quiet (i := 6) rfl (Want.none rfl) rfl (ltN rfl) (QP.add64 rfl rfl rfl (by first | omega | (simp <;> omega)) (by first | omega | (simp <;> omega))).read ?_
 refine Sq.quiet (i := 7) rfl (Want.none rfl) rfl (ltN rfl) (QP.nilCheck rfl rfl).read ?_
 refine Sq.quiet (i := 8) rfl (Want.none rfl) rfl (ltN rfl) (QP.fieldAddr rfl rfl f37_8).read ?_
 refine Sq.act (i := 9) rfl (Want.none rfl) rfl (EF.storeSlF (enc := Route.enc) rfl rfl rfl z3 (by repeat constructor) Route.enc_len (by first | omega | (simp <;> omega)) (fun y hy => by cases hy.symm.trans hq1; exact (Route.set_until_ _ _)) (cell_one rfl)) ?_
 rintro _ _ rfl
 refine Sq.nil ?_
 refine hk13 _ _ ?_
 refine Run.seq fun k14 hk14 => ?_
 refine Run.region ?_
 show Sq _ _ _ [0, 1] _ _ _ _
 rw [List.set_set]
 have hto : tellOld now s x ok = (2, 0, { s1 with until_ := now + s1.hold }) := by
   unfold tellOld; rw [if_neg (show ¬ (x.hold < 1 ∨ 2147483648 < x.hold) from by omega), if_neg hign]
   rw [if_pos (by simpa using c143)]; subst he1; rfl
 have hh2 : SlH (some ⟨b0, o0, none⟩) c (L.set i { s1 with until_ := now + s1.hold }) := hh.of_len List.length_set
 refine Sq.quiet (i := 0) rfl (Want.none rfl) rfl (ltN rfl) (QP.assign rfl rfl).read ?_
 refine Sq.quiet (i := 1) rfl (Want.none rfl) rfl (ltN rfl) (QP.assign rfl rfl).read ?_
 refine Sq.nil ?_
 refine hk14 _ _ ?_
 refine Run.ret ?_
 exact J.ends (res_tmp2 rfl rfl rfl) (.cons (by repeat constructor) (.cons (by repeat constructor) Takes.nil)) ⟨_, _, _, hh2, 2, 0, rfl, .inl ⟨i, s, hsi, hks, by rw [hto], by rw [hto], by rw [hto]⟩, rt_setR i _⟩

theorem rtell_upb (F : Fr) {b : Nat} {most : Int} {a : Option Addr} {c : Nat} {L : List Route} (hh : SlH a c L) (hL : L.length ≤ 1000000) (hs : L.Pairwise fun a b => cmpRoute a b < 0) (hh0 : ∀ x ∈ L, 1 ≤ x.hold ∧ x.hold ≤ 2147483648) (now : Int) (hn0 : 0 ≤ now) (hn1 : now ≤ 2305843009213693952) (x : Route) (ok : Bool) (hbnd : 1 ≤ x.hold ∧ x.hold ≤ 2147483648) {i : Nat} {s : Route} (hsi : L[i]? = some s) (hks : keyR s = keyR x) (c122 : s.selected = true) (c124 : ok = true) (c143 : x.ref ≠ 65535)  : Spec Try.prog 39 #[.pointer (some ⟨b, 0, none⟩), .int .i64 now, .agg (Route.enc x).toArray, .bool ok] [blk b (Ref16Table.enc ⟨most, ⟨a, L.length, c⟩⟩) 57, slA 37 81 Route.enc (.slice a L.length c) L] F (fun v S => ∃ a2 c2, ∃ L2 : List Route, SlH a2 c2 L2 ∧ ∃ ta te, v = .tuple #[.int .i64 ta, .int .i64 te] ∧ RTell most L now x ok ta te L2 ∧ S = [blk b (Ref16Table.enc ⟨most, ⟨a2, L2.length, c2⟩⟩) 57, slA 37 81 Route.enc (.slice a2 L2.length c2) L2]) := by
 have hcle := hh.le
 refine Spec.intro (N := 173) (args := [.pointer (some ⟨b, 0, none⟩), .int .i64 now, .agg (Route.enc x).toArray, .bool ok]) Try.func39 rfl rfl (by simp) ?_
 refine Run.seq fun k1 hk1 => ?_
 refine Run.region ?_
 show Sq _ _ _ [0, 1, 2] _ _ _ _
 refine Sq.eff (i := 0) rfl (Want.none rfl) rfl (ltN rfl) (EF.boxA rfl rfl) ?_
 rintro _ _ ⟨b6, rfl, rfl⟩
 refine Sq.quiet (i := 1) rfl (Want.none rfl) rfl (ltN rfl) (QP.assign rfl rfl).read ?_
 refine Sq.quiet (i := 2) rfl (Want.none rfl) rfl (ltN rfl) (QP.assign rfl rfl).read ?_
 refine Sq.nil ?_
 refine hk1 _ _ ?_
 refine Run.seq fun k2 hk2 => ?_
 refine Run.seq fun k3 hk3 => ?_
 refine Run.region ?_
 show Sq _ _ _ [0, 1, 2, 3, 4, 5, 6, 7] _ _ _ _
 refine Sq.quiet (i := 0) rfl (Want.none rfl) rfl (ltN rfl) (QP.fieldAddr rfl rfl f37_9).read ?_
 refine Sq.quiet (i := 1) rfl (Want.none rfl) rfl (ltN rfl) (QR.load1 rfl rfl g3 (Route.sub_hold _)) ?_
 refine Sq.quiet (i := 2) rfl (Want.none rfl) rfl (ltN rfl) (QP.lss rfl rfl rfl).read ?_
 refine J.decF (by omega) ?_
 refine Sq.quiet (i := 3) rfl (Want.none rfl) rfl (ltN rfl) (QP.move rfl rfl).read ?_
 refine Sq.quiet (i := 4) rfl (Want.yes rfl rfl rfl rfl) rfl (ltN rfl) (QP.fieldAddr rfl rfl f37_9).read ?_
 refine Sq.quiet (i := 5) rfl (Want.yes rfl rfl rfl rfl) rfl (ltN rfl) (QR.load1 rfl rfl g3 (Route.sub_hold _)) ?_
 refine Sq.quiet (i := 6) rfl (Want.yes rfl rfl rfl rfl) rfl (ltN rfl) (QP.gtr rfl rfl rfl).read ?_
 refine J.decF (by omega) ?_
 refine Sq.quiet (i := 7) rfl (Want.none rfl) rfl (ltN rfl) (QP.pick_f rfl rfl rfl).read ?_
 refine Sq.nil ?_
 refine hk3 _ _ ?_
 refine Run.cond_f rfl ?_
 refine Run.skip ?_
 refine hk2 _ _ ?_
 refine Run.seq fun k4 hk4 => ?_
 refine Run.region ?_
 show Sq _ _ _ [0, 1, 2, 3, 4, 5, 6, 7, 8] _ _ _ _
 refine Sq.quiet (i := 0) rfl (Want.none rfl) rfl (ltN rfl) (QP.move rfl rfl).read ?_
 refine Sq.quiet (i := 1) rfl (Want.none rfl) rfl (ltN rfl) (QP.fieldAddr rfl rfl f37_0).read ?_
 refine Sq.quiet (i := 2) rfl (Want.none rfl) rfl (ltN rfl) (QR.load rfl rfl g32 (Route.sub_pair _)) ?_
 refine Sq.quiet (i := 3) rfl (Want.none rfl) rfl (ltN rfl) (QP.fieldAddr rfl rfl f37_1).read ?_
 refine Sq.quiet (i := 4) rfl (Want.none rfl) rfl (ltN rfl) (QR.load1 rfl rfl g3 (Route.sub_if_ _)) ?_
 refine Sq.quiet (i := 5) rfl (Want.none rfl) rfl (ltN rfl) (QP.fieldAddr rfl rfl f37_2).read ?_
 refine Sq.quiet (i := 6) rfl (Want.none rfl) rfl (ltN rfl) (QR.load rfl rfl g28 (Route.sub_from_ _)) ?_
 refine Sq.eff (i := 7) rfl (Want.none rfl) rfl (ltN rfl) (EF.call rfl ce21 rfl (.cons (by repeat constructor) (.cons (by repeat constructor) Takes.nil)) (fun F' hle hr => rfind_spec F' hh hL x.pair x.if_ x.from_)) ?_
 rintro _ _ ⟨_, ⟨rfl, n28, rfl, hfind⟩, rfl⟩
 refine J.app ?_
 refine Sq.quiet (i := 8) rfl (Want.none rfl) rfl (ltN rfl) (QP.assign rfl rfl).read ?_
 refine Sq.nil ?_
 refine hk4 _ _ ?_
 refine Run.seq fun k5 hk5 => ?_
 refine Run.seq fun k6 hk6 => ?_
 refine Run.region ?_
 show Sq _ _ _ [0, 1] _ _ _ _
 refine Sq.quiet (i := 0) rfl (Want.none rfl) rfl (ltN rfl) (QP.move rfl rfl).read ?_
 refine Sq.quiet (i := 1) rfl (Want.none rfl) rfl (ltN rfl) (QP.lss rfl rfl rfl).read ?_
 refine J.decF (by rcases hfind with ⟨_, h2⟩ | ⟨i2, s2, h1, h2, h3⟩ <;> first | omega | exact absurd hks (h2 s (List.mem_of_getElem? hsi))) ?_
 refine Sq.nil ?_
 refine hk6 _ _ ?_
 refine Run.cond_f rfl ?_
 refine Run.skip ?_
 refine hk5 _ _ ?_
 refine Run.seq fun k7 hk7 => ?_
 refine Run.region ?_
 show Sq _ _ _ [0, 1, 2, 3, 4, 5, 6] _ _ _ _
 obtain rfl : n28 = (i : Int) := by
   rcases hfind with ⟨_, h2⟩ | ⟨i2, s2, h1, h2, h3⟩
   · exact absurd hks (h2 s (List.mem_of_getElem? hsi))
   · rw [h1, idx_uniqR hs h2 hsi (h3.trans hks.symm)]
 have hlt : i < L.length := (List.getElem?_eq_some_iff.1 hsi).1
 obtain ⟨b0, o0, rfl⟩ := hh.get (by omega)
 have hhold := hh0 s (List.mem_of_getElem? hsi)
 refine Sq.quiet (i := 0) rfl (Want.none rfl) rfl (ltN rfl) (QP.move rfl rfl).read ?_
 refine Sq.quiet (i := 1) rfl (Want.none rfl) rfl (ltN rfl) (QP.nilCheck rfl rfl).read ?_
 refine Sq.quiet (i := 2) rfl (Want.none rfl) rfl (ltN rfl) (QP.fieldAddr rfl rfl f57_1).read ?_
 refine Sq.quiet (i := 3) rfl (Want.none rfl) rfl (ltN rfl) (QR.load1 (v := .slice _ L.length _) rfl rfl g46 (Ref16Table.sub_l _)) ?_
 refine Sq.quiet (i := 4) rfl (Want.none rfl) rfl (ltN rfl) (QP.move rfl rfl).read ?_
 refine Sq.quiet (i := 5) rfl (Want.none rfl) rfl (ltN rfl) (QP.indexAddr rfl rfl rfl Try.underlying46 z37 (by first | omega | (simp <;> omega)) (by first | omega | (simp <;> omega))).read ?_
 refine Sq.quiet (i := 6) rfl (Want.none rfl) rfl (ltN rfl) (QP.assign rfl rfl).read ?_
 refine Sq.nil ?_
 refine hk7 _ _ ?_
 refine Run.seq fun k8 hk8 => ?_
 refine Run.seq fun k9 hk9 => ?_
 refine Run.regionD (M := [0, 1, 3, 7, 15, 31, 63, 127, 255, 511, 1023, 2047, 4095, 511, 8703, 32767, 65535]) (q := 131071) (r := 20488) (by kernel_rfl) ?_
 refine Dw.pure (i := 0) rfl (by kernel_rfl) (Want.none rfl) rfl (ltN rfl) (QP.move rfl rfl) ?_
 refine Dw.pure (i := 1) rfl (by kernel_rfl) (Want.none rfl) rfl (ltN rfl) (QP.nilCheck rfl rfl) ?_
 refine Dw.pure (i := 2) rfl (by kernel_rfl) (Want.none rfl) rfl (ltN rfl) (QP.fieldAddr rfl rfl f37_10) ?_
 refine Dw.read (i := 3) rfl (by kernel_rfl) (Want.none rfl) rfl (ltN rfl) (QR.loadSlF1 rfl rfl g4 Route.enc_len (SlAt.own Route.enc_len (by repeat constructor)) hsi (Route.sub_selected _)) ?_
 refine J.boolT (c122) ?_
 refine Dw.pure (i := 4) rfl (by kernel_rfl) (Want.none rfl) rfl (ltN rfl) (QP.move rfl rfl) ?_
 refine Dw.pure (i := 5) rfl (by kernel_rfl) (Want.yes rfl rfl rfl rfl) rfl (ltN rfl) (QP.move rfl rfl) ?_
 refine J.boolT (c124) ?_
 refine Dw.pure (i := 6) rfl (by kernel_rfl) (Want.yes rfl rfl rfl rfl) rfl (ltN rfl) (QP.not rfl rfl) ?_
 refine Dw.pure (i := 7) rfl (by kernel_rfl) (Want.none rfl) rfl (ltN rfl) (QP.pick_t rfl rfl rfl) ?_
 refine Dw.pure (i := 8) rfl (by kernel_rfl) (Want.none rfl) rfl (ltN rfl) (QP.move rfl rfl) ?_
 refine Dw.skip (i := 9) rfl (by kernel_rfl) (Want.no rfl rfl rfl rfl) rfl (ltN rfl) ?_
 refine Dw.skip (i := 10) rfl (by kernel_rfl) (Want.no rfl rfl rfl rfl) rfl (ltN rfl) ?_
 refine Dw.skip (i := 11) rfl (by kernel_rfl) (Want.no rfl rfl rfl rfl) rfl (ltN rfl) ?_
 refine Dw.skip (i := 12) rfl (by kernel_rfl) (Want.no rfl rfl rfl rfl) rfl (ltN rfl) ?_
 refine Dw.skip (i := 13) rfl (by kernel_rfl) (Want.no rfl rfl rfl rfl) rfl (ltN rfl) ?_
 refine Dw.skip (i := 14) rfl (by kernel_rfl) (Want.no rfl rfl rfl rfl) rfl (ltN rfl) ?_
 refine Dw.skip (i := 15) rfl (by kernel_rfl) (Want.no rfl rfl rfl rfl) rfl (ltN rfl) ?_
 refine Dw.pure (i := 16) rfl (by kernel_rfl) (Want.none rfl) rfl (ltN rfl) (QP.pick_f rfl rfl rfl) ?_
 refine Dw.nil (by kernel_rfl) ?_
 refine hk9 _ _ ?_
 refine Run.cond_f rfl ?_
 refine Run.skip ?_
 refine hk8 _ _ ?_
 refine Run.seq fun k10 hk10 => ?_
 refine Run.region ?_
 show Sq _ _ _ [0, 1, 2, 3, 4, 5] _ _ _ _
 have hign : ¬ (s.selected = true ∧ ok = false ∧ s.id_ = x.id_) := fun h => absurd h.2.1 (by rw [c124]; decide)
 refine Sq.quiet (i := 0) rfl (Want.none rfl) rfl (ltN rfl) (QP.move rfl rfl).read ?_
 refine Sq.quiet (i := 1) rfl (Want.none rfl) rfl (ltN rfl) (QP.fieldAddr rfl rfl f37_5).read ?_
 refine Sq.quiet (i := 2) rfl (Want.none rfl) rfl (ltN rfl) (QR.load1 rfl rfl g35 (Route.sub_ref _)) ?_
 refine Sq.quiet (i := 3) rfl (Want.none rfl) rfl (ltN rfl) (QP.nilCheck rfl rfl).read ?_
 refine Sq.quiet (i := 4) rfl (Want.none rfl) rfl (ltN rfl) (QP.fieldAddr rfl rfl f37_5).read ?_
 refine Sq.act (i := 5) rfl (Want.none rfl) rfl (EF.storeSlF (enc := Route.enc) rfl rfl rfl z35 (by repeat constructor) Route.enc_len (by first | omega | (simp <;> omega)) (fun y hy => by cases hy.symm.trans hsi; exact (Route.set_ref _ (x).ref)) (cell_one rfl)) ?_
 rintro _ _ rfl
 generalize he1 : ({ s with ref := x.ref } : Route) = s1
 have hq1 : (L.set i s1)[i]? = some s1 := set_get (by omega)
 have hql1 : (L.set i s1).length = L.length := List.length_set
 have hho1 : s1.hold = s.hold := by rw [← he1]
 refine Sq.nil ?_
 refine hk10 _ _ ?_
 refine Run.seq fun k11 hk11 => ?_
 refine Run.seq fun k12 hk12 => ?_
 refine Run.region ?_
 show Sq _ _ _ [0, 1, 2] _ _ _ _
 refine Sq.quiet (i := 0) rfl (Want.none rfl) rfl (ltN rfl) (QP.fieldAddr rfl rfl f37_5).read ?_
 refine Sq.quiet (i := 1) rfl (Want.none rfl) rfl (ltN rfl) (QR.load1 rfl rfl g35 (Route.sub_ref _)) ?_
 refine Sq.quiet (i := 2) rfl (Want.none rfl) rfl (ltN rfl) (QP.neq rfl rfl rfl).read ?_
 refine J.decT (c143) ?_
 refine Sq.nil ?_
 refine hk12 _ _ ?_
 refine Run.cond_t rfl ?_
 refine Run.seq fun k13 hk13 => ?_
 refine Run.region ?_
 show Sq _ _ _ [0, 1, 2, 3, 4, 5] _ _ _ _
 refine Sq.quiet (i := 0) rfl (Want.none rfl) rfl (ltN rfl) (QP.move rfl rfl).read ?_
 refine Sq.quiet (i := 1) rfl (Want.none rfl) rfl (ltN rfl) (QP.fieldAddr rfl rfl f37_3).read ?_
 refine Sq.quiet (i := 2) rfl (Want.none rfl) rfl (ltN rfl) (QR.load rfl rfl g34 (Route.sub_id_ _)) ?_
 refine Sq.quiet (i := 3) rfl (Want.none rfl) rfl (ltN rfl) (QP.nilCheck rfl rfl).read ?_
 refine Sq.quiet (i := 4) rfl (Want.none rfl) rfl (ltN rfl) (QP.fieldAddr rfl rfl f37_3).read ?_
 refine Sq.act (i := 5) rfl (Want.none rfl) rfl (EF.storeSlF (enc := Route.enc) rfl rfl rfl z34 (by repeat constructor) Route.enc_len (by first | omega | (simp <;> omega)) (fun y hy => by cases hy.symm.trans hq1; exact (Route.set_id_ _ (x).id_)) (Bs.cell _)) ?_
 rintro _ _ rfl
 rw [List.set_set]
 generalize he2 : ({ s1 with id_ := x.id_ } : Route) = s2
 have hq2 : (L.set i s2)[i]? = some s2 := set_get (by omega)
 have hql2 : (L.set i s2).length = L.length := List.length_set
 have hho2 : s2.hold = s1.hold := by rw [← he2]
 refine Sq.nil ?_
 refine hk13 _ _ ?_
 refine Run.seq fun k14 hk14 => ?_
 refine Run.region ?_
 show Sq _ _ _ [0, 1, 2, 3, 4, 5] _ _ _ _
 refine Sq.quiet (i := 0) rfl (Want.none rfl) rfl (ltN rfl) (QP.move rfl rfl).read ?_
 refine Sq.quiet (i := 1) rfl (Want.none rfl) rfl (ltN rfl) (QP.fieldAddr rfl rfl f37_4).read ?_
 refine Sq.quiet (i := 2) rfl (Want.none rfl) rfl (ltN rfl) (QR.load1 rfl rfl g35 (Route.sub_seqno _)) ?_
 refine Sq.quiet (i := 3) rfl (Want.none rfl) rfl (ltN rfl) (QP.nilCheck rfl rfl).read ?_
 refine Sq.quiet (i := 4) rfl (Want.none rfl) rfl (ltN rfl) (QP.fieldAddr rfl rfl f37_4).read ?_
 refine Sq.act (i := 5) rfl (Want.none rfl) rfl (EF.storeSlF (enc := Route.enc) rfl rfl rfl z35 (by repeat constructor) Route.enc_len (by first | omega | (simp <;> omega)) (fun y hy => by cases hy.symm.trans hq2; exact (Route.set_seqno _ (x).seqno)) (cell_one rfl)) ?_
 rintro _ _ rfl
 rw [List.set_set]
 generalize he3 : ({ s2 with seqno := x.seqno } : Route) = s3
 have hq3 : (L.set i s3)[i]? = some s3 := set_get (by omega)
 have hql3 : (L.set i s3).length = L.length := List.length_set
 have hho3 : s3.hold = s2.hold := by rw [← he3]
 refine Sq.nil ?_
 refine hk14 _ _ ?_
 refine Run.seq fun k15 hk15 => ?_
 refine Run.region ?_
 show Sq _ _ _ [0, 1, 2, 3, 4, 5] _ _ _ _
 refine Sq.quiet (i := 0) rfl (Want.none rfl) rfl (ltN rfl) (QP.move rfl rfl).read ?_
 refine Sq.quiet (i := 1) rfl (Want.none rfl) rfl (ltN rfl) (QP.fieldAddr rfl rfl f37_7).read ?_
 refine Sq.quiet (i := 2) rfl (Want.none rfl) rfl (ltN rfl) (QR.load rfl rfl g28 (Route.sub_hop _)) ?_
 refine Sq.quiet (i := 3) rfl (Want.none rfl) rfl (ltN rfl) (QP.nilCheck rfl rfl).read ?_
 refine Sq.quiet (i := 4) rfl (Want.none rfl) rfl (ltN rfl) (QP.fieldAddr rfl rfl f37_7).read ?_
 refine Sq.act (i := 5) rfl (Want.none rfl) rfl (EF.storeSlF (enc := Route.enc) rfl rfl rfl z28 (by repeat constructor) Route.enc_len (by first | omega | (simp <;> omega)) (fun y hy => by cases hy.symm.trans hq3; exact (Route.set_hop _ (x).hop)) (Bs.cell _)) ?_
 rintro _ _ rfl
 rw [List.set_set]
 generalize he4 : ({ s3 with hop := x.hop } : Route) = s4
 have hq4 : (L.set i s4)[i]? = some s4 := set_get (by omega)
 have hql4 : (L.set i s4).length = L.length := List.length_set
 have hho4 : s4.hold = s3.hold := by rw [← he4]
 refine Sq.nil ?_
 refine hk15 _ _ ?_
 refine Run.region ?_
 show Sq _ _ _ [0, 1, 2, 3, 4, 5] _ _ _ _
 refine Sq.quiet (i := 0) rfl (Want.none rfl) rfl (ltN rfl) (QP.move rfl rfl).read ?_
 refine Sq.quiet (i := 1) rfl (Want.none rfl) rfl (ltN rfl) (QP.fieldAddr rfl rfl f37_9).read ?_
 refine Sq.quiet (i := 2) rfl (Want.none rfl) rfl (ltN rfl) (QR.load1 rfl rfl g3 (Route.sub_hold _)) ?_
 refine Sq.quiet (i := 3) rfl (Want.none rfl) rfl (ltN rfl) (QP.nilCheck rfl rfl).read ?_
 refine Sq.quiet (i := 4) rfl (Want.none rfl) rfl (ltN rfl) (QP.fieldAddr rfl rfl f37_9).read ?_
 refine Sq.act (i := 5) rfl (Want.none rfl) rfl (EF.storeSlF (enc := Route.enc) rfl rfl rfl z3 (by repeat constructor) Route.enc_len (by first | omega | (simp <;> omega)) (fun y hy => by cases hy.symm.trans hq4; exact (Route.set_hold _ (x).hold)) (cell_one rfl)) ?_
 rintro _ _ rfl
 rw [List.set_set]
 generalize he5 : ({ s4 with hold := x.hold } : Route) = s5
 have hq5 : (L.set i s5)[i]? = some s5 := set_get (by omega)
 have hql5 : (L.set i s5).length = L.length := List.length_set
 have hho5 : s5.hold = x.hold := by rw [← he5]
 refine Sq.nil ?_
 refine hk11 _ _ ?_
 refine Run.seq fun k16 hk16 => ?_
 refine Run.region ?_
 show Sq _ _ _ [0, 1, 2, 3, 4, 5, 6, 7, 8, 9] _ _ _ _
 refine Sq.quiet (i := 0) rfl (Want.none rfl) rfl (ltN rfl) (QP.move rfl rfl).read ?_
 refine Sq.quiet (i := 1) rfl (Want.none rfl) rfl (ltN rfl) (QP.move rfl rfl).read ?_
 refine Sq.quiet (i := 2) rfl (Want.none rfl) rfl (ltN rfl) (QP.move rfl rfl).read ?_
 refine Sq.quiet (i := 3) rfl (Want.none rfl) rfl (ltN rfl) (QP.nilCheck rfl rfl).read ?_
 refine Sq.quiet (i := 4) rfl (Want.none rfl) rfl (ltN rfl) (QP.fieldAddr rfl rfl f37_9).read ?_
 refine Sq.quiet (i := 5) rfl (Want.none rfl) rfl (ltN rfl) (QR.loadSlF1 rfl rfl g3 Route.enc_len (SlAt.own Route.enc_len (by repeat constructor)) hq5 (Route.sub_hold _)) ?_
 refine Sq.quiet (i := 6) rfl (Want.none rfl) rfl (ltN rfl) (QP.add64 rfl rfl rfl (by first | omega | (simp <;> omega)) (by first | omega | (simp <;> omega))).read ?_
 refine Sq.quiet (i := 7) rfl (Want.none rfl) rfl (ltN rfl) (QP.nilCheck rfl rfl).read ?_
 refine Sq.quiet (i := 8) rfl (Want.none rfl) rfl (ltN rfl) (QP.fieldAddr rfl rfl f37_8).read ?_
 refine Sq.act (i := 9) rfl (Want.none rfl) rfl (EF.storeSlF (enc := Route.enc) rfl rfl rfl z3 (by repeat constructor) Route.enc_len (by first | omega | (simp <;> omega)) (fun y hy => by cases hy.symm.trans hq5; exact (Route.set_until_ _ _)) (cell_one rfl)) ?_
 rintro _ _ rfl
 refine Sq.nil ?_
 refine hk16 _ _ ?_
 refine Run.seq fun k17 hk17 => ?_
 refine Run.region ?_
 show Sq _ _ _ [0, 1] _ _ _ _
 rw [List.set_set]
 have hto : tellOld now s x ok = (2, 0, { s5 with until_ := now + s5.hold }) := by
   unfold tellOld; rw [if_neg (show ¬ (x.hold < 1 ∨ 2147483648 < x.hold) from by omega), if_neg hign]
   rw [if_neg c143]; subst he5 he4 he3 he2 he1; rfl
 have hh2 : SlH (some ⟨b0, o0, none⟩) c (L.set i { s5 with until_ := now + s5.hold }) := hh.of_len List.length_set
 refine Sq.quiet (i := 0) rfl (Want.none rfl) rfl (ltN rfl) (QP.assign rfl rfl).read ?_
 refine Sq.quiet (i := 1) rfl (Want.none rfl) rfl (ltN rfl) (QP.assign rfl rfl).read ?_
 refine Sq.nil ?_
 refine hk17 _ _ ?_
 refine Run.ret ?_
 exact J.ends (res_tmp2 rfl rfl rfl) (.cons (by repeat constructor) (.cons (by repeat constructor) Takes.nil)) ⟨_, _, _, hh2, 2, 0, rfl, .inl ⟨i, s, hsi, hks, by rw [hto], by rw [hto], by rw [hto]⟩, rt_setR i _⟩

theorem rtell_reb (F : Fr) {b : Nat} {most : Int} {a : Option Addr} {c : Nat} {L : List Route} (hh : SlH a c L) (hL : L.length ≤ 1000000) (hs : L.Pairwise fun a b => cmpRoute a b < 0) (hh0 : ∀ x ∈ L, 1 ≤ x.hold ∧ x.hold ≤ 2147483648) (now : Int) (hn0 : 0 ≤ now) (hn1 : now ≤ 2305843009213693952) (x : Route) (ok : Bool) (hbnd : 1 ≤ x.hold ∧ x.hold ≤ 2147483648) {i : Nat} {s : Route} (hsi : L[i]? = some s) (hks : keyR s = keyR x) (c122 : s.selected = true) (c124 : ok = true) (c143 : ¬ x.ref ≠ 65535)  : Spec Try.prog 39 #[.pointer (some ⟨b, 0, none⟩), .int .i64 now, .agg (Route.enc x).toArray, .bool ok] [blk b (Ref16Table.enc ⟨most, ⟨a, L.length, c⟩⟩) 57, slA 37 81 Route.enc (.slice a L.length c) L] F (fun v S => ∃ a2 c2, ∃ L2 : List Route, SlH a2 c2 L2 ∧ ∃ ta te, v = .tuple #[.int .i64 ta, .int .i64 te] ∧ RTell most L now x ok ta te L2 ∧ S = [blk b (Ref16Table.enc ⟨most, ⟨a2, L2.length, c2⟩⟩) 57, slA 37 81 Route.enc (.slice a2 L2.length c2) L2]) := by
 have hcle := hh.le
 refine Spec.intro (N := 173) (args := [.pointer (some ⟨b, 0, none⟩), .int .i64 now, .agg (Route.enc x).toArray, .bool ok]) Try.func39 rfl rfl (by simp) ?_
 refine Run.seq fun k1 hk1 => ?_
 refine Run.region ?_
 show Sq _ _ _ [0, 1, 2] _ _ _ _
 refine Sq.eff (i := 0) rfl (Want.none rfl) rfl (ltN rfl) (EF.boxA rfl rfl) ?_
 rintro _ _ ⟨b6, rfl, rfl⟩
 refine Sq.quiet (i := 1) rfl (Want.none rfl) rfl (ltN rfl) (QP.assign rfl rfl).read ?_
 refine Sq.quiet (i := 2) rfl (Want.none rfl) rfl (ltN rfl) (QP.assign rfl rfl).read ?_
 refine Sq.nil ?_
 refine hk1 _ _ ?_
 refine Run.seq fun k2 hk2 => ?_
 refine Run.seq fun k3 hk3 => ?_
 refine Run.region ?_
 show Sq _ _ _ [0, 1, 2, 3, 4, 5, 6, 7] _ _ _ _
 refine Sq.quiet (i := 0) rfl (Want.none rfl) rfl (ltN rfl) (QP.fieldAddr rfl rfl f37_9).read ?_
 refine Sq.quiet (i := 1) rfl (Want.none rfl) rfl (ltN rfl) (QR.load1 rfl rfl g3 (Route.sub_hold _)) ?_
 refine Sq.quiet (i := 2) rfl (Want.none rfl) rfl (ltN rfl) (QP.lss rfl rfl rfl).read ?_
 refine J.decF (by omega) ?_
 refine Sq.quiet (i := 3) rfl (Want.none rfl) rfl (ltN rfl) (QP.move rfl rfl).read ?_
 refine Sq.quiet (i := 4) rfl (Want.yes rfl rfl rfl rfl) rfl (ltN rfl) (QP.fieldAddr rfl rfl f37_9).read ?_
 refine Sq.quiet (i := 5) rfl (Want.yes rfl rfl rfl rfl) rfl (ltN rfl) (QR.load1 rfl rfl g3 (Route.sub_hold _)) ?_
 refine Sq.quiet (i := 6) rfl (Want.yes rfl rfl rfl rfl) rfl (ltN rfl) (QP.gtr rfl rfl rfl).read ?_
 refine J.decF (by omega) ?_
 refine Sq.quiet (i := 7) rfl (Want.none rfl) rfl (ltN rfl) (QP.pick_f rfl rfl rfl).read ?_
 refine Sq.nil ?_
 refine hk3 _ _ ?_
 refine Run.cond_f rfl ?_
 refine Run.skip ?_
 refine hk2 _ _ ?_
 refine Run.seq fun k4 hk4 => ?_
 refine Run.region ?_
 show Sq _ _ _ [0, 1, 2, 3, 4, 5, 6, 7, 8] _ _ _ _
 refine Sq.quiet (i := 0) rfl (Want.none rfl) rfl (ltN rfl) (QP.move rfl rfl).read ?_
 refine Sq.quiet (i := 1) rfl (Want.none rfl) rfl (ltN rfl) (QP.fieldAddr rfl rfl f37_0).read ?_
 refine Sq.quiet (i := 2) rfl (Want.none rfl) rfl (ltN rfl) (QR.load rfl rfl g32 (Route.sub_pair _)) ?_
 refine Sq.quiet (i := 3) rfl (Want.none rfl) rfl (ltN rfl) (QP.fieldAddr rfl rfl f37_1).read ?_
 refine Sq.quiet (i := 4) rfl (Want.none rfl) rfl (ltN rfl) (QR.load1 rfl rfl g3 (Route.sub_if_ _)) ?_
 refine Sq.quiet (i := 5) rfl (Want.none rfl) rfl (ltN rfl) (QP.fieldAddr rfl rfl f37_2).read ?_
 refine Sq.quiet (i := 6) rfl (Want.none rfl) rfl (ltN rfl) (QR.load rfl rfl g28 (Route.sub_from_ _)) ?_
 refine Sq.eff (i := 7) rfl (Want.none rfl) rfl (ltN rfl) (EF.call rfl ce21 rfl (.cons (by repeat constructor) (.cons (by repeat constructor) Takes.nil)) (fun F' hle hr => rfind_spec F' hh hL x.pair x.if_ x.from_)) ?_
 rintro _ _ ⟨_, ⟨rfl, n28, rfl, hfind⟩, rfl⟩
 refine J.app ?_
 refine Sq.quiet (i := 8) rfl (Want.none rfl) rfl (ltN rfl) (QP.assign rfl rfl).read ?_
 refine Sq.nil ?_
 refine hk4 _ _ ?_
 refine Run.seq fun k5 hk5 => ?_
 refine Run.seq fun k6 hk6 => ?_
 refine Run.region ?_
 show Sq _ _ _ [0, 1] _ _ _ _
 refine Sq.quiet (i := 0) rfl (Want.none rfl) rfl (ltN rfl) (QP.move rfl rfl).read ?_
 refine Sq.quiet (i := 1) rfl (Want.none rfl) rfl (ltN rfl) (QP.lss rfl rfl rfl).read ?_
 refine J.decF (by rcases hfind with ⟨_, h2⟩ | ⟨i2, s2, h1, h2, h3⟩ <;> first | omega | exact absurd hks (h2 s (List.mem_of_getElem? hsi))) ?_
 refine Sq.nil ?_
 refine hk6 _ _ ?_
 refine Run.cond_f rfl ?_
 refine Run.skip ?_
 refine hk5 _ _ ?_
 refine Run.seq fun k7 hk7 => ?_
 refine Run.region ?_
 show Sq _ _ _ [0, 1, 2, 3, 4, 5, 6] _ _ _ _
 obtain rfl : n28 = (i : Int) := by
   rcases hfind with ⟨_, h2⟩ | ⟨i2, s2, h1, h2, h3⟩
   · exact absurd hks (h2 s (List.mem_of_getElem? hsi))
   · rw [h1, idx_uniqR hs h2 hsi (h3.trans hks.symm)]
 have hlt : i < L.length := (List.getElem?_eq_some_iff.1 hsi).1
 obtain ⟨b0, o0, rfl⟩ := hh.get (by omega)
 have hhold := hh0 s (List.mem_of_getElem? hsi)
 refine Sq.quiet (i := 0) rfl (Want.none rfl) rfl (ltN rfl) (QP.move rfl rfl).read ?_
 refine Sq.quiet (i := 1) rfl (Want.none rfl) rfl (ltN rfl) (QP.nilCheck rfl rfl).read ?_
 refine Sq.quiet (i := 2) rfl (Want.none rfl) rfl (ltN rfl) (QP.fieldAddr rfl rfl f57_1).read ?_
 refine Sq.quiet (i := 3) rfl (Want.none rfl) rfl (ltN rfl) (QR.load1 (v := .slice _ L.length _) rfl rfl g46 (Ref16Table.sub_l _)) ?_
 refine Sq.quiet (i := 4) rfl (Want.none rfl) rfl (ltN rfl) (QP.move rfl rfl).read ?_
 refine Sq.quiet (i := 5) rfl (Want.none rfl) rfl (ltN rfl) (QP.indexAddr rfl rfl rfl Try.underlying46 z37 (by first | omega | (simp <;> omega)) (by first | omega | (simp <;> omega))).read ?_
 refine Sq.quiet (i := 6) rfl (Want.none rfl) rfl (ltN rfl) (QP.assign rfl rfl).read ?_
 refine Sq.nil ?_
 refine hk7 _ _ ?_
 refine Run.seq fun k8 hk8 => ?_
 refine Run.seq fun k9 hk9 => ?_
 refine Run.regionD (M := [0, 1, 3, 7, 15, 31, 63, 127, 255, 511, 1023, 2047, 4095, 511, 8703, 32767, 65535]) (q := 131071) (r := 20488) (by kernel_rfl) ?_
 refine Dw.pure (i := 0) rfl (by kernel_rfl) (Want.none rfl) rfl (ltN rfl) (QP.move rfl rfl) ?_
 refine Dw.pure (i := 1) rfl (by kernel_rfl) (Want.none rfl) rfl (ltN rfl) (QP.nilCheck rfl rfl) ?_
 refine Dw.pure (i := 2) rfl (by kernel_rfl) (Want.none rfl) rfl (ltN rfl) (QP.fieldAddr rfl rfl f37_10) ?_
 refine Dw.read (i := 3) rfl (by kernel_rfl) (Want.none rfl) rfl (ltN rfl) (QR.loadSlF1 rfl rfl g4 Route.enc_len (SlAt.own Route.enc_len (by repeat constructor)) hsi (Route.sub_selected _)) ?_
 refine J.boolT (c122) ?_
 refine Dw.pure (i := 4) rfl (by kernel_rfl) (Want.none rfl) rfl (ltN rfl) (QP.move rfl rfl) ?_
 refine Dw.pure (i := 5) rfl (by kernel_rfl) (Want.yes rfl rfl rfl rfl) rfl (ltN rfl) (QP.move rfl rfl) ?_
 refine J.boolT (c124) ?_
 refine Dw.pure (i := 6) rfl (by kernel_rfl) (Want.yes rfl rfl rfl rfl) rfl (ltN rfl) (QP.not rfl rfl) ?_
 refine Dw.pure (i := 7) rfl (by kernel_rfl) (Want.none rfl) rfl (ltN rfl) (QP.pick_t rfl rfl rfl) ?_
 refine Dw.pure (i := 8) rfl (by kernel_rfl) (Want.none rfl) rfl (ltN rfl) (QP.move rfl rfl) ?_
 refine Dw.skip (i := 9) rfl (by kernel_rfl) (Want.no rfl rfl rfl rfl) rfl (ltN rfl) ?_
 refine Dw.skip (i := 10) rfl (by kernel_rfl) (Want.no rfl rfl rfl rfl) rfl (ltN rfl) ?_
 refine Dw.skip (i := 11) rfl (by kernel_rfl) (Want.no rfl rfl rfl rfl) rfl (ltN rfl) ?_
 refine Dw.skip (i := 12) rfl (by kernel_rfl) (Want.no rfl rfl rfl rfl) rfl (ltN rfl) ?_
 refine Dw.skip (i := 13) rfl (by kernel_rfl) (Want.no rfl rfl rfl rfl) rfl (ltN rfl) ?_
 refine Dw.skip (i := 14) rfl (by kernel_rfl) (Want.no rfl rfl rfl rfl) rfl (ltN rfl) ?_
 refine Dw.skip (i := 15) rfl (by kernel_rfl) (Want.no rfl rfl rfl rfl) rfl (ltN rfl) ?_
 refine Dw.pure (i := 16) rfl (by kernel_rfl) (Want.none rfl) rfl (ltN rfl) (QP.pick_f rfl rfl rfl) ?_
 refine Dw.nil (by kernel_rfl) ?_
 refine hk9 _ _ ?_
 refine Run.cond_f rfl ?_
 refine Run.skip ?_
 refine hk8 _ _ ?_
 refine Run.seq fun k10 hk10 => ?_
 refine Run.region ?_
 show Sq _ _ _ [0, 1, 2, 3, 4, 5] _ _ _ _
 have hign : ¬ (s.selected = true ∧ ok = false ∧ s.id_ = x.id_) := fun h => absurd h.2.1 (by rw [c124]; decide)
 refine Sq.quiet (i := 0) rfl (Want.none rfl) rfl (ltN rfl) (QP.move rfl rfl).read ?_
 refine Sq.quiet (i := 1) rfl (Want.none rfl) rfl (ltN rfl) (QP.fieldAddr rfl rfl f37_5).read ?_
 refine Sq.quiet (i := 2) rfl (Want.none rfl) rfl (ltN rfl) (QR.load1 rfl rfl g35 (Route.sub_ref _)) ?_
 refine Sq.quiet (i := 3) rfl (Want.none rfl) rfl (ltN rfl) (QP.nilCheck rfl rfl).read ?_
 refine Sq.quiet (i := 4) rfl (Want.none rfl) rfl (ltN rfl) (QP.fieldAddr rfl rfl f37_5).read ?_
 refine Sq.act (i := 5) rfl (Want.none rfl) rfl (EF.storeSlF (enc := Route.enc) rfl rfl rfl z35 (by repeat constructor) Route.enc_len (by first | omega | (simp <;> omega)) (fun y hy => by cases hy.symm.trans hsi; exact (Route.set_ref _ (x).ref)) (cell_one rfl)) ?_
 rintro _ _ rfl
 generalize he1 : ({ s with ref := x.ref } : Route) = s1
 have hq1 : (L.set i s1)[i]? = some s1 := set_get (by omega)
 have hql1 : (L.set i s1).length = L.length := List.length_set
 have hho1 : s1.hold = s.hold := by rw [← he1]
 refine Sq.nil ?_
 refine hk10 _ _ ?_
 refine Run.seq fun k11 hk11 => ?_
 refine Run.seq fun k12 hk12 => ?_
 refine Run.region ?_
 show Sq _ _ _ [0, 1, 2] _ _ _ _
 refine Sq.quiet (i := 0) rfl (Want.none rfl) rfl (ltN rfl) (QP.fieldAddr rfl rfl f37_5).read ?_
 refine Sq.quiet (i := 1) rfl (Want.none rfl) rfl (ltN rfl) (QR.load1 rfl rfl g35 (Route.sub_ref _)) ?_
 refine Sq.quiet (i := 2) rfl (Want.none rfl) rfl (ltN rfl) (QP.neq rfl rfl rfl).read ?_
 refine J.decF (c143) ?_
 refine Sq.nil ?_
 refine hk12 _ _ ?_
 refine Run.cond_f rfl ?_
 refine Run.skip ?_
 refine hk11 _ _ ?_
 refine Run.seq fun k13 hk13 => ?_
 refine Run.region ?_
 show Sq _ _ _ [0, 1, 2, 3, 4, 5, 6, 7, 8, 9] _ _ _ _
 refine Sq.quiet (i := 0) rfl (Want.none rfl) rfl (ltN rfl) (QP.move rfl rfl).read ?_
 refine Sq.quiet (i := 1) rfl (Want.none rfl) rfl (ltN rfl) (QP.move rfl rfl).read ?_
 refine Sq.quiet (i := 2) rfl (Want.none rfl) rfl (ltN rfl) (QP.move rfl rfl).read ?_
 refine Sq.quiet (i := 3) rfl (Want.none rfl) rfl (ltN rfl) (QP.nilCheck rfl rfl).read ?_
 refine Sq.quiet (i := 4) rfl (Want.none rfl) rfl (ltN rfl) (QP.fieldAddr rfl rfl f37_9).read ?_
 refine Sq.quiet (i := 5) rfl (Want.none rfl) rfl (ltN rfl) (QR.loadSlF1 rfl rfl g3 Route.enc_len (SlAt.own Route.enc_len (by repeat constructor)) hq1 (Route.sub_hold _)) ?_
 refine Sq.quiet (i := 6) rfl (Want.none rfl) rfl (ltN rfl) (QP.add64 rfl rfl rfl (by first | omega | (simp <;> omega)) (by first | omega | (simp <;> omega))).read ?_
 refine Sq.quiet (i := 7) rfl (Want.none rfl) rfl (ltN rfl) (QP.nilCheck rfl rfl).read ?_
 refine Sq.quiet (i := 8) rfl (Want.none rfl) rfl (ltN rfl) (QP.fieldAddr rfl rfl f37_8).read ?_
 refine Sq.act (i := 9) rfl (Want.none rfl) rfl (EF.storeSlF (enc := Route.enc) rfl rfl rfl z3 (by repeat constructor) Route.enc_len (by first | omega | (simp <;> omega)) (fun y hy => by cases hy.symm.trans hq1; exact (Route.set_until_ _ _)) (cell_one rfl)) ?_
 rintro _ _ rfl
 refine Sq.nil ?_
 refine hk13 _ _ ?_
 refine Run.seq fun k14 hk14 => ?_
 refine Run.region ?_
 show Sq _ _ _ [0, 1] _ _ _ _
 rw [List.set_set]
 have hto : tellOld now s x ok = (2, 0, { s1 with until_ := now + s1.hold }) := by
   unfold tellOld; rw [if_neg (show ¬ (x.hold < 1 ∨ 2147483648 < x.hold) from by omega), if_neg hign]
   rw [if_pos (by simpa using c143)]; subst he1; rfl
 have hh2 : SlH (some ⟨b0, o0, none⟩) c (L.set i { s1 with until_ := now + s1.hold }) := hh.of_len List.length_set
 refine Sq.quiet (i := 0) rfl (Want.none rfl) rfl (ltN rfl) (QP.assign rfl rfl).read ?_
 refine Sq.quiet (i := 1) rfl (Want.none rfl) rfl (ltN rfl) (QP.assign rfl rfl).read ?_
 refine Sq.nil ?_
 refine hk14 _ _ ?_
 refine Run.ret ?_
 exact J.ends (res_tmp2 rfl rfl rfl) (.cons (by repeat constructor) (.cons (by repeat constructor) Takes.nil)) ⟨_, _, _, hh2, 2, 0, rfl, .inl ⟨i, s, hsi, hks, by rw [hto], by rw [hto], by rw [hto]⟩, rt_setR i _⟩

theorem rtell_upc (F : Fr) {b : Nat} {most : Int} {a : Option Addr} {c : Nat} {L : List Route} (hh : SlH a c L) (hL : L.length ≤ 1000000) (hs : L.Pairwise fun a b => cmpRoute a b < 0) (hh0 : ∀ x ∈ L, 1 ≤ x.hold ∧ x.hold ≤ 2147483648) (now : Int) (hn0 : 0 ≤ now) (hn1 : now ≤ 2305843009213693952) (x : Route) (ok : Bool) (hbnd : 1 ≤ x.hold ∧ x.hold ≤ 2147483648) {i : Nat} {s : Route} (hsi : L[i]? = some s) (hks : keyR s = keyR x) (c122 : s.selected = true) (c124 : ok = false) (c134 : ¬ s.id_ = x.id_) (c143 : x.ref ≠ 65535)  : Spec Try.prog 39 #[.pointer (some ⟨b, 0, none⟩), .int .i64 now, .agg (Route.enc x).toArray, .bool ok] [blk b (Ref16Table.enc ⟨most, ⟨a, L.length, c⟩⟩) 57, slA 37 81 Route.enc (.slice a L.length c) L] F (fun v S => ∃ a2 c2, ∃ L2 : List Route, SlH a2 c2 L2 ∧ ∃ ta te, v = .tuple #[.int .i64 ta, .int .i64 te] ∧ RTell most L now x ok ta te L2 ∧ S = [blk b (Ref16Table.enc ⟨most, ⟨a2, L2.length, c2⟩⟩) 57, slA 37 81 Route.enc (.slice a2 L2.length c2) L2]) := by
 have hcle := hh.le
 refine Spec.intro (N := 173) (args := [.pointer (some ⟨b, 0, none⟩), .int .i64 now, .agg (Route.enc x).toArray, .bool ok]) Try.func39 rfl rfl (by simp) ?_
 refine Run.seq fun k1 hk1 => ?_
 refine Run.region ?_
 show Sq _ _ _ [0, 1, 2] _ _ _ _
 refine Sq.eff (i := 0) rfl (Want.none rfl) rfl (ltN rfl) (EF.boxA rfl rfl) ?_
 rintro _ _ ⟨b6, rfl, rfl⟩
 refine Sq.quiet (i := 1) rfl (Want.none rfl) rfl (ltN rfl) (QP.assign rfl rfl).read ?_
 refine Sq.quiet (i := 2) rfl (Want.none rfl) rfl (ltN rfl) (QP.assign rfl rfl).read ?_
 refine Sq.nil ?_
 refine hk1 _ _ ?_
 refine Run.seq fun k2 hk2 => ?_
 refine Run.seq fun k3 hk3 => ?_
 refine Run.region ?_
 show Sq _ _ _ [0, 1, 2, 3, 4, 5, 6, 7] _ _ _ _
 refine Sq.quiet (i := 0) rfl (Want.none rfl) rfl (ltN rfl) (QP.fieldAddr rfl rfl f37_9).read ?_
 refine Sq.quiet (i := 1) rfl (Want.none rfl) rfl (ltN rfl) (QR.load1 rfl rfl g3 (Route.sub_hold _)) ?_
 refine Sq.quiet (i := 2) rfl (Want.none rfl) rfl (ltN rfl) (QP.lss rfl rfl rfl).read ?_
 refine J.decF (by omega) ?_
 refine Sq.quiet (i := 3) rfl (Want.none rfl) rfl (ltN rfl) (QP.move rfl rfl).read ?_
 refine Sq.quiet (i := 4) rfl (Want.yes rfl rfl rfl rfl) rfl (ltN rfl) (QP.fieldAddr rfl rfl f37_9).read ?_
 refine Sq.quiet (i := 5) rfl (Want.yes rfl rfl rfl rfl) rfl (ltN rfl) (QR.load1 rfl rfl g3 (Route.sub_hold _)) ?_
 refine Sq.quiet (i := 6) rfl (Want.yes rfl rfl rfl rfl) rfl (ltN rfl) (QP.gtr rfl rfl rfl).read ?_
 refine J.decF (by omega) ?_
 refine Sq.quiet (i := 7) rfl (Want.none rfl) rfl (ltN rfl) (QP.pick_f rfl rfl rfl).read ?_
 refine Sq.nil ?_
 refine hk3 _ _ ?_
 refine Run.cond_f rfl ?_
 refine Run.skip ?_
 refine hk2 _ _ ?_
 refine Run.seq fun k4 hk4 => ?_
 refine Run.region ?_
 show Sq _ _ _ [0, 1, 2, 3, 4, 5, 6, 7, 8] _ _ _ _
 refine Sq.quiet (i := 0) rfl (Want.none rfl) rfl (ltN rfl) (QP.move rfl rfl).read ?_
 refine Sq.quiet (i := 1) rfl (Want.none rfl) rfl (ltN rfl) (QP.fieldAddr rfl rfl f37_0).read ?_
 refine Sq.quiet (i := 2) rfl (Want.none rfl) rfl (ltN rfl) (QR.load rfl rfl g32 (Route.sub_pair _)) ?_
 refine Sq.quiet (i := 3) rfl (Want.none rfl) rfl (ltN rfl) (QP.fieldAddr rfl rfl f37_1).read ?_
 refine Sq.quiet (i := 4) rfl (Want.none rfl) rfl (ltN rfl) (QR.load1 rfl rfl g3 (Route.sub_if_ _)) ?_
 refine Sq.quiet (i := 5) rfl (Want.none rfl) rfl (ltN rfl) (QP.fieldAddr rfl rfl f37_2).read ?_
 refine Sq.quiet (i := 6) rfl (Want.none rfl) rfl (ltN rfl) (QR.load rfl rfl g28 (Route.sub_from_ _)) ?_
 refine Sq.eff (i := 7) rfl (Want.none rfl) rfl (ltN rfl) (EF.call rfl ce21 rfl (.cons (by repeat constructor) (.cons (by repeat constructor) Takes.nil)) (fun F' hle hr => rfind_spec F' hh hL x.pair x.if_ x.from_)) ?_
 rintro _ _ ⟨_, ⟨rfl, n28, rfl, hfind⟩, rfl⟩
 refine J.app ?_
 refine Sq.quiet (i := 8) rfl (Want.none rfl) rfl (ltN rfl) (QP.assign rfl rfl).read ?_
 refine Sq.nil ?_
 refine hk4 _ _ ?_
 refine Run.seq fun k5 hk5 => ?_
 refine Run.seq fun k6 hk6 => ?_
 refine Run.region ?_
 show Sq _ _ _ [0, 1] _ _ _ _
 refine Sq.quiet (i := 0) rfl (Want.none rfl) rfl (ltN rfl) (QP.move rfl rfl).read ?_
 refine Sq.quiet (i := 1) rfl (Want.none rfl) rfl (ltN rfl) (QP.lss rfl rfl rfl).read ?_
 refine J.decF (by rcases hfind with ⟨_, h2⟩ | ⟨i2, s2, h1, h2, h3⟩ <;> first | omega | exact absurd hks (h2 s (List.mem_of_getElem? hsi))) ?_
 refine Sq.nil ?_
 refine hk6 _ _ ?_
 refine Run.cond_f rfl ?_
 refine Run.skip ?_
 refine hk5 _ _ ?_
 refine Run.seq fun k7 hk7 => ?_
 refine Run.region ?_
 show Sq _ _ _ [0, 1, 2, 3, 4, 5, 6] _ _ _ _
 obtain rfl : n28 = (i : Int) := by
   rcases hfind with ⟨_, h2⟩ | ⟨i2, s2, h1, h2, h3⟩
   · exact absurd hks (h2 s (List.mem_of_getElem? hsi))
   · rw [h1, idx_uniqR hs h2 hsi (h3.trans hks.symm)]
 have hlt : i < L.length := (List.getElem?_eq_some_iff.1 hsi).1
 obtain ⟨b0, o0, rfl⟩ := hh.get (by omega)
 have hhold := hh0 s (List.mem_of_getElem? hsi)
 refine Sq.quiet (i := 0) rfl (Want.none rfl) rfl (ltN rfl) (QP.move rfl rfl).read ?_
 refine Sq.quiet (i := 1) rfl (Want.none rfl) rfl (ltN rfl) (QP.nilCheck rfl rfl).read ?_
 refine Sq.quiet (i := 2) rfl (Want.none rfl) rfl (ltN rfl) (QP.fieldAddr rfl rfl f57_1).read ?_
 refine Sq.quiet (i := 3) rfl (Want.none rfl) rfl (ltN rfl) (QR.load1 (v := .slice _ L.length _) rfl rfl g46 (Ref16Table.sub_l _)) ?_
 refine Sq.quiet (i := 4) rfl (Want.none rfl) rfl (ltN rfl) (QP.move rfl rfl).read ?_
 refine Sq.quiet (i := 5) rfl (Want.none rfl) rfl (ltN rfl) (QP.indexAddr rfl rfl rfl Try.underlying46 z37 (by first | omega | (simp <;> omega)) (by first | omega | (simp <;> omega))).read ?_
 refine Sq.quiet (i := 6) rfl (Want.none rfl) rfl (ltN rfl) (QP.assign rfl rfl).read ?_
 refine Sq.nil ?_
 refine hk7 _ _ ?_
 refine Run.seq fun k8 hk8 => ?_
 refine Run.seq fun k9 hk9 => ?_
 refine Run.regionD (M := [0, 1, 3, 7, 15, 31, 63, 127, 255, 511, 1023, 2047, 4095, 511, 8703, 32767, 65535]) (q := 131071) (r := 20488) (by kernel_rfl) ?_
 refine Dw.pure (i := 0) rfl (by kernel_rfl) (Want.none rfl) rfl (ltN rfl) (QP.move rfl rfl) ?_
 refine Dw.pure (i := 1) rfl (by kernel_rfl) (Want.none rfl) rfl (ltN rfl) (QP.nilCheck rfl rfl) ?_
 refine Dw.pure (i := 2) rfl (by kernel_rfl) (Want.none rfl) rfl (ltN rfl) (QP.fieldAddr rfl rfl f37_10) ?_
 refine Dw.read (i := 3) rfl (by kernel_rfl) (Want.none rfl) rfl (ltN rfl) (QR.loadSlF1 rfl rfl g4 Route.enc_len (SlAt.own Route.enc_len (by repeat constructor)) hsi (Route.sub_selected _)) ?_
 refine J.boolT (c122) ?_
 refine Dw.pure (i := 4) rfl (by kernel_rfl) (Want.none rfl) rfl (ltN rfl) (QP.move rfl rfl) ?_
 refine Dw.pure (i := 5) rfl (by kernel_rfl) (Want.yes rfl rfl rfl rfl) rfl (ltN rfl) (QP.move rfl rfl) ?_
 refine J.boolF (c124) ?_
 refine Dw.pure (i := 6) rfl (by kernel_rfl) (Want.yes rfl rfl rfl rfl) rfl (ltN rfl) (QP.not rfl rfl) ?_
 refine Dw.pure (i := 7) rfl (by kernel_rfl) (Want.none rfl) rfl (ltN rfl) (QP.pick_t rfl rfl rfl) ?_
 refine Dw.pure (i := 8) rfl (by kernel_rfl) (Want.none rfl) rfl (ltN rfl) (QP.move rfl rfl) ?_
 refine Dw.pure (i := 9) rfl (by kernel_rfl) (Want.yes rfl rfl rfl rfl) rfl (ltN rfl) (QP.move rfl rfl) ?_
 refine Dw.pure (i := 10) rfl (by kernel_rfl) (Want.yes rfl rfl rfl rfl) rfl (ltN rfl) (QP.nilCheck rfl rfl) ?_
 refine Dw.pure (i := 11) rfl (by kernel_rfl) (Want.yes rfl rfl rfl rfl) rfl (ltN rfl) (QP.fieldAddr rfl rfl f37_3) ?_
 refine Dw.read (i := 12) rfl (by kernel_rfl) (Want.yes rfl rfl rfl rfl) rfl (ltN rfl) (QR.loadSlF rfl rfl g34 Route.enc_len (SlAt.own Route.enc_len (by repeat constructor)) hsi (Route.sub_id_ _)) ?_
 refine Dw.pure (i := 13) rfl (by kernel_rfl) (Want.yes rfl rfl rfl rfl) rfl (ltN rfl) (QP.fieldAddr rfl rfl f37_3) ?_
 refine Dw.read (i := 14) rfl (by kernel_rfl) (Want.yes rfl rfl rfl rfl) rfl (ltN rfl) (QR.load rfl rfl g34 (Route.sub_id_ _)) ?_
 refine Dw.pure (i := 15) rfl (by kernel_rfl) (Want.yes rfl rfl rfl rfl) rfl (ltN rfl) (QP.eql_agg eq34 rfl rfl rfl) ?_
 refine J.decF (c134) ?_
 refine Dw.pure (i := 16) rfl (by kernel_rfl) (Want.none rfl) rfl (ltN rfl) (QP.pick_t rfl rfl rfl) ?_
 refine Dw.nil (by kernel_rfl) ?_
 refine hk9 _ _ ?_
 refine Run.cond_f rfl ?_
 refine Run.skip ?_
 refine hk8 _ _ ?_
 refine Run.seq fun k10 hk10 => ?_
 refine Run.region ?_
 show Sq _ _ _ [0, 1, 2, 3, 4, 5] _ _ _ _
 have hign : ¬ (s.selected = true ∧ ok = false ∧ s.id_ = x.id_) := fun h => c134 h.2.2
 refine Sq.quiet (i := 0) rfl (Want.none rfl) rfl (ltN rfl) (QP.move rfl rfl).read ?_
 refine Sq.quiet (i := 1) rfl (Want.none rfl) rfl (ltN rfl) (QP.fieldAddr rfl rfl f37_5).read ?_
 refine Sq.quiet (i := 2) rfl (Want.none rfl) rfl (ltN rfl) (QR.load1 rfl rfl g35 (Route.sub_ref _)) ?_
 refine Sq.quiet (i := 3) rfl (Want.none rfl) rfl (ltN rfl) (QP.nilCheck rfl rfl).read ?_
 refine Sq.quiet (i := 4) rfl (Want.none rfl) rfl (ltN rfl) (QP.fieldAddr rfl rfl f37_5).read ?_
 refine Sq.act (i := 5) rfl (Want.none rfl) rfl (EF.storeSlF (enc := Route.enc) rfl rfl rfl z35 (by repeat constructor) Route.enc_len (by first | omega | (simp <;> omega)) (fun y hy => by cases hy.symm.trans hsi; exact (Route.set_ref _ (x).ref)) (cell_one rfl)) ?_
 rintro _ _ rfl
 generalize he1 : ({ s with ref := x.ref } : Route) = s1
 have hq1 : (L.set i s1)[i]? = some s1 := set_get (by omega)
 have hql1 : (L.set i s1).length = L.length := List.length_set
 have hho1 : s1.hold = s.hold := by rw [← he1]
 refine Sq.nil ?_
 refine hk10 _ _ ?_
 refine Run.seq fun k11 hk11 => ?_
 refine Run.seq fun k12 hk12 => ?_
 refine Run.region ?_
 show Sq _ _ _ [0, 1, 2] _ _ _ _
 refine Sq.quiet (i := 0) rfl (Want.none rfl) rfl (ltN rfl) (QP.fieldAddr rfl rfl f37_5).read ?_
 refine Sq.quiet (i := 1) rfl (Want.none rfl) rfl (ltN rfl) (QR.load1 rfl rfl g35 (Route.sub_ref _)) ?_
 refine Sq.quiet (i := 2) rfl (Want.none rfl) rfl (ltN rfl) (QP.neq rfl rfl rfl).read ?_
 refine J.decT (c143) ?_
 refine Sq.nil ?_
 refine hk12 _ _ ?_
 refine Run.cond_t rfl ?_
 refine Run.seq fun k13 hk13 => ?_
 refine Run.region ?_
 show Sq _ _ _ [0, 1, 2, 3, 4, 5] _ _ _ _
 refine Sq.quiet (i := 0) rfl (Want.none rfl) rfl (ltN rfl) (QP.move rfl rfl).read ?_
 refine Sq.quiet (i := 1) rfl (Want.none rfl) rfl (ltN rfl) (QP.fieldAddr rfl rfl f37_3).read ?_
 refine Sq.quiet (i := 2) rfl (Want.none rfl) rfl (ltN rfl) (QR.load rfl rfl g34 (Route.sub_id_ _)) ?_
 refine Sq.quiet (i := 3) rfl (Want.none rfl) rfl (ltN rfl) (QP.nilCheck rfl rfl).read ?_
 refine Sq.quiet (i := 4) rfl (Want.none rfl) rfl (ltN rfl) (QP.fieldAddr rfl rfl f37_3).read ?_
 refine Sq.act (i := 5) rfl (Want.none rfl) rfl (EF.storeSlF (enc := Route.enc) rfl rfl rfl z34 (by repeat constructor) Route.enc_len (by first | omega | (simp <;> omega)) (fun y hy => by cases hy.symm.trans hq1; exact (Route.set_id_ _ (x).id_)) (Bs.cell _)) ?_
 rintro _ _ rfl
 rw [List.set_set]
 generalize he2 : ({ s1 with id_ := x.id_ } : Route) = s2
 have hq2 : (L.set i s2)[i]? = some s2 := set_get (by omega)
 have hql2 : (L.set i s2).length = L.length := List.length_set
 have hho2 : s2.hold = s1.hold := by rw [← he2]
 refine Sq.nil ?_
 refine hk13 _ _ ?_
 refine Run.seq fun k14 hk14 => ?_
 refine Run.region ?_
 show Sq _ _ _ [0, 1, 2, 3, 4, 5] _ _ _ _
 refine Sq.quiet (i := 0) rfl (Want.none rfl) rfl (ltN rfl) (QP.move rfl rfl).read ?_
 refine Sq.quiet (i := 1) rfl (Want.none rfl) rfl (ltN rfl) (QP.fieldAddr rfl rfl f37_4).read ?_
 refine Sq.quiet (i := 2) rfl (Want.none rfl) rfl (ltN rfl) (QR.load1 rfl rfl g35 (Route.sub_seqno _)) ?_
 refine Sq.quiet (i := 3) rfl (Want.none rfl) rfl (ltN rfl) (QP.nilCheck rfl rfl).read ?_
 refine Sq.quiet (i := 4) rfl (Want.none rfl) rfl (ltN rfl) (QP.fieldAddr rfl rfl f37_4).read ?_
 refine Sq.act (i := 5) rfl (Want.none rfl) rfl (EF.storeSlF (enc := Route.enc) rfl rfl rfl z35 (by repeat constructor) Route.enc_len (by first | omega | (simp <;> omega)) (fun y hy => by cases hy.symm.trans hq2; exact (Route.set_seqno _ (x).seqno)) (cell_one rfl)) ?_
 rintro _ _ rfl
 rw [List.set_set]
 generalize he3 : ({ s2 with seqno := x.seqno } : Route) = s3
 have hq3 : (L.set i s3)[i]? = some s3 := set_get (by omega)
 have hql3 : (L.set i s3).length = L.length := List.length_set
 have hho3 : s3.hold = s2.hold := by rw [← he3]
 refine Sq.nil ?_
 refine hk14 _ _ ?_
 refine Run.seq fun k15 hk15 => ?_
 refine Run.region ?_
 show Sq _ _ _ [0, 1, 2, 3, 4, 5] _ _ _ _
 refine Sq.quiet (i := 0) rfl (Want.none rfl) rfl (ltN rfl) (QP.move rfl rfl).read ?_
 refine Sq.quiet (i := 1) rfl (Want.none rfl) rfl (ltN rfl) (QP.fieldAddr rfl rfl f37_7).read ?_
 refine Sq.quiet (i := 2) rfl (Want.none rfl) rfl (ltN rfl) (QR.load rfl rfl g28 (Route.sub_hop _)) ?_
 refine Sq.quiet (i := 3) rfl (Want.none rfl) rfl (ltN rfl) (QP.nilCheck rfl rfl).read ?_
 refine Sq.quiet (i := 4) rfl (Want.none rfl) rfl (ltN rfl) (QP.fieldAddr rfl rfl f37_7).read ?_
 refine Sq.act (i := 5) rfl (Want.none rfl) rfl (EF.storeSlF (enc := Route.enc) rfl rfl rfl z28 (by repeat constructor) Route.enc_len (by first | omega | (simp <;> omega)) (fun y hy => by cases hy.symm.trans hq3; exact (Route.set_hop _ (x).hop)) (Bs.cell _)) ?_
 rintro _ _ rfl
 rw [List.set_set]
 generalize he4 : ({ s3 with hop := x.hop } : Route) = s4
 have hq4 : (L.set i s4)[i]? = some s4 := set_get (by omega)
 have hql4 : (L.set i s4).length = L.length := List.length_set
 have hho4 : s4.hold = s3.hold := by rw [← he4]
 refine Sq.nil ?_
 refine hk15 _ _ ?_
 refine Run.region ?_
 show Sq _ _ _ [0, 1, 2, 3, 4, 5] _ _ _ _
 refine Sq.quiet (i := 0) rfl (Want.none rfl) rfl (ltN rfl) (QP.move rfl rfl).read ?_
 refine Sq.quiet (i := 1) rfl (Want.none rfl) rfl (ltN rfl) (QP.fieldAddr rfl rfl f37_9).read ?_
 refine Sq.quiet (i := 2) rfl (Want.none rfl) rfl (ltN rfl) (QR.load1 rfl rfl g3 (Route.sub_hold _)) ?_
 refine Sq.quiet (i := 3) rfl (Want.none rfl) rfl (ltN rfl) (QP.nilCheck rfl rfl).read ?_
 refine Sq.quiet (i := 4) rfl (Want.none rfl) rfl (ltN rfl) (QP.fieldAddr rfl rfl f37_9).read ?_
 refine Sq.act (i := 5) rfl (Want.none rfl) rfl (EF.storeSlF (enc := Route.enc) rfl rfl rfl z3 (by repeat constructor) Route.enc_len (by first | omega | (simp <;> omega)) (fun y hy => by cases hy.symm.trans hq4; exact (Route.set_hold _ (x).hold)) (cell_one rfl)) ?_
 rintro _ _ rfl
 rw [List.set_set]
 generalize he5 : ({ s4 with hold := x.hold } : Route) = s5
 have hq5 : (L.set i s5)[i]? = some s5 := set_get (by omega)
 have hql5 : (L.set i s5).length = L.length := List.length_set
 have hho5 : s5.hold = x.hold := by rw [← he5]
 refine Sq.nil ?_
 refine hk11 _ _ ?_
 refine Run.seq fun k16 hk16 => ?_
 refine Run.region ?_
 show Sq _ _ _ [0, 1, 2, 3, 4, 5, 6, 7, 8, 9] _ _ _ _
 refine Sq.quiet (i := 0) rfl (Want.none rfl) rfl (ltN rfl) (QP.move rfl rfl).read ?_
 refine Sq.quiet (i := 1) rfl (Want.none rfl) rfl (ltN rfl) (QP.move rfl rfl).read ?_
 refine Sq.quiet (i := 2) rfl (Want.none rfl) rfl (ltN rfl) (QP.move rfl rfl).read ?_
 refine Sq.quiet (i := 3) rfl (Want.none rfl) rfl (ltN rfl) (QP.nilCheck rfl rfl).read ?_
 refine Sq.quiet (i := 4) rfl (Want.none rfl) rfl (ltN rfl) (QP.fieldAddr rfl rfl f37_9).read ?_
 refine Sq.quiet (i := 5) rfl (Want.none rfl) rfl (ltN rfl) (QR.loadSlF1 rfl rfl g3 Route.enc_len (SlAt.own Route.enc_len (by repeat constructor)) hq5 (Route.sub_hold _)) ?_
 refine Sq.quiet (i := 6) rfl (Want.none rfl) rfl (ltN rfl) (QP.add64 rfl rfl rfl (by first | omega | (simp <;> omega)) (by first | omega | (simp <;> omega))).read ?_
 refine Sq.quiet (i := 7) rfl (Want.none rfl) rfl (ltN rfl) (QP.nilCheck rfl rfl).read ?_
 refine Sq.quiet (i := 8) rfl (Want.none rfl) rfl (ltN rfl) (QP.fieldAddr rfl rfl f37_8).read ?_
 refine Sq.act (i := 9) rfl (Want.none rfl) rfl (EF.storeSlF (enc := Route.enc) rfl rfl rfl z3 (by repeat constructor) Route.enc_len (by first | omega | (simp <;> omega)) (fun y hy => by cases hy.symm.trans hq5; exact (Route.set_until_ _ _)) (cell_one rfl)) ?_
 rintro _ _ rfl
 refine Sq.nil ?_
 refine hk16 _ _ ?_
 refine Run.seq fun k17 hk17 => ?_
 refine Run.region ?_
 show Sq _ _ _ [0, 1] _ _ _ _
 rw [List.set_set]
 have hto : tellOld now s x ok = (2, 0, { s5 with until_ := now + s5.hold }) := by
   unfold tellOld; rw [if_neg (show ¬ (x.hold < 1 ∨ 2147483648 < x.hold) from by omega), if_neg hign]
   rw [if_neg c143]; subst he5 he4 he3 he2 he1; rfl
 have hh2 : SlH (some ⟨b0, o0, none⟩) c (L.set i { s5 with until_ := now + s5.hold }) := hh.of_len List.length_set
 refine Sq.quiet (i := 0) rfl (Want.none rfl) rfl (ltN rfl) (QP.assign rfl rfl).read ?_
 refine Sq.quiet (i := 1) rfl (Want.none rfl) rfl (ltN rfl) (QP.assign rfl rfl).read ?_
 refine Sq.nil ?_
 refine hk17 _ _ ?_
 refine Run.ret ?_
 exact J.ends (res_tmp2 rfl rfl rfl) (.cons (by repeat constructor) (.cons (by repeat constructor) Takes.nil)) ⟨_, _, _, hh2, 2, 0, rfl, .inl ⟨i, s, hsi, hks, by rw [hto], by rw [hto], by rw [hto]⟩, rt_setR i _⟩

theorem rtell_rec (F : Fr) {b : Nat} {most : Int} {a : Option Addr} {c : Nat} {L : List Route} (hh : SlH a c L) (hL : L.length ≤ 1000000) (hs : L.Pairwise fun a b => cmpRoute a b < 0) (hh0 : ∀ x ∈ L, 1 ≤ x.hold ∧ x.hold ≤ 2147483648) (now : Int) (hn0 : 0 ≤ now) (hn1 : now ≤ 2305843009213693952) (x : Route) (ok : Bool) (hbnd : 1 ≤ x.hold ∧ x.hold ≤ 2147483648) {i : Nat} {s : Route} (hsi : L[i]? = some s) (hks : keyR s = keyR x) (c122 : s.selected = true) (c124 : ok = false) (c134 : ¬ s.id_ = x.id_) (c143 : ¬ x.ref ≠ 65535)  : Spec Try.prog 39 #[.pointer (some ⟨b, 0, none⟩), .int .i64 now, .agg (Route.enc x).toArray, .bool ok] [blk b (Ref16Table.enc ⟨most, ⟨a, L.length, c⟩⟩) 57, slA 37 81 Route.enc (.slice a L.length c) L] F (fun v S => ∃ a2 c2, ∃ L2 : List Route, SlH a2 c2 L2 ∧ ∃ ta te, v = .tuple #[.int .i64 ta, .int .i64 te] ∧ RTell most L now x ok ta te L2 ∧ S = [blk b (Ref16Table.enc ⟨most, ⟨a2, L2.length, c2⟩⟩) 57, slA 37 81 Route.enc (.slice a2 L2.length c2) L2]) := by
 have hcle := hh.le
 refine Spec.intro (N := 173) (args := [.pointer (some ⟨b, 0, none⟩), .int .i64 now, .agg (Route.enc x).toArray, .bool ok]) Try.func39 rfl rfl (by simp) ?_
 refine Run.seq fun k1 hk1 => ?_
 refine Run.region ?_
 show Sq _ _ _ [0, 1, 2] _ _ _ _
 refine Sq.eff (i := 0) rfl (Want.none rfl) rfl (ltN rfl) (EF.boxA rfl rfl) ?_
 rintro _ _ ⟨b6, rfl, rfl⟩
 refine Sq.quiet (i := 1) rfl (Want.none rfl) rfl (ltN rfl) (QP.assign rfl rfl).read ?_
 refine Sq.quiet (i := 2) rfl (Want.none rfl) rfl (ltN rfl) (QP.assign rfl rfl).read ?_
 refine Sq.nil ?_
 refine hk1 _ _ ?_
 refine Run.seq fun k2 hk2 => ?_
 refine Run.seq fun k3 hk3 => ?_
 refine Run.region ?_
 show Sq _ _ _ [0, 1, 2, 3, 4, 5, 6, 7] _ _ _ _
 refine Sq.quiet (i := 0) rfl (Want.none rfl) rfl (ltN rfl) (QP.fieldAddr rfl rfl f37_9).read ?_
 refine Sq.quiet (i := 1) rfl (Want.none rfl) rfl (ltN rfl) (QR.load1 rfl rfl g3 (Route.sub_hold _)) ?_
 refine Sq.quiet (i := 2) rfl (Want.none rfl) rfl (ltN rfl) (QP.lss rfl rfl rfl).read ?_
 refine J.decF (by omega) ?_
 refine Sq.quiet (i := 3) rfl (Want.none rfl) rfl (ltN rfl) (QP.move rfl rfl).read ?_
 refine Sq.quiet (i := 4) rfl (Want.yes rfl rfl rfl rfl) rfl (ltN rfl) (QP.fieldAddr rfl rfl f37_9).read ?_
 refine Sq.quiet (i := 5) rfl (Want.yes rfl rfl rfl rfl) rfl (ltN rfl) (QR.load1 rfl rfl g3 (Route.sub_hold _)) ?_
 refine Sq.quiet (i := 6) rfl (Want.yes rfl rfl rfl rfl) rfl (ltN rfl) (QP.gtr rfl rfl rfl).read ?_
 refine J.decF (by omega) ?_
 refine Sq.quiet (i := 7) rfl (Want.none rfl) rfl (ltN rfl) (QP.pick_f rfl rfl rfl).read ?_
 refine Sq.nil ?_
 refine hk3 _ _ ?_
 refine Run.cond_f rfl ?_
 refine Run.skip ?_
 refine hk2 _ _ ?_
 refine Run.seq fun k4 hk4 => ?_
 refine Run.region ?_
 show Sq _ _ _ [0, 1, 2, 3, 4, 5, 6, 7, 8] _ _ _ _
 refine Sq.quiet (i := 0) rfl (Want.none rfl) rfl (ltN rfl) (QP.move rfl rfl).read ?_
 refine Sq.quiet (i := 1) rfl (Want.none rfl) rfl (ltN rfl) (QP.fieldAddr rfl rfl f37_0).read ?_
 refine Sq.quiet (i := 2) rfl (Want.none rfl) rfl (ltN rfl) (QR.load rfl rfl g32 (Route.sub_pair _)) ?_
 refine Sq.quiet (i := 3) rfl (Want.none rfl) rfl (ltN rfl) (QP.fieldAddr rfl rfl f37_1).read ?_
 refine Sq.quiet (i := 4) rfl (Want.none rfl) rfl (ltN rfl) (QR.load1 rfl rfl g3 (Route.sub_if_ _)) ?_
 refine Sq.quiet (i := 5) rfl (Want.none rfl) rfl (ltN rfl) (QP.fieldAddr rfl rfl f37_2).read ?_
 refine Sq.quiet (i := 6) rfl (Want.none rfl) rfl (ltN rfl) (QR.load rfl rfl g28 (Route.sub_from_ _)) ?_
 refine Sq.eff (i := 7) rfl (Want.none rfl) rfl (ltN rfl) (EF.call rfl ce21 rfl (.cons (by repeat constructor) (.cons (by repeat constructor) Takes.nil)) (fun F' hle hr => rfind_spec F' hh hL x.pair x.if_ x.from_)) ?_
 rintro _ _ ⟨_, ⟨rfl, n28, rfl, hfind⟩, rfl⟩
 refine J.app ?_
 refine Sq.quiet (i := 8) rfl (Want.none rfl) rfl (ltN rfl) (QP.assign rfl rfl).read ?_
 refine Sq.nil ?_
 refine hk4 _ _ ?_
 refine Run.seq fun k5 hk5 => ?_
 refine Run.seq fun k6 hk6 => ?_
 refine Run.region ?_
 show Sq _ _ _ [0, 1] _ _ _ _
 refine Sq.quiet (i := 0) rfl (Want.none rfl) rfl (ltN rfl) (QP.move rfl rfl).read ?_
 refine Sq.quiet (i := 1) rfl (Want.none rfl) rfl (ltN rfl) (QP.lss rfl rfl rfl).read ?_
 refine J.decF (by rcases hfind with ⟨_, h2⟩ | ⟨i2, s2, h1, h2, h3⟩ <;> first | omega | exact absurd hks (h2 s (List.mem_of_getElem? hsi))) ?_
 refine Sq.nil ?_
 refine hk6 _ _ ?_
 refine Run.cond_f rfl ?_
 refine Run.skip ?_
 refine hk5 _ _ ?_
 refine Run.seq fun k7 hk7 => ?_
 refine Run.region ?_
 show Sq _ _ _ [0, 1, 2, 3, 4, 5, 6] _ _ _ _
 obtain rfl : n28 = (i : Int) := by
   rcases hfind with ⟨_, h2⟩ | ⟨i2, s2, h1, h2, h3⟩
   · exact absurd hks (h2 s (List.mem_of_getElem? hsi))
   · rw [h1, idx_uniqR hs h2 hsi (h3.trans hks.symm)]
 have hlt : i < L.length := (List.getElem?_eq_some_iff.1 hsi).1
 obtain ⟨b0, o0, rfl⟩ := hh.get (by omega)
 have hhold := hh0 s (List.mem_of_getElem? hsi)
 refine Sq.quiet (i := 0) rfl (Want.none rfl) rfl (ltN rfl) (QP.move rfl rfl).read ?_
 refine Sq.quiet (i := 1) rfl (Want.none rfl) rfl (ltN rfl) (QP.nilCheck rfl rfl).read ?_
 refine Sq.quiet (i := 2) rfl (Want.none rfl) rfl (ltN rfl) (QP.fieldAddr rfl rfl f57_1).read ?_
 refine Sq.quiet (i := 3) rfl (Want.none rfl) rfl (ltN rfl) (QR.load1 (v := .slice _ L.length _) rfl rfl g46 (Ref16Table.sub_l _)) ?_
 refine Sq.quiet (i := 4) rfl (Want.none rfl) rfl (ltN rfl) (QP.move rfl rfl).read ?_
 refine Sq.quiet (i := 5) rfl (Want.none rfl) rfl (ltN rfl) (QP.indexAddr rfl rfl rfl Try.underlying46 z37 (by first | omega | (simp <;> omega)) (by first | omega | (simp <;> omega))).read ?_
 refine Sq.quiet (i := 6) rfl (Want.none rfl) rfl (ltN rfl) (QP.assign rfl rfl).read ?_
 refine Sq.nil ?_
 refine hk7 _ _ ?_
 refine Run.seq fun k8 hk8 => ?_
 refine Run.seq fun k9 hk9 => ?_
 refine Run.regionD (M := [0, 1, 3, 7, 15, 31, 63, 127, 255, 511, 1023, 2047, 4095, 511, 8703, 32767, 65535]) (q := 131071) (r := 20488) (by kernel_rfl) ?_
 refine Dw.pure (i := 0) rfl (by kernel_rfl) (Want.none rfl) rfl (ltN rfl) (QP.move rfl rfl) ?_
 refine Dw.pure (i := 1) rfl (by kernel_rfl) (Want.none rfl) rfl (ltN rfl) (QP.nilCheck rfl rfl) ?_
 refine Dw.pure (i := 2) rfl (by kernel_rfl) (Want.none rfl) rfl (ltN rfl) (QP.fieldAddr rfl rfl f37_10) ?_
 refine Dw.read (i := 3) rfl (by kernel_rfl) (Want.none rfl) rfl (ltN rfl) (QR.loadSlF1 rfl rfl g4 Route.enc_len (SlAt.own Route.enc_len (by repeat constructor)) hsi (Route.sub_selected _)) ?_
 refine J.boolT (c122) ?_
 refine Dw.pure (i := 4) rfl (by kernel_rfl) (Want.none rfl) rfl (ltN rfl) (QP.move rfl rfl) ?_
 refine Dw.pure (i := 5) rfl (by kernel_rfl) (Want.yes rfl rfl rfl rfl) rfl (ltN rfl) (QP.move rfl rfl) ?_
 refine J.boolF (c124) ?_
 refine Dw.pure (i := 6) rfl (by kernel_rfl) (Want.yes rfl rfl rfl rfl) rfl (ltN rfl) (QP.not rfl rfl) ?_
 refine Dw.pure (i := 7) rfl (by kernel_rfl) (Want.none rfl) rfl (ltN rfl) (QP.pick_t rfl rfl rfl) ?_
 refine Dw.pure (i := 8) rfl (by kernel_rfl) (Want.none rfl) rfl (ltN rfl) (QP.move rfl rfl) ?_
 refine Dw.pure (i := 9) rfl (by kernel_rfl) (Want.yes rfl rfl rfl rfl) rfl (ltN rfl) (QP.move rfl rfl) ?_
 refine Dw.pure (i := 10) rfl (by kernel_rfl) (Want.yes rfl rfl rfl rfl) rfl (ltN rfl) (QP.nilCheck rfl rfl) ?_
 refine Dw.pure (i := 11) rfl (by kernel_rfl) (Want.yes rfl rfl rfl rfl) rfl (ltN rfl) (QP.fieldAddr rfl rfl f37_3) ?_
 refine Dw.read (i := 12) rfl (by kernel_rfl) (Want.yes rfl rfl rfl rfl) rfl (ltN rfl) (QR.loadSlF rfl rfl g34 Route.enc_len (SlAt.own Route.enc_len (by repeat constructor)) hsi (Route.sub_id_ _)) ?_
 refine Dw.pure (i := 13) rfl (by kernel_rfl) (Want.yes rfl rfl rfl rfl) rfl (ltN rfl) (QP.fieldAddr rfl rfl f37_3) ?_
 refine Dw.read (i := 14) rfl (by kernel_rfl) (Want.yes rfl rfl rfl rfl) rfl (ltN rfl) (QR.load rfl rfl g34 (Route.sub_id_ _)) ?_
 refine Dw.pure (i := 15) rfl (by kernel_rfl) (Want.yes rfl rfl rfl rfl) rfl (ltN rfl) (QP.eql_agg eq34 rfl rfl rfl) ?_
 refine J.decF (c134) ?_
 refine Dw.pure (i := 16) rfl (by kernel_rfl) (Want.none rfl) rfl (ltN rfl) (QP.pick_t rfl rfl rfl) ?_
 refine Dw.nil (by kernel_rfl) ?_
 refine hk9 _ _ ?_
 refine Run.cond_f rfl ?_
 refine Run.skip ?_
 refine hk8 _ _ ?_
 refine Run.seq fun k10 hk10 => ?_
 refine Run.region ?_
 show Sq _ _ _ [0, 1, 2, 3, 4, 5] _ _ _ _
 have hign : ¬ (s.selected = true ∧ ok = false ∧ s.id_ = x.id_) := fun h => c134 h.2.2
 refine Sq.quiet (i := 0) rfl (Want.none rfl) rfl (ltN rfl) (QP.move rfl rfl).read ?_
 refine Sq.quiet (i := 1) rfl (Want.none rfl) rfl (ltN rfl) (QP.fieldAddr rfl rfl f37_5).read ?_
 refine Sq.quiet (i := 2) rfl (Want.none rfl) rfl (ltN rfl) (QR.load1 rfl rfl g35 (Route.sub_ref _)) ?_
 refine Sq.quiet (i := 3) rfl (Want.none rfl) rfl (ltN rfl) (QP.nilCheck rfl rfl).read ?_
 refine Sq.quiet (i := 4) rfl (Want.none rfl) rfl (ltN rfl) (QP.fieldAddr rfl rfl f37_5).read ?_
 refine Sq.act (i := 5) rfl (Want.none rfl) rfl (EF.storeSlF (enc := Route.enc) rfl rfl rfl z35 (by repeat constructor) Route.enc_len (by first | omega | (simp <;> omega)) (fun y hy => by cases hy.symm.trans hsi; exact (Route.set_ref _ (x).ref)) (cell_one rfl)) ?_
 rintro _ _ rfl
 generalize he1 : ({ s with ref := x.ref } : Route) = s1
 have hq1 : (L.set i s1)[i]? = some s1 := set_get (by omega)
 have hql1 : (L.set i s1).length = L.length := List.length_set
 have hho1 : s1.hold = s.hold := by rw [← he1]
 refine Sq.nil ?_
 refine hk10 _ _ ?_
 refine Run.seq fun k11 hk11 => ?_
 refine Run.seq fun k12 hk12 => ?_
 refine Run.region ?_
 show Sq _ _ _ [0, 1, 2] _ _ _ _
 refine Sq.quiet (i := 0) rfl (Want.none rfl) rfl (ltN rfl) (QP.fieldAddr rfl rfl f37_5).read ?_
 refine Sq.quiet (i := 1) rfl (Want.none rfl) rfl (ltN rfl) (QR.load1 rfl rfl g35 (Route.sub_ref _)) ?_
 refine Sq.quiet (i := 2) rfl (Want.none rfl) rfl (ltN rfl) (QP.neq rfl rfl rfl).read ?_
 refine J.decF (c143) ?_
 refine Sq.nil ?_
 refine hk12 _ _ ?_
 refine Run.cond_f rfl ?_
 refine Run.skip ?_
 refine hk11 _ _ ?_
 refine Run.seq fun k13 hk13 => ?_
 refine Run.region ?_
 show Sq _ _ _ [0, 1, 2, 3, 4, 5, 6, 7, 8, 9] _ _ _ _
 refine Sq.quiet (i := 0) rfl (Want.none rfl) rfl (ltN rfl) (QP.move rfl rfl).read ?_
 refine Sq.quiet (i := 1) rfl (Want.none rfl) rfl (ltN rfl) (QP.move rfl rfl).read ?_
 refine Sq.quiet (i := 2) rfl (Want.none rfl) rfl (ltN rfl) (QP.move rfl rfl).read ?_
 refine Sq.quiet (i := 3) rfl (Want.none rfl) rfl (ltN rfl) (QP.nilCheck rfl rfl).read ?_
 refine Sq.quiet (i := 4) rfl (Want.none rfl) rfl (ltN rfl) (QP.fieldAddr rfl rfl f37_9).read ?_
 refine Sq.quiet (i := 5) rfl (Want.none rfl) rfl (ltN rfl) (QR.loadSlF1 rfl rfl g3 Route.enc_len (SlAt.own Route.enc_len (by repeat constructor)) hq1 (Route.sub_hold _)) ?_
 refine Sq.quiet (i := 6) rfl (Want.none rfl) rfl (ltN rfl) (QP.add64 rfl rfl rfl (by first | omega | (simp <;> omega)) (by first | omega | (simp <;> omega))).read ?_
 refine Sq.quiet (i := 7) rfl (Want.none rfl) rfl (ltN rfl) (QP.nilCheck rfl rfl).read ?_
 refine Sq.quiet (i := 8) rfl (Want.none rfl) rfl (ltN rfl) (QP.fieldAddr rfl rfl f37_8).read ?_
 refine Sq.act (i := 9) rfl (Want.none rfl) rfl (EF.storeSlF (enc := Route.enc) rfl rfl rfl z3 (by repeat constructor) Route.enc_len (by first | omega | (simp <;> omega)) (fun y hy => by cases hy.symm.trans hq1; exact (Route.set_until_ _ _)) (cell_one rfl)) ?_
 rintro _ _ rfl
 refine Sq.nil ?_
 refine hk13 _ _ ?_
 refine Run.seq fun k14 hk14 => ?_
 refine Run.region ?_
 show Sq _ _ _ [0, 1] _ _ _ _
 rw [List.set_set]
 have hto : tellOld now s x ok = (2, 0, { s1 with until_ := now + s1.hold }) := by
   unfold tellOld; rw [if_neg (show ¬ (x.hold < 1 ∨ 2147483648 < x.hold) from by omega), if_neg hign]
   rw [if_pos (by simpa using c143)]; subst he1; rfl
 have hh2 : SlH (some ⟨b0, o0, none⟩) c (L.set i { s1 with until_ := now + s1.hold }) := hh.of_len List.length_set
 refine Sq.quiet (i := 0) rfl (Want.none rfl) rfl (ltN rfl) (QP.assign rfl rfl).read ?_
 refine Sq.quiet (i := 1) rfl (Want.none rfl) rfl (ltN rfl) (QP.assign rfl rfl).read ?_
 refine Sq.nil ?_
 refine hk14 _ _ ?_
 refine Run.ret ?_
 exact J.ends (res_tmp2 rfl rfl rfl) (.cons (by repeat constructor) (.cons (by repeat constructor) Takes.nil)) ⟨_, _, _, hh2, 2, 0, rfl, .inl ⟨i, s, hsi, hks, by rw [hto], by rw [hto], by rw [hto]⟩, rt_setR i _⟩

theorem rtell_spec (F : Fr) {b : Nat} {most : Int} {a : Option Addr} {c : Nat} {L : List Route} (hh : SlH a c L) (hL : L.length ≤ 1000000) (hs : L.Pairwise fun a b => cmpRoute a b < 0) (hh0 : ∀ x ∈ L, 1 ≤ x.hold ∧ x.hold ≤ 2147483648) (now : Int) (hn0 : 0 ≤ now) (hn1 : now ≤ 2305843009213693952) (x : Route) (ok : Bool) : Spec Try.prog 39 #[.pointer (some ⟨b, 0, none⟩), .int .i64 now, .agg (Route.enc x).toArray, .bool ok] [blk b (Ref16Table.enc ⟨most, ⟨a, L.length, c⟩⟩) 57, slA 37 81 Route.enc (.slice a L.length c) L] F (fun v S => ∃ a2 c2, ∃ L2 : List Route, SlH a2 c2 L2 ∧ ∃ ta te, v = .tuple #[.int .i64 ta, .int .i64 te] ∧ RTell most L now x ok ta te L2 ∧ S = [blk b (Ref16Table.enc ⟨most, ⟨a2, L2.length, c2⟩⟩) 57, slA 37 81 Route.enc (.slice a2 L2.length c2) L2]) := by
  by_cases hb : 1 ≤ x.hold ∧ x.hold ≤ 2147483648
  · by_cases hex : ∃ s ∈ L, keyR s = keyR x
    · obtain ⟨s, hsm, hks⟩ := hex
      obtain ⟨i, hsi⟩ := List.mem_iff_getElem?.1 hsm
      by_cases hx : x.ref = 65535
      · have c143 : ¬ x.ref ≠ 65535 := fun h => h hx
        cases c122 : s.selected with
        | false => exact rtell_rea F hh hL hs hh0 now hn0 hn1 x ok hb hsi hks c122 c143
        | true => cases ok with
          | true => exact rtell_reb F hh hL hs hh0 now hn0 hn1 x true hb hsi hks c122 rfl c143
          | false =>
            by_cases c134 : s.id_ = x.id_
            · exact rtell_same F hh hL hs hh0 now hn0 hn1 x false hb hsi hks c122 rfl c134
            · exact rtell_rec F hh hL hs hh0 now hn0 hn1 x false hb hsi hks c122 rfl c134 c143
      · cases c122 : s.selected with
        | false => exact rtell_upa F hh hL hs hh0 now hn0 hn1 x ok hb hsi hks c122 hx
        | true => cases ok with
          | true => exact rtell_upb F hh hL hs hh0 now hn0 hn1 x true hb hsi hks c122 rfl hx
          | false =>
            by_cases c134 : s.id_ = x.id_
            · exact rtell_same F hh hL hs hh0 now hn0 hn1 x false hb hsi hks c122 rfl c134
            · exact rtell_upc F hh hL hs hh0 now hn0 hn1 x false hb hsi hks c122 rfl c134 hx
    · have hno : ∀ s ∈ L, keyR s ≠ keyR x := fun s hs h => hex ⟨s, hs, h⟩
      by_cases c34 : x.ref = 65535
      · exact rtell_ign1 F hh hL hs hh0 now hn0 hn1 x ok hb hno c34
      · cases ok with
        | false => exact rtell_ign2 F hh hL hs hh0 now hn0 hn1 x false hb hno c34 rfl
        | true =>
          by_cases c49 : (L.length : Int) ≥ most
          · exact rtell_full F hh hL hs hh0 now hn0 hn1 x true hb hno c34 rfl c49
          · exact rtell_ins F hh hL hs hh0 now hn0 hn1 x true hb hno c34 rfl c49
  · exact rtell_hold F hh hL hs hh0 now hn0 hn1 x ok (by omega)
end Slb
